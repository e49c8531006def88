/- A part of the proof of a law of the chapter (lemmas and walks of functions). Conditions: none but those of the statement. -/
import Derived.Deep.RegionHeld3
import Derived.Deep.QuietTactic
import Derived.BigQuiet
import Derived.Test.YtfglcfbcdhjcdaaDoorA0
import Derived.Test.YtfglcfbcdhjcdaaDoorA1
namespace Go.Proofs.YtfglcfbcdhjcdaaDoor.Q
open Go.RowKit Go.Proofs.YtfglcfbcdhjcdaaDoorW.PrintWords Go.Proofs.YtfglcfbcdhjcdaaDoorW.PrintLast Go.Proofs.YtfglcfbcdhjcdaaDoorW.PrintMore
attribute [local go_sem] max2_int min2_int max_two min_two max_three min_three max_four min_four
set_option linter.unusedVariables false
set_option linter.unusedSimpArgs false
def stringslite_HasPrefix.f (a0 : ByteArray) (a1 : ByteArray) : Option (Bool) := if (a0.size : Int) ≥ (a1.size : Int) then (if 0 ≤ (a1.size : Int) then (if (a1.size : Int) ≤ (a0.size : Int) then (some ((a0.extract 0 ((a1.size : Int) : Int).toNat).toList == a1.toList)) else (none)) else (none)) else (some false)
set_option maxHeartbeats 8000000 in
set_option maxRecDepth 100000 in
theorem stringslite_HasPrefix.calls (a0 : ByteArray) (a1 : ByteArray) (r : Bool) (w : World) (h : stringslite_HasPrefix.f a0 a1 = some r) :
  Calls Tryd.prog 81 #[.string a0, .string a1] w fun e w' => e = .returned (.bool r) ∧ Drawn0 w w' := by
 have H : (if (a0.size : Int) ≥ (a1.size : Int) then (if 0 ≤ (a1.size : Int) then (if (a1.size : Int) ≤ (a0.size : Int) then (some ((a0.extract 0 ((a1.size : Int) : Int).toNat).toList == a1.toList)) else (none)) else (none)) else (some false)) = some r := h
 clear h
 by_cases c3 : (a0.size : Int) ≥ (a1.size : Int)
 ·rw [if_pos c3] at H
  have c3b0 : decide ((a1.size : Int) ≤ (a0.size : Int)) = true := decide_eq_true c3
  have c3b1 : decide (a1.size ≤ a0.size) = true := decide_eq_true (Int.ofNat_le.mp c3)
  clear c3
  by_cases c4 : 0 ≤ (a1.size : Int)
  ·rw [if_pos c4] at H
   have c4b0 := eq_true c4
   have c4b1 : decide (0 ≤ (a1.size : Int)) = true := decide_eq_true c4
   clear c4
   by_cases c5 : (a1.size : Int) ≤ (a0.size : Int)
   ·rw [if_pos c5] at H
    have c5b0 := eq_true c5
    have c5b1 : decide ((a1.size : Int) ≤ (a0.size : Int)) = true := decide_eq_true c5
    clear c5
    obtain rfl := Option.some.inj H
    go_enter Tryd.func81, Tryd.ntmps81
    go_wp2
    go_ret
    exact ⟨by first | rfl | (simp; done) | (simp [*]; done), by repeat (first | exact Drawn0.refl _ | apply Drawn0.step)⟩
   ·rw [if_neg c5] at H
    exact absurd H (by simp)
  ·rw [if_neg c4] at H
   exact absurd H (by simp)
 ·rw [if_neg c3] at H
  have c3b0 : decide ((a1.size : Int) ≤ (a0.size : Int)) = false := decide_eq_false c3
  have c3b1 : decide (a1.size ≤ a0.size) = false := decide_eq_false (fun h => c3 (Int.ofNat_le.mpr h))
  clear c3
  obtain rfl := Option.some.inj H
  go_enter Tryd.func81, Tryd.ntmps81
  go_wp2
  go_ret
  exact ⟨by first | rfl | (simp; done) | (simp [*]; done), by repeat (first | exact Drawn0.refl _ | apply Drawn0.step)⟩
def strings_HasPrefix.f (a0 : ByteArray) (a1 : ByteArray) : Option (Bool) := (stringslite_HasPrefix.f a0 a1).bind fun t111 => (some t111)
set_option maxHeartbeats 8000000 in
set_option maxRecDepth 100000 in
theorem strings_HasPrefix.calls (a0 : ByteArray) (a1 : ByteArray) (r : Bool) (w : World) (h : strings_HasPrefix.f a0 a1 = some r) :
  Calls Tryd.prog 66 #[.string a0, .string a1] w fun e w' => e = .returned (.bool r) ∧ Drawn0 w w' := by
 have H : ((stringslite_HasPrefix.f a0 a1).bind fun t111 => (some t111)) = some r := h
 clear h
 replace H := Option.bind_eq_some_iff.mp H
 obtain ⟨t111, A30, H⟩ := H
 replace H : (some t111) = some r := H
 have A3 := Aside0.mk A30
 clear A30
 obtain rfl := Option.some.inj H
 go_enter Tryd.func66, Tryd.ntmps66
 go_wp2_with (first | ((with_reducible refine gate_callee (f := 81) rfl ?_); refine goesL_ (some 7) rfl rfl Tryd.func81 (by kernel_rfl) rfl #[.string a0, .string a1] rfl (by (try simp only [List.map_toArray, List.map_cons, List.map_nil]); first | done | rfl | (simp only [List.length_drop, List.length_take]; rfl)) ?_; (with_reducible refine (stringslite_HasPrefix.calls a0 a1 t111 _ A3.out).mono ?_); rintro e w' ⟨rfl, ⟨nd, rfl⟩⟩; refine ⟨_, rfl, ?_⟩))
 go_ret
 exact ⟨by first | rfl | (simp; done) | (simp [*]; done), by repeat (first | exact Drawn0.refl _ | apply Drawn0.step)⟩
def tariff_zone.l0 : Nat → ByteArray → ByteArray → Int → Int → List (S67) → Int → Int → Option (Int)
 | 0, _, _, _, _, _, _, _ => none
 | k + 1, x1, x2, x7, x8, x13, x14, x15 => if x15 < x14 then (if 0 ≤ x15 then (if x15 < (x13.length : Int) then (if (wrap64 ((wrap64 (100 * (((rd_T67 x13 x15).f0).size : Int))) + (((rd_T67 x13 x15).f1).size : Int))) > x8 then ((strings_HasPrefix.f x1 ((rd_T67 x13 x15).f0)).bind fun t115 => (if t115 = true then ((strings_HasPrefix.f x2 ((rd_T67 x13 x15).f1)).bind fun t116 => (if t116 = true then (tariff_zone.l0 k x1 x2 ((rd_T67 x13 x15).f2) (wrap64 ((wrap64 (100 * (((rd_T67 x13 x15).f0).size : Int))) + (((rd_T67 x13 x15).f1).size : Int))) x13 x14 (wrap64 (x15 + 1))) else (tariff_zone.l0 k x1 x2 x7 x8 x13 x14 (wrap64 (x15 + 1))))) else (tariff_zone.l0 k x1 x2 x7 x8 x13 x14 (wrap64 (x15 + 1))))) else (tariff_zone.l0 k x1 x2 x7 x8 x13 x14 (wrap64 (x15 + 1)))) else (none)) else (none)) else (some x7)
def tariff_zone.f (k : Nat) (l0_0 : List (S57)) (l0_1 : List (S67)) (a1 : ByteArray) (a2 : ByteArray) : Option (Int) := tariff_zone.l0 k a1 a2 0 (-1) l0_1 (l0_1.length : Int) 0
set_option maxHeartbeats 8000000 in
set_option maxRecDepth 100000 in
theorem tariff_zone.calls (k : Nat) (A0_0 : Option Addr) (c0_0 : Nat) (l0_0 : List (S57)) (A0_1 : Option Addr) (c0_1 : Nat) (l0_1 : List (S67)) (a1 : ByteArray) (a2 : ByteArray) (r : Int) (w : World) (hr0_0 : Kd.C k57 w A0_0 l0_0.length l0_0) (hc0_0 : l0_0.length ≤ c0_0) (hr0_1 : Kd.C k67 w A0_1 l0_1.length l0_1) (hc0_1 : l0_1.length ≤ c0_1) (h : tariff_zone.f k l0_0 l0_1 a1 a2 = some r) :
  Calls Tryd.prog 43 #[.agg #[.slice A0_0 l0_0.length c0_0, .slice A0_1 l0_1.length c0_1], .string a1, .string a2] w fun e w' => e = .returned (.int .i64 r) ∧ Below w.heap.size w w' := by
 have hu25 := Tryd.underlying25
 have hu67 := Tryd.underlying67
 have HR0_0 := Aside0.mk hr0_0
 have HC0_0 := Aside0.mk hc0_0
 clear hr0_0 hc0_0
 have HR0_1 := Aside0.mk hr0_1
 have HC0_1 := Aside0.mk hc0_1
 clear hr0_1 hc0_1
 have HB := Aside0.mk (Below.refl w.heap.size w)
 have H : (tariff_zone.l0 k a1 a2 0 (-1) l0_1 (l0_1.length : Int) 0) = some r := h
 clear h
 have H' := Aside0.mk H
 clear H
 go_enter Tryd.func43, Tryd.ntmps43
 go_wp2_with (first | ((with_reducible refine gate_dst (N := 3) rfl ?_); refine box_event ?hg (N := 3) ?hd (cs := #[.slice A0_0 l0_0.length c0_0, .slice A0_1 l0_1.length c0_1]) (t := 25) ?hr ?_; (case hd => rfl); (case hg => rfl); (case hr => first | (go_simp; done) | (go_simp; rfl)); intro gb112 hg w4 hbox hb; have n0_ := Aside0.mk (below_step (by repeat (first | (with_reducible first | exact HB.out | apply below_alloc | apply pw_below_drewN | apply below_drew1) | exact HB.out)) hb); have n1_ := Aside0.mk (hbox); have n2_ := Aside0.mk ((by rw [hg]; exact (below_size (by repeat (first | (with_reducible first | exact HB.out | apply below_alloc | apply pw_below_drewN | apply below_drew1) | exact HB.out))) : w.heap.size ≤ gb112)); have n3_ := Aside0.mk ((by rw [hg]; exact (below_size (by repeat (first | (with_reducible first | exact HB.out | apply below_alloc | apply pw_below_drewN | apply below_drew1) | exact HB.out))) : w.heap.size ≤ gb112)); clear HB; have HB := n0_; have BK112 := n1_; have GW112 := n2_; have GE112 := n3_; clear n0_ n1_ n2_ n3_; clear hb hbox hg; have hcz5_0 : w4.cell? ⟨gb112, 0, none⟩ = some (.slice A0_0 l0_0.length c0_0) := (blk_cell BK112.out 0).trans rfl; have hcz5_1 : w4.cell? ⟨gb112, 1, none⟩ = some (.slice A0_1 l0_1.length c0_1) := (blk_cell BK112.out 1).trans rfl; have hfz5_0 := blk_frozen BK112.out 0; have hfz5_1 := blk_frozen BK112.out 1))
 go_loopg [7, 8, 15] k (fun kq v7 v8 v15 w' => ∃ (x7_1 : Int) (x8_1 : Int) (x15_1 : Int), v7 = .int .i64 x7_1 ∧ v8 = .int .i64 x8_1 ∧ v15 = .int .i64 x15_1 ∧ Aside0 (tariff_zone.l0 kq a1 a2 x7_1 x8_1 l0_1 (l0_1.length : Int) x15_1 = some r) ∧ Aside0 (kq ≤ k) ∧ Aside0 (w'.heap[gb112]? = some (.cells #[(.slice A0_0 l0_0.length c0_0), (.slice A0_1 l0_1.length c0_1)] 25 (0, 0))) ∧ Aside0 (Below w.heap.size w w'))
 case atStart => exact ⟨(0), ((-1)), (0), (by first | rfl | (simp; done) | (simp [*]; done)), (by first | rfl | (simp; done) | (simp [*]; done)), (by first | rfl | (simp; done) | (simp [*]; done)), H', ⟨Nat.le_refl _⟩, ⟨by (with_reducible repeat (first | refine blk_drewN ?_ _ | refine blk_drew ?_ | refine blk_alloc ?_ _)); exact BK112.out⟩, ⟨by repeat (first | (with_reducible first | exact HB.out | apply below_alloc | apply pw_below_drewN | apply below_drew1 | refine below_set ?_ GE112.out) | exact HB.out)⟩⟩
 case round =>
  clear H'
  try clear p2
  try clear c4
  try clear hcz5_0
  try clear hcz5_1
  try clear hfz5_0
  try clear hfz5_1
  obtain ⟨x7_1, x8_1, x15_1, rfl, rfl, rfl, HA, HK1, BK112, HB⟩ := hrel
  cases gk with
  | zero => exact absurd HA.out (by simp [tariff_zone.l0])
  | succ k1 =>
   have H := HA.out
   clear HA
   simp only [tariff_zone.l0] at H
   by_cases c6 : x15_1 < (l0_1.length : Int)
   ·rw [if_pos c6] at H
    have c6b0 : decide (x15_1 < (l0_1.length : Int)) = true := decide_eq_true c6
    clear c6
    by_cases c7 : 0 ≤ x15_1
    ·rw [if_pos c7] at H
     have c7b0 : decide (0 ≤ x15_1) = true := decide_eq_true c7
     clear c7
     by_cases c8 : x15_1 < (l0_1.length : Int)
     ·rw [if_pos c8] at H
      have c8b0 : decide (x15_1 < (l0_1.length : Int)) = true := decide_eq_true c8
      clear c8
      by_cases c9 : (wrap64 ((wrap64 (100 * (((rd_T67 l0_1 x15_1).f0).size : Int))) + (((rd_T67 l0_1 x15_1).f1).size : Int))) > x8_1
      ·rw [if_pos c9] at H
       have c9b0 : decide (x8_1 < (wrap64 ((wrap64 (100 * (((rd_T67 l0_1 x15_1).f0).size : Int))) + (((rd_T67 l0_1 x15_1).f1).size : Int)))) = true := decide_eq_true c9
       clear c9
       replace H := Option.bind_eq_some_iff.mp H
       obtain ⟨t115, A100, H⟩ := H
       replace H : (if t115 = true then ((strings_HasPrefix.f a2 ((rd_T67 l0_1 x15_1).f1)).bind fun t116 => (if t116 = true then (tariff_zone.l0 k1 a1 a2 ((rd_T67 l0_1 x15_1).f2) (wrap64 ((wrap64 (100 * (((rd_T67 l0_1 x15_1).f0).size : Int))) + (((rd_T67 l0_1 x15_1).f1).size : Int))) l0_1 (l0_1.length : Int) (wrap64 (x15_1 + 1))) else (tariff_zone.l0 k1 a1 a2 x7_1 x8_1 l0_1 (l0_1.length : Int) (wrap64 (x15_1 + 1))))) else (tariff_zone.l0 k1 a1 a2 x7_1 x8_1 l0_1 (l0_1.length : Int) (wrap64 (x15_1 + 1)))) = some r := H
       have A10 := Aside0.mk A100
       clear A100
       by_cases c11 : t115 = true
       ·subst c11
        have H1 : ((strings_HasPrefix.f a2 ((rd_T67 l0_1 x15_1).f1)).bind fun t116 => (if t116 = true then (tariff_zone.l0 k1 a1 a2 ((rd_T67 l0_1 x15_1).f2) (wrap64 ((wrap64 (100 * (((rd_T67 l0_1 x15_1).f0).size : Int))) + (((rd_T67 l0_1 x15_1).f1).size : Int))) l0_1 (l0_1.length : Int) (wrap64 (x15_1 + 1))) else (tariff_zone.l0 k1 a1 a2 x7_1 x8_1 l0_1 (l0_1.length : Int) (wrap64 (x15_1 + 1))))) = some r := by rw [if_pos rfl] at H; exact H
        clear H
        have H := H1
        clear H1
        replace H := Option.bind_eq_some_iff.mp H
        obtain ⟨t116, A120, H⟩ := H
        replace H : (if t116 = true then (tariff_zone.l0 k1 a1 a2 ((rd_T67 l0_1 x15_1).f2) (wrap64 ((wrap64 (100 * (((rd_T67 l0_1 x15_1).f0).size : Int))) + (((rd_T67 l0_1 x15_1).f1).size : Int))) l0_1 (l0_1.length : Int) (wrap64 (x15_1 + 1))) else (tariff_zone.l0 k1 a1 a2 x7_1 x8_1 l0_1 (l0_1.length : Int) (wrap64 (x15_1 + 1)))) = some r := H
        have A12 := Aside0.mk A120
        clear A120
        by_cases c13 : t116 = true
        ·subst c13
         have H1 : (tariff_zone.l0 k1 a1 a2 ((rd_T67 l0_1 x15_1).f2) (wrap64 ((wrap64 (100 * (((rd_T67 l0_1 x15_1).f0).size : Int))) + (((rd_T67 l0_1 x15_1).f1).size : Int))) l0_1 (l0_1.length : Int) (wrap64 (x15_1 + 1))) = some r := by rw [if_pos rfl] at H; exact H
         clear H
         have H := H1
         clear H1
         have H' := Aside0.mk H
         clear H
         have p113 : 0 ≤ (x15_1 : Int) := of_decide_eq_true (by first | (with_reducible assumption) | assumption)
         have q113 : x15_1 < (l0_1.length : Int) := of_decide_eq_true (by first | (with_reducible assumption) | assumption)
         obtain ⟨ad113, e113, hx113_0, hx113_1, hx113_2⟩ := at_T67 HR0_1.out x15_1 p113 q113
         cases e113
         replace hx113_0 := (HB.out.cell (World.block_lt_of_cell? w _ hx113_0)).trans hx113_0
         replace hx113_1 := (HB.out.cell (World.block_lt_of_cell? w _ hx113_1)).trans hx113_1
         replace hx113_2 := (HB.out.cell (World.block_lt_of_cell? w _ hx113_2)).trans hx113_2
         replace p113 := eq_true p113
         replace q113 := eq_true q113
         go_wp2_with (first | ((with_reducible refine gate_dst (N := 10) rfl ?_); refine box_event ?hg (N := 10) ?hd (cs := #[.string (⟨#[]⟩ : ByteArray), .string (⟨#[]⟩ : ByteArray), .int .i64 0]) (t := 67) ?hr ?_; (case hd => rfl); (case hg => rfl); (case hr => first | (go_simp; done) | (go_simp; rfl)); intro gb114 hg w14 hbox hb; have n0_ := Aside0.mk (blk_below (g := gb112) (o := .cells #[.slice A0_0 l0_0.length c0_0, .slice (some ad113) l0_1.length c0_1] 25 (0, 0)) (by (with_reducible repeat (first | refine blk_drewN ?_ _ | refine blk_drew ?_ | refine blk_alloc ?_ _)); exact BK112.out) hb); have n1_ := Aside0.mk (below_step (by repeat (first | (with_reducible first | exact HB.out | apply below_alloc | apply pw_below_drewN | apply below_drew1 | refine below_set ?_ GE112.out) | exact HB.out)) hb); have n2_ := Aside0.mk (hbox); have n3_ := Aside0.mk ((by rw [hg]; exact (below_size (by repeat (first | (with_reducible first | exact HB.out | apply below_alloc | apply pw_below_drewN | apply below_drew1 | refine below_set ?_ GE112.out) | exact HB.out))) : w.heap.size ≤ gb114)); have n4_ := Aside0.mk ((by rw [hg]; exact (below_size (by repeat (first | (with_reducible first | exact HB.out | apply below_alloc | apply pw_below_drewN | apply below_drew1 | refine below_set ?_ GE112.out) | exact HB.out))) : w.heap.size ≤ gb114)); have n5_ := Aside0.mk ((by rw [hg]; exact Nat.ne_of_lt (blk_lt (g := gb112) (o := .cells #[.slice A0_0 l0_0.length c0_0, .slice (some ad113) l0_1.length c0_1] 25 (0, 0)) (by (with_reducible repeat (first | refine blk_drewN ?_ _ | refine blk_drew ?_ | refine blk_alloc ?_ _)); exact BK112.out)) : gb112 ≠ gb114)); have n6_ := Aside0.mk ((by rw [hg]; exact Nat.ne_of_gt (blk_lt (g := gb112) (o := .cells #[.slice A0_0 l0_0.length c0_0, .slice (some ad113) l0_1.length c0_1] 25 (0, 0)) (by (with_reducible repeat (first | refine blk_drewN ?_ _ | refine blk_drew ?_ | refine blk_alloc ?_ _)); exact BK112.out)) : gb114 ≠ gb112)); clear BK112; clear HB; have BK112 := n0_; have HB := n1_; have BK114 := n2_; have GW114 := n3_; have GE114 := n4_; have NB112_114 := n5_; have NB114_112 := n6_; clear n0_ n1_ n2_ n3_ n4_ n5_ n6_; clear hb hbox hg; have hnb15 := NB114_112.out; have hnc15 := NB112_114.out; have hcz16_0 : w14.cell? ⟨gb114, 0, none⟩ = some (.string (⟨#[]⟩ : ByteArray)) := (blk_cell BK114.out 0).trans rfl; have hcz16_1 : w14.cell? ⟨gb114, 1, none⟩ = some (.string (⟨#[]⟩ : ByteArray)) := (blk_cell BK114.out 1).trans rfl; have hcz16_2 : w14.cell? ⟨gb114, 2, none⟩ = some (.int .i64 0) := (blk_cell BK114.out 2).trans rfl; have hfz16_0 := blk_frozen BK114.out 0; have hfz16_1 := blk_frozen BK114.out 1; have hfz16_2 := blk_frozen BK114.out 2) | (go_at_call 66; (with_reducible refine (strings_HasPrefix.calls a1 ((rd_T67 l0_1 x15_1).f0) true _ A10.out).mono ?_); rintro e w' ⟨rfl, ⟨nd, rfl⟩⟩) | (go_at_call 66; (with_reducible refine (strings_HasPrefix.calls a2 ((rd_T67 l0_1 x15_1).f1) true _ A12.out).mono ?_); rintro e w' ⟨rfl, ⟨nd, rfl⟩⟩))
         go_roundg k1
         case measure => have := HK1.out; omega
         case rel => exact ⟨((rd_T67 l0_1 x15_1).f2), (wrap64 ((wrap64 (100 * (((rd_T67 l0_1 x15_1).f0).size : Int))) + (((rd_T67 l0_1 x15_1).f1).size : Int))), (wrap64 (x15_1 + 1)), (by first | rfl | (simp; done) | (simp [*]; done)), (by first | rfl | (simp; done) | (simp [*]; done)), (by first | rfl | (simp; done) | (simp [*]; done)), H', ⟨by have := HK1.out; omega⟩, ⟨by (with_reducible repeat (first | refine blk_drewN ?_ _ | refine blk_drew ?_ | refine blk_alloc ?_ _)); refine blk_far ?_ NB112_114.out _; (with_reducible repeat (first | refine blk_drewN ?_ _ | refine blk_drew ?_ | refine blk_alloc ?_ _)); refine blk_far ?_ NB112_114.out _; (with_reducible repeat (first | refine blk_drewN ?_ _ | refine blk_drew ?_ | refine blk_alloc ?_ _)); refine blk_far ?_ NB112_114.out _; (with_reducible repeat (first | refine blk_drewN ?_ _ | refine blk_drew ?_ | refine blk_alloc ?_ _)); exact BK112.out⟩, ⟨by repeat (first | (with_reducible first | exact HB.out | apply below_alloc | apply pw_below_drewN | apply below_drew1 | refine below_set ?_ GE112.out | refine below_set ?_ GE114.out) | exact HB.out)⟩⟩
        ·replace c13 := Bool.eq_false_iff.mpr c13
         subst c13
         have H1 : (tariff_zone.l0 k1 a1 a2 x7_1 x8_1 l0_1 (l0_1.length : Int) (wrap64 (x15_1 + 1))) = some r := by rw [if_neg (show ¬ (false = true) by decide)] at H; exact H
         clear H
         have H := H1
         clear H1
         have H' := Aside0.mk H
         clear H
         have p113 : 0 ≤ (x15_1 : Int) := of_decide_eq_true (by first | (with_reducible assumption) | assumption)
         have q113 : x15_1 < (l0_1.length : Int) := of_decide_eq_true (by first | (with_reducible assumption) | assumption)
         obtain ⟨ad113, e113, hx113_0, hx113_1, hx113_2⟩ := at_T67 HR0_1.out x15_1 p113 q113
         cases e113
         replace hx113_0 := (HB.out.cell (World.block_lt_of_cell? w _ hx113_0)).trans hx113_0
         replace hx113_1 := (HB.out.cell (World.block_lt_of_cell? w _ hx113_1)).trans hx113_1
         replace hx113_2 := (HB.out.cell (World.block_lt_of_cell? w _ hx113_2)).trans hx113_2
         replace p113 := eq_true p113
         replace q113 := eq_true q113
         go_wp2_with (first | ((with_reducible refine gate_dst (N := 10) rfl ?_); refine box_event ?hg (N := 10) ?hd (cs := #[.string (⟨#[]⟩ : ByteArray), .string (⟨#[]⟩ : ByteArray), .int .i64 0]) (t := 67) ?hr ?_; (case hd => rfl); (case hg => rfl); (case hr => first | (go_simp; done) | (go_simp; rfl)); intro gb114 hg w17 hbox hb; have n0_ := Aside0.mk (blk_below (g := gb112) (o := .cells #[.slice A0_0 l0_0.length c0_0, .slice (some ad113) l0_1.length c0_1] 25 (0, 0)) (by (with_reducible repeat (first | refine blk_drewN ?_ _ | refine blk_drew ?_ | refine blk_alloc ?_ _)); exact BK112.out) hb); have n1_ := Aside0.mk (below_step (by repeat (first | (with_reducible first | exact HB.out | apply below_alloc | apply pw_below_drewN | apply below_drew1 | refine below_set ?_ GE112.out) | exact HB.out)) hb); have n2_ := Aside0.mk (hbox); have n3_ := Aside0.mk ((by rw [hg]; exact (below_size (by repeat (first | (with_reducible first | exact HB.out | apply below_alloc | apply pw_below_drewN | apply below_drew1 | refine below_set ?_ GE112.out) | exact HB.out))) : w.heap.size ≤ gb114)); have n4_ := Aside0.mk ((by rw [hg]; exact (below_size (by repeat (first | (with_reducible first | exact HB.out | apply below_alloc | apply pw_below_drewN | apply below_drew1 | refine below_set ?_ GE112.out) | exact HB.out))) : w.heap.size ≤ gb114)); have n5_ := Aside0.mk ((by rw [hg]; exact Nat.ne_of_lt (blk_lt (g := gb112) (o := .cells #[.slice A0_0 l0_0.length c0_0, .slice (some ad113) l0_1.length c0_1] 25 (0, 0)) (by (with_reducible repeat (first | refine blk_drewN ?_ _ | refine blk_drew ?_ | refine blk_alloc ?_ _)); exact BK112.out)) : gb112 ≠ gb114)); have n6_ := Aside0.mk ((by rw [hg]; exact Nat.ne_of_gt (blk_lt (g := gb112) (o := .cells #[.slice A0_0 l0_0.length c0_0, .slice (some ad113) l0_1.length c0_1] 25 (0, 0)) (by (with_reducible repeat (first | refine blk_drewN ?_ _ | refine blk_drew ?_ | refine blk_alloc ?_ _)); exact BK112.out)) : gb114 ≠ gb112)); clear BK112; clear HB; have BK112 := n0_; have HB := n1_; have BK114 := n2_; have GW114 := n3_; have GE114 := n4_; have NB112_114 := n5_; have NB114_112 := n6_; clear n0_ n1_ n2_ n3_ n4_ n5_ n6_; clear hb hbox hg; have hnb18 := NB114_112.out; have hnc18 := NB112_114.out; have hcz19_0 : w17.cell? ⟨gb114, 0, none⟩ = some (.string (⟨#[]⟩ : ByteArray)) := (blk_cell BK114.out 0).trans rfl; have hcz19_1 : w17.cell? ⟨gb114, 1, none⟩ = some (.string (⟨#[]⟩ : ByteArray)) := (blk_cell BK114.out 1).trans rfl; have hcz19_2 : w17.cell? ⟨gb114, 2, none⟩ = some (.int .i64 0) := (blk_cell BK114.out 2).trans rfl; have hfz19_0 := blk_frozen BK114.out 0; have hfz19_1 := blk_frozen BK114.out 1; have hfz19_2 := blk_frozen BK114.out 2) | (go_at_call 66; (with_reducible refine (strings_HasPrefix.calls a1 ((rd_T67 l0_1 x15_1).f0) true _ A10.out).mono ?_); rintro e w' ⟨rfl, ⟨nd, rfl⟩⟩) | (go_at_call 66; (with_reducible refine (strings_HasPrefix.calls a2 ((rd_T67 l0_1 x15_1).f1) false _ A12.out).mono ?_); rintro e w' ⟨rfl, ⟨nd, rfl⟩⟩))
         go_roundg k1
         case measure => have := HK1.out; omega
         case rel => exact ⟨(x7_1), (x8_1), (wrap64 (x15_1 + 1)), (by first | rfl | (simp; done) | (simp [*]; done)), (by first | rfl | (simp; done) | (simp [*]; done)), (by first | rfl | (simp; done) | (simp [*]; done)), H', ⟨by have := HK1.out; omega⟩, ⟨by (with_reducible repeat (first | refine blk_drewN ?_ _ | refine blk_drew ?_ | refine blk_alloc ?_ _)); refine blk_far ?_ NB112_114.out _; (with_reducible repeat (first | refine blk_drewN ?_ _ | refine blk_drew ?_ | refine blk_alloc ?_ _)); refine blk_far ?_ NB112_114.out _; (with_reducible repeat (first | refine blk_drewN ?_ _ | refine blk_drew ?_ | refine blk_alloc ?_ _)); refine blk_far ?_ NB112_114.out _; (with_reducible repeat (first | refine blk_drewN ?_ _ | refine blk_drew ?_ | refine blk_alloc ?_ _)); exact BK112.out⟩, ⟨by repeat (first | (with_reducible first | exact HB.out | apply below_alloc | apply pw_below_drewN | apply below_drew1 | refine below_set ?_ GE112.out | refine below_set ?_ GE114.out) | exact HB.out)⟩⟩
       ·replace c11 := Bool.eq_false_iff.mpr c11
        subst c11
        have H1 : (tariff_zone.l0 k1 a1 a2 x7_1 x8_1 l0_1 (l0_1.length : Int) (wrap64 (x15_1 + 1))) = some r := by rw [if_neg (show ¬ (false = true) by decide)] at H; exact H
        clear H
        have H := H1
        clear H1
        have H' := Aside0.mk H
        clear H
        have p113 : 0 ≤ (x15_1 : Int) := of_decide_eq_true (by first | (with_reducible assumption) | assumption)
        have q113 : x15_1 < (l0_1.length : Int) := of_decide_eq_true (by first | (with_reducible assumption) | assumption)
        obtain ⟨ad113, e113, hx113_0, hx113_1, hx113_2⟩ := at_T67 HR0_1.out x15_1 p113 q113
        cases e113
        replace hx113_0 := (HB.out.cell (World.block_lt_of_cell? w _ hx113_0)).trans hx113_0
        replace hx113_1 := (HB.out.cell (World.block_lt_of_cell? w _ hx113_1)).trans hx113_1
        replace hx113_2 := (HB.out.cell (World.block_lt_of_cell? w _ hx113_2)).trans hx113_2
        replace p113 := eq_true p113
        replace q113 := eq_true q113
        go_wp2_with (first | ((with_reducible refine gate_dst (N := 10) rfl ?_); refine box_event ?hg (N := 10) ?hd (cs := #[.string (⟨#[]⟩ : ByteArray), .string (⟨#[]⟩ : ByteArray), .int .i64 0]) (t := 67) ?hr ?_; (case hd => rfl); (case hg => rfl); (case hr => first | (go_simp; done) | (go_simp; rfl)); intro gb114 hg w20 hbox hb; have n0_ := Aside0.mk (blk_below (g := gb112) (o := .cells #[.slice A0_0 l0_0.length c0_0, .slice (some ad113) l0_1.length c0_1] 25 (0, 0)) (by (with_reducible repeat (first | refine blk_drewN ?_ _ | refine blk_drew ?_ | refine blk_alloc ?_ _)); exact BK112.out) hb); have n1_ := Aside0.mk (below_step (by repeat (first | (with_reducible first | exact HB.out | apply below_alloc | apply pw_below_drewN | apply below_drew1 | refine below_set ?_ GE112.out) | exact HB.out)) hb); have n2_ := Aside0.mk (hbox); have n3_ := Aside0.mk ((by rw [hg]; exact (below_size (by repeat (first | (with_reducible first | exact HB.out | apply below_alloc | apply pw_below_drewN | apply below_drew1 | refine below_set ?_ GE112.out) | exact HB.out))) : w.heap.size ≤ gb114)); have n4_ := Aside0.mk ((by rw [hg]; exact (below_size (by repeat (first | (with_reducible first | exact HB.out | apply below_alloc | apply pw_below_drewN | apply below_drew1 | refine below_set ?_ GE112.out) | exact HB.out))) : w.heap.size ≤ gb114)); have n5_ := Aside0.mk ((by rw [hg]; exact Nat.ne_of_lt (blk_lt (g := gb112) (o := .cells #[.slice A0_0 l0_0.length c0_0, .slice (some ad113) l0_1.length c0_1] 25 (0, 0)) (by (with_reducible repeat (first | refine blk_drewN ?_ _ | refine blk_drew ?_ | refine blk_alloc ?_ _)); exact BK112.out)) : gb112 ≠ gb114)); have n6_ := Aside0.mk ((by rw [hg]; exact Nat.ne_of_gt (blk_lt (g := gb112) (o := .cells #[.slice A0_0 l0_0.length c0_0, .slice (some ad113) l0_1.length c0_1] 25 (0, 0)) (by (with_reducible repeat (first | refine blk_drewN ?_ _ | refine blk_drew ?_ | refine blk_alloc ?_ _)); exact BK112.out)) : gb114 ≠ gb112)); clear BK112; clear HB; have BK112 := n0_; have HB := n1_; have BK114 := n2_; have GW114 := n3_; have GE114 := n4_; have NB112_114 := n5_; have NB114_112 := n6_; clear n0_ n1_ n2_ n3_ n4_ n5_ n6_; clear hb hbox hg; have hnb21 := NB114_112.out; have hnc21 := NB112_114.out; have hcz22_0 : w20.cell? ⟨gb114, 0, none⟩ = some (.string (⟨#[]⟩ : ByteArray)) := (blk_cell BK114.out 0).trans rfl; have hcz22_1 : w20.cell? ⟨gb114, 1, none⟩ = some (.string (⟨#[]⟩ : ByteArray)) := (blk_cell BK114.out 1).trans rfl; have hcz22_2 : w20.cell? ⟨gb114, 2, none⟩ = some (.int .i64 0) := (blk_cell BK114.out 2).trans rfl; have hfz22_0 := blk_frozen BK114.out 0; have hfz22_1 := blk_frozen BK114.out 1; have hfz22_2 := blk_frozen BK114.out 2) | (go_at_call 66; (with_reducible refine (strings_HasPrefix.calls a1 ((rd_T67 l0_1 x15_1).f0) false _ A10.out).mono ?_); rintro e w' ⟨rfl, ⟨nd, rfl⟩⟩))
        go_roundg k1
        case measure => have := HK1.out; omega
        case rel => exact ⟨(x7_1), (x8_1), (wrap64 (x15_1 + 1)), (by first | rfl | (simp; done) | (simp [*]; done)), (by first | rfl | (simp; done) | (simp [*]; done)), (by first | rfl | (simp; done) | (simp [*]; done)), H', ⟨by have := HK1.out; omega⟩, ⟨by (with_reducible repeat (first | refine blk_drewN ?_ _ | refine blk_drew ?_ | refine blk_alloc ?_ _)); refine blk_far ?_ NB112_114.out _; (with_reducible repeat (first | refine blk_drewN ?_ _ | refine blk_drew ?_ | refine blk_alloc ?_ _)); refine blk_far ?_ NB112_114.out _; (with_reducible repeat (first | refine blk_drewN ?_ _ | refine blk_drew ?_ | refine blk_alloc ?_ _)); refine blk_far ?_ NB112_114.out _; (with_reducible repeat (first | refine blk_drewN ?_ _ | refine blk_drew ?_ | refine blk_alloc ?_ _)); exact BK112.out⟩, ⟨by repeat (first | (with_reducible first | exact HB.out | apply below_alloc | apply pw_below_drewN | apply below_drew1 | refine below_set ?_ GE112.out | refine below_set ?_ GE114.out) | exact HB.out)⟩⟩
      ·rw [if_neg c9] at H
       have c9b0 : decide (x8_1 < (wrap64 ((wrap64 (100 * (((rd_T67 l0_1 x15_1).f0).size : Int))) + (((rd_T67 l0_1 x15_1).f1).size : Int)))) = false := decide_eq_false c9
       clear c9
       have H' := Aside0.mk H
       clear H
       have p113 : 0 ≤ (x15_1 : Int) := of_decide_eq_true (by first | (with_reducible assumption) | assumption)
       have q113 : x15_1 < (l0_1.length : Int) := of_decide_eq_true (by first | (with_reducible assumption) | assumption)
       obtain ⟨ad113, e113, hx113_0, hx113_1, hx113_2⟩ := at_T67 HR0_1.out x15_1 p113 q113
       cases e113
       replace hx113_0 := (HB.out.cell (World.block_lt_of_cell? w _ hx113_0)).trans hx113_0
       replace hx113_1 := (HB.out.cell (World.block_lt_of_cell? w _ hx113_1)).trans hx113_1
       replace hx113_2 := (HB.out.cell (World.block_lt_of_cell? w _ hx113_2)).trans hx113_2
       replace p113 := eq_true p113
       replace q113 := eq_true q113
       go_wp2_with (first | ((with_reducible refine gate_dst (N := 10) rfl ?_); refine box_event ?hg (N := 10) ?hd (cs := #[.string (⟨#[]⟩ : ByteArray), .string (⟨#[]⟩ : ByteArray), .int .i64 0]) (t := 67) ?hr ?_; (case hd => rfl); (case hg => rfl); (case hr => first | (go_simp; done) | (go_simp; rfl)); intro gb114 hg w23 hbox hb; have n0_ := Aside0.mk (blk_below (g := gb112) (o := .cells #[.slice A0_0 l0_0.length c0_0, .slice (some ad113) l0_1.length c0_1] 25 (0, 0)) (by (with_reducible repeat (first | refine blk_drewN ?_ _ | refine blk_drew ?_ | refine blk_alloc ?_ _)); exact BK112.out) hb); have n1_ := Aside0.mk (below_step (by repeat (first | (with_reducible first | exact HB.out | apply below_alloc | apply pw_below_drewN | apply below_drew1 | refine below_set ?_ GE112.out) | exact HB.out)) hb); have n2_ := Aside0.mk (hbox); have n3_ := Aside0.mk ((by rw [hg]; exact (below_size (by repeat (first | (with_reducible first | exact HB.out | apply below_alloc | apply pw_below_drewN | apply below_drew1 | refine below_set ?_ GE112.out) | exact HB.out))) : w.heap.size ≤ gb114)); have n4_ := Aside0.mk ((by rw [hg]; exact (below_size (by repeat (first | (with_reducible first | exact HB.out | apply below_alloc | apply pw_below_drewN | apply below_drew1 | refine below_set ?_ GE112.out) | exact HB.out))) : w.heap.size ≤ gb114)); have n5_ := Aside0.mk ((by rw [hg]; exact Nat.ne_of_lt (blk_lt (g := gb112) (o := .cells #[.slice A0_0 l0_0.length c0_0, .slice (some ad113) l0_1.length c0_1] 25 (0, 0)) (by (with_reducible repeat (first | refine blk_drewN ?_ _ | refine blk_drew ?_ | refine blk_alloc ?_ _)); exact BK112.out)) : gb112 ≠ gb114)); have n6_ := Aside0.mk ((by rw [hg]; exact Nat.ne_of_gt (blk_lt (g := gb112) (o := .cells #[.slice A0_0 l0_0.length c0_0, .slice (some ad113) l0_1.length c0_1] 25 (0, 0)) (by (with_reducible repeat (first | refine blk_drewN ?_ _ | refine blk_drew ?_ | refine blk_alloc ?_ _)); exact BK112.out)) : gb114 ≠ gb112)); clear BK112; clear HB; have BK112 := n0_; have HB := n1_; have BK114 := n2_; have GW114 := n3_; have GE114 := n4_; have NB112_114 := n5_; have NB114_112 := n6_; clear n0_ n1_ n2_ n3_ n4_ n5_ n6_; clear hb hbox hg; have hnb24 := NB114_112.out; have hnc24 := NB112_114.out; have hcz25_0 : w23.cell? ⟨gb114, 0, none⟩ = some (.string (⟨#[]⟩ : ByteArray)) := (blk_cell BK114.out 0).trans rfl; have hcz25_1 : w23.cell? ⟨gb114, 1, none⟩ = some (.string (⟨#[]⟩ : ByteArray)) := (blk_cell BK114.out 1).trans rfl; have hcz25_2 : w23.cell? ⟨gb114, 2, none⟩ = some (.int .i64 0) := (blk_cell BK114.out 2).trans rfl; have hfz25_0 := blk_frozen BK114.out 0; have hfz25_1 := blk_frozen BK114.out 1; have hfz25_2 := blk_frozen BK114.out 2))
       go_roundg k1
       case measure => have := HK1.out; omega
       case rel => exact ⟨(x7_1), (x8_1), (wrap64 (x15_1 + 1)), (by first | rfl | (simp; done) | (simp [*]; done)), (by first | rfl | (simp; done) | (simp [*]; done)), (by first | rfl | (simp; done) | (simp [*]; done)), H', ⟨by have := HK1.out; omega⟩, ⟨by (with_reducible repeat (first | refine blk_drewN ?_ _ | refine blk_drew ?_ | refine blk_alloc ?_ _)); refine blk_far ?_ NB112_114.out _; (with_reducible repeat (first | refine blk_drewN ?_ _ | refine blk_drew ?_ | refine blk_alloc ?_ _)); refine blk_far ?_ NB112_114.out _; (with_reducible repeat (first | refine blk_drewN ?_ _ | refine blk_drew ?_ | refine blk_alloc ?_ _)); refine blk_far ?_ NB112_114.out _; (with_reducible repeat (first | refine blk_drewN ?_ _ | refine blk_drew ?_ | refine blk_alloc ?_ _)); exact BK112.out⟩, ⟨by repeat (first | (with_reducible first | exact HB.out | apply below_alloc | apply pw_below_drewN | apply below_drew1 | refine below_set ?_ GE112.out | refine below_set ?_ GE114.out) | exact HB.out)⟩⟩
     ·rw [if_neg c8] at H
      exact absurd H (by simp)
    ·rw [if_neg c7] at H
     exact absurd H (by simp)
   ·rw [if_neg c6] at H
    have c6b0 : decide (x15_1 < (l0_1.length : Int)) = false := decide_eq_false c6
    clear c6
    obtain rfl := Option.some.inj H
    go_wp2
    go_ret
    exact ⟨by first | rfl | (simp [errW_none, errW_some] <;> rfl) | (simp [*, errW_none, errW_some] <;> rfl), by repeat (first | (with_reducible first | exact HB.out | apply below_alloc | apply pw_below_drewN | apply below_drew1 | refine below_set ?_ GE112.out) | exact HB.out)⟩
end Go.Proofs.YtfglcfbcdhjcdaaDoor.Q

namespace Go.Proofs.YtfglcfbcdhjcdaaDoor.Q
open Go.RowKit Go.Proofs.YtfglcfbcdhjcdaaDoorW.PrintWords Go.Proofs.YtfglcfbcdhjcdaaDoorW.PrintLast Go.Proofs.YtfglcfbcdhjcdaaDoorW.PrintMore
set_option linter.unusedVariables false
set_option linter.unusedSimpArgs false
def stepAt (g : Int) (l : List S61) : Int := match l.findIdx? (fun s => decide (g ≤ s.f0)) with | none => -1 | some i => (i : Int)
def tariff_price.f (a0_0 : Int) (l0_1 : List (S61)) (a0_2 : Int) (a1 : Int) (a2 : Int) : Option (Int × Int) :=
 if stepAt a2 l0_1 < 0 then some (0, 3) else if 1 ≤ a1 ∧ a1 ≤ ((rd_T61 l0_1 (stepAt a2 l0_1)).f1.length : Int) then some (rd (rd_T61 l0_1 (stepAt a2 l0_1)).f1 (a1 - 1), 0) else none
theorem priceFn.calls (g x : Int) (A : Option Addr) (n c B : Nat) (w : World) (hB : w.cell? ⟨B, 0, none⟩ = some (.int .i64 g)) :
  Calls Tryd.prog 65 #[.agg #[.int .i64 x, .slice A n c], .pointer (some ⟨B, 0, none⟩)] w fun e w' => e = .returned (.bool (decide (g ≤ x))) ∧ Below w.heap.size w w' := by
 have hlt : B < w.heap.size := World.block_lt_of_cell? w ⟨B, 0, none⟩ hB
 go_enter Tryd.func65, Tryd.ntmps65
 go_wp2
 go_ret
 exact ⟨rfl, (Below.refl _ _).alloc (Nat.le_refl _) _⟩
theorem stepAt_hit (g : Int) (l : List S61) (k : Nat) (hk : k < l.length) (h : g ≤ (rd_T61 l k).f0) (hb : ∀ j : Nat, j < k → (rd_T61 l j).f0 < g) : stepAt g l = (k : Int) := by
 unfold stepAt
 have : l.findIdx? (fun s => decide (g ≤ s.f0)) = some k := by
  rw [List.findIdx?_eq_some_iff_getElem]
  refine ⟨hk, ?_, fun j hj => ?_⟩
  ·simpa [rd_T61, List.getD_eq_getElem?_getD, List.getElem?_eq_getElem hk] using h
  ·have := Int.not_le.2 (hb j hj)
   simp [rd_T61, List.getD_eq_getElem?_getD, List.getElem?_eq_getElem (show j < l.length by omega)] at this
   simp; omega
 rw [this]
theorem stepAt_none (g : Int) (l : List S61) (hb : ∀ j : Nat, j < l.length → (rd_T61 l j).f0 < g) : stepAt g l = -1 := by
 unfold stepAt
 have : l.findIdx? (fun s => decide (g ≤ s.f0)) = none := by
  rw [List.findIdx?_eq_none_iff]
  intro x hx
  obtain ⟨j, hj, rfl⟩ := List.getElem_of_mem hx
  have := Int.not_le.2 (hb j hj)
  simp [rd_T61, List.getD_eq_getElem?_getD, List.getElem?_eq_getElem hj] at this
  simp; omega
 rw [this]
theorem stepAt_range (g : Int) (l : List S61) : -1 ≤ stepAt g l ∧ stepAt g l < l.length := by
 unfold stepAt
 split
 ·omega
 ·rename_i i h
  obtain ⟨h, _⟩ := List.findIdx?_eq_some_iff_getElem.1 h
  omega
set_option maxHeartbeats 1000000 in
theorem priceIdx.calls (g : Int) (A : Option Addr) (c : Nat) (l : List S61) (B : Nat) (w : World) (hr : Kd.C k61 w A l.length l) (hB : w.cell? ⟨B, 0, none⟩ = some (.int .i64 g)) :
  Calls Tryd.prog 64 #[.slice A l.length c, .func (.func 65) #[] #[.pointer (some ⟨B, 0, none⟩)]] w fun e w' => e = .returned (.int .i64 (stepAt g l)) ∧ Below w.heap.size w w' := by
 have hlt : B < w.heap.size := World.block_lt_of_cell? w ⟨B, 0, none⟩ hB
 have hle : l.length ≤ 9223372036854775807 := hr.2.1
 have HR := Aside0.mk hr
 have HBc := Aside0.mk hB
 clear hr hB
 generalize hn : l.length = n at *
 have HN := Aside0.mk hn
 clear hn
 go_enter Tryd.func64, Tryd.ntmps64
 go_wp2
 go_loopg [5, 8] n (fun gg _ s8 wr => ∃ kk : Nat, kk ≤ n ∧ n - kk ≤ gg ∧ s8 = .int .i64 kk ∧ Aside0 (Below w.heap.size w wr) ∧ Aside0 (∀ j : Nat, j < kk → (rd_T61 l j).f0 < g))
 case atStart => exact ⟨0, Nat.zero_le _, by omega, rfl, ⟨Below.refl _ w⟩, ⟨fun j hj => absurd hj (Nat.not_lt_zero _)⟩⟩
 case round =>
  obtain ⟨kk, hkk, hg, rfl, BW, HA⟩ := hrel
  by_cases hlt2 : kk < n
  ·obtain ⟨ad, A1, c1, rfl, hc0, hc1, -, -⟩ := at_T61 (Kd.C_below HR.out BW.out) (kk : Int) (by omega) (by omega)
   simp only [Int.toNat_natCast] at hc0 hc1
   have hcall := priceFn.calls g (rd_T61 l kk).f0 A1 (rd_T61 l kk).f1.length c1 B wr ((BW.out.cell (p := ⟨B, 0, none⟩) hlt).trans HBc.out)
   by_cases hq : g ≤ (rd_T61 l kk).f0
   ·rw [decide_eq_true hq] at hcall
    have HQ := Aside0.mk hq
    have HC := Aside0.mk hcall
    clear hq hcall
    go_wp2_with (go_at_call 65; refine HC.out.mono ?_; rintro e w' ⟨rfl, hb'⟩)
    go_ret
    refine ⟨?_, BW.out.trans (hb'.mono BW.out.size)⟩
    rw [stepAt_hit g l kk (by have := HN.out; omega) HQ.out (fun j hj => HA.out j hj)]
    rfl
   ·rw [decide_eq_false hq] at hcall
    have HQ := Aside0.mk hq
    have HC := Aside0.mk hcall
    clear hq hcall
    go_wp2_with (go_at_call 65; refine HC.out.mono ?_; rintro e w' ⟨rfl, hb'⟩)
    go_roundg (n - (kk + 1))
    case measure => omega
    case rel => exact ⟨kk + 1, by omega, Nat.le_refl _, by go_num, ⟨BW.out.trans (hb'.mono BW.out.size)⟩, ⟨fun j hj => by
     rcases Nat.lt_or_ge j kk with h | h
     ·exact HA.out j h
     ·obtain rfl : j = kk := by omega
      have := HQ.out; omega⟩⟩
  ·obtain rfl : n = kk := by omega
   go_wp2
   go_ret
   refine ⟨?_, BW.out⟩
   rw [stepAt_none g l (fun j hj => HA.out j (by have := HN.out; omega))]
   rfl
set_option maxHeartbeats 1000000 in
theorem tariff_price.calls (a0_0 : Int) (A0_1 : Option Addr) (c0_1 : Nat) (l0_1 : List (S61)) (a0_2 : Int) (a1 : Int) (a2 : Int) (r1 : Int) (r2 : Int) (w : World) (hr0_1 : Kd.C k61 w A0_1 l0_1.length l0_1) (hc0_1 : l0_1.length ≤ c0_1) (h : tariff_price.f a0_0 l0_1 a0_2 a1 a2 = some (r1, r2)) :
  Calls Tryd.prog 42 #[.agg #[.int .u8 a0_0, .slice A0_1 l0_1.length c0_1, .int .i64 a0_2], .int .i64 a1, .int .i64 a2] w fun e w' => e = .returned (.tuple #[.int .i64 r1, .int .i64 r2]) ∧ Below w.heap.size w w' := by
 unfold tariff_price.f at h
 have hrg := stepAt_range a2 l0_1
 have hcon : ∀ W : World, Below w.heap.size w W → W.cell? ⟨w.heap.size + 1, 0, none⟩ = some (.int .i64 a2) → _ := fun W hb hB => priceIdx.calls a2 A0_1 c0_1 l0_1 (w.heap.size + 1) W (Kd.C_below hr0_1 hb) hB
 have HCON := Aside0.mk hcon
 clear hcon
 have hle : l0_1.length ≤ 9223372036854775807 := hr0_1.2.1
 have HR := Aside0.mk hr0_1
 clear hr0_1
 split at h
 ·rename_i hneg
  have hst : stepAt a2 l0_1 = -1 := by omega
  simp only [Option.some.injEq, Prod.mk.injEq] at h
  obtain ⟨rfl, rfl⟩ := h
  rw [hst] at HCON
  clear hneg hst hrg
  go_enter Tryd.func42, Tryd.ntmps42
  go_wp2_with (go_at_call 64; refine (HCON.out _ (((Below.refl _ _).alloc (Nat.le_refl _) _).alloc (by simp) _) (by simp)).mono ?_; rintro e w' ⟨rfl, hb'⟩)
  go_ret2
  exact ⟨rfl, below_then (((Below.refl _ _).alloc (Nat.le_refl _) _).alloc (by simp) _) (by simp; omega) hb'⟩
 ·rename_i hneg
  split at h
  ·rename_i hz
   obtain ⟨hz1, hz2⟩ := hz
   simp only [Option.some.injEq, Prod.mk.injEq] at h
   obtain ⟨rfl, rfl⟩ := h
   obtain ⟨i, hi⟩ : ∃ i : Nat, stepAt a2 l0_1 = (i : Int) := ⟨(stepAt a2 l0_1).toNat, by omega⟩
   rw [hi] at HCON hz2 hrg ⊢
   clear hneg
   have hil : i < l0_1.length := by omega
   have hcw := fun W (hb : Below w.heap.size w W) => at_T61 (Kd.C_below HR.out hb) (i : Int) (by omega) (by omega)
   have HC := Aside0.mk hcw
   clear hcw hi
   generalize rd_T61 l0_1 (i : Int) = s at *
   have hneg : decide ((i : Int) < 0) = false := by simp
   have hb2 : a1 ≤ 9223372036854775807 := by
    have := (HC.out w (Below.refl _ _)).choose_spec.choose_spec.choose_spec.2.2.2.2.2.1
    omega
   have hb3 : a1 - 1 < (s.f1.length : Int) := by omega
   clear hz2 hrg
   go_enter Tryd.func42, Tryd.ntmps42
   go_wp2_with (go_at_call 64; refine (HCON.out _ (((Below.refl _ _).alloc (Nat.le_refl _) _).alloc (by simp) _) (by simp)).mono ?_; rintro e w' ⟨rfl, hb'⟩; have hbw := Aside0.mk (below_then (((Below.refl w.heap.size w).alloc (Nat.le_refl _) _).alloc (by simp) _) (by simp; omega) hb'); obtain ⟨hcl, hfr⟩ := bcell hb'; obtain ⟨ad, A1, c1, rfl, hc0, hc1, hl1, hr1⟩ := HC.out w' hbw.out; simp only [Int.toNat_natCast] at hc0 hc1; obtain ⟨ad2, rfl, hc2⟩ := Kd.at_int hr1 (a1 - 1) (by omega) (by omega); rw [show (a1 - 1).toNat = a1.toNat - 1 from by omega] at hc2; clear hb' HCON HC)
   go_ret2
   exact ⟨rfl, hbw.out⟩
  ·cases h
end Go.Proofs.YtfglcfbcdhjcdaaDoor.Q

namespace Go.Proofs.YtfglcfbcdhjcdaaDoor.Q
open Go.RowKit Go.Proofs.YtfglcfbcdhjcdaaDoorW.PrintWords Go.Proofs.YtfglcfbcdhjcdaaDoorW.PrintLast Go.Proofs.YtfglcfbcdhjcdaaDoorW.PrintMore
attribute [local go_sem] max2_int min2_int max_two min_two max_three min_three max_four min_four
set_option linter.unusedVariables false
set_option linter.unusedSimpArgs false
def tariff_Zone.f (k : Nat) (l0_0 : List (S57)) (l0_1 : List (S67)) (a1 : ByteArray) (a2 : ByteArray) : Option (Int × Int) := (tariff_Right.f l0_0 l0_1).bind fun t119 => (if t119 = true then ((scheme_Code.f a1).bind fun t120 => (if t120 = true then ((scheme_Code.f a2).bind fun t121 => (if t121 = true then ((tariff_zone.f k l0_0 l0_1 a1 a2).bind fun t122 => (some (t122, 0))) else (some (0, 2)))) else (some (0, 2)))) else (some (0, 2)))
set_option maxHeartbeats 8000000 in
set_option maxRecDepth 100000 in
theorem tariff_Zone.calls (k : Nat) (A0_0 : Option Addr) (c0_0 : Nat) (l0_0 : List (S57)) (A0_1 : Option Addr) (c0_1 : Nat) (l0_1 : List (S67)) (a1 : ByteArray) (a2 : ByteArray) (r1 : Int) (r2 : Int) (w : World) (hr0_0 : Kd.C k57 w A0_0 l0_0.length l0_0) (hc0_0 : l0_0.length ≤ c0_0) (hr0_1 : Kd.C k67 w A0_1 l0_1.length l0_1) (hc0_1 : l0_1.length ≤ c0_1) (h : tariff_Zone.f k l0_0 l0_1 a1 a2 = some (r1, r2)) :
  Calls Tryd.prog 21 #[.agg #[.slice A0_0 l0_0.length c0_0, .slice A0_1 l0_1.length c0_1], .string a1, .string a2] w fun e w' => e = .returned (.tuple #[.int .i64 r1, .int .i64 r2]) ∧ Below w.heap.size w w' := by
 have hu25 := Tryd.underlying25
 have HR0_0 := Aside0.mk hr0_0
 have HC0_0 := Aside0.mk hc0_0
 clear hr0_0 hc0_0
 have HR0_1 := Aside0.mk hr0_1
 have HC0_1 := Aside0.mk hc0_1
 clear hr0_1 hc0_1
 have HB := Aside0.mk (Below.refl w.heap.size w)
 have H : ((tariff_Right.f l0_0 l0_1).bind fun t119 => (if t119 = true then ((scheme_Code.f a1).bind fun t120 => (if t120 = true then ((scheme_Code.f a2).bind fun t121 => (if t121 = true then ((tariff_zone.f k l0_0 l0_1 a1 a2).bind fun t122 => (some (t122, 0))) else (some (0, 2)))) else (some (0, 2)))) else (some (0, 2)))) = some (r1, r2) := h
 clear h
 replace H := Option.bind_eq_some_iff.mp H
 obtain ⟨t119, A40, H⟩ := H
 replace H : (if t119 = true then ((scheme_Code.f a1).bind fun t120 => (if t120 = true then ((scheme_Code.f a2).bind fun t121 => (if t121 = true then ((tariff_zone.f k l0_0 l0_1 a1 a2).bind fun t122 => (some (t122, 0))) else (some (0, 2)))) else (some (0, 2)))) else (some (0, 2))) = some (r1, r2) := H
 have A4 := Aside0.mk A40
 clear A40
 by_cases c5 : t119 = true
 ·subst c5
  have H1 : ((scheme_Code.f a1).bind fun t120 => (if t120 = true then ((scheme_Code.f a2).bind fun t121 => (if t121 = true then ((tariff_zone.f k l0_0 l0_1 a1 a2).bind fun t122 => (some (t122, 0))) else (some (0, 2)))) else (some (0, 2)))) = some (r1, r2) := by rw [if_pos rfl] at H; exact H
  clear H
  have H := H1
  clear H1
  replace H := Option.bind_eq_some_iff.mp H
  obtain ⟨t120, A60, H⟩ := H
  replace H : (if t120 = true then ((scheme_Code.f a2).bind fun t121 => (if t121 = true then ((tariff_zone.f k l0_0 l0_1 a1 a2).bind fun t122 => (some (t122, 0))) else (some (0, 2)))) else (some (0, 2))) = some (r1, r2) := H
  have A6 := Aside0.mk A60
  clear A60
  by_cases c7 : t120 = true
  ·subst c7
   have H1 : ((scheme_Code.f a2).bind fun t121 => (if t121 = true then ((tariff_zone.f k l0_0 l0_1 a1 a2).bind fun t122 => (some (t122, 0))) else (some (0, 2)))) = some (r1, r2) := by rw [if_pos rfl] at H; exact H
   clear H
   have H := H1
   clear H1
   replace H := Option.bind_eq_some_iff.mp H
   obtain ⟨t121, A80, H⟩ := H
   replace H : (if t121 = true then ((tariff_zone.f k l0_0 l0_1 a1 a2).bind fun t122 => (some (t122, 0))) else (some (0, 2))) = some (r1, r2) := H
   have A8 := Aside0.mk A80
   clear A80
   by_cases c9 : t121 = true
   ·subst c9
    have H1 : ((tariff_zone.f k l0_0 l0_1 a1 a2).bind fun t122 => (some (t122, 0))) = some (r1, r2) := by rw [if_pos rfl] at H; exact H
    clear H
    have H := H1
    clear H1
    replace H := Option.bind_eq_some_iff.mp H
    obtain ⟨t122, A100, H⟩ := H
    replace H : (some (t122, 0)) = some (r1, r2) := H
    have A10 := Aside0.mk A100
    clear A100
    simp only [Option.some.injEq, Prod.mk.injEq] at H
    obtain ⟨rfl, rfl⟩ := H
    go_enter Tryd.func21, Tryd.ntmps21
    go_wp2_with (first | ((with_reducible refine gate_dst (N := 3) rfl ?_); refine box_event ?hg (N := 3) ?hd (cs := #[.slice A0_0 l0_0.length c0_0, .slice A0_1 l0_1.length c0_1]) (t := 25) ?hr ?_; (case hd => rfl); (case hg => rfl); (case hr => first | (go_simp; done) | (go_simp; rfl)); intro gb118 hg w11 hbox hb; have n0_ := Aside0.mk (below_step (by repeat (first | (with_reducible first | exact HB.out | apply below_alloc | apply pw_below_drewN | apply below_drew1) | exact HB.out)) hb); have n1_ := Aside0.mk (hbox); have n2_ := Aside0.mk ((by rw [hg]; exact (below_size (by repeat (first | (with_reducible first | exact HB.out | apply below_alloc | apply pw_below_drewN | apply below_drew1) | exact HB.out))) : w.heap.size ≤ gb118)); have n3_ := Aside0.mk ((by rw [hg]; exact (below_size (by repeat (first | (with_reducible first | exact HB.out | apply below_alloc | apply pw_below_drewN | apply below_drew1) | exact HB.out))) : w.heap.size ≤ gb118)); clear HB; have HB := n0_; have BK118 := n1_; have GW118 := n2_; have GE118 := n3_; clear n0_ n1_ n2_ n3_; clear hb hbox hg; have hcz12_0 : w11.cell? ⟨gb118, 0, none⟩ = some (.slice A0_0 l0_0.length c0_0) := (blk_cell BK118.out 0).trans rfl; have hcz12_1 : w11.cell? ⟨gb118, 1, none⟩ = some (.slice A0_1 l0_1.length c0_1) := (blk_cell BK118.out 1).trans rfl; have hfz12_0 := blk_frozen BK118.out 0; have hfz12_1 := blk_frozen BK118.out 1) | ((with_reducible refine gate_callee (f := 18) rfl ?_); refine goesL_ (some 9) rfl rfl Tryd.func18 (by kernel_rfl) rfl #[.agg #[.slice A0_0 l0_0.length c0_0, .slice A0_1 l0_1.length c0_1]] rfl (by (try simp only [List.map_toArray, List.map_cons, List.map_nil]); first | done | rfl | (simp only [List.length_drop, List.length_take]; rfl)) ?_; (with_reducible refine (tariff_Right.calls _ _ l0_0 _ _ l0_1 true _ ?side1 ?side2 ?side3 ?side4 A4.out).mono ?_); (case side1 => repeat (first | exact (Kd.C_below HR0_0.out HB.out) | (with_reducible refine Kd.C_alloc ?_ _) | (with_reducible refine Kd.C_drewN ?_ _) | (with_reducible refine Kd.C_drew ?_))); (case side2 => exact HC0_0.out); (case side3 => repeat (first | exact (Kd.C_below HR0_1.out HB.out) | (with_reducible refine Kd.C_alloc ?_ _) | (with_reducible refine Kd.C_drewN ?_ _) | (with_reducible refine Kd.C_drew ?_))); (case side4 => exact HC0_1.out); rintro e w13 ⟨rfl, hb⟩; refine ⟨_, rfl, ?_⟩; have n0_ := Aside0.mk (blk_below (g := gb118) (o := .cells #[.slice A0_0 l0_0.length c0_0, .slice A0_1 l0_1.length c0_1] 25 (0, 0)) (by (with_reducible repeat (first | refine blk_drewN ?_ _ | refine blk_drew ?_ | refine blk_alloc ?_ _)); exact BK118.out) hb); have n1_ := Aside0.mk (below_step (by repeat (first | (with_reducible first | exact HB.out | apply below_alloc | apply pw_below_drewN | apply below_drew1 | refine below_set ?_ GE118.out) | exact HB.out)) hb); clear BK118; clear HB; have BK118 := n0_; have HB := n1_; clear n0_ n1_; (try clear hb); (try clear hb2); (try clear hk); (try clear hi)) | (go_at_call 46; (with_reducible refine (scheme_Code.calls a1 true _ A6.out).mono ?_); rintro e w14 ⟨rfl, hb⟩; have n0_ := Aside0.mk (blk_below (g := gb118) (o := .cells #[.slice A0_0 l0_0.length c0_0, .slice A0_1 l0_1.length c0_1] 25 (0, 0)) (by (with_reducible repeat (first | refine blk_drewN ?_ _ | refine blk_drew ?_ | refine blk_alloc ?_ _)); exact BK118.out) hb); have n1_ := Aside0.mk (below_step (by repeat (first | (with_reducible first | exact HB.out | apply below_alloc | apply pw_below_drewN | apply below_drew1 | refine below_set ?_ GE118.out) | exact HB.out)) hb); clear BK118; clear HB; have BK118 := n0_; have HB := n1_; clear n0_ n1_; (try clear hb); (try clear hb2); (try clear hk); (try clear hi)) | (go_at_call 46; (with_reducible refine (scheme_Code.calls a2 true _ A8.out).mono ?_); rintro e w15 ⟨rfl, hb⟩; have n0_ := Aside0.mk (blk_below (g := gb118) (o := .cells #[.slice A0_0 l0_0.length c0_0, .slice A0_1 l0_1.length c0_1] 25 (0, 0)) (by (with_reducible repeat (first | refine blk_drewN ?_ _ | refine blk_drew ?_ | refine blk_alloc ?_ _)); exact BK118.out) hb); have n1_ := Aside0.mk (below_step (by repeat (first | (with_reducible first | exact HB.out | apply below_alloc | apply pw_below_drewN | apply below_drew1 | refine below_set ?_ GE118.out) | exact HB.out)) hb); clear BK118; clear HB; have BK118 := n0_; have HB := n1_; clear n0_ n1_; (try clear hb); (try clear hb2); (try clear hk); (try clear hi); have hcz16_0 : w15.cell? ⟨gb118, 0, none⟩ = some (.slice A0_0 l0_0.length c0_0) := (blk_cell BK118.out 0).trans rfl; have hcz16_1 : w15.cell? ⟨gb118, 1, none⟩ = some (.slice A0_1 l0_1.length c0_1) := (blk_cell BK118.out 1).trans rfl; have hfz16_0 := blk_frozen BK118.out 0; have hfz16_1 := blk_frozen BK118.out 1) | ((with_reducible refine gate_callee (f := 43) rfl ?_); refine goesL_ (some 24) rfl rfl Tryd.func43 (by kernel_rfl) rfl #[.agg #[.slice A0_0 l0_0.length c0_0, .slice A0_1 l0_1.length c0_1], .string a1, .string a2] rfl (by (try simp only [List.map_toArray, List.map_cons, List.map_nil]); first | done | rfl | (simp only [List.length_drop, List.length_take]; rfl)) ?_; (with_reducible refine (tariff_zone.calls k _ _ l0_0 _ _ l0_1 a1 a2 t122 _ ?side1 ?side2 ?side3 ?side4 A10.out).mono ?_); (case side1 => repeat (first | exact (Kd.C_below HR0_0.out HB.out) | (with_reducible refine Kd.C_alloc ?_ _) | (with_reducible refine Kd.C_drewN ?_ _) | (with_reducible refine Kd.C_drew ?_))); (case side2 => exact HC0_0.out); (case side3 => repeat (first | exact (Kd.C_below HR0_1.out HB.out) | (with_reducible refine Kd.C_alloc ?_ _) | (with_reducible refine Kd.C_drewN ?_ _) | (with_reducible refine Kd.C_drew ?_))); (case side4 => exact HC0_1.out); rintro e w17 ⟨rfl, hb⟩; refine ⟨_, rfl, ?_⟩; have n0_ := Aside0.mk (blk_below (g := gb118) (o := .cells #[.slice A0_0 l0_0.length c0_0, .slice A0_1 l0_1.length c0_1] 25 (0, 0)) (by (with_reducible repeat (first | refine blk_drewN ?_ _ | refine blk_drew ?_ | refine blk_alloc ?_ _)); exact BK118.out) hb); have n1_ := Aside0.mk (below_step (by repeat (first | (with_reducible first | exact HB.out | apply below_alloc | apply pw_below_drewN | apply below_drew1 | refine below_set ?_ GE118.out) | exact HB.out)) hb); clear BK118; clear HB; have BK118 := n0_; have HB := n1_; clear n0_ n1_; (try clear hb); (try clear hb2); (try clear hk); (try clear hi)))
    go_ret2
    exact ⟨by first | rfl | (simp [errW_none, errW_some] <;> rfl) | (simp [*, errW_none, errW_some] <;> rfl), by repeat (first | (with_reducible first | exact HB.out | apply below_alloc | apply pw_below_drewN | apply below_drew1 | refine below_set ?_ GE118.out) | exact HB.out)⟩
   ·replace c9 := Bool.eq_false_iff.mpr c9
    subst c9
    have H1 : (some (0, 2)) = some (r1, r2) := by rw [if_neg (show ¬ (false = true) by decide)] at H; exact H
    clear H
    have H := H1
    clear H1
    simp only [Option.some.injEq, Prod.mk.injEq] at H
    obtain ⟨rfl, rfl⟩ := H
    go_enter Tryd.func21, Tryd.ntmps21
    go_wp2_with (first | ((with_reducible refine gate_dst (N := 3) rfl ?_); refine box_event ?hg (N := 3) ?hd (cs := #[.slice A0_0 l0_0.length c0_0, .slice A0_1 l0_1.length c0_1]) (t := 25) ?hr ?_; (case hd => rfl); (case hg => rfl); (case hr => first | (go_simp; done) | (go_simp; rfl)); intro gb118 hg w18 hbox hb; have n0_ := Aside0.mk (below_step (by repeat (first | (with_reducible first | exact HB.out | apply below_alloc | apply pw_below_drewN | apply below_drew1) | exact HB.out)) hb); have n1_ := Aside0.mk (hbox); have n2_ := Aside0.mk ((by rw [hg]; exact (below_size (by repeat (first | (with_reducible first | exact HB.out | apply below_alloc | apply pw_below_drewN | apply below_drew1) | exact HB.out))) : w.heap.size ≤ gb118)); have n3_ := Aside0.mk ((by rw [hg]; exact (below_size (by repeat (first | (with_reducible first | exact HB.out | apply below_alloc | apply pw_below_drewN | apply below_drew1) | exact HB.out))) : w.heap.size ≤ gb118)); clear HB; have HB := n0_; have BK118 := n1_; have GW118 := n2_; have GE118 := n3_; clear n0_ n1_ n2_ n3_; clear hb hbox hg; have hcz19_0 : w18.cell? ⟨gb118, 0, none⟩ = some (.slice A0_0 l0_0.length c0_0) := (blk_cell BK118.out 0).trans rfl; have hcz19_1 : w18.cell? ⟨gb118, 1, none⟩ = some (.slice A0_1 l0_1.length c0_1) := (blk_cell BK118.out 1).trans rfl; have hfz19_0 := blk_frozen BK118.out 0; have hfz19_1 := blk_frozen BK118.out 1) | ((with_reducible refine gate_callee (f := 18) rfl ?_); refine goesL_ (some 9) rfl rfl Tryd.func18 (by kernel_rfl) rfl #[.agg #[.slice A0_0 l0_0.length c0_0, .slice A0_1 l0_1.length c0_1]] rfl (by (try simp only [List.map_toArray, List.map_cons, List.map_nil]); first | done | rfl | (simp only [List.length_drop, List.length_take]; rfl)) ?_; (with_reducible refine (tariff_Right.calls _ _ l0_0 _ _ l0_1 true _ ?side1 ?side2 ?side3 ?side4 A4.out).mono ?_); (case side1 => repeat (first | exact (Kd.C_below HR0_0.out HB.out) | (with_reducible refine Kd.C_alloc ?_ _) | (with_reducible refine Kd.C_drewN ?_ _) | (with_reducible refine Kd.C_drew ?_))); (case side2 => exact HC0_0.out); (case side3 => repeat (first | exact (Kd.C_below HR0_1.out HB.out) | (with_reducible refine Kd.C_alloc ?_ _) | (with_reducible refine Kd.C_drewN ?_ _) | (with_reducible refine Kd.C_drew ?_))); (case side4 => exact HC0_1.out); rintro e w20 ⟨rfl, hb⟩; refine ⟨_, rfl, ?_⟩; have n0_ := Aside0.mk (blk_below (g := gb118) (o := .cells #[.slice A0_0 l0_0.length c0_0, .slice A0_1 l0_1.length c0_1] 25 (0, 0)) (by (with_reducible repeat (first | refine blk_drewN ?_ _ | refine blk_drew ?_ | refine blk_alloc ?_ _)); exact BK118.out) hb); have n1_ := Aside0.mk (below_step (by repeat (first | (with_reducible first | exact HB.out | apply below_alloc | apply pw_below_drewN | apply below_drew1 | refine below_set ?_ GE118.out) | exact HB.out)) hb); clear BK118; clear HB; have BK118 := n0_; have HB := n1_; clear n0_ n1_; (try clear hb); (try clear hb2); (try clear hk); (try clear hi)) | (go_at_call 46; (with_reducible refine (scheme_Code.calls a1 true _ A6.out).mono ?_); rintro e w21 ⟨rfl, hb⟩; have n0_ := Aside0.mk (blk_below (g := gb118) (o := .cells #[.slice A0_0 l0_0.length c0_0, .slice A0_1 l0_1.length c0_1] 25 (0, 0)) (by (with_reducible repeat (first | refine blk_drewN ?_ _ | refine blk_drew ?_ | refine blk_alloc ?_ _)); exact BK118.out) hb); have n1_ := Aside0.mk (below_step (by repeat (first | (with_reducible first | exact HB.out | apply below_alloc | apply pw_below_drewN | apply below_drew1 | refine below_set ?_ GE118.out) | exact HB.out)) hb); clear BK118; clear HB; have BK118 := n0_; have HB := n1_; clear n0_ n1_; (try clear hb); (try clear hb2); (try clear hk); (try clear hi)) | (go_at_call 46; (with_reducible refine (scheme_Code.calls a2 false _ A8.out).mono ?_); rintro e w22 ⟨rfl, hb⟩; have n0_ := Aside0.mk (blk_below (g := gb118) (o := .cells #[.slice A0_0 l0_0.length c0_0, .slice A0_1 l0_1.length c0_1] 25 (0, 0)) (by (with_reducible repeat (first | refine blk_drewN ?_ _ | refine blk_drew ?_ | refine blk_alloc ?_ _)); exact BK118.out) hb); have n1_ := Aside0.mk (below_step (by repeat (first | (with_reducible first | exact HB.out | apply below_alloc | apply pw_below_drewN | apply below_drew1 | refine below_set ?_ GE118.out) | exact HB.out)) hb); clear BK118; clear HB; have BK118 := n0_; have HB := n1_; clear n0_ n1_; (try clear hb); (try clear hb2); (try clear hk); (try clear hi)))
    go_ret2
    exact ⟨by first | rfl | (simp [errW_none, errW_some] <;> rfl) | (simp [*, errW_none, errW_some] <;> rfl), by repeat (first | (with_reducible first | exact HB.out | apply below_alloc | apply pw_below_drewN | apply below_drew1 | refine below_set ?_ GE118.out) | exact HB.out)⟩
  ·replace c7 := Bool.eq_false_iff.mpr c7
   subst c7
   have H1 : (some (0, 2)) = some (r1, r2) := by rw [if_neg (show ¬ (false = true) by decide)] at H; exact H
   clear H
   have H := H1
   clear H1
   simp only [Option.some.injEq, Prod.mk.injEq] at H
   obtain ⟨rfl, rfl⟩ := H
   go_enter Tryd.func21, Tryd.ntmps21
   go_wp2_with (first | ((with_reducible refine gate_dst (N := 3) rfl ?_); refine box_event ?hg (N := 3) ?hd (cs := #[.slice A0_0 l0_0.length c0_0, .slice A0_1 l0_1.length c0_1]) (t := 25) ?hr ?_; (case hd => rfl); (case hg => rfl); (case hr => first | (go_simp; done) | (go_simp; rfl)); intro gb118 hg w23 hbox hb; have n0_ := Aside0.mk (below_step (by repeat (first | (with_reducible first | exact HB.out | apply below_alloc | apply pw_below_drewN | apply below_drew1) | exact HB.out)) hb); have n1_ := Aside0.mk (hbox); have n2_ := Aside0.mk ((by rw [hg]; exact (below_size (by repeat (first | (with_reducible first | exact HB.out | apply below_alloc | apply pw_below_drewN | apply below_drew1) | exact HB.out))) : w.heap.size ≤ gb118)); have n3_ := Aside0.mk ((by rw [hg]; exact (below_size (by repeat (first | (with_reducible first | exact HB.out | apply below_alloc | apply pw_below_drewN | apply below_drew1) | exact HB.out))) : w.heap.size ≤ gb118)); clear HB; have HB := n0_; have BK118 := n1_; have GW118 := n2_; have GE118 := n3_; clear n0_ n1_ n2_ n3_; clear hb hbox hg; have hcz24_0 : w23.cell? ⟨gb118, 0, none⟩ = some (.slice A0_0 l0_0.length c0_0) := (blk_cell BK118.out 0).trans rfl; have hcz24_1 : w23.cell? ⟨gb118, 1, none⟩ = some (.slice A0_1 l0_1.length c0_1) := (blk_cell BK118.out 1).trans rfl; have hfz24_0 := blk_frozen BK118.out 0; have hfz24_1 := blk_frozen BK118.out 1) | ((with_reducible refine gate_callee (f := 18) rfl ?_); refine goesL_ (some 9) rfl rfl Tryd.func18 (by kernel_rfl) rfl #[.agg #[.slice A0_0 l0_0.length c0_0, .slice A0_1 l0_1.length c0_1]] rfl (by (try simp only [List.map_toArray, List.map_cons, List.map_nil]); first | done | rfl | (simp only [List.length_drop, List.length_take]; rfl)) ?_; (with_reducible refine (tariff_Right.calls _ _ l0_0 _ _ l0_1 true _ ?side1 ?side2 ?side3 ?side4 A4.out).mono ?_); (case side1 => repeat (first | exact (Kd.C_below HR0_0.out HB.out) | (with_reducible refine Kd.C_alloc ?_ _) | (with_reducible refine Kd.C_drewN ?_ _) | (with_reducible refine Kd.C_drew ?_))); (case side2 => exact HC0_0.out); (case side3 => repeat (first | exact (Kd.C_below HR0_1.out HB.out) | (with_reducible refine Kd.C_alloc ?_ _) | (with_reducible refine Kd.C_drewN ?_ _) | (with_reducible refine Kd.C_drew ?_))); (case side4 => exact HC0_1.out); rintro e w25 ⟨rfl, hb⟩; refine ⟨_, rfl, ?_⟩; have n0_ := Aside0.mk (blk_below (g := gb118) (o := .cells #[.slice A0_0 l0_0.length c0_0, .slice A0_1 l0_1.length c0_1] 25 (0, 0)) (by (with_reducible repeat (first | refine blk_drewN ?_ _ | refine blk_drew ?_ | refine blk_alloc ?_ _)); exact BK118.out) hb); have n1_ := Aside0.mk (below_step (by repeat (first | (with_reducible first | exact HB.out | apply below_alloc | apply pw_below_drewN | apply below_drew1 | refine below_set ?_ GE118.out) | exact HB.out)) hb); clear BK118; clear HB; have BK118 := n0_; have HB := n1_; clear n0_ n1_; (try clear hb); (try clear hb2); (try clear hk); (try clear hi)) | (go_at_call 46; (with_reducible refine (scheme_Code.calls a1 false _ A6.out).mono ?_); rintro e w26 ⟨rfl, hb⟩; have n0_ := Aside0.mk (blk_below (g := gb118) (o := .cells #[.slice A0_0 l0_0.length c0_0, .slice A0_1 l0_1.length c0_1] 25 (0, 0)) (by (with_reducible repeat (first | refine blk_drewN ?_ _ | refine blk_drew ?_ | refine blk_alloc ?_ _)); exact BK118.out) hb); have n1_ := Aside0.mk (below_step (by repeat (first | (with_reducible first | exact HB.out | apply below_alloc | apply pw_below_drewN | apply below_drew1 | refine below_set ?_ GE118.out) | exact HB.out)) hb); clear BK118; clear HB; have BK118 := n0_; have HB := n1_; clear n0_ n1_; (try clear hb); (try clear hb2); (try clear hk); (try clear hi)))
   go_ret2
   exact ⟨by first | rfl | (simp [errW_none, errW_some] <;> rfl) | (simp [*, errW_none, errW_some] <;> rfl), by repeat (first | (with_reducible first | exact HB.out | apply below_alloc | apply pw_below_drewN | apply below_drew1 | refine below_set ?_ GE118.out) | exact HB.out)⟩
 ·replace c5 := Bool.eq_false_iff.mpr c5
  subst c5
  have H1 : (some (0, 2)) = some (r1, r2) := by rw [if_neg (show ¬ (false = true) by decide)] at H; exact H
  clear H
  have H := H1
  clear H1
  simp only [Option.some.injEq, Prod.mk.injEq] at H
  obtain ⟨rfl, rfl⟩ := H
  go_enter Tryd.func21, Tryd.ntmps21
  go_wp2_with (first | ((with_reducible refine gate_dst (N := 3) rfl ?_); refine box_event ?hg (N := 3) ?hd (cs := #[.slice A0_0 l0_0.length c0_0, .slice A0_1 l0_1.length c0_1]) (t := 25) ?hr ?_; (case hd => rfl); (case hg => rfl); (case hr => first | (go_simp; done) | (go_simp; rfl)); intro gb118 hg w27 hbox hb; have n0_ := Aside0.mk (below_step (by repeat (first | (with_reducible first | exact HB.out | apply below_alloc | apply pw_below_drewN | apply below_drew1) | exact HB.out)) hb); have n1_ := Aside0.mk (hbox); have n2_ := Aside0.mk ((by rw [hg]; exact (below_size (by repeat (first | (with_reducible first | exact HB.out | apply below_alloc | apply pw_below_drewN | apply below_drew1) | exact HB.out))) : w.heap.size ≤ gb118)); have n3_ := Aside0.mk ((by rw [hg]; exact (below_size (by repeat (first | (with_reducible first | exact HB.out | apply below_alloc | apply pw_below_drewN | apply below_drew1) | exact HB.out))) : w.heap.size ≤ gb118)); clear HB; have HB := n0_; have BK118 := n1_; have GW118 := n2_; have GE118 := n3_; clear n0_ n1_ n2_ n3_; clear hb hbox hg; have hcz28_0 : w27.cell? ⟨gb118, 0, none⟩ = some (.slice A0_0 l0_0.length c0_0) := (blk_cell BK118.out 0).trans rfl; have hcz28_1 : w27.cell? ⟨gb118, 1, none⟩ = some (.slice A0_1 l0_1.length c0_1) := (blk_cell BK118.out 1).trans rfl; have hfz28_0 := blk_frozen BK118.out 0; have hfz28_1 := blk_frozen BK118.out 1) | ((with_reducible refine gate_callee (f := 18) rfl ?_); refine goesL_ (some 9) rfl rfl Tryd.func18 (by kernel_rfl) rfl #[.agg #[.slice A0_0 l0_0.length c0_0, .slice A0_1 l0_1.length c0_1]] rfl (by (try simp only [List.map_toArray, List.map_cons, List.map_nil]); first | done | rfl | (simp only [List.length_drop, List.length_take]; rfl)) ?_; (with_reducible refine (tariff_Right.calls _ _ l0_0 _ _ l0_1 false _ ?side1 ?side2 ?side3 ?side4 A4.out).mono ?_); (case side1 => repeat (first | exact (Kd.C_below HR0_0.out HB.out) | (with_reducible refine Kd.C_alloc ?_ _) | (with_reducible refine Kd.C_drewN ?_ _) | (with_reducible refine Kd.C_drew ?_))); (case side2 => exact HC0_0.out); (case side3 => repeat (first | exact (Kd.C_below HR0_1.out HB.out) | (with_reducible refine Kd.C_alloc ?_ _) | (with_reducible refine Kd.C_drewN ?_ _) | (with_reducible refine Kd.C_drew ?_))); (case side4 => exact HC0_1.out); rintro e w29 ⟨rfl, hb⟩; refine ⟨_, rfl, ?_⟩; have n0_ := Aside0.mk (blk_below (g := gb118) (o := .cells #[.slice A0_0 l0_0.length c0_0, .slice A0_1 l0_1.length c0_1] 25 (0, 0)) (by (with_reducible repeat (first | refine blk_drewN ?_ _ | refine blk_drew ?_ | refine blk_alloc ?_ _)); exact BK118.out) hb); have n1_ := Aside0.mk (below_step (by repeat (first | (with_reducible first | exact HB.out | apply below_alloc | apply pw_below_drewN | apply below_drew1 | refine below_set ?_ GE118.out) | exact HB.out)) hb); clear BK118; clear HB; have BK118 := n0_; have HB := n1_; clear n0_ n1_; (try clear hb); (try clear hb2); (try clear hk); (try clear hi)))
  go_ret2
  exact ⟨by first | rfl | (simp [errW_none, errW_some] <;> rfl) | (simp [*, errW_none, errW_some] <;> rfl), by repeat (first | (with_reducible first | exact HB.out | apply below_alloc | apply pw_below_drewN | apply below_drew1 | refine below_set ?_ GE118.out) | exact HB.out)⟩
def tariff_rate.l0 : Nat → Int → List (S57) → Int → Int → Option (Int × (List (S61)) × Int)
 | 0, _, _, _, _ => none
 | k + 1, x1, x8, x9, x10 => if x10 < x9 then (if 0 ≤ x10 then (if x10 < (x8.length : Int) then (if ((rd_T57 x8 x10).f0) = x1 then (some ((rd_T57 x8 x10).f0, (rd_T57 x8 x10).f1, (rd_T57 x8 x10).f2)) else (tariff_rate.l0 k x1 x8 x9 (wrap64 (x10 + 1)))) else (none)) else (none)) else (some (0, ([] : List (S61)), 0))
def tariff_rate.f (k : Nat) (l0_0 : List (S57)) (l0_1 : List (S67)) (a1 : Int) : Option (Int × (List (S61)) × Int) := tariff_rate.l0 k a1 l0_0 (l0_0.length : Int) 0
set_option maxHeartbeats 8000000 in
set_option maxRecDepth 100000 in
theorem tariff_rate.calls (k : Nat) (P0_0_ : Nat → Prop) (A0_0 : Option Addr) (c0_0 : Nat) (l0_0 : List (S57)) (A0_1 : Option Addr) (c0_1 : Nat) (l0_1 : List (S67)) (a1 : Int) (r1 : Int) (r2 : List (S61)) (r3 : Int) (w : World) (hs0_0 : Kd.V k57 57 w w.heap.size (fun k_ => P0_0_ k_) (.slice A0_0 l0_0.length c0_0) l0_0) (hr0_1 : Kd.C k67 w A0_1 l0_1.length l0_1) (hc0_1 : l0_1.length ≤ c0_1) (h : tariff_rate.f k l0_0 l0_1 a1 = some (r1, r2, r3)) :
  Calls Tryd.prog 41 #[.agg #[.slice A0_0 l0_0.length c0_0, .slice A0_1 l0_1.length c0_1], .int .u8 a1] w fun e w' => ∃ v1_ : Value, e = .returned (.agg #[.int .u8 r1, v1_, .int .i64 r3]) ∧ Kd.V k61 61 w' w.heap.size (fun k_ => (P0_0_ k_ ∨ w.heap.size ≤ k_)) v1_ r2 ∧ Below w.heap.size w w' := by
 have hu25 := Tryd.underlying25
 have hu57 := Tryd.underlying57
 have HO0_0 := Aside0.mk (show Kd.V k57 57 w w.heap.size (fun k_ => (P0_0_ k_ ∨ w.heap.size ≤ k_)) (.slice A0_0 l0_0.length c0_0) l0_0 from Kd.V_mono hs0_0 (fun k_ hk => .inl hk))
 have HR0_1 := Aside0.mk hr0_1
 have HC0_1 := Aside0.mk hc0_1
 clear hr0_1 hc0_1
 have HB := Aside0.mk (Below.refl w.heap.size w)
 have H : (tariff_rate.l0 k a1 l0_0 (l0_0.length : Int) 0) = some (r1, r2, r3) := h
 clear h
 have H' := Aside0.mk H
 clear H
 go_enter Tryd.func41, Tryd.ntmps41
 go_wp2_with (first | ((with_reducible refine gate_dst (N := 2) rfl ?_); refine box_event ?hg (N := 2) ?hd (cs := #[.slice A0_0 l0_0.length c0_0, .slice A0_1 l0_1.length c0_1]) (t := 25) ?hr ?_; (case hd => rfl); (case hg => rfl); (case hr => first | (go_simp; done) | (go_simp; rfl)); intro gb123 hg w3 hbox hb; have n0_ := Aside0.mk (Kd.V_below (Kd.V_elderB (by (with_reducible repeat (first | apply Kd.V_alloc | apply Kd.V_drewN | apply Kd.V_drew)); exact HO0_0.out) gb123 (Nat.le_of_eq hg.symm)) hb); have n1_ := Aside0.mk (below_step (by repeat (first | (with_reducible first | exact HB.out | apply below_alloc | apply pw_below_drewN | apply below_drew1) | exact HB.out)) hb); have n2_ := Aside0.mk (hbox); have n3_ := Aside0.mk ((by rw [hg]; exact (below_size (by repeat (first | (with_reducible first | exact HB.out | apply below_alloc | apply pw_below_drewN | apply below_drew1) | exact HB.out))) : w.heap.size ≤ gb123)); have n4_ := Aside0.mk ((by rw [hg]; exact (below_size (by repeat (first | (with_reducible first | exact HB.out | apply below_alloc | apply pw_below_drewN | apply below_drew1) | exact HB.out))) : w.heap.size ≤ gb123)); clear HO0_0; clear HB; have HO0_0 := n0_; have HB := n1_; have BK123 := n2_; have GW123 := n3_; have GE123 := n4_; clear n0_ n1_ n2_ n3_ n4_; clear hb hbox hg) | ((with_reducible refine gate_dst (N := 4) rfl ?_); refine box_event ?hg (N := 4) ?hd (cs := #[.int .u8 0, .slice none 0 0, .int .i64 0]) (t := 57) ?hr ?_; (case hd => rfl); (case hg => rfl); (case hr => first | (go_simp; done) | (go_simp; rfl)); intro gb124 hg w4 hbox hb; have n0_ := Aside0.mk (Kd.V_below (Kd.V_elderB (by (with_reducible repeat (first | apply Kd.V_alloc | apply Kd.V_drewN | apply Kd.V_drew)); exact HO0_0.out) gb124 (Nat.le_of_eq hg.symm)) hb); have n1_ := Aside0.mk (blk_below (g := gb123) (o := .cells #[.slice A0_0 l0_0.length c0_0, .slice A0_1 l0_1.length c0_1] 25 (0, 0)) (by (with_reducible repeat (first | refine blk_drewN ?_ _ | refine blk_drew ?_ | refine blk_alloc ?_ _)); exact BK123.out) hb); have n2_ := Aside0.mk (below_step (by repeat (first | (with_reducible first | exact HB.out | apply below_alloc | apply pw_below_drewN | apply below_drew1 | refine below_set ?_ GE123.out) | exact HB.out)) hb); have n3_ := Aside0.mk (hbox); have n4_ := Aside0.mk ((by rw [hg]; exact (below_size (by repeat (first | (with_reducible first | exact HB.out | apply below_alloc | apply pw_below_drewN | apply below_drew1 | refine below_set ?_ GE123.out) | exact HB.out))) : w.heap.size ≤ gb124)); have n5_ := Aside0.mk ((by rw [hg]; exact (below_size (by repeat (first | (with_reducible first | exact HB.out | apply below_alloc | apply pw_below_drewN | apply below_drew1 | refine below_set ?_ GE123.out) | exact HB.out))) : w.heap.size ≤ gb124)); have n6_ := Aside0.mk ((by rw [hg]; exact Nat.ne_of_lt (blk_lt (g := gb123) (o := .cells #[.slice A0_0 l0_0.length c0_0, .slice A0_1 l0_1.length c0_1] 25 (0, 0)) (by (with_reducible repeat (first | refine blk_drewN ?_ _ | refine blk_drew ?_ | refine blk_alloc ?_ _)); exact BK123.out)) : gb123 ≠ gb124)); have n7_ := Aside0.mk ((by rw [hg]; exact Nat.ne_of_gt (blk_lt (g := gb123) (o := .cells #[.slice A0_0 l0_0.length c0_0, .slice A0_1 l0_1.length c0_1] 25 (0, 0)) (by (with_reducible repeat (first | refine blk_drewN ?_ _ | refine blk_drew ?_ | refine blk_alloc ?_ _)); exact BK123.out)) : gb124 ≠ gb123)); clear HO0_0; clear BK123; clear HB; have HO0_0 := n0_; have BK123 := n1_; have HB := n2_; have BK124 := n3_; have GW124 := n4_; have GE124 := n5_; have NB123_124 := n6_; have NB124_123 := n7_; clear n0_ n1_ n2_ n3_ n4_ n5_ n6_ n7_; clear hb hbox hg; have hnb5 := NB123_124.out; have hnc5 := NB124_123.out; have hcz6_0 : w4.cell? ⟨gb123, 0, none⟩ = some (.slice A0_0 l0_0.length c0_0) := (blk_cell BK123.out 0).trans rfl; have hcz6_1 : w4.cell? ⟨gb123, 1, none⟩ = some (.slice A0_1 l0_1.length c0_1) := (blk_cell BK123.out 1).trans rfl; have hfz6_0 := blk_frozen BK123.out 0; have hfz6_1 := blk_frozen BK123.out 1))
 go_loopg [10] k (fun kq v10 w' => ∃ (x10_1 : Int) (x125000_1 : Int) (x125002_1 : Int), v10 = .int .i64 x10_1 ∧ Aside0 (tariff_rate.l0 kq a1 l0_0 (l0_0.length : Int) x10_1 = some (r1, r2, r3)) ∧ Aside0 (kq ≤ k) ∧ Aside0 (Kd.V k57 57 w' w.heap.size (fun k_ => (P0_0_ k_ ∨ w.heap.size ≤ k_) ∧ k_ ≠ gb123 ∧ k_ ≠ gb124) (.slice A0_0 l0_0.length c0_0) l0_0) ∧ Aside0 (Kd.V k57 57 w' w.heap.size (fun k_ => (P0_0_ k_ ∨ w.heap.size ≤ k_) ∧ k_ ≠ gb123 ∧ k_ ≠ gb124) (.slice A0_0 l0_0.length c0_0) l0_0) ∧ Aside0 (w'.heap[gb123]? = some (.cells #[(.slice A0_0 l0_0.length c0_0), (.slice A0_1 l0_1.length c0_1)] 25 (0, 0))) ∧ Aside0 (w'.heap[gb124]? = some (.cells #[.int .u8 x125000_1, (.slice none 0 0), .int .i64 x125002_1] 57 (0, 0))) ∧ Aside0 (Below w.heap.size w w'))
 case atStart => exact ⟨(0), (0), (0), (by first | rfl | (simp; done) | (simp [*]; done)), H', ⟨Nat.le_refl _⟩, ⟨by (with_reducible repeat (first | apply Kd.V_alloc | apply Kd.V_drewN | apply Kd.V_drew)); exact Kd.V_mono HO0_0.out (fun _ hk => ⟨hk.1.1, ⟨hk.1.2, hk.2⟩⟩)⟩, ⟨by (with_reducible repeat (first | apply Kd.V_alloc | apply Kd.V_drewN | apply Kd.V_drew)); exact Kd.V_mono HO0_0.out (fun _ hk => ⟨hk.1.1, ⟨hk.1.2, hk.2⟩⟩)⟩, ⟨by (with_reducible repeat (first | refine blk_drewN ?_ _ | refine blk_drew ?_ | refine blk_alloc ?_ _)); exact BK123.out⟩, ⟨by (with_reducible repeat (first | refine blk_drewN ?_ _ | refine blk_drew ?_ | refine blk_alloc ?_ _)); exact BK124.out⟩, ⟨by repeat (first | (with_reducible first | exact HB.out | apply below_alloc | apply pw_below_drewN | apply below_drew1 | refine below_set ?_ GE123.out | refine below_set ?_ GE124.out) | exact HB.out)⟩⟩
 case round =>
  clear H'
  try clear p2
  try clear c4
  try clear c5
  try clear hcz6_0
  try clear hcz6_1
  try clear hfz6_0
  try clear hfz6_1
  obtain ⟨x10_1, x125000_1, x125002_1, rfl, HA, HK1, HO_8, HO_124000, BK123, BK124, HB⟩ := hrel
  cases gk with
  | zero => exact absurd HA.out (by simp [tariff_rate.l0])
  | succ k1 =>
   have H := HA.out
   clear HA
   simp only [tariff_rate.l0] at H
   by_cases c7 : x10_1 < (l0_0.length : Int)
   ·rw [if_pos c7] at H
    have c7b0 : decide (x10_1 < (l0_0.length : Int)) = true := decide_eq_true c7
    clear c7
    by_cases c8 : 0 ≤ x10_1
    ·rw [if_pos c8] at H
     have c8b0 : decide (0 ≤ x10_1) = true := decide_eq_true c8
     clear c8
     by_cases c9 : x10_1 < (l0_0.length : Int)
     ·rw [if_pos c9] at H
      have c9b0 : decide (x10_1 < (l0_0.length : Int)) = true := decide_eq_true c9
      clear c9
      by_cases c10 : ((rd_T57 l0_0 x10_1).f0) = a1
      ·rw [if_pos c10] at H
       have c10b0 : (((rd_T57 l0_0 x10_1).f0) == a1) = true := beq_iff_eq.mpr c10
       have c10b1 : (((rd_T57 l0_0 x10_1).f0) != a1) = false := bne_eq_false_iff_eq.mpr c10
       clear c10
       simp only [Option.some.injEq, Prod.mk.injEq] at H
       obtain ⟨rfl, rfl, rfl⟩ := H
       have p125 : 0 ≤ (x10_1 : Int) := of_decide_eq_true (by first | (with_reducible assumption) | assumption)
       have q125 : x10_1 < (l0_0.length : Int) := of_decide_eq_true (by first | (with_reducible assumption) | assumption)
       obtain ⟨ad125, A125_1, c125_1, e125, hx125_0, hx125_1, hx125_2, hl125_1, hi125_1⟩ := at_T57 (Kd.V_reads' HO_8.out).2.2 x10_1 p125 q125
       cases e125
       obtain ⟨ce125, hce125, hMe125, hcc125⟩ := Kd.V_get HO_8.out z57 x10_1 p125 (by first | exact q125 | exact of_decide_eq_true (by first | (with_reducible assumption) | assumption) | (have e_ := (Kd.V_reads' HO_8.out).1; omega))
       obtain ⟨ua125_1, uc125_1, rfl, ul125_1, ge125_1⟩ := k57_openF hMe125
       have hv125_1 := hcc125 1 _ rfl
       rw [add_field _ _ 1 (by omega)] at hv125_1
       replace hv125_1 := Option.some.inj (hv125_1.symm.trans hx125_1)
       injection hv125_1 with hva_ hvn_ hvc_
       rw [hva_] at ge125_1
       rw [hvc_] at ul125_1
       have HL125_1 := Aside0.mk (show Kd.V k61 61 _ w.heap.size _ _ ((rd_T57 l0_0 x10_1).f1) from Kd.V_mk ul125_1 ge125_1)
       clear hva_ hvn_ hvc_ ge125_1 ul125_1
       clear hcc125 hce125
       have HR125_1 := Aside0.mk hi125_1
       have HC125_1 := Aside0.mk hl125_1
       clear hi125_1 hl125_1
       replace p125 := eq_true p125
       replace q125 := eq_true q125
       go_wp2_with (first | ((with_reducible refine gate_dst (N := 6) rfl ?_); refine box_event ?hg (N := 6) ?hd (cs := #[.int .u8 0, .slice none 0 0, .int .i64 0]) (t := 57) ?hr ?_; (case hd => rfl); (case hg => rfl); (case hr => first | (go_simp; done) | (go_simp; rfl)); intro gb126 hg w11 hbox hb; have n0_ := Aside0.mk (Kd.V_below (Kd.V_elderB (by (with_reducible repeat (first | apply Kd.V_alloc | apply Kd.V_drewN | apply Kd.V_drew)); exact HO_8.out) gb126 (Nat.le_of_eq hg.symm)) hb); have n1_ := Aside0.mk (Kd.V_below (Kd.V_elderB (by (with_reducible repeat (first | apply Kd.V_alloc | apply Kd.V_drewN | apply Kd.V_drew)); exact HO_124000.out) gb126 (Nat.le_of_eq hg.symm)) hb); have n2_ := Aside0.mk (Kd.V_below (Kd.V_elderB (by (with_reducible repeat (first | apply Kd.V_alloc | apply Kd.V_drewN | apply Kd.V_drew)); exact HL125_1.out) gb126 (Nat.le_of_eq hg.symm)) hb); have n3_ := Aside0.mk (blk_below (g := gb123) (o := .cells #[.slice (some ad125) l0_0.length c0_0, .slice A0_1 l0_1.length c0_1] 25 (0, 0)) (by (with_reducible repeat (first | refine blk_drewN ?_ _ | refine blk_drew ?_ | refine blk_alloc ?_ _)); exact BK123.out) hb); have n4_ := Aside0.mk (blk_below (g := gb124) (o := .cells #[.int .u8 x125000_1, .slice none 0 0, .int .i64 x125002_1] 57 (0, 0)) (by (with_reducible repeat (first | refine blk_drewN ?_ _ | refine blk_drew ?_ | refine blk_alloc ?_ _)); exact BK124.out) hb); have n5_ := Aside0.mk (Kd.C_below (by repeat (first | (with_reducible exact HR125_1.out) | (with_reducible refine Kd.C_alloc ?_ _) | (with_reducible refine Kd.C_drewN ?_ _) | (with_reducible refine Kd.C_drew ?_) | exact HR125_1.out)) hb); have n6_ := Aside0.mk (below_step (by repeat (first | (with_reducible first | exact HB.out | apply below_alloc | apply pw_below_drewN | apply below_drew1 | refine below_set ?_ GE123.out | refine below_set ?_ GE124.out) | exact HB.out)) hb); have n7_ := Aside0.mk (hbox); have n8_ := Aside0.mk ((by rw [hg]; exact (below_size (by repeat (first | (with_reducible first | exact HB.out | apply below_alloc | apply pw_below_drewN | apply below_drew1 | refine below_set ?_ GE123.out | refine below_set ?_ GE124.out) | exact HB.out))) : w.heap.size ≤ gb126)); have n9_ := Aside0.mk ((by rw [hg]; exact (below_size (by repeat (first | (with_reducible first | exact HB.out | apply below_alloc | apply pw_below_drewN | apply below_drew1 | refine below_set ?_ GE123.out | refine below_set ?_ GE124.out) | exact HB.out))) : w.heap.size ≤ gb126)); have n10_ := Aside0.mk ((by rw [hg]; exact Nat.ne_of_lt (blk_lt (g := gb123) (o := .cells #[.slice (some ad125) l0_0.length c0_0, .slice A0_1 l0_1.length c0_1] 25 (0, 0)) (by (with_reducible repeat (first | refine blk_drewN ?_ _ | refine blk_drew ?_ | refine blk_alloc ?_ _)); exact BK123.out)) : gb123 ≠ gb126)); have n11_ := Aside0.mk ((by rw [hg]; exact Nat.ne_of_gt (blk_lt (g := gb123) (o := .cells #[.slice (some ad125) l0_0.length c0_0, .slice A0_1 l0_1.length c0_1] 25 (0, 0)) (by (with_reducible repeat (first | refine blk_drewN ?_ _ | refine blk_drew ?_ | refine blk_alloc ?_ _)); exact BK123.out)) : gb126 ≠ gb123)); have n12_ := Aside0.mk ((by rw [hg]; exact Nat.ne_of_lt (blk_lt (g := gb124) (o := .cells #[.int .u8 x125000_1, .slice none 0 0, .int .i64 x125002_1] 57 (0, 0)) (by (with_reducible repeat (first | refine blk_drewN ?_ _ | refine blk_drew ?_ | refine blk_alloc ?_ _)); exact BK124.out)) : gb124 ≠ gb126)); have n13_ := Aside0.mk ((by rw [hg]; exact Nat.ne_of_gt (blk_lt (g := gb124) (o := .cells #[.int .u8 x125000_1, .slice none 0 0, .int .i64 x125002_1] 57 (0, 0)) (by (with_reducible repeat (first | refine blk_drewN ?_ _ | refine blk_drew ?_ | refine blk_alloc ?_ _)); exact BK124.out)) : gb126 ≠ gb124)); clear HO_8; clear HO_124000; clear HL125_1; clear BK123; clear BK124; clear HR125_1; clear HB; have HO_8 := n0_; have HO_124000 := n1_; have HL125_1 := n2_; have BK123 := n3_; have BK124 := n4_; have HR125_1 := n5_; have HB := n6_; have BK126 := n7_; have GW126 := n8_; have GE126 := n9_; have NB123_126 := n10_; have NB126_123 := n11_; have NB124_126 := n12_; have NB126_124 := n13_; clear n0_ n1_ n2_ n3_ n4_ n5_ n6_ n7_ n8_ n9_ n10_ n11_ n12_ n13_; clear hb hbox hg; have hnb12 := NB126_123.out; have hnc12 := NB123_126.out; have hnb13 := NB126_124.out; have hnc13 := NB124_126.out; have hcz14_0 : w11.cell? ⟨gb126, 0, none⟩ = some (.int .u8 0) := (blk_cell BK126.out 0).trans rfl; have hcz14_1 : w11.cell? ⟨gb126, 1, none⟩ = some (.slice none 0 0) := (blk_cell BK126.out 1).trans rfl; have hcz14_2 : w11.cell? ⟨gb126, 2, none⟩ = some (.int .i64 0) := (blk_cell BK126.out 2).trans rfl; have hfz14_0 := blk_frozen BK126.out 0; have hfz14_1 := blk_frozen BK126.out 1; have hfz14_2 := blk_frozen BK126.out 2; have hnb15 := NB124_123.out; have hnc15 := NB123_124.out; have hcz16_0 : w11.cell? ⟨gb124, 0, none⟩ = some (.int .u8 x125000_1) := (blk_cell BK124.out 0).trans rfl; have hcz16_1 : w11.cell? ⟨gb124, 1, none⟩ = some (.slice none 0 0) := (blk_cell BK124.out 1).trans rfl; have hcz16_2 : w11.cell? ⟨gb124, 2, none⟩ = some (.int .i64 x125002_1) := (blk_cell BK124.out 2).trans rfl; have hfz16_0 := blk_frozen BK124.out 0; have hfz16_1 := blk_frozen BK124.out 1; have hfz16_2 := blk_frozen BK124.out 2))
       refine bodyPost_ret (results_cell_row rfl _ _ gb124 57 #[.int .u8 ((rd_T57 l0_0 x10_1).f0), .slice A125_1 ((rd_T57 l0_0 x10_1).f1).length c125_1, .int .i64 ((rd_T57 l0_0 x10_1).f2)] (0, 0) _ rfl (by (with_reducible repeat (first | refine blk_drewN ?_ _ | refine blk_drew ?_ | refine blk_alloc ?_ _)); refine blk_put (cs := #[.int .u8 ((rd_T57 l0_0 x10_1).f0), .slice A125_1 ((rd_T57 l0_0 x10_1).f1).length c125_1, .int .i64 x125002_1]) ?_ 2 _ rfl; (with_reducible repeat (first | refine blk_drewN ?_ _ | refine blk_drew ?_ | refine blk_alloc ?_ _)); refine blk_put (cs := #[.int .u8 ((rd_T57 l0_0 x10_1).f0), .slice none 0 0, .int .i64 x125002_1]) ?_ 1 _ rfl; (with_reducible repeat (first | refine blk_drewN ?_ _ | refine blk_drew ?_ | refine blk_alloc ?_ _)); refine blk_put (cs := #[.int .u8 x125000_1, .slice none 0 0, .int .i64 x125002_1]) ?_ 0 _ rfl; (with_reducible repeat (first | refine blk_drewN ?_ _ | refine blk_drew ?_ | refine blk_alloc ?_ _)); refine blk_far ?_ NB124_126.out _; (with_reducible repeat (first | refine blk_drewN ?_ _ | refine blk_drew ?_ | refine blk_alloc ?_ _)); refine blk_far ?_ NB124_126.out _; (with_reducible repeat (first | refine blk_drewN ?_ _ | refine blk_drew ?_ | refine blk_alloc ?_ _)); refine blk_far ?_ NB124_126.out _; (with_reducible repeat (first | refine blk_drewN ?_ _ | refine blk_drew ?_ | refine blk_alloc ?_ _)); exact BK124.out) Tryd.underlying57 rfl (by kernel_rfl)) rfl ?_
       exact ⟨_, by first | rfl | (simp [errW_none, errW_some] <;> rfl) | (simp [*, errW_none, errW_some] <;> rfl), by (with_reducible repeat (first | apply Kd.V_alloc | apply Kd.V_drewN | apply Kd.V_drew)); exact Kd.V_mono (Kd.V_far (p := ⟨gb124, 2, none⟩) (Kd.V_far (p := ⟨gb124, 1, none⟩) (Kd.V_far (p := ⟨gb124, 0, none⟩) (Kd.V_far (p := ⟨gb126, 2, none⟩) (Kd.V_far (p := ⟨gb126, 1, none⟩) (Kd.V_far (p := ⟨gb126, 0, none⟩) (Kd.V_mono (Kd.V_mono HL125_1.out (fun k_ hk => (⟨hk, hk.2⟩ : _ ∧ k_ ≠ gb126))) (fun k_ hk => (⟨hk, hk.1.1.2.2⟩ : _ ∧ k_ ≠ gb124))) (fun _ hk => hk.1.2) (.int .u8 ((rd_T57 l0_0 x10_1).f0))) (fun _ hk => hk.1.2) (.slice A125_1 ((rd_T57 l0_0 x10_1).f1).length c125_1)) (fun _ hk => hk.1.2) (.int .i64 ((rd_T57 l0_0 x10_1).f2))) (fun _ hk => hk.2) (.int .u8 ((rd_T57 l0_0 x10_1).f0))) (fun _ hk => hk.2) (.slice A125_1 ((rd_T57 l0_0 x10_1).f1).length c125_1)) (fun _ hk => hk.2) (.int .i64 ((rd_T57 l0_0 x10_1).f2))) (fun _ hk => hk.1.1.1.1), by repeat (first | (with_reducible first | exact HB.out | apply below_alloc | apply pw_below_drewN | apply below_drew1 | refine below_set ?_ GE123.out | refine below_set ?_ GE124.out | refine below_set ?_ GE126.out) | exact HB.out)⟩
      ·rw [if_neg c10] at H
       have c10b0 : (((rd_T57 l0_0 x10_1).f0) == a1) = false := beq_eq_false_iff_ne.mpr c10
       have c10b1 : (((rd_T57 l0_0 x10_1).f0) != a1) = true := bne_iff_ne.mpr c10
       have H' := Aside0.mk H
       clear H
       have p125 : 0 ≤ (x10_1 : Int) := of_decide_eq_true (by first | (with_reducible assumption) | assumption)
       have q125 : x10_1 < (l0_0.length : Int) := of_decide_eq_true (by first | (with_reducible assumption) | assumption)
       obtain ⟨ad125, A125_1, c125_1, e125, hx125_0, hx125_1, hx125_2, hl125_1, hi125_1⟩ := at_T57 (Kd.V_reads' HO_8.out).2.2 x10_1 p125 q125
       cases e125
       obtain ⟨ce125, hce125, hMe125, hcc125⟩ := Kd.V_get HO_8.out z57 x10_1 p125 (by first | exact q125 | exact of_decide_eq_true (by first | (with_reducible assumption) | assumption) | (have e_ := (Kd.V_reads' HO_8.out).1; omega))
       obtain ⟨ua125_1, uc125_1, rfl, ul125_1, ge125_1⟩ := k57_openF hMe125
       have hv125_1 := hcc125 1 _ rfl
       rw [add_field _ _ 1 (by omega)] at hv125_1
       replace hv125_1 := Option.some.inj (hv125_1.symm.trans hx125_1)
       injection hv125_1 with hva_ hvn_ hvc_
       rw [hva_] at ge125_1
       rw [hvc_] at ul125_1
       have HL125_1 := Aside0.mk (show Kd.V k61 61 _ w.heap.size _ _ ((rd_T57 l0_0 x10_1).f1) from Kd.V_mk ul125_1 ge125_1)
       clear hva_ hvn_ hvc_ ge125_1 ul125_1
       clear hcc125 hce125
       have HR125_1 := Aside0.mk hi125_1
       have HC125_1 := Aside0.mk hl125_1
       clear hi125_1 hl125_1
       replace p125 := eq_true p125
       replace q125 := eq_true q125
       go_wp2_with (first | ((with_reducible refine gate_dst (N := 6) rfl ?_); refine box_event ?hg (N := 6) ?hd (cs := #[.int .u8 0, .slice none 0 0, .int .i64 0]) (t := 57) ?hr ?_; (case hd => rfl); (case hg => rfl); (case hr => first | (go_simp; done) | (go_simp; rfl)); intro gb126 hg w17 hbox hb; have n0_ := Aside0.mk (Kd.V_below (Kd.V_elderB (by (with_reducible repeat (first | apply Kd.V_alloc | apply Kd.V_drewN | apply Kd.V_drew)); exact HO_8.out) gb126 (Nat.le_of_eq hg.symm)) hb); have n1_ := Aside0.mk (Kd.V_below (Kd.V_elderB (by (with_reducible repeat (first | apply Kd.V_alloc | apply Kd.V_drewN | apply Kd.V_drew)); exact HO_124000.out) gb126 (Nat.le_of_eq hg.symm)) hb); have n2_ := Aside0.mk (Kd.V_below (Kd.V_elderB (by (with_reducible repeat (first | apply Kd.V_alloc | apply Kd.V_drewN | apply Kd.V_drew)); exact HL125_1.out) gb126 (Nat.le_of_eq hg.symm)) hb); have n3_ := Aside0.mk (blk_below (g := gb123) (o := .cells #[.slice (some ad125) l0_0.length c0_0, .slice A0_1 l0_1.length c0_1] 25 (0, 0)) (by (with_reducible repeat (first | refine blk_drewN ?_ _ | refine blk_drew ?_ | refine blk_alloc ?_ _)); exact BK123.out) hb); have n4_ := Aside0.mk (blk_below (g := gb124) (o := .cells #[.int .u8 x125000_1, .slice none 0 0, .int .i64 x125002_1] 57 (0, 0)) (by (with_reducible repeat (first | refine blk_drewN ?_ _ | refine blk_drew ?_ | refine blk_alloc ?_ _)); exact BK124.out) hb); have n5_ := Aside0.mk (Kd.C_below (by repeat (first | (with_reducible exact HR125_1.out) | (with_reducible refine Kd.C_alloc ?_ _) | (with_reducible refine Kd.C_drewN ?_ _) | (with_reducible refine Kd.C_drew ?_) | exact HR125_1.out)) hb); have n6_ := Aside0.mk (below_step (by repeat (first | (with_reducible first | exact HB.out | apply below_alloc | apply pw_below_drewN | apply below_drew1 | refine below_set ?_ GE123.out | refine below_set ?_ GE124.out) | exact HB.out)) hb); have n7_ := Aside0.mk (hbox); have n8_ := Aside0.mk ((by rw [hg]; exact (below_size (by repeat (first | (with_reducible first | exact HB.out | apply below_alloc | apply pw_below_drewN | apply below_drew1 | refine below_set ?_ GE123.out | refine below_set ?_ GE124.out) | exact HB.out))) : w.heap.size ≤ gb126)); have n9_ := Aside0.mk ((by rw [hg]; exact (below_size (by repeat (first | (with_reducible first | exact HB.out | apply below_alloc | apply pw_below_drewN | apply below_drew1 | refine below_set ?_ GE123.out | refine below_set ?_ GE124.out) | exact HB.out))) : w.heap.size ≤ gb126)); have n10_ := Aside0.mk ((by rw [hg]; exact Nat.ne_of_lt (blk_lt (g := gb123) (o := .cells #[.slice (some ad125) l0_0.length c0_0, .slice A0_1 l0_1.length c0_1] 25 (0, 0)) (by (with_reducible repeat (first | refine blk_drewN ?_ _ | refine blk_drew ?_ | refine blk_alloc ?_ _)); exact BK123.out)) : gb123 ≠ gb126)); have n11_ := Aside0.mk ((by rw [hg]; exact Nat.ne_of_gt (blk_lt (g := gb123) (o := .cells #[.slice (some ad125) l0_0.length c0_0, .slice A0_1 l0_1.length c0_1] 25 (0, 0)) (by (with_reducible repeat (first | refine blk_drewN ?_ _ | refine blk_drew ?_ | refine blk_alloc ?_ _)); exact BK123.out)) : gb126 ≠ gb123)); have n12_ := Aside0.mk ((by rw [hg]; exact Nat.ne_of_lt (blk_lt (g := gb124) (o := .cells #[.int .u8 x125000_1, .slice none 0 0, .int .i64 x125002_1] 57 (0, 0)) (by (with_reducible repeat (first | refine blk_drewN ?_ _ | refine blk_drew ?_ | refine blk_alloc ?_ _)); exact BK124.out)) : gb124 ≠ gb126)); have n13_ := Aside0.mk ((by rw [hg]; exact Nat.ne_of_gt (blk_lt (g := gb124) (o := .cells #[.int .u8 x125000_1, .slice none 0 0, .int .i64 x125002_1] 57 (0, 0)) (by (with_reducible repeat (first | refine blk_drewN ?_ _ | refine blk_drew ?_ | refine blk_alloc ?_ _)); exact BK124.out)) : gb126 ≠ gb124)); clear HO_8; clear HO_124000; clear HL125_1; clear BK123; clear BK124; clear HR125_1; clear HB; have HO_8 := n0_; have HO_124000 := n1_; have HL125_1 := n2_; have BK123 := n3_; have BK124 := n4_; have HR125_1 := n5_; have HB := n6_; have BK126 := n7_; have GW126 := n8_; have GE126 := n9_; have NB123_126 := n10_; have NB126_123 := n11_; have NB124_126 := n12_; have NB126_124 := n13_; clear n0_ n1_ n2_ n3_ n4_ n5_ n6_ n7_ n8_ n9_ n10_ n11_ n12_ n13_; clear hb hbox hg; have hnb18 := NB126_123.out; have hnc18 := NB123_126.out; have hnb19 := NB126_124.out; have hnc19 := NB124_126.out; have hcz20_0 : w17.cell? ⟨gb126, 0, none⟩ = some (.int .u8 0) := (blk_cell BK126.out 0).trans rfl; have hcz20_1 : w17.cell? ⟨gb126, 1, none⟩ = some (.slice none 0 0) := (blk_cell BK126.out 1).trans rfl; have hcz20_2 : w17.cell? ⟨gb126, 2, none⟩ = some (.int .i64 0) := (blk_cell BK126.out 2).trans rfl; have hfz20_0 := blk_frozen BK126.out 0; have hfz20_1 := blk_frozen BK126.out 1; have hfz20_2 := blk_frozen BK126.out 2))
       go_roundg k1
       case measure => have := HK1.out; omega
       case rel => exact ⟨(wrap64 (x10_1 + 1)), (x125000_1), (x125002_1), (by first | rfl | (simp; done) | (simp [*]; done)), H', ⟨by have := HK1.out; omega⟩, ⟨by (with_reducible repeat (first | apply Kd.V_alloc | apply Kd.V_drewN | apply Kd.V_drew)); exact Kd.V_mono (Kd.V_far (p := ⟨gb126, 2, none⟩) (Kd.V_far (p := ⟨gb126, 1, none⟩) (Kd.V_far (p := ⟨gb126, 0, none⟩) (Kd.V_mono HO_8.out (fun k_ hk => (⟨hk, hk.2⟩ : _ ∧ k_ ≠ gb126))) (fun _ hk => hk.2) (.int .u8 ((rd_T57 l0_0 x10_1).f0))) (fun _ hk => hk.2) (.slice A125_1 ((rd_T57 l0_0 x10_1).f1).length c125_1)) (fun _ hk => hk.2) (.int .i64 ((rd_T57 l0_0 x10_1).f2))) (fun _ hk => ⟨hk.1.1.1, ⟨hk.1.1.2.1, hk.1.1.2.2⟩⟩)⟩, ⟨by (with_reducible repeat (first | apply Kd.V_alloc | apply Kd.V_drewN | apply Kd.V_drew)); exact Kd.V_mono (Kd.V_far (p := ⟨gb126, 2, none⟩) (Kd.V_far (p := ⟨gb126, 1, none⟩) (Kd.V_far (p := ⟨gb126, 0, none⟩) (Kd.V_mono HO_124000.out (fun k_ hk => (⟨hk, hk.2⟩ : _ ∧ k_ ≠ gb126))) (fun _ hk => hk.2) (.int .u8 ((rd_T57 l0_0 x10_1).f0))) (fun _ hk => hk.2) (.slice A125_1 ((rd_T57 l0_0 x10_1).f1).length c125_1)) (fun _ hk => hk.2) (.int .i64 ((rd_T57 l0_0 x10_1).f2))) (fun _ hk => ⟨hk.1.1.1, ⟨hk.1.1.2.1, hk.1.1.2.2⟩⟩)⟩, ⟨by (with_reducible repeat (first | refine blk_drewN ?_ _ | refine blk_drew ?_ | refine blk_alloc ?_ _)); refine blk_far ?_ NB123_126.out _; (with_reducible repeat (first | refine blk_drewN ?_ _ | refine blk_drew ?_ | refine blk_alloc ?_ _)); refine blk_far ?_ NB123_126.out _; (with_reducible repeat (first | refine blk_drewN ?_ _ | refine blk_drew ?_ | refine blk_alloc ?_ _)); refine blk_far ?_ NB123_126.out _; (with_reducible repeat (first | refine blk_drewN ?_ _ | refine blk_drew ?_ | refine blk_alloc ?_ _)); exact BK123.out⟩, ⟨by (with_reducible repeat (first | refine blk_drewN ?_ _ | refine blk_drew ?_ | refine blk_alloc ?_ _)); refine blk_far ?_ NB124_126.out _; (with_reducible repeat (first | refine blk_drewN ?_ _ | refine blk_drew ?_ | refine blk_alloc ?_ _)); refine blk_far ?_ NB124_126.out _; (with_reducible repeat (first | refine blk_drewN ?_ _ | refine blk_drew ?_ | refine blk_alloc ?_ _)); refine blk_far ?_ NB124_126.out _; (with_reducible repeat (first | refine blk_drewN ?_ _ | refine blk_drew ?_ | refine blk_alloc ?_ _)); exact BK124.out⟩, ⟨by repeat (first | (with_reducible first | exact HB.out | apply below_alloc | apply pw_below_drewN | apply below_drew1 | refine below_set ?_ GE123.out | refine below_set ?_ GE124.out | refine below_set ?_ GE126.out) | exact HB.out)⟩⟩
     ·rw [if_neg c9] at H
      exact absurd H (by simp)
    ·rw [if_neg c8] at H
     exact absurd H (by simp)
   ·rw [if_neg c7] at H
    have c7b0 : decide (x10_1 < (l0_0.length : Int)) = false := decide_eq_false c7
    clear c7
    simp only [Option.some.injEq, Prod.mk.injEq] at H
    obtain ⟨rfl, rfl, rfl⟩ := H
    have hnb21 := NB124_123.out
    have hnc21 := NB123_124.out
    have hcz22_0 : wr.cell? ⟨gb124, 0, none⟩ = some (.int .u8 x125000_1) := (blk_cell BK124.out 0).trans rfl
    have hcz22_1 : wr.cell? ⟨gb124, 1, none⟩ = some (.slice none 0 0) := (blk_cell BK124.out 1).trans rfl
    have hcz22_2 : wr.cell? ⟨gb124, 2, none⟩ = some (.int .i64 x125002_1) := (blk_cell BK124.out 2).trans rfl
    have hfz22_0 := blk_frozen BK124.out 0
    have hfz22_1 := blk_frozen BK124.out 1
    have hfz22_2 := blk_frozen BK124.out 2
    go_wp2
    refine bodyPost_ret (results_cell_row rfl _ _ gb124 57 #[.int .u8 0, .slice none 0 0, .int .i64 0] (0, 0) _ rfl (by (with_reducible repeat (first | refine blk_drewN ?_ _ | refine blk_drew ?_ | refine blk_alloc ?_ _)); refine blk_put (cs := #[.int .u8 0, .slice none 0 0, .int .i64 x125002_1]) ?_ 2 _ rfl; (with_reducible repeat (first | refine blk_drewN ?_ _ | refine blk_drew ?_ | refine blk_alloc ?_ _)); refine blk_put (cs := #[.int .u8 0, .slice none 0 0, .int .i64 x125002_1]) ?_ 1 _ rfl; (with_reducible repeat (first | refine blk_drewN ?_ _ | refine blk_drew ?_ | refine blk_alloc ?_ _)); refine blk_put (cs := #[.int .u8 x125000_1, .slice none 0 0, .int .i64 x125002_1]) ?_ 0 _ rfl; (with_reducible repeat (first | refine blk_drewN ?_ _ | refine blk_drew ?_ | refine blk_alloc ?_ _)); exact BK124.out) Tryd.underlying57 rfl (by kernel_rfl)) rfl ?_
    exact ⟨_, by first | rfl | (simp [errW_none, errW_some] <;> rfl) | (simp [*, errW_none, errW_some] <;> rfl), Kd.V_mono (Kd.S_V (Kd.S_nil _ _ _ 0 (fun _ => False))) (fun k_ hk => hk.elim), by repeat (first | (with_reducible first | exact HB.out | apply below_alloc | apply pw_below_drewN | apply below_drew1 | refine below_set ?_ GE123.out | refine below_set ?_ GE124.out) | exact HB.out)⟩
def tariff_Price.j0 : Nat → Int → Int → Int → Bool → List (S57) → List (S67) → Option (Int × Int)
 | 0, _, _, _, _, _, _ => none
 | k + 1, x1, x2, x3, x27, x128000, x128001 => if x27 = true then (some (0, 2)) else ((tariff_rate.f k x128000 x128001 x1).bind fun bt130 => (if x1 = 0 then (some (0, 6)) else (if bt130.1 = 0 then (some (0, 6)) else ((tariff_price.f bt130.1 bt130.2.1 bt130.2.2 x2 x3).bind fun bt136 => (some (bt136.1, bt136.2))))))
def tariff_Price.f (k : Nat) (l0_0 : List (S57)) (l0_1 : List (S67)) (a1 : Int) (a2 : Int) (a3 : Int) : Option (Int × Int) := (tariff_Right.f l0_0 l0_1).bind fun t128 => (if t128 = true then (if a2 < 1 then (tariff_Price.j0 k a1 a2 a3 true l0_0 l0_1) else ((tariff_zones.f l0_0 l0_1).bind fun t129 => (if a2 > t129 then (tariff_Price.j0 k a1 a2 a3 true l0_0 l0_1) else (tariff_Price.j0 k a1 a2 a3 (decide (a3 < 1)) l0_0 l0_1)))) else (tariff_Price.j0 k a1 a2 a3 true l0_0 l0_1))
set_option maxHeartbeats 8000000 in
set_option maxRecDepth 100000 in
theorem tariff_Price.calls (k : Nat) (A0_0 : Option Addr) (c0_0 : Nat) (l0_0 : List (S57)) (A0_1 : Option Addr) (c0_1 : Nat) (l0_1 : List (S67)) (a1 : Int) (a2 : Int) (a3 : Int) (r1 : Int) (r2 : Int) (w : World) (hr0_0 : Kd.C k57 w A0_0 l0_0.length l0_0) (hc0_0 : l0_0.length ≤ c0_0) (hr0_1 : Kd.C k67 w A0_1 l0_1.length l0_1) (hc0_1 : l0_1.length ≤ c0_1) (h : tariff_Price.f k l0_0 l0_1 a1 a2 a3 = some (r1, r2)) :
  Calls Tryd.prog 22 #[.agg #[.slice A0_0 l0_0.length c0_0, .slice A0_1 l0_1.length c0_1], .int .u8 a1, .int .i64 a2, .int .i64 a3] w fun e w' => e = .returned (.tuple #[.int .i64 r1, .int .i64 r2]) ∧ Below w.heap.size w w' := by
 have hu25 := Tryd.underlying25
 have hu57 := Tryd.underlying57
 have HR0_0 := Aside0.mk hr0_0
 have HC0_0 := Aside0.mk hc0_0
 clear hr0_0 hc0_0
 have HR0_1 := Aside0.mk hr0_1
 have HC0_1 := Aside0.mk hc0_1
 clear hr0_1 hc0_1
 have HB := Aside0.mk (Below.refl w.heap.size w)
 have H : ((tariff_Right.f l0_0 l0_1).bind fun t128 => (if t128 = true then (if a2 < 1 then (tariff_Price.j0 k a1 a2 a3 true l0_0 l0_1) else ((tariff_zones.f l0_0 l0_1).bind fun t129 => (if a2 > t129 then (tariff_Price.j0 k a1 a2 a3 true l0_0 l0_1) else (tariff_Price.j0 k a1 a2 a3 (decide (a3 < 1)) l0_0 l0_1)))) else (tariff_Price.j0 k a1 a2 a3 true l0_0 l0_1))) = some (r1, r2) := h
 clear h
 have HC5 := Aside0.mk H
 clear H
 go_enter Tryd.func22, Tryd.ntmps22
 go_upto_region 1 with (first | ((with_reducible refine gate_dst (N := 4) rfl ?_); refine box_event ?hg (N := 4) ?hd (cs := #[.slice A0_0 l0_0.length c0_0, .slice A0_1 l0_1.length c0_1]) (t := 25) ?hr ?_; (case hd => rfl); (case hg => rfl); (case hr => first | (go_simp; done) | (go_simp; rfl)); intro gb127 hg w6 hbox hb; have n0_ := Aside0.mk (below_step (by repeat (first | (with_reducible first | exact HB.out | apply below_alloc | apply pw_below_drewN | apply below_drew1) | exact HB.out)) hb); have n1_ := Aside0.mk (hbox); have n2_ := Aside0.mk ((by rw [hg]; exact (below_size (by repeat (first | (with_reducible first | exact HB.out | apply below_alloc | apply pw_below_drewN | apply below_drew1) | exact HB.out))) : w.heap.size ≤ gb127)); have n3_ := Aside0.mk ((by rw [hg]; exact (below_size (by repeat (first | (with_reducible first | exact HB.out | apply below_alloc | apply pw_below_drewN | apply below_drew1) | exact HB.out))) : w.heap.size ≤ gb127)); clear HB; have HB := n0_; have BK127 := n1_; have GW127 := n2_; have GE127 := n3_; clear n0_ n1_ n2_ n3_; clear hb hbox hg))
 (try simp only [Act.put, sl1, sl2, sl3])
 go_cut [27] (fun v27 wc => ∃ (kq : Nat) (x27_4 : Bool), v27 = .bool x27_4 ∧ Aside0 (tariff_Price.j0 kq a1 a2 a3 x27_4 l0_0 l0_1 = some (r1, r2)) ∧ Aside0 (kq ≤ k) ∧ Aside0 (wc.heap[gb127]? = some (.cells #[(.slice A0_0 l0_0.length c0_0), (.slice A0_1 l0_1.length c0_1)] 25 (0, 0))) ∧ Aside0 (Below w.heap.size w wc))
 case first =>
  have H := HC5.out
  clear HC5
  replace H := Option.bind_eq_some_iff.mp H
  obtain ⟨t128, A70, H⟩ := H
  replace H : (if t128 = true then (if a2 < 1 then (tariff_Price.j0 k a1 a2 a3 true l0_0 l0_1) else ((tariff_zones.f l0_0 l0_1).bind fun t129 => (if a2 > t129 then (tariff_Price.j0 k a1 a2 a3 true l0_0 l0_1) else (tariff_Price.j0 k a1 a2 a3 (decide (a3 < 1)) l0_0 l0_1)))) else (tariff_Price.j0 k a1 a2 a3 true l0_0 l0_1)) = some (r1, r2) := H
  have A7 := Aside0.mk A70
  clear A70
  by_cases c8 : t128 = true
  ·subst c8
   have H1 : (if a2 < 1 then (tariff_Price.j0 k a1 a2 a3 true l0_0 l0_1) else ((tariff_zones.f l0_0 l0_1).bind fun t129 => (if a2 > t129 then (tariff_Price.j0 k a1 a2 a3 true l0_0 l0_1) else (tariff_Price.j0 k a1 a2 a3 (decide (a3 < 1)) l0_0 l0_1)))) = some (r1, r2) := by rw [if_pos rfl] at H; exact H
   clear H
   have H := H1
   clear H1
   by_cases c9 : a2 < 1
   ·rw [if_pos c9] at H
    have c9b0 : decide (a2 < 1) = true := decide_eq_true c9
    clear c9
    (first | rw [c9b0] | (simp only [i64_w, i32_w]; rw [c9b0]) | skip)
    have H' := Aside0.mk H
    clear H
    have hcz10_0 : w6.cell? ⟨gb127, 0, none⟩ = some (.slice A0_0 l0_0.length c0_0) := (blk_cell BK127.out 0).trans rfl
    have hcz10_1 : w6.cell? ⟨gb127, 1, none⟩ = some (.slice A0_1 l0_1.length c0_1) := (blk_cell BK127.out 1).trans rfl
    have hfz10_0 := blk_frozen BK127.out 0
    have hfz10_1 := blk_frozen BK127.out 1
    go_wp2_with (first | ((with_reducible refine gate_callee (f := 18) rfl ?_); refine goesL_ (some 12) rfl rfl Tryd.func18 (by kernel_rfl) rfl #[.agg #[.slice A0_0 l0_0.length c0_0, .slice A0_1 l0_1.length c0_1]] rfl (by (try simp only [List.map_toArray, List.map_cons, List.map_nil]); first | done | rfl | (simp only [List.length_drop, List.length_take]; rfl)) ?_; (with_reducible refine (tariff_Right.calls _ _ l0_0 _ _ l0_1 true _ ?side1 ?side2 ?side3 ?side4 A7.out).mono ?_); (case side1 => repeat (first | exact (Kd.C_below HR0_0.out HB.out) | (with_reducible refine Kd.C_alloc ?_ _) | (with_reducible refine Kd.C_drewN ?_ _) | (with_reducible refine Kd.C_drew ?_))); (case side2 => exact HC0_0.out); (case side3 => repeat (first | exact (Kd.C_below HR0_1.out HB.out) | (with_reducible refine Kd.C_alloc ?_ _) | (with_reducible refine Kd.C_drewN ?_ _) | (with_reducible refine Kd.C_drew ?_))); (case side4 => exact HC0_1.out); rintro e w11 ⟨rfl, hb⟩; refine ⟨_, rfl, ?_⟩; have n0_ := Aside0.mk (blk_below (g := gb127) (o := .cells #[.slice A0_0 l0_0.length c0_0, .slice A0_1 l0_1.length c0_1] 25 (0, 0)) (by (with_reducible repeat (first | refine blk_drewN ?_ _ | refine blk_drew ?_ | refine blk_alloc ?_ _)); exact BK127.out) hb); have n1_ := Aside0.mk (below_step (by repeat (first | (with_reducible first | exact HB.out | apply below_alloc | apply pw_below_drewN | apply below_drew1 | refine below_set ?_ GE127.out) | exact HB.out)) hb); clear BK127; clear HB; have BK127 := n0_; have HB := n1_; clear n0_ n1_; (try clear hb); (try clear hb2); (try clear hk); (try clear hi)))
    go_meet
    case rel => exact ⟨_, (true), (by first | rfl | (simp; done) | (simp [*]; done)), H', ⟨by first | omega | exact Nat.le_refl _⟩, ⟨by (with_reducible repeat (first | refine blk_drewN ?_ _ | refine blk_drew ?_ | refine blk_alloc ?_ _)); exact BK127.out⟩, ⟨by repeat (first | (with_reducible first | exact HB.out | apply below_alloc | apply pw_below_drewN | apply below_drew1 | refine below_set ?_ GE127.out) | exact HB.out)⟩⟩
   ·rw [if_neg c9] at H
    have c9b0 : decide (a2 < 1) = false := decide_eq_false c9
    clear c9
    (first | rw [c9b0] | (simp only [i64_w, i32_w]; rw [c9b0]) | skip)
    replace H := Option.bind_eq_some_iff.mp H
    obtain ⟨t129, A120, H⟩ := H
    replace H : (if a2 > t129 then (tariff_Price.j0 k a1 a2 a3 true l0_0 l0_1) else (tariff_Price.j0 k a1 a2 a3 (decide (a3 < 1)) l0_0 l0_1)) = some (r1, r2) := H
    have A12 := Aside0.mk A120
    clear A120
    by_cases c13 : a2 > t129
    ·rw [if_pos c13] at H
     have c13b0 : decide (t129 < a2) = true := decide_eq_true c13
     clear c13
     have H' := Aside0.mk H
     clear H
     have hcz14_0 : w6.cell? ⟨gb127, 0, none⟩ = some (.slice A0_0 l0_0.length c0_0) := (blk_cell BK127.out 0).trans rfl
     have hcz14_1 : w6.cell? ⟨gb127, 1, none⟩ = some (.slice A0_1 l0_1.length c0_1) := (blk_cell BK127.out 1).trans rfl
     have hfz14_0 := blk_frozen BK127.out 0
     have hfz14_1 := blk_frozen BK127.out 1
     go_wp2_with (first | ((with_reducible refine gate_callee (f := 18) rfl ?_); refine goesL_ (some 12) rfl rfl Tryd.func18 (by kernel_rfl) rfl #[.agg #[.slice A0_0 l0_0.length c0_0, .slice A0_1 l0_1.length c0_1]] rfl (by (try simp only [List.map_toArray, List.map_cons, List.map_nil]); first | done | rfl | (simp only [List.length_drop, List.length_take]; rfl)) ?_; (with_reducible refine (tariff_Right.calls _ _ l0_0 _ _ l0_1 true _ ?side1 ?side2 ?side3 ?side4 A7.out).mono ?_); (case side1 => repeat (first | exact (Kd.C_below HR0_0.out HB.out) | (with_reducible refine Kd.C_alloc ?_ _) | (with_reducible refine Kd.C_drewN ?_ _) | (with_reducible refine Kd.C_drew ?_))); (case side2 => exact HC0_0.out); (case side3 => repeat (first | exact (Kd.C_below HR0_1.out HB.out) | (with_reducible refine Kd.C_alloc ?_ _) | (with_reducible refine Kd.C_drewN ?_ _) | (with_reducible refine Kd.C_drew ?_))); (case side4 => exact HC0_1.out); rintro e w15 ⟨rfl, hb⟩; refine ⟨_, rfl, ?_⟩; have n0_ := Aside0.mk (blk_below (g := gb127) (o := .cells #[.slice A0_0 l0_0.length c0_0, .slice A0_1 l0_1.length c0_1] 25 (0, 0)) (by (with_reducible repeat (first | refine blk_drewN ?_ _ | refine blk_drew ?_ | refine blk_alloc ?_ _)); exact BK127.out) hb); have n1_ := Aside0.mk (below_step (by repeat (first | (with_reducible first | exact HB.out | apply below_alloc | apply pw_below_drewN | apply below_drew1 | refine below_set ?_ GE127.out) | exact HB.out)) hb); clear BK127; clear HB; have BK127 := n0_; have HB := n1_; clear n0_ n1_; (try clear hb); (try clear hb2); (try clear hk); (try clear hi); have hcz16_0 : w15.cell? ⟨gb127, 0, none⟩ = some (.slice A0_0 l0_0.length c0_0) := (blk_cell BK127.out 0).trans rfl; have hcz16_1 : w15.cell? ⟨gb127, 1, none⟩ = some (.slice A0_1 l0_1.length c0_1) := (blk_cell BK127.out 1).trans rfl; have hfz16_0 := blk_frozen BK127.out 0; have hfz16_1 := blk_frozen BK127.out 1) | (go_at_call 44; (with_reducible refine (tariff_zones.calls _ _ l0_0 _ _ l0_1 t129 _ ?side1 ?side2 ?side3 ?side4 A12.out).mono ?_); (case side1 => repeat (first | exact (Kd.C_below HR0_0.out HB.out) | (with_reducible refine Kd.C_alloc ?_ _) | (with_reducible refine Kd.C_drewN ?_ _) | (with_reducible refine Kd.C_drew ?_))); (case side2 => exact HC0_0.out); (case side3 => repeat (first | exact (Kd.C_below HR0_1.out HB.out) | (with_reducible refine Kd.C_alloc ?_ _) | (with_reducible refine Kd.C_drewN ?_ _) | (with_reducible refine Kd.C_drew ?_))); (case side4 => exact HC0_1.out); rintro e w17 ⟨rfl, hb⟩; have n0_ := Aside0.mk (blk_below (g := gb127) (o := .cells #[.slice A0_0 l0_0.length c0_0, .slice A0_1 l0_1.length c0_1] 25 (0, 0)) (by (with_reducible repeat (first | refine blk_drewN ?_ _ | refine blk_drew ?_ | refine blk_alloc ?_ _)); exact BK127.out) hb); have n1_ := Aside0.mk (below_step (by repeat (first | (with_reducible first | exact HB.out | apply below_alloc | apply pw_below_drewN | apply below_drew1 | refine below_set ?_ GE127.out) | exact HB.out)) hb); clear BK127; clear HB; have BK127 := n0_; have HB := n1_; clear n0_ n1_; (try clear hb); (try clear hb2); (try clear hk); (try clear hi)))
     go_meet
     case rel => exact ⟨_, (true), (by first | rfl | (simp; done) | (simp [*]; done)), H', ⟨by first | omega | exact Nat.le_refl _⟩, ⟨by (with_reducible repeat (first | refine blk_drewN ?_ _ | refine blk_drew ?_ | refine blk_alloc ?_ _)); exact BK127.out⟩, ⟨by repeat (first | (with_reducible first | exact HB.out | apply below_alloc | apply pw_below_drewN | apply below_drew1 | refine below_set ?_ GE127.out) | exact HB.out)⟩⟩
    ·rw [if_neg c13] at H
     have c13b0 : decide (t129 < a2) = false := decide_eq_false c13
     clear c13
     have H' := Aside0.mk H
     clear H
     have hcz18_0 : w6.cell? ⟨gb127, 0, none⟩ = some (.slice A0_0 l0_0.length c0_0) := (blk_cell BK127.out 0).trans rfl
     have hcz18_1 : w6.cell? ⟨gb127, 1, none⟩ = some (.slice A0_1 l0_1.length c0_1) := (blk_cell BK127.out 1).trans rfl
     have hfz18_0 := blk_frozen BK127.out 0
     have hfz18_1 := blk_frozen BK127.out 1
     go_wp2_with (first | ((with_reducible refine gate_callee (f := 18) rfl ?_); refine goesL_ (some 12) rfl rfl Tryd.func18 (by kernel_rfl) rfl #[.agg #[.slice A0_0 l0_0.length c0_0, .slice A0_1 l0_1.length c0_1]] rfl (by (try simp only [List.map_toArray, List.map_cons, List.map_nil]); first | done | rfl | (simp only [List.length_drop, List.length_take]; rfl)) ?_; (with_reducible refine (tariff_Right.calls _ _ l0_0 _ _ l0_1 true _ ?side1 ?side2 ?side3 ?side4 A7.out).mono ?_); (case side1 => repeat (first | exact (Kd.C_below HR0_0.out HB.out) | (with_reducible refine Kd.C_alloc ?_ _) | (with_reducible refine Kd.C_drewN ?_ _) | (with_reducible refine Kd.C_drew ?_))); (case side2 => exact HC0_0.out); (case side3 => repeat (first | exact (Kd.C_below HR0_1.out HB.out) | (with_reducible refine Kd.C_alloc ?_ _) | (with_reducible refine Kd.C_drewN ?_ _) | (with_reducible refine Kd.C_drew ?_))); (case side4 => exact HC0_1.out); rintro e w19 ⟨rfl, hb⟩; refine ⟨_, rfl, ?_⟩; have n0_ := Aside0.mk (blk_below (g := gb127) (o := .cells #[.slice A0_0 l0_0.length c0_0, .slice A0_1 l0_1.length c0_1] 25 (0, 0)) (by (with_reducible repeat (first | refine blk_drewN ?_ _ | refine blk_drew ?_ | refine blk_alloc ?_ _)); exact BK127.out) hb); have n1_ := Aside0.mk (below_step (by repeat (first | (with_reducible first | exact HB.out | apply below_alloc | apply pw_below_drewN | apply below_drew1 | refine below_set ?_ GE127.out) | exact HB.out)) hb); clear BK127; clear HB; have BK127 := n0_; have HB := n1_; clear n0_ n1_; (try clear hb); (try clear hb2); (try clear hk); (try clear hi); have hcz20_0 : w19.cell? ⟨gb127, 0, none⟩ = some (.slice A0_0 l0_0.length c0_0) := (blk_cell BK127.out 0).trans rfl; have hcz20_1 : w19.cell? ⟨gb127, 1, none⟩ = some (.slice A0_1 l0_1.length c0_1) := (blk_cell BK127.out 1).trans rfl; have hfz20_0 := blk_frozen BK127.out 0; have hfz20_1 := blk_frozen BK127.out 1) | (go_at_call 44; (with_reducible refine (tariff_zones.calls _ _ l0_0 _ _ l0_1 t129 _ ?side1 ?side2 ?side3 ?side4 A12.out).mono ?_); (case side1 => repeat (first | exact (Kd.C_below HR0_0.out HB.out) | (with_reducible refine Kd.C_alloc ?_ _) | (with_reducible refine Kd.C_drewN ?_ _) | (with_reducible refine Kd.C_drew ?_))); (case side2 => exact HC0_0.out); (case side3 => repeat (first | exact (Kd.C_below HR0_1.out HB.out) | (with_reducible refine Kd.C_alloc ?_ _) | (with_reducible refine Kd.C_drewN ?_ _) | (with_reducible refine Kd.C_drew ?_))); (case side4 => exact HC0_1.out); rintro e w21 ⟨rfl, hb⟩; have n0_ := Aside0.mk (blk_below (g := gb127) (o := .cells #[.slice A0_0 l0_0.length c0_0, .slice A0_1 l0_1.length c0_1] 25 (0, 0)) (by (with_reducible repeat (first | refine blk_drewN ?_ _ | refine blk_drew ?_ | refine blk_alloc ?_ _)); exact BK127.out) hb); have n1_ := Aside0.mk (below_step (by repeat (first | (with_reducible first | exact HB.out | apply below_alloc | apply pw_below_drewN | apply below_drew1 | refine below_set ?_ GE127.out) | exact HB.out)) hb); clear BK127; clear HB; have BK127 := n0_; have HB := n1_; clear n0_ n1_; (try clear hb); (try clear hb2); (try clear hk); (try clear hi)))
     go_meet
     case rel => exact ⟨_, (decide (a3 < 1)), (by first | rfl | (simp; done) | (simp [*]; done)), H', ⟨by first | omega | exact Nat.le_refl _⟩, ⟨by (with_reducible repeat (first | refine blk_drewN ?_ _ | refine blk_drew ?_ | refine blk_alloc ?_ _)); exact BK127.out⟩, ⟨by repeat (first | (with_reducible first | exact HB.out | apply below_alloc | apply pw_below_drewN | apply below_drew1 | refine below_set ?_ GE127.out) | exact HB.out)⟩⟩
  ·replace c8 := Bool.eq_false_iff.mpr c8
   subst c8
   have H1 : (tariff_Price.j0 k a1 a2 a3 true l0_0 l0_1) = some (r1, r2) := by rw [if_neg (show ¬ (false = true) by decide)] at H; exact H
   clear H
   have H := H1
   clear H1
   have H' := Aside0.mk H
   clear H
   have hcz22_0 : w6.cell? ⟨gb127, 0, none⟩ = some (.slice A0_0 l0_0.length c0_0) := (blk_cell BK127.out 0).trans rfl
   have hcz22_1 : w6.cell? ⟨gb127, 1, none⟩ = some (.slice A0_1 l0_1.length c0_1) := (blk_cell BK127.out 1).trans rfl
   have hfz22_0 := blk_frozen BK127.out 0
   have hfz22_1 := blk_frozen BK127.out 1
   go_wp2_with (first | ((with_reducible refine gate_callee (f := 18) rfl ?_); refine goesL_ (some 12) rfl rfl Tryd.func18 (by kernel_rfl) rfl #[.agg #[.slice A0_0 l0_0.length c0_0, .slice A0_1 l0_1.length c0_1]] rfl (by (try simp only [List.map_toArray, List.map_cons, List.map_nil]); first | done | rfl | (simp only [List.length_drop, List.length_take]; rfl)) ?_; (with_reducible refine (tariff_Right.calls _ _ l0_0 _ _ l0_1 false _ ?side1 ?side2 ?side3 ?side4 A7.out).mono ?_); (case side1 => repeat (first | exact (Kd.C_below HR0_0.out HB.out) | (with_reducible refine Kd.C_alloc ?_ _) | (with_reducible refine Kd.C_drewN ?_ _) | (with_reducible refine Kd.C_drew ?_))); (case side2 => exact HC0_0.out); (case side3 => repeat (first | exact (Kd.C_below HR0_1.out HB.out) | (with_reducible refine Kd.C_alloc ?_ _) | (with_reducible refine Kd.C_drewN ?_ _) | (with_reducible refine Kd.C_drew ?_))); (case side4 => exact HC0_1.out); rintro e w23 ⟨rfl, hb⟩; refine ⟨_, rfl, ?_⟩; have n0_ := Aside0.mk (blk_below (g := gb127) (o := .cells #[.slice A0_0 l0_0.length c0_0, .slice A0_1 l0_1.length c0_1] 25 (0, 0)) (by (with_reducible repeat (first | refine blk_drewN ?_ _ | refine blk_drew ?_ | refine blk_alloc ?_ _)); exact BK127.out) hb); have n1_ := Aside0.mk (below_step (by repeat (first | (with_reducible first | exact HB.out | apply below_alloc | apply pw_below_drewN | apply below_drew1 | refine below_set ?_ GE127.out) | exact HB.out)) hb); clear BK127; clear HB; have BK127 := n0_; have HB := n1_; clear n0_ n1_; (try clear hb); (try clear hb2); (try clear hk); (try clear hi)))
   go_meet
   case rel => exact ⟨_, (true), (by first | rfl | (simp; done) | (simp [*]; done)), H', ⟨by first | omega | exact Nat.le_refl _⟩, ⟨by (with_reducible repeat (first | refine blk_drewN ?_ _ | refine blk_drew ?_ | refine blk_alloc ?_ _)); exact BK127.out⟩, ⟨by repeat (first | (with_reducible first | exact HB.out | apply below_alloc | apply pw_below_drewN | apply below_drew1 | refine below_set ?_ GE127.out) | exact HB.out)⟩⟩
 case rest =>
  clear HC5
  try clear c1
  try clear c2
  try clear p2
  try clear c8
  try clear c9
  try clear c9b0
  try clear c13
  try clear c13b0
  try clear c18
  try clear c22
  try clear hcz10_0
  try clear hcz10_1
  try clear hcz14_0
  try clear hcz14_1
  try clear hcz16_0
  try clear hcz16_1
  try clear hcz18_0
  try clear hcz18_1
  try clear hcz20_0
  try clear hcz20_1
  try clear hcz22_0
  try clear hcz22_1
  try clear hfz10_0
  try clear hfz10_1
  try clear hfz14_0
  try clear hfz14_1
  try clear hfz16_0
  try clear hfz16_1
  try clear hfz18_0
  try clear hfz18_1
  try clear hfz20_0
  try clear hfz20_1
  try clear hfz22_0
  try clear hfz22_1
  obtain ⟨kq, x27_4, rfl, HA, HJ4, BK127, HB⟩ := hcut
  cases kq with
  | zero => exact absurd HA.out (by simp [tariff_Price.j0])
  | succ kj4 =>
   have H := HA.out
   clear HA
   simp only [tariff_Price.j0] at H
   by_cases c24 : x27_4 = true
   ·subst c24
    have H1 : (some (0, 2)) = some (r1, r2) := by rw [if_pos rfl] at H; exact H
    clear H
    have H := H1
    clear H1
    simp only [Option.some.injEq, Prod.mk.injEq] at H
    obtain ⟨rfl, rfl⟩ := H
    go_wp2
    go_ret2
    exact ⟨by first | rfl | (simp [errW_none, errW_some] <;> rfl) | (simp [*, errW_none, errW_some] <;> rfl), by repeat (first | (with_reducible first | exact HB.out | apply below_alloc | apply pw_below_drewN | apply below_drew1 | refine below_set ?_ GE127.out) | exact HB.out)⟩
   ·replace c24 := Bool.eq_false_iff.mpr c24
    subst c24
    have H1 : ((tariff_rate.f kj4 l0_0 l0_1 a1).bind fun bt130 => (if a1 = 0 then (some (0, 6)) else (if bt130.1 = 0 then (some (0, 6)) else ((tariff_price.f bt130.1 bt130.2.1 bt130.2.2 a2 a3).bind fun bt136 => (some (bt136.1, bt136.2)))))) = some (r1, r2) := by rw [if_neg (show ¬ (false = true) by decide)] at H; exact H
    clear H
    have H := H1
    clear H1
    replace H := Option.bind_eq_some_iff.mp H
    obtain ⟨⟨t130, t131, t134⟩, A250, H⟩ := H
    replace H : (if a1 = 0 then (some (0, 6)) else (if t130 = 0 then (some (0, 6)) else ((tariff_price.f t130 t131 t134 a2 a3).bind fun bt136 => (some (bt136.1, bt136.2))))) = some (r1, r2) := H
    have A25 := Aside0.mk A250
    clear A250
    by_cases c26 : a1 = 0
    ·rw [if_pos c26] at H
     have c26b0 : (a1 == 0) = true := beq_iff_eq.mpr c26
     have c26b1 : (a1 != 0) = false := bne_eq_false_iff_eq.mpr c26
     clear c26
     simp only [Option.some.injEq, Prod.mk.injEq] at H
     obtain ⟨rfl, rfl⟩ := H
     have hcz27_0 : wc.cell? ⟨gb127, 0, none⟩ = some (.slice A0_0 l0_0.length c0_0) := (blk_cell BK127.out 0).trans rfl
     have hcz27_1 : wc.cell? ⟨gb127, 1, none⟩ = some (.slice A0_1 l0_1.length c0_1) := (blk_cell BK127.out 1).trans rfl
     have hfz27_0 := blk_frozen BK127.out 0
     have hfz27_1 := blk_frozen BK127.out 1
     go_wp2_with (first | ((with_reducible refine gate_callee (f := 41) rfl ?_); refine goesL_ (some 30) rfl rfl Tryd.func41 (by kernel_rfl) rfl #[.agg #[.slice A0_0 l0_0.length c0_0, .slice A0_1 l0_1.length c0_1], .int .u8 a1] rfl (by (try simp only [List.map_toArray, List.map_cons, List.map_nil]); first | done | rfl | (simp only [List.length_drop, List.length_take]; rfl)) ?_; (with_reducible refine (tariff_rate.calls kj4 (fun k_ => k_ < w.heap.size) _ _ l0_0 _ _ l0_1 a1 t130 t131 t134 _ ?side1 ?side2 ?side3 A25.out).mono ?_); (case side1 => exact Kd.V_mk HC0_0.out (Kd.F_below (Kd.C_F k57_heap HR0_0.out) (by repeat (first | (with_reducible first | exact HB.out | apply below_alloc | apply pw_below_drewN | apply below_drew1 | refine below_set ?_ GE127.out) | exact HB.out)))); (case side2 => repeat (first | exact (Kd.C_below HR0_1.out HB.out) | (with_reducible refine Kd.C_alloc ?_ _) | (with_reducible refine Kd.C_drewN ?_ _) | (with_reducible refine Kd.C_drew ?_))); (case side3 => exact HC0_1.out); rintro e w28 ⟨v132, rfl, ho0, hb⟩; refine ⟨_, rfl, ?_⟩; have n0_ := Aside0.mk (Kd.V_lower (Kd.V_mono (ok' := fun k_ => k_ ≠ gb127) ho0 (fun k_ hk_ => Or.elim hk_ (fun hs_ => fun e_ => Nat.not_le.2 hs_ (by rw [e_]; exact GW127.out)) (fun hn_ => (Kd.freshB (g := gb127) (o := .cells #[.slice A0_0 l0_0.length c0_0, .slice A0_1 l0_1.length c0_1] 25 (0, 0)) (by (with_reducible repeat (first | refine blk_drewN ?_ _ | refine blk_drew ?_ | refine blk_alloc ?_ _)); exact BK127.out) k_ hn_)))) (below_size (by repeat (first | (with_reducible first | exact HB.out | apply below_alloc | apply pw_below_drewN | apply below_drew1 | refine below_set ?_ GE127.out) | exact HB.out)))); have n1_ := Aside0.mk (blk_below (g := gb127) (o := .cells #[.slice A0_0 l0_0.length c0_0, .slice A0_1 l0_1.length c0_1] 25 (0, 0)) (by (with_reducible repeat (first | refine blk_drewN ?_ _ | refine blk_drew ?_ | refine blk_alloc ?_ _)); exact BK127.out) hb); have n2_ := Aside0.mk (below_step (by repeat (first | (with_reducible first | exact HB.out | apply below_alloc | apply pw_below_drewN | apply below_drew1 | refine below_set ?_ GE127.out) | exact HB.out)) hb); clear BK127; clear HB; have HO133 := n0_; have BK127 := n1_; have HB := n2_; clear n0_ n1_ n2_; (try clear hb); (try clear hb2); (try clear hk); (try clear hi); (try clear ho0)) | ((with_reducible refine gate_dst (N := 10) rfl ?_); refine box_event ?hg (N := 10) ?hd (cs := #[.int .u8 0, .slice none 0 0, .int .i64 0]) (t := 57) ?hr ?_; (case hd => rfl); (case hg => rfl); (case hr => first | (go_simp; done) | (go_simp; rfl)); intro gb135 hg w29 hbox hb; have n0_ := Aside0.mk (Kd.V_below (Kd.V_elderB (by (with_reducible repeat (first | apply Kd.V_alloc | apply Kd.V_drewN | apply Kd.V_drew)); exact HO133.out) gb135 (Nat.le_of_eq hg.symm)) hb); have n1_ := Aside0.mk (blk_below (g := gb127) (o := .cells #[.slice A0_0 l0_0.length c0_0, .slice A0_1 l0_1.length c0_1] 25 (0, 0)) (by (with_reducible repeat (first | refine blk_drewN ?_ _ | refine blk_drew ?_ | refine blk_alloc ?_ _)); exact BK127.out) hb); have n2_ := Aside0.mk (below_step (by repeat (first | (with_reducible first | exact HB.out | apply below_alloc | apply pw_below_drewN | apply below_drew1 | refine below_set ?_ GE127.out) | exact HB.out)) hb); have n3_ := Aside0.mk (hbox); have n4_ := Aside0.mk ((by rw [hg]; exact (below_size (by repeat (first | (with_reducible first | exact HB.out | apply below_alloc | apply pw_below_drewN | apply below_drew1 | refine below_set ?_ GE127.out) | exact HB.out))) : w.heap.size ≤ gb135)); have n5_ := Aside0.mk ((by rw [hg]; exact (below_size (by repeat (first | (with_reducible first | exact HB.out | apply below_alloc | apply pw_below_drewN | apply below_drew1 | refine below_set ?_ GE127.out) | exact HB.out))) : w.heap.size ≤ gb135)); have n6_ := Aside0.mk ((by rw [hg]; exact Nat.ne_of_lt (blk_lt (g := gb127) (o := .cells #[.slice A0_0 l0_0.length c0_0, .slice A0_1 l0_1.length c0_1] 25 (0, 0)) (by (with_reducible repeat (first | refine blk_drewN ?_ _ | refine blk_drew ?_ | refine blk_alloc ?_ _)); exact BK127.out)) : gb127 ≠ gb135)); have n7_ := Aside0.mk ((by rw [hg]; exact Nat.ne_of_gt (blk_lt (g := gb127) (o := .cells #[.slice A0_0 l0_0.length c0_0, .slice A0_1 l0_1.length c0_1] 25 (0, 0)) (by (with_reducible repeat (first | refine blk_drewN ?_ _ | refine blk_drew ?_ | refine blk_alloc ?_ _)); exact BK127.out)) : gb135 ≠ gb127)); clear HO133; clear BK127; clear HB; have HO133 := n0_; have BK127 := n1_; have HB := n2_; have BK135 := n3_; have GW135 := n4_; have GE135 := n5_; have NB127_135 := n6_; have NB135_127 := n7_; clear n0_ n1_ n2_ n3_ n4_ n5_ n6_ n7_; clear hb hbox hg; have hnb30 := NB135_127.out; have hnc30 := NB127_135.out; have hcz31_0 : w29.cell? ⟨gb135, 0, none⟩ = some (.int .u8 0) := (blk_cell BK135.out 0).trans rfl; have hcz31_1 : w29.cell? ⟨gb135, 1, none⟩ = some (.slice none 0 0) := (blk_cell BK135.out 1).trans rfl; have hcz31_2 : w29.cell? ⟨gb135, 2, none⟩ = some (.int .i64 0) := (blk_cell BK135.out 2).trans rfl; have hfz31_0 := blk_frozen BK135.out 0; have hfz31_1 := blk_frozen BK135.out 1; have hfz31_2 := blk_frozen BK135.out 2; obtain ⟨Ao32, co32, eo32⟩ := Kd.V_slice HO133.out; subst eo32))
     go_ret2
     exact ⟨by first | rfl | (simp [errW_none, errW_some] <;> rfl) | (simp [*, errW_none, errW_some] <;> rfl), by repeat (first | (with_reducible first | exact HB.out | apply below_alloc | apply pw_below_drewN | apply below_drew1 | refine below_set ?_ GE127.out | refine below_set ?_ GE135.out) | exact HB.out)⟩
    ·rw [if_neg c26] at H
     have c26b0 : (a1 == 0) = false := beq_eq_false_iff_ne.mpr c26
     have c26b1 : (a1 != 0) = true := bne_iff_ne.mpr c26
     by_cases c33 : t130 = 0
     ·rw [if_pos c33] at H
      have c33b0 : (t130 == 0) = true := beq_iff_eq.mpr c33
      have c33b1 : (t130 != 0) = false := bne_eq_false_iff_eq.mpr c33
      clear c33
      simp only [Option.some.injEq, Prod.mk.injEq] at H
      obtain ⟨rfl, rfl⟩ := H
      have hcz34_0 : wc.cell? ⟨gb127, 0, none⟩ = some (.slice A0_0 l0_0.length c0_0) := (blk_cell BK127.out 0).trans rfl
      have hcz34_1 : wc.cell? ⟨gb127, 1, none⟩ = some (.slice A0_1 l0_1.length c0_1) := (blk_cell BK127.out 1).trans rfl
      have hfz34_0 := blk_frozen BK127.out 0
      have hfz34_1 := blk_frozen BK127.out 1
      go_wp2_with (first | ((with_reducible refine gate_callee (f := 41) rfl ?_); refine goesL_ (some 30) rfl rfl Tryd.func41 (by kernel_rfl) rfl #[.agg #[.slice A0_0 l0_0.length c0_0, .slice A0_1 l0_1.length c0_1], .int .u8 a1] rfl (by (try simp only [List.map_toArray, List.map_cons, List.map_nil]); first | done | rfl | (simp only [List.length_drop, List.length_take]; rfl)) ?_; (with_reducible refine (tariff_rate.calls kj4 (fun k_ => k_ < w.heap.size) _ _ l0_0 _ _ l0_1 a1 t130 t131 t134 _ ?side1 ?side2 ?side3 A25.out).mono ?_); (case side1 => exact Kd.V_mk HC0_0.out (Kd.F_below (Kd.C_F k57_heap HR0_0.out) (by repeat (first | (with_reducible first | exact HB.out | apply below_alloc | apply pw_below_drewN | apply below_drew1 | refine below_set ?_ GE127.out) | exact HB.out)))); (case side2 => repeat (first | exact (Kd.C_below HR0_1.out HB.out) | (with_reducible refine Kd.C_alloc ?_ _) | (with_reducible refine Kd.C_drewN ?_ _) | (with_reducible refine Kd.C_drew ?_))); (case side3 => exact HC0_1.out); rintro e w35 ⟨v132, rfl, ho0, hb⟩; refine ⟨_, rfl, ?_⟩; have n0_ := Aside0.mk (Kd.V_lower (Kd.V_mono (ok' := fun k_ => k_ ≠ gb127) ho0 (fun k_ hk_ => Or.elim hk_ (fun hs_ => fun e_ => Nat.not_le.2 hs_ (by rw [e_]; exact GW127.out)) (fun hn_ => (Kd.freshB (g := gb127) (o := .cells #[.slice A0_0 l0_0.length c0_0, .slice A0_1 l0_1.length c0_1] 25 (0, 0)) (by (with_reducible repeat (first | refine blk_drewN ?_ _ | refine blk_drew ?_ | refine blk_alloc ?_ _)); exact BK127.out) k_ hn_)))) (below_size (by repeat (first | (with_reducible first | exact HB.out | apply below_alloc | apply pw_below_drewN | apply below_drew1 | refine below_set ?_ GE127.out) | exact HB.out)))); have n1_ := Aside0.mk (blk_below (g := gb127) (o := .cells #[.slice A0_0 l0_0.length c0_0, .slice A0_1 l0_1.length c0_1] 25 (0, 0)) (by (with_reducible repeat (first | refine blk_drewN ?_ _ | refine blk_drew ?_ | refine blk_alloc ?_ _)); exact BK127.out) hb); have n2_ := Aside0.mk (below_step (by repeat (first | (with_reducible first | exact HB.out | apply below_alloc | apply pw_below_drewN | apply below_drew1 | refine below_set ?_ GE127.out) | exact HB.out)) hb); clear BK127; clear HB; have HO133 := n0_; have BK127 := n1_; have HB := n2_; clear n0_ n1_ n2_; (try clear hb); (try clear hb2); (try clear hk); (try clear hi); (try clear ho0)) | ((with_reducible refine gate_dst (N := 10) rfl ?_); refine box_event ?hg (N := 10) ?hd (cs := #[.int .u8 0, .slice none 0 0, .int .i64 0]) (t := 57) ?hr ?_; (case hd => rfl); (case hg => rfl); (case hr => first | (go_simp; done) | (go_simp; rfl)); intro gb135 hg w36 hbox hb; have n0_ := Aside0.mk (Kd.V_below (Kd.V_elderB (by (with_reducible repeat (first | apply Kd.V_alloc | apply Kd.V_drewN | apply Kd.V_drew)); exact HO133.out) gb135 (Nat.le_of_eq hg.symm)) hb); have n1_ := Aside0.mk (blk_below (g := gb127) (o := .cells #[.slice A0_0 l0_0.length c0_0, .slice A0_1 l0_1.length c0_1] 25 (0, 0)) (by (with_reducible repeat (first | refine blk_drewN ?_ _ | refine blk_drew ?_ | refine blk_alloc ?_ _)); exact BK127.out) hb); have n2_ := Aside0.mk (below_step (by repeat (first | (with_reducible first | exact HB.out | apply below_alloc | apply pw_below_drewN | apply below_drew1 | refine below_set ?_ GE127.out) | exact HB.out)) hb); have n3_ := Aside0.mk (hbox); have n4_ := Aside0.mk ((by rw [hg]; exact (below_size (by repeat (first | (with_reducible first | exact HB.out | apply below_alloc | apply pw_below_drewN | apply below_drew1 | refine below_set ?_ GE127.out) | exact HB.out))) : w.heap.size ≤ gb135)); have n5_ := Aside0.mk ((by rw [hg]; exact (below_size (by repeat (first | (with_reducible first | exact HB.out | apply below_alloc | apply pw_below_drewN | apply below_drew1 | refine below_set ?_ GE127.out) | exact HB.out))) : w.heap.size ≤ gb135)); have n6_ := Aside0.mk ((by rw [hg]; exact Nat.ne_of_lt (blk_lt (g := gb127) (o := .cells #[.slice A0_0 l0_0.length c0_0, .slice A0_1 l0_1.length c0_1] 25 (0, 0)) (by (with_reducible repeat (first | refine blk_drewN ?_ _ | refine blk_drew ?_ | refine blk_alloc ?_ _)); exact BK127.out)) : gb127 ≠ gb135)); have n7_ := Aside0.mk ((by rw [hg]; exact Nat.ne_of_gt (blk_lt (g := gb127) (o := .cells #[.slice A0_0 l0_0.length c0_0, .slice A0_1 l0_1.length c0_1] 25 (0, 0)) (by (with_reducible repeat (first | refine blk_drewN ?_ _ | refine blk_drew ?_ | refine blk_alloc ?_ _)); exact BK127.out)) : gb135 ≠ gb127)); clear HO133; clear BK127; clear HB; have HO133 := n0_; have BK127 := n1_; have HB := n2_; have BK135 := n3_; have GW135 := n4_; have GE135 := n5_; have NB127_135 := n6_; have NB135_127 := n7_; clear n0_ n1_ n2_ n3_ n4_ n5_ n6_ n7_; clear hb hbox hg; have hnb37 := NB135_127.out; have hnc37 := NB127_135.out; have hcz38_0 : w36.cell? ⟨gb135, 0, none⟩ = some (.int .u8 0) := (blk_cell BK135.out 0).trans rfl; have hcz38_1 : w36.cell? ⟨gb135, 1, none⟩ = some (.slice none 0 0) := (blk_cell BK135.out 1).trans rfl; have hcz38_2 : w36.cell? ⟨gb135, 2, none⟩ = some (.int .i64 0) := (blk_cell BK135.out 2).trans rfl; have hfz38_0 := blk_frozen BK135.out 0; have hfz38_1 := blk_frozen BK135.out 1; have hfz38_2 := blk_frozen BK135.out 2; obtain ⟨Ao39, co39, eo39⟩ := Kd.V_slice HO133.out; subst eo39))
      go_ret2
      exact ⟨by first | rfl | (simp [errW_none, errW_some] <;> rfl) | (simp [*, errW_none, errW_some] <;> rfl), by repeat (first | (with_reducible first | exact HB.out | apply below_alloc | apply pw_below_drewN | apply below_drew1 | refine below_set ?_ GE127.out | refine below_set ?_ GE135.out) | exact HB.out)⟩
     ·rw [if_neg c33] at H
      have c33b0 : (t130 == 0) = false := beq_eq_false_iff_ne.mpr c33
      have c33b1 : (t130 != 0) = true := bne_iff_ne.mpr c33
      replace H := Option.bind_eq_some_iff.mp H
      obtain ⟨⟨t136, t137⟩, A400, H⟩ := H
      replace H : (some (t136, t137)) = some (r1, r2) := H
      have A40 := Aside0.mk A400
      clear A400
      simp only [Option.some.injEq, Prod.mk.injEq] at H
      obtain ⟨rfl, rfl⟩ := H
      have hcz41_0 : wc.cell? ⟨gb127, 0, none⟩ = some (.slice A0_0 l0_0.length c0_0) := (blk_cell BK127.out 0).trans rfl
      have hcz41_1 : wc.cell? ⟨gb127, 1, none⟩ = some (.slice A0_1 l0_1.length c0_1) := (blk_cell BK127.out 1).trans rfl
      have hfz41_0 := blk_frozen BK127.out 0
      have hfz41_1 := blk_frozen BK127.out 1
      go_wp2_with (first | ((with_reducible refine gate_callee (f := 41) rfl ?_); refine goesL_ (some 30) rfl rfl Tryd.func41 (by kernel_rfl) rfl #[.agg #[.slice A0_0 l0_0.length c0_0, .slice A0_1 l0_1.length c0_1], .int .u8 a1] rfl (by (try simp only [List.map_toArray, List.map_cons, List.map_nil]); first | done | rfl | (simp only [List.length_drop, List.length_take]; rfl)) ?_; (with_reducible refine (tariff_rate.calls kj4 (fun k_ => k_ < w.heap.size) _ _ l0_0 _ _ l0_1 a1 t130 t131 t134 _ ?side1 ?side2 ?side3 A25.out).mono ?_); (case side1 => exact Kd.V_mk HC0_0.out (Kd.F_below (Kd.C_F k57_heap HR0_0.out) (by repeat (first | (with_reducible first | exact HB.out | apply below_alloc | apply pw_below_drewN | apply below_drew1 | refine below_set ?_ GE127.out) | exact HB.out)))); (case side2 => repeat (first | exact (Kd.C_below HR0_1.out HB.out) | (with_reducible refine Kd.C_alloc ?_ _) | (with_reducible refine Kd.C_drewN ?_ _) | (with_reducible refine Kd.C_drew ?_))); (case side3 => exact HC0_1.out); rintro e w42 ⟨v132, rfl, ho0, hb⟩; refine ⟨_, rfl, ?_⟩; have n0_ := Aside0.mk (Kd.V_lower (Kd.V_mono (ok' := fun k_ => k_ ≠ gb127) ho0 (fun k_ hk_ => Or.elim hk_ (fun hs_ => fun e_ => Nat.not_le.2 hs_ (by rw [e_]; exact GW127.out)) (fun hn_ => (Kd.freshB (g := gb127) (o := .cells #[.slice A0_0 l0_0.length c0_0, .slice A0_1 l0_1.length c0_1] 25 (0, 0)) (by (with_reducible repeat (first | refine blk_drewN ?_ _ | refine blk_drew ?_ | refine blk_alloc ?_ _)); exact BK127.out) k_ hn_)))) (below_size (by repeat (first | (with_reducible first | exact HB.out | apply below_alloc | apply pw_below_drewN | apply below_drew1 | refine below_set ?_ GE127.out) | exact HB.out)))); have n1_ := Aside0.mk (blk_below (g := gb127) (o := .cells #[.slice A0_0 l0_0.length c0_0, .slice A0_1 l0_1.length c0_1] 25 (0, 0)) (by (with_reducible repeat (first | refine blk_drewN ?_ _ | refine blk_drew ?_ | refine blk_alloc ?_ _)); exact BK127.out) hb); have n2_ := Aside0.mk (below_step (by repeat (first | (with_reducible first | exact HB.out | apply below_alloc | apply pw_below_drewN | apply below_drew1 | refine below_set ?_ GE127.out) | exact HB.out)) hb); clear BK127; clear HB; have HO133 := n0_; have BK127 := n1_; have HB := n2_; clear n0_ n1_ n2_; (try clear hb); (try clear hb2); (try clear hk); (try clear hi); (try clear ho0)) | ((with_reducible refine gate_dst (N := 10) rfl ?_); refine box_event ?hg (N := 10) ?hd (cs := #[.int .u8 0, .slice none 0 0, .int .i64 0]) (t := 57) ?hr ?_; (case hd => rfl); (case hg => rfl); (case hr => first | (go_simp; done) | (go_simp; rfl)); intro gb135 hg w43 hbox hb; have n0_ := Aside0.mk (Kd.V_below (Kd.V_elderB (by (with_reducible repeat (first | apply Kd.V_alloc | apply Kd.V_drewN | apply Kd.V_drew)); exact HO133.out) gb135 (Nat.le_of_eq hg.symm)) hb); have n1_ := Aside0.mk (blk_below (g := gb127) (o := .cells #[.slice A0_0 l0_0.length c0_0, .slice A0_1 l0_1.length c0_1] 25 (0, 0)) (by (with_reducible repeat (first | refine blk_drewN ?_ _ | refine blk_drew ?_ | refine blk_alloc ?_ _)); exact BK127.out) hb); have n2_ := Aside0.mk (below_step (by repeat (first | (with_reducible first | exact HB.out | apply below_alloc | apply pw_below_drewN | apply below_drew1 | refine below_set ?_ GE127.out) | exact HB.out)) hb); have n3_ := Aside0.mk (hbox); have n4_ := Aside0.mk ((by rw [hg]; exact (below_size (by repeat (first | (with_reducible first | exact HB.out | apply below_alloc | apply pw_below_drewN | apply below_drew1 | refine below_set ?_ GE127.out) | exact HB.out))) : w.heap.size ≤ gb135)); have n5_ := Aside0.mk ((by rw [hg]; exact (below_size (by repeat (first | (with_reducible first | exact HB.out | apply below_alloc | apply pw_below_drewN | apply below_drew1 | refine below_set ?_ GE127.out) | exact HB.out))) : w.heap.size ≤ gb135)); have n6_ := Aside0.mk ((by rw [hg]; exact Nat.ne_of_lt (blk_lt (g := gb127) (o := .cells #[.slice A0_0 l0_0.length c0_0, .slice A0_1 l0_1.length c0_1] 25 (0, 0)) (by (with_reducible repeat (first | refine blk_drewN ?_ _ | refine blk_drew ?_ | refine blk_alloc ?_ _)); exact BK127.out)) : gb127 ≠ gb135)); have n7_ := Aside0.mk ((by rw [hg]; exact Nat.ne_of_gt (blk_lt (g := gb127) (o := .cells #[.slice A0_0 l0_0.length c0_0, .slice A0_1 l0_1.length c0_1] 25 (0, 0)) (by (with_reducible repeat (first | refine blk_drewN ?_ _ | refine blk_drew ?_ | refine blk_alloc ?_ _)); exact BK127.out)) : gb135 ≠ gb127)); clear HO133; clear BK127; clear HB; have HO133 := n0_; have BK127 := n1_; have HB := n2_; have BK135 := n3_; have GW135 := n4_; have GE135 := n5_; have NB127_135 := n6_; have NB135_127 := n7_; clear n0_ n1_ n2_ n3_ n4_ n5_ n6_ n7_; clear hb hbox hg; have hnb44 := NB135_127.out; have hnc44 := NB127_135.out; have hcz45_0 : w43.cell? ⟨gb135, 0, none⟩ = some (.int .u8 0) := (blk_cell BK135.out 0).trans rfl; have hcz45_1 : w43.cell? ⟨gb135, 1, none⟩ = some (.slice none 0 0) := (blk_cell BK135.out 1).trans rfl; have hcz45_2 : w43.cell? ⟨gb135, 2, none⟩ = some (.int .i64 0) := (blk_cell BK135.out 2).trans rfl; have hfz45_0 := blk_frozen BK135.out 0; have hfz45_1 := blk_frozen BK135.out 1; have hfz45_2 := blk_frozen BK135.out 2; obtain ⟨Ao46, co46, eo46⟩ := Kd.V_slice HO133.out; subst eo46) | ((with_reducible refine gate_callee (f := 42) rfl ?_); refine goesL_ (some 41) rfl rfl Tryd.func42 (by kernel_rfl) rfl #[.agg #[.int .u8 t130, .slice Ao46 t131.length co46, .int .i64 t134], .int .i64 a2, .int .i64 a3] rfl (by (try simp only [List.map_toArray, List.map_cons, List.map_nil]); first | done | rfl | (simp only [List.length_drop, List.length_take]; rfl)) ?_; (with_reducible refine (tariff_price.calls t130 _ _ t131 t134 a2 a3 t136 t137 _ ?side1 ?side2 A40.out).mono ?_); (case side1 => refine (Kd.V_reads' (e := 61) (base := w.heap.size) (ok := fun k_ => (k_ ≠ gb127 ∧ k_ ≠ gb135)) (n := t131.length) (c := co46) ?_).2.2; exact (by (with_reducible repeat (first | apply Kd.V_alloc | apply Kd.V_drewN | apply Kd.V_drew)); exact (Kd.V_mono (Kd.V_far (p := ⟨gb135, 2, none⟩) (Kd.V_far (p := ⟨gb135, 1, none⟩) (Kd.V_far (p := ⟨gb135, 0, none⟩) (Kd.V_mono HO133.out (fun k_ hk => (⟨hk, hk.2⟩ : _ ∧ k_ ≠ gb135))) (fun _ hk => hk.2) (.int .u8 t130)) (fun _ hk => hk.2) (.slice Ao46 t131.length co46)) (fun _ hk => hk.2) (.int .i64 t134)) (fun _ h_ => h_.1)))); (case side2 => exact (Kd.V_reads' HO133.out).2.1); rintro e w47 ⟨rfl, hb⟩; refine ⟨_, rfl, ?_⟩; have n0_ := Aside0.mk (Kd.V_below (by (with_reducible repeat (first | apply Kd.V_alloc | apply Kd.V_drewN | apply Kd.V_drew)); exact (Kd.V_mono (Kd.V_far (p := ⟨gb135, 2, none⟩) (Kd.V_far (p := ⟨gb135, 1, none⟩) (Kd.V_far (p := ⟨gb135, 0, none⟩) (Kd.V_mono HO133.out (fun k_ hk => (⟨hk, hk.2⟩ : _ ∧ k_ ≠ gb135))) (fun _ hk => hk.2) (.int .u8 t130)) (fun _ hk => hk.2) (.slice Ao46 t131.length co46)) (fun _ hk => hk.2) (.int .i64 t134)) (fun _ h_ => h_.1))) hb); have n1_ := Aside0.mk (blk_below (g := gb127) (o := .cells #[.slice A0_0 l0_0.length c0_0, .slice A0_1 l0_1.length c0_1] 25 (0, 0)) (by (with_reducible repeat (first | refine blk_drewN ?_ _ | refine blk_drew ?_ | refine blk_alloc ?_ _)); refine blk_far ?_ NB127_135.out _; (with_reducible repeat (first | refine blk_drewN ?_ _ | refine blk_drew ?_ | refine blk_alloc ?_ _)); refine blk_far ?_ NB127_135.out _; (with_reducible repeat (first | refine blk_drewN ?_ _ | refine blk_drew ?_ | refine blk_alloc ?_ _)); refine blk_far ?_ NB127_135.out _; (with_reducible repeat (first | refine blk_drewN ?_ _ | refine blk_drew ?_ | refine blk_alloc ?_ _)); exact BK127.out) hb); have n2_ := Aside0.mk (blk_below (g := gb135) (o := .cells #[.int .u8 t130, .slice Ao46 t131.length co46, .int .i64 t134] 57 (0, 0)) (by (with_reducible repeat (first | refine blk_drewN ?_ _ | refine blk_drew ?_ | refine blk_alloc ?_ _)); refine blk_put (cs := #[.int .u8 t130, .slice Ao46 t131.length co46, .int .i64 0]) ?_ 2 _ rfl; (with_reducible repeat (first | refine blk_drewN ?_ _ | refine blk_drew ?_ | refine blk_alloc ?_ _)); refine blk_put (cs := #[.int .u8 t130, .slice none 0 0, .int .i64 0]) ?_ 1 _ rfl; (with_reducible repeat (first | refine blk_drewN ?_ _ | refine blk_drew ?_ | refine blk_alloc ?_ _)); refine blk_put (cs := #[.int .u8 0, .slice none 0 0, .int .i64 0]) ?_ 0 _ rfl; (with_reducible repeat (first | refine blk_drewN ?_ _ | refine blk_drew ?_ | refine blk_alloc ?_ _)); exact BK135.out) hb); have n3_ := Aside0.mk (below_step (by repeat (first | (with_reducible first | exact HB.out | apply below_alloc | apply pw_below_drewN | apply below_drew1 | refine below_set ?_ GE127.out | refine below_set ?_ GE135.out) | exact HB.out)) hb); clear HO133; clear BK127; clear BK135; clear HB; have HO133 := n0_; have BK127 := n1_; have BK135 := n2_; have HB := n3_; clear n0_ n1_ n2_ n3_; (try clear hb); (try clear hb2); (try clear hk); (try clear hi)))
      go_ret2
      exact ⟨by first | rfl | (simp [errW_none, errW_some] <;> rfl) | (simp [*, errW_none, errW_some] <;> rfl), by repeat (first | (with_reducible first | exact HB.out | apply below_alloc | apply pw_below_drewN | apply below_drew1 | refine below_set ?_ GE127.out | refine below_set ?_ GE135.out) | exact HB.out)⟩
end Go.Proofs.YtfglcfbcdhjcdaaDoor.Q

namespace Go.Proofs.YtfglcfbcdhjcdaaDoor.Q
open Go.RowKit Go.Proofs.YtfglcfbcdhjcdaaDoorW.PrintWords Go.Proofs.YtfglcfbcdhjcdaaDoorW.PrintLast Go.Proofs.YtfglcfbcdhjcdaaDoorW.PrintMore
attribute [local go_sem] max2_int min2_int max_two min_two max_three min_three max_four min_four
set_option linter.unusedVariables false
set_option linter.unusedSimpArgs false
def letterbaglaw24_levels.l0 : Nat → Int → List Int → List Int → Int → Int → Option (List Int)
 | 0, _, _, _, _, _ => none
 | k + 1, x1, x2, x7, x12, x13 => if x13 < x12 then (if (x2.length : Int) > 0 then (if (x2.length : Int) = 0 then (none) else (if 0 ≤ (Int.tmod x13 (x2.length : Int)) then (if (Int.tmod x13 (x2.length : Int)) < (x2.length : Int) then (if x1 = 0 then (none) else (if x7.length < 17592186044416 then (letterbaglaw24_levels.l0 k x1 x2 (x7 ++ [Int.tmod (wrap64 (rd x2 (Int.tmod x13 (x2.length : Int)))) x1]) x12 (wrap64 (x13 + 1))) else (none))) else (none)) else (none))) else (if x7.length < 17592186044416 then (letterbaglaw24_levels.l0 k x1 x2 (x7 ++ [0]) x12 (wrap64 (x13 + 1))) else (none))) else (some x7)
def letterbaglaw24_levels.f (k : Nat) (a0_0 : Int) (a0_1 : Int) (a0_2 : ByteArray) (l0_3 : List (S48)) (a1 : Int) (l2 : List Int) : Option (List Int) := letterbaglaw24_levels.l0 k a1 l2 ([] : List Int) (l0_3.length : Int) 0
set_option maxHeartbeats 8000000 in
set_option maxRecDepth 100000 in
theorem letterbaglaw24_levels.calls (k : Nat) (a0_0 : Int) (a0_1 : Int) (a0_2 : ByteArray) (A0_3 : Option Addr) (c0_3 : Nat) (l0_3 : List (S48)) (a1 : Int) (A2 : Option Addr) (c2 : Nat) (l2 : List Int) (r : List Int) (w : World) (hr0_3 : Kd.C k48 w A0_3 l0_3.length l0_3) (hc0_3 : l0_3.length ≤ c0_3) (hr2 : Kd.C (Kd.int .u8) w A2 l2.length l2) (hc2 : l2.length ≤ c2) (h : letterbaglaw24_levels.f k a0_0 a0_1 a0_2 l0_3 a1 l2 = some r) :
  Calls Tryd.prog 15 #[.agg #[.int .u8 a0_0, .int .u8 a0_1, .string a0_2, .slice A0_3 l0_3.length c0_3], .int .i64 a1, .slice A2 l2.length c2] w fun e w' => ∃ v0_ : Value, e = .returned (v0_) ∧ Kd.R (Kd.int .i64) 3 w' w.heap.size (fun _ => True) v0_ r ∧ Below w.heap.size w w' := by
 have hu36 := Tryd.underlying36
 have HR0_3 := Aside0.mk hr0_3
 have HC0_3 := Aside0.mk hc0_3
 clear hr0_3 hc0_3
 have HR2 := Aside0.mk hr2
 have HC2 := Aside0.mk hc2
 clear hr2 hc2
 have HB := Aside0.mk (Below.refl w.heap.size w)
 have H : (letterbaglaw24_levels.l0 k a1 l2 ([] : List Int) (l0_3.length : Int) 0) = some r := h
 clear h
 have H' := Aside0.mk H
 clear H
 go_enter Tryd.func15, Tryd.ntmps15
 go_wp2_with (first | ((with_reducible refine gate_dst (N := 3) rfl ?_); refine box_event ?hg (N := 3) ?hd (cs := #[.int .u8 a0_0, .int .u8 a0_1, .string a0_2, .slice A0_3 l0_3.length c0_3]) (t := 36) ?hr ?_; (case hd => rfl); (case hg => rfl); (case hr => first | (go_simp; done) | (go_simp; rfl)); intro gb242 hg w4 hbox hb; have n0_ := Aside0.mk (below_step (by repeat (first | (with_reducible first | exact HB.out | apply below_alloc | apply pw_below_drewN | apply below_drew1) | exact HB.out)) hb); have n1_ := Aside0.mk (hbox); have n2_ := Aside0.mk ((by rw [hg]; exact (below_size (by repeat (first | (with_reducible first | exact HB.out | apply below_alloc | apply pw_below_drewN | apply below_drew1) | exact HB.out))) : w.heap.size ≤ gb242)); have n3_ := Aside0.mk ((by rw [hg]; exact (below_size (by repeat (first | (with_reducible first | exact HB.out | apply below_alloc | apply pw_below_drewN | apply below_drew1) | exact HB.out))) : w.heap.size ≤ gb242)); clear HB; have HB := n0_; have BK242 := n1_; have GW242 := n2_; have GE242 := n3_; clear n0_ n1_ n2_ n3_; clear hb hbox hg; have hcz5_0 : w4.cell? ⟨gb242, 0, none⟩ = some (.int .u8 a0_0) := (blk_cell BK242.out 0).trans rfl; have hcz5_1 : w4.cell? ⟨gb242, 1, none⟩ = some (.int .u8 a0_1) := (blk_cell BK242.out 1).trans rfl; have hcz5_2 : w4.cell? ⟨gb242, 2, none⟩ = some (.string a0_2) := (blk_cell BK242.out 2).trans rfl; have hcz5_3 : w4.cell? ⟨gb242, 3, none⟩ = some (.slice A0_3 l0_3.length c0_3) := (blk_cell BK242.out 3).trans rfl; have hfz5_0 := blk_frozen BK242.out 0; have hfz5_1 := blk_frozen BK242.out 1; have hfz5_2 := blk_frozen BK242.out 2; have hfz5_3 := blk_frozen BK242.out 3))
 go_loopg [7, 13] k (fun kq v7 v13 w' => ∃ (x7_1 : List Int) (x13_1 : Int), v13 = .int .i64 x13_1 ∧ Aside0 (letterbaglaw24_levels.l0 kq a1 l2 x7_1 (l0_3.length : Int) x13_1 = some r) ∧ Aside0 (kq ≤ k) ∧ Aside0 (Kd.R (Kd.int .i64) 3 w' w.heap.size (fun _ => True) v7 x7_1) ∧ Aside0 (w'.heap[gb242]? = some (.cells #[.int .u8 a0_0, .int .u8 a0_1, .string a0_2, (.slice A0_3 l0_3.length c0_3)] 36 (0, 0))) ∧ Aside0 (Below w.heap.size w w'))
 case atStart => exact ⟨(([] : List Int)), (0), (by first | rfl | (simp; done) | (simp [*]; done)), H', ⟨Nat.le_refl _⟩, ⟨by first | exact Kd.R_nil _ _ _ _ _ | exact Kd.N_nil _ _ _ _ _ | exact Kd.V_nil _ _ _ _ _ | exact Kd.Q_nil _ _ _ _ _ | exact Kd.S_nil _ _ _ _ _⟩, ⟨by (with_reducible repeat (first | refine blk_drewN ?_ _ | refine blk_drew ?_ | refine blk_alloc ?_ _)); exact BK242.out⟩, ⟨by repeat (first | (with_reducible first | exact HB.out | apply below_alloc | apply pw_below_drewN | apply below_drew1 | refine below_set ?_ GE242.out) | exact HB.out)⟩⟩
 case round =>
  clear H'
  try clear c1
  try clear c2
  try clear p2
  try clear hcz5_0
  try clear hcz5_1
  try clear hcz5_2
  try clear hcz5_3
  try clear hfz5_0
  try clear hfz5_1
  try clear hfz5_2
  try clear hfz5_3
  obtain ⟨x7_1, x13_1, rfl, HA, HK1, HO_7, BK242, HB⟩ := hrel
  cases gk with
  | zero => exact absurd HA.out (by simp [letterbaglaw24_levels.l0])
  | succ k1 =>
   have H := HA.out
   clear HA
   simp only [letterbaglaw24_levels.l0] at H
   by_cases c6 : x13_1 < (l0_3.length : Int)
   ·rw [if_pos c6] at H
    have c6b0 : decide (x13_1 < (l0_3.length : Int)) = true := decide_eq_true c6
    clear c6
    by_cases c7 : (l2.length : Int) > 0
    ·rw [if_pos c7] at H
     have c7b0 : decide (0 < (l2.length : Int)) = true := decide_eq_true c7
     have c7b1 : decide (0 < l2.length) = true := decide_eq_true (by omega)
     clear c7
     by_cases c8 : (l2.length : Int) = 0
     ·rw [if_pos c8] at H
      exact absurd H (by simp)
     ·rw [if_neg c8] at H
      have c8b0 : ((l2.length : Int) == 0) = false := beq_eq_false_iff_ne.mpr c8
      have c8b1 : ((l2.length : Int) != 0) = true := bne_iff_ne.mpr c8
      have c8b2 : ¬ (l2 = []) := fun h_ => c8 (by rw [h_]; rfl)
      obtain ⟨ji9, hji9⟩ : ∃ j_ : Int, (Int.tmod x13_1 (l2.length : Int)) = j_ := ⟨_, rfl⟩
      replace H : (if 0 ≤ (ji9) then (if (ji9) < (l2.length : Int) then (if a1 = 0 then (none) else (if x7_1.length < 17592186044416 then (letterbaglaw24_levels.l0 k1 a1 l2 (x7_1 ++ [Int.tmod (wrap64 (rd l2 (ji9))) a1]) (l0_3.length : Int) (wrap64 (x13_1 + 1))) else (none))) else (none)) else (none)) = some r := by first | (rw [hji9] at H; exact H) | (simp only [hji9] at H ⊢; exact H)
      by_cases c10 : 0 ≤ (ji9)
      ·rw [if_pos c10] at H
       have c10b0 : decide (0 ≤ (ji9)) = true := decide_eq_true c10
       clear c10
       by_cases c11 : (ji9) < (l2.length : Int)
       ·rw [if_pos c11] at H
        have c11b0 : decide ((ji9) < (l2.length : Int)) = true := decide_eq_true c11
        clear c11
        by_cases c12 : a1 = 0
        ·rw [if_pos c12] at H
         exact absurd H (by simp)
        ·rw [if_neg c12] at H
         have c12b0 : (a1 == 0) = false := beq_eq_false_iff_ne.mpr c12
         have c12b1 : (a1 != 0) = true := bne_iff_ne.mpr c12
         by_cases c13 : x7_1.length < 17592186044416
         ·rw [if_pos c13] at H
          have LMc13 := Aside0.mk c13
          clear c13
          obtain ⟨y244, hy244⟩ : ∃ y_ : List Int, y_ = (x7_1 ++ [Int.tmod (wrap64 (rd l2 (ji9))) a1]) := ⟨_, rfl⟩
          replace H : (letterbaglaw24_levels.l0 k1 a1 l2 y244 (l0_3.length : Int) (wrap64 (x13_1 + 1))) = some r := by first | (rw [hy244]; with_reducible exact H) | (have H2_ := (Option.bind_some _ _).symm.trans H; rw [hy244]; with_reducible exact H2_) | (have H2_ := (Option.bind_some _ _).symm.trans H; with_reducible exact H2_) | with_reducible exact H | (rw [hy244]; exact H) | exact H
          have Ny244 := Aside0.mk hy244
          clear hy244
          have H' := Aside0.mk H
          clear H
          have p243 : 0 ≤ ((ji9) : Int) := of_decide_eq_true (by first | (with_reducible assumption) | assumption)
          have q243 : (ji9) < (l2.length : Int) := of_decide_eq_true (by first | (with_reducible assumption) | assumption)
          obtain ⟨ad243, e243, hx243_0⟩ := Kd.at_int HR2.out (ji9) p243 q243
          cases e243
          replace hx243_0 := (HB.out.cell (World.block_lt_of_cell? w _ hx243_0)).trans hx243_0
          replace p243 := eq_true p243
          replace q243 := eq_true q243
          go_wp2_with (first | ((with_reducible refine gate_builtin (b := .append) (xs := #[.tmp 29, .tmp 31]) rfl ?_); at_builtin; refine Kd.R_append (Kd.int .i64) (w0 := w) w.heap.size rfl (.tmp 29) (.tmp 31) 38 3 (.int .i64 0) 8 rfl Tryd.underlying38 info3 rfl (by decide) (by omega) u7 x7_1 (Int.tmod (wrap64 (rd l2 (ji9))) a1) [.int .i64 (Int.tmod (wrap64 (rd l2 (ji9))) a1)] (fun _ => True) (fun _ => False) rfl rfl ?aP (fun _ hk => hk.elim) ?aF ?aO ?aB ?aS ?aL ?_; (case aP => exact rfl); (case aB => exact (by repeat (first | (with_reducible first | exact HB.out | apply below_alloc | apply pw_below_drewN | apply below_drew1 | refine below_set ?_ GE242.out) | exact HB.out))); (case aF => exact (fun _ _ => trivial)); (case aO => exact (by (with_reducible repeat (first | apply Kd.R_alloc | apply Kd.R_drewN | apply Kd.R_drew)); exact HO_7.out)); (case aS => exact (below_size (by repeat (first | (with_reducible first | exact HB.out | apply below_alloc | apply pw_below_drewN | apply below_drew1 | refine below_set ?_ GE242.out) | exact HB.out)))); (case aL => have := LMc13.out; omega); intro v245 w14 ho hb hg hat; rw [← Ny244.out] at ho; have n0_ := Aside0.mk (blk_grown (g := gb242) (o := .cells #[.int .u8 a0_0, .int .u8 a0_1, .string a0_2, .slice A0_3 l0_3.length c0_3] 36 (0, 0)) (by (with_reducible repeat (first | refine blk_drewN ?_ _ | refine blk_drew ?_ | refine blk_alloc ?_ _)); exact BK242.out) hg (Kd.R_ne HO_7.out BK242.out (by decide))); have n1_ := Aside0.mk (hb); have n2_ := Aside0.mk (ho); clear BK242; clear HB; clear HO_7; have BK242 := n0_; have HB := n1_; have HO246 := n2_; clear n0_ n1_ n2_; clear ho hb hg hat))
          go_roundg k1
          case measure => have := HK1.out; omega
          case rel => exact ⟨(y244), (wrap64 (x13_1 + 1)), (by first | rfl | (simp; done) | (simp [*]; done)), H', ⟨by have := HK1.out; omega⟩, ⟨by (with_reducible repeat (first | apply Kd.R_alloc | apply Kd.R_drewN | apply Kd.R_drew)); exact HO246.out⟩, ⟨by (with_reducible repeat (first | refine blk_drewN ?_ _ | refine blk_drew ?_ | refine blk_alloc ?_ _)); exact BK242.out⟩, ⟨by repeat (first | (with_reducible first | exact HB.out | apply below_alloc | apply pw_below_drewN | apply below_drew1 | refine below_set ?_ GE242.out) | exact HB.out)⟩⟩
         ·rw [if_neg c13] at H
          exact absurd H (by simp)
       ·rw [if_neg c11] at H
        exact absurd H (by simp)
      ·rw [if_neg c10] at H
       exact absurd H (by simp)
    ·rw [if_neg c7] at H
     have c7b0 : decide (0 < (l2.length : Int)) = false := decide_eq_false c7
     have c7b1 : decide (0 < l2.length) = false := decide_eq_false (by omega)
     clear c7
     by_cases c15 : x7_1.length < 17592186044416
     ·rw [if_pos c15] at H
      have LMc15 := Aside0.mk c15
      clear c15
      obtain ⟨y247, hy247⟩ : ∃ y_ : List Int, y_ = (x7_1 ++ [0]) := ⟨_, rfl⟩
      replace H : (letterbaglaw24_levels.l0 k1 a1 l2 y247 (l0_3.length : Int) (wrap64 (x13_1 + 1))) = some r := by first | (rw [hy247]; with_reducible exact H) | (have H2_ := (Option.bind_some _ _).symm.trans H; rw [hy247]; with_reducible exact H2_) | (have H2_ := (Option.bind_some _ _).symm.trans H; with_reducible exact H2_) | with_reducible exact H | (rw [hy247]; exact H) | exact H
      have Ny247 := Aside0.mk hy247
      clear hy247
      have H' := Aside0.mk H
      clear H
      go_wp2_with (first | ((with_reducible refine gate_builtin (b := .append) (xs := #[.tmp 29, .tmp 31]) rfl ?_); at_builtin; refine Kd.R_append (Kd.int .i64) (w0 := w) w.heap.size rfl (.tmp 29) (.tmp 31) 38 3 (.int .i64 0) 8 rfl Tryd.underlying38 info3 rfl (by decide) (by omega) u7 x7_1 0 [.int .i64 0] (fun _ => True) (fun _ => False) rfl rfl ?aP (fun _ hk => hk.elim) ?aF ?aO ?aB ?aS ?aL ?_; (case aP => exact rfl); (case aB => exact (by repeat (first | (with_reducible first | exact HB.out | apply below_alloc | apply pw_below_drewN | apply below_drew1 | refine below_set ?_ GE242.out) | exact HB.out))); (case aF => exact (fun _ _ => trivial)); (case aO => exact (by (with_reducible repeat (first | apply Kd.R_alloc | apply Kd.R_drewN | apply Kd.R_drew)); exact HO_7.out)); (case aS => exact (below_size (by repeat (first | (with_reducible first | exact HB.out | apply below_alloc | apply pw_below_drewN | apply below_drew1 | refine below_set ?_ GE242.out) | exact HB.out)))); (case aL => have := LMc15.out; omega); intro v248 w16 ho hb hg hat; rw [← Ny247.out] at ho; have n0_ := Aside0.mk (blk_grown (g := gb242) (o := .cells #[.int .u8 a0_0, .int .u8 a0_1, .string a0_2, .slice A0_3 l0_3.length c0_3] 36 (0, 0)) (by (with_reducible repeat (first | refine blk_drewN ?_ _ | refine blk_drew ?_ | refine blk_alloc ?_ _)); exact BK242.out) hg (Kd.R_ne HO_7.out BK242.out (by decide))); have n1_ := Aside0.mk (hb); have n2_ := Aside0.mk (ho); clear BK242; clear HB; clear HO_7; have BK242 := n0_; have HB := n1_; have HO249 := n2_; clear n0_ n1_ n2_; clear ho hb hg hat))
      go_roundg k1
      case measure => have := HK1.out; omega
      case rel => exact ⟨(y247), (wrap64 (x13_1 + 1)), (by first | rfl | (simp; done) | (simp [*]; done)), H', ⟨by have := HK1.out; omega⟩, ⟨by (with_reducible repeat (first | apply Kd.R_alloc | apply Kd.R_drewN | apply Kd.R_drew)); exact HO249.out⟩, ⟨by (with_reducible repeat (first | refine blk_drewN ?_ _ | refine blk_drew ?_ | refine blk_alloc ?_ _)); exact BK242.out⟩, ⟨by repeat (first | (with_reducible first | exact HB.out | apply below_alloc | apply pw_below_drewN | apply below_drew1 | refine below_set ?_ GE242.out) | exact HB.out)⟩⟩
     ·rw [if_neg c15] at H
      exact absurd H (by simp)
   ·rw [if_neg c6] at H
    have c6b0 : decide (x13_1 < (l0_3.length : Int)) = false := decide_eq_false c6
    clear c6
    obtain rfl := Option.some.inj H
    go_wp2
    go_ret
    exact ⟨_, by first | rfl | (simp [errW_none, errW_some] <;> rfl) | (simp [*, errW_none, errW_some] <;> rfl), by (with_reducible repeat (first | apply Kd.R_alloc | apply Kd.R_drewN | apply Kd.R_drew)); exact HO_7.out, by repeat (first | (with_reducible first | exact HB.out | apply below_alloc | apply pw_below_drewN | apply below_drew1 | refine below_set ?_ GE242.out) | exact HB.out)⟩
def letterbagkit_Pick.f (a0 : Int) (a1 : Int) : Option (Int) := if a1 < 1 then (some 0) else (if a1 = 0 then (none) else (if (Int.tmod a0 a1) < 0 then (some (wrap64 ((Int.tmod a0 a1) + a1))) else (some (Int.tmod a0 a1))))
def letterbagkit_CopyInts.f (l0 : List Int) : Option (List Int) := if ([] : List Int).length + l0.length < 17592186044416 then (some (([] : List Int) ++ l0)) else (none)
def letterbagkit_CopyStep.f (a0_0 : Int) (l0_1 : List Int) : Option (Int × List Int) := (letterbagkit_CopyInts.f l0_1).bind fun t319 => (some (a0_0, t319))
def letterbagkit_CopySteps.l0 : Nat → List (S61) → List (S61) → Int → Option ((List (S61)))
 | 0, _, _, _ => none
 | k + 1, x0, x3, x4 => if x4 < (x0.length : Int) then (if 0 ≤ x4 then ((letterbagkit_CopyStep.f ((rd_T61 x0 x4).f0) ((rd_T61 x0 x4).f1)).bind fun bt323 => (if x3.length < 4398046511104 then (letterbagkit_CopySteps.l0 k x0 (x3 ++ [(⟨bt323.1, bt323.2⟩ : S61)]) (wrap64 (x4 + 1))) else (none))) else (none)) else (some x3)
def letterbagkit_CopySteps.f (k : Nat) (l0 : List (S61)) : Option ((List (S61))) := letterbagkit_CopySteps.l0 k l0 ([] : List (S61)) 0
def letterbagkit_CopyRate.f (k : Nat) (a0_0 : Int) (l0_1 : List (S61)) (a0_2 : Int) : Option (Int × (List (S61)) × Int) := (letterbagkit_CopySteps.f k l0_1).bind fun t333 => (some (a0_0, t333, a0_2))
def letterbagkit_CopyRates.l0 : Nat → List (S57) → List (S57) → Int → Option ((List (S57)))
 | 0, _, _, _ => none
 | k + 1, x0, x3, x4 => if x4 < (x0.length : Int) then (if 0 ≤ x4 then ((letterbagkit_CopyRate.f k ((rd_T57 x0 x4).f0) ((rd_T57 x0 x4).f1) ((rd_T57 x0 x4).f2)).bind fun bt337 => (if x3.length < 3518437208883 then (letterbagkit_CopyRates.l0 k x0 (x3 ++ [(⟨bt337.1, bt337.2.1, bt337.2.2⟩ : S57)]) (wrap64 (x4 + 1))) else (none))) else (none)) else (some x3)
def letterbagkit_CopyRates.f (k : Nat) (l0 : List (S57)) : Option ((List (S57))) := letterbagkit_CopyRates.l0 k l0 ([] : List (S57)) 0
def letterbagkit_CopyZones.f (l0 : List (S67)) : Option ((List (S67))) := if ([] : List (S67)).length + l0.length < 3518437208883 then (some (([] : List (S67)) ++ l0)) else (none)
def letterbagkit_CopyTariff.f (k : Nat) (l0_0 : List (S57)) (l0_1 : List (S67)) : Option ((List (S57)) × (List (S67))) := (letterbagkit_CopyRates.f k l0_0).bind fun t351 => ((letterbagkit_CopyZones.f l0_1).bind fun t354 => (some (t351, t354)))
def letterbagkit_CopyPieces.f (l0 : List (S48)) : Option ((List (S48))) := if ([] : List (S48)).length + l0.length < 2932031007402 then (some (([] : List (S48)) ++ l0)) else (none)
def letterbagkit_CopyMailing.f (a0_0 : Int) (a0_1 : Int) (a0_2 : ByteArray) (l0_3 : List (S48)) : Option (Int × Int × ByteArray × (List (S48))) := (letterbagkit_CopyPieces.f l0_3).bind fun t415 => (some (a0_0, a0_1, a0_2, t415))
end Go.Proofs.YtfglcfbcdhjcdaaDoor.Q

namespace Go.Proofs.YtfglcfbcdhjcdaaDoor.Q
open Go.RowKit Go.Proofs.YtfglcfbcdhjcdaaDoorW.PrintWords Go.Proofs.YtfglcfbcdhjcdaaDoorW.PrintLast Go.Proofs.YtfglcfbcdhjcdaaDoorW.PrintMore
set_option linter.unusedVariables false
set_option linter.unusedSimpArgs false
theorem rates_rd (l : List Int) (nz ns : Nat) (bar : Int) (nc i : Nat) (h : i < nc) : rd_T57 (mdRates l nz ns bar nc) (i : Int) = mdRate l nz ns bar i := by
 unfold rd_T57 mdRates
 rw [Int.toNat_natCast, List.getD_eq_getElem?_getD, List.getElem?_map, List.getElem?_range h]
 rfl
theorem steps_rd (l : List Int) (nz c ns i : Nat) (h : i < ns) : rd_T61 ((List.range ns).map (mdStep l nz c)) (i : Int) = mdStep l nz c i := by
 unfold rd_T61
 rw [Int.toNat_natCast, List.getD_eq_getElem?_getD, List.getElem?_map, List.getElem?_range h]
 rfl
theorem cents_rd (l : List Int) (nz c s : Nat) (z : Nat) (h : z < nz) : rd (mdStep l nz c s).f1 (z : Int) = mdPrice l (17 * c + 5 * s + z) := by
 unfold rd mdStep
 rw [Int.toNat_natCast, List.getD_eq_getElem?_getD]
 show (((List.range nz).map _)[z]?).getD 0 = _
 rw [List.getElem?_map, List.getElem?_range h]
 rfl
theorem made_right_f (N : Nat) (l : List Int) (h : mdFits l = true) : tariff_Right.f (madeR N l) (madeZ N) = some true := by
 unfold tariff_Right.f
 have hc := mdC_range N
 obtain ⟨-, -, -, hz⟩ := made_rows N
 rw [if_pos, made_right N l h]
 rw [Bool.and_eq_true]
 refine ⟨?_, ?_⟩
 ·rw [List.all_eq_true]
  intro r hr
  unfold madeR mdRates at hr
  obtain ⟨c, hc2, rfl⟩ := List.mem_map.1 hr
  have := List.mem_range.1 hc2
  show (decide (0 ≤ ((c : Int) + 1)) && decide ((c : Int) + 1 ≤ 255)) = true
  simp only [Bool.and_eq_true, decide_eq_true_eq]
  omega
 ·rw [List.all_eq_true]
  intro z hz2
  obtain ⟨a, b⟩ := hz z hz2
  unfold zoneFitsB
  simp only [Bool.and_eq_true, decide_eq_true_eq]
  omega
def stAt (g : Int) : Nat := if g ≤ 20 then 0 else if g ≤ 50 then 1 else if g ≤ 80 then 2 else 3
theorem stAt_cases (g : Int) : (stAt g = 0 ∧ g ≤ 20) ∨ (stAt g = 1 ∧ 20 < g ∧ g ≤ 50) ∨ (stAt g = 2 ∧ 50 < g ∧ g ≤ 80) ∨ (stAt g = 3 ∧ 80 < g) := by
 unfold stAt
 repeat' split
 all_goals omega
def stAns (l : List Int) (ns ci z : Nat) (g : Int) : Int × Int := if stAt g < ns then (mdPrice l (17 * ci + 5 * stAt g + z), 0) else (0, 3)
theorem price_steps (l : List Int) (nz ns ci z : Nat) (a bar g : Int) (hs : 1 ≤ ns) (hs3 : ns ≤ 3) (hz : z < nz) : tariff_price.f a ((List.range ns).map (mdStep l nz ci)) bar ((z : Int) + 1) g = some (stAns l ns ci z g) := by
 have hf : ∀ s, (mdStep l nz ci s).f0 = 20 + 30 * (s : Int) := fun _ => rfl
 have hlen : ((List.range ns).map (mdStep l nz ci)).length = ns := by rw [List.length_map, List.length_range]
 unfold tariff_price.f stAns
 by_cases hlt : stAt g < ns
 ·have hst : stepAt g ((List.range ns).map (mdStep l nz ci)) = (stAt g : Int) := by
   refine stepAt_hit g _ _ (by rw [hlen]; exact hlt) ?_ ?_
   ·rw [steps_rd _ _ _ _ _ hlt, hf]
    rcases stAt_cases g with h | h | h | h <;> omega
   ·intro j hj
    rw [steps_rd _ _ _ _ _ (by omega), hf]
    rcases stAt_cases g with h | h | h | h <;> omega
  rw [hst, if_neg (by omega), steps_rd _ _ _ _ _ hlt, if_pos (by rw [mdStep_len]; omega), if_pos hlt]
  have : (z : Int) + 1 - 1 = (z : Int) := by omega
  rw [this, cents_rd _ _ _ _ _ hz]
 ·have hst : stepAt g ((List.range ns).map (mdStep l nz ci)) = -1 := by
   refine stepAt_none g _ (fun j hj => ?_)
   rw [hlen] at hj
   rw [steps_rd _ _ _ _ _ hj, hf]
   rcases stAt_cases g with h | h | h | h <;> omega
  rw [hst, if_pos (by omega), if_neg hlt]
theorem rate_made (l : List Int) (nz ns : Nat) (bar : Int) (nc ci : Nat) (hc : ci < nc) (hc3 : nc ≤ 3) (Z : List Zn) (f : Nat) (hf : 3 ≤ f) : tariff_rate.f f (mdRates l nz ns bar nc) Z ((ci : Int) + 1) = some ((ci : Int) + 1, (List.range ns).map (mdStep l nz ci), bar) := by
 have hlen : (mdRates l nz ns bar nc).length = nc := by simp [mdRates]
 have hgo : ∀ d i : Nat, i + d = ci → ∀ k, d < k → tariff_rate.l0 k ((ci : Int) + 1) (mdRates l nz ns bar nc) ((mdRates l nz ns bar nc).length : Int) (i : Int) = some ((ci : Int) + 1, (List.range ns).map (mdStep l nz ci), bar) := by
  intro d
  induction d with
  | zero =>
   intro i hi k hk
   obtain ⟨k, rfl⟩ : ∃ m, k = m + 1 := ⟨k - 1, by omega⟩
   have : i = ci := by omega
   subst this
   simp only [tariff_rate.l0]
   rw [hlen, if_pos (by omega), if_pos (by omega), if_pos (by omega), rates_rd _ _ _ _ _ _ hc, show (mdRate l nz ns bar i).f0 = (i : Int) + 1 from rfl, if_pos rfl]
   rfl
  | succ d ih =>
   intro i hi k hk
   obtain ⟨k, rfl⟩ : ∃ m, k = m + 1 := ⟨k - 1, by omega⟩
   simp only [tariff_rate.l0]
   rw [hlen, if_pos (by omega), if_pos (by omega), if_pos (by omega), rates_rd _ _ _ _ _ _ (show i < nc by omega), show (mdRate l nz ns bar i).f0 = (i : Int) + 1 from rfl, if_neg (show ¬ ((i : Int) + 1 = (ci : Int) + 1) by omega), wrap64_id _ (by omega) (by omega)]
   have := ih (i + 1) (by omega) k (by omega)
   rw [hlen] at this
   exact this
 exact hgo ci 0 (by omega) f (by omega)
theorem price_made (N : Nat) (l : List Int) (h : mdFits l = true) (ci z : Nat) (g : Int) (hc : ci < mdC N) (hz : z < mdZ N) (hg : 1 ≤ g) : tariff_Price.f 10 (madeR N l) (madeZ N) ((ci : Int) + 1) ((z : Int) + 1) g = some (stAns l (mdS N) ci z g) := by
 have z1 := mdZ_range N
 have s1 := mdS_range N
 have c1 := mdC_range N
 unfold tariff_Price.f
 rw [made_right_f N l h]
 simp only [Option.bind_some, if_true]
 rw [if_neg (by omega), zones_is]
 have hzn : zonesN (madeR N l) = (mdZ N : Nat) := mdRates_zones _ _ _ _ s1.1 c1.1 _
 rw [hzn]
 simp only [Option.bind_some]
 rw [if_neg (by omega), decide_eq_false (show ¬ g < 1 by omega)]
 simp only [tariff_Price.j0, Bool.false_eq_true, if_false]
 have hr := rate_made l (mdZ N) (mdS N) (mdBar N) (mdC N) ci hc c1.2 (madeZ N) 9 (by omega)
 show (((tariff_rate.f 9 (mdRates l (mdZ N) (mdS N) (mdBar N) (mdC N)) (madeZ N) ((ci : Int) + 1)).bind _) : Option (Int × Int)) = _
 rw [hr]
 simp only [Option.bind_some]
 rw [if_neg (by omega), if_neg (by omega), price_steps _ _ _ _ _ _ _ _ s1.1 s1.2 hz]
 rfl
end Go.Proofs.YtfglcfbcdhjcdaaDoor.Q

namespace Go.Proofs.YtfglcfbcdhjcdaaDoor.Q
open Go.RowKit Go.Proofs.YtfglcfbcdhjcdaaDoorW.PrintWords Go.Proofs.YtfglcfbcdhjcdaaDoorW.PrintLast Go.Proofs.YtfglcfbcdhjcdaaDoorW.PrintMore
attribute [local go_sem] max2_int min2_int max_two min_two max_three min_three max_four min_four
set_option linter.unusedVariables false
set_option linter.unusedSimpArgs false
def letterbaglaw23_Codes.l0 : Nat → List Int → List ByteArray → Int → Option (List ByteArray)
 | 0, _, _, _ => none
 | k + 1, x0, x3, x4 => if x4 < (x0.length : Int) then (if x4 < 2000 then (if 0 ≤ x4 then (if x3.length < 8796093022208 then (letterbaglaw23_Codes.l0 k x0 (x3 ++ [strOfNums (([(wrap64 (49 + (Int.tmod (wrap64 (rd x0 x4)) 3))) % 256, (wrap64 (48 + (Int.tmod (wrap64 (Int.tdiv (wrap64 (rd x0 x4)) 3)) 3))) % 256, (wrap64 (48 + (Int.tmod (wrap64 (Int.tdiv (wrap64 (rd x0 x4)) 9)) 3))) % 256, (wrap64 (48 + (Int.tmod (wrap64 (Int.tdiv (wrap64 (rd x0 x4)) 27)) 3))) % 256, (wrap64 (48 + (Int.tmod (wrap64 (Int.tdiv (wrap64 (rd x0 x4)) 81)) 3))) % 256] : List Int))]) (wrap64 (x4 + 1))) else (none)) else (none)) else (some x3)) else (some x3)
def letterbaglaw23_Codes.f (k : Nat) (l0 : List Int) : Option (List ByteArray) := letterbaglaw23_Codes.l0 k l0 ([] : List ByteArray) 0
set_option maxHeartbeats 8000000 in
set_option maxRecDepth 100000 in
theorem letterbaglaw23_Codes.calls (k : Nat) (A0 : Option Addr) (c0 : Nat) (l0 : List Int) (r : List ByteArray) (w : World) (hr0 : Kd.C (Kd.int .u8) w A0 l0.length l0) (hc0 : l0.length ≤ c0) (h : letterbaglaw23_Codes.f k l0 = some r) :
  Calls Tryd.prog 24 #[.slice A0 l0.length c0] w fun e w' => ∃ v0_ : Value, e = .returned (v0_) ∧ Kd.R Kd.string 9 w' w.heap.size (fun _ => True) v0_ r ∧ Below w.heap.size w w' := by
 have HR0 := Aside0.mk hr0
 have HC0 := Aside0.mk hc0
 clear hr0 hc0
 have HB := Aside0.mk (Below.refl w.heap.size w)
 have H : (letterbaglaw23_Codes.l0 k l0 ([] : List ByteArray) 0) = some r := h
 clear h
 have H' := Aside0.mk H
 clear H
 go_enter Tryd.func24, Tryd.ntmps24
 go_wp2
 go_loopg [3, 4] k (fun kq v3 v4 w' => ∃ (x3_1 : List ByteArray) (x4_1 : Int), v4 = .int .i64 x4_1 ∧ Aside0 (letterbaglaw23_Codes.l0 kq l0 x3_1 x4_1 = some r) ∧ Aside0 (kq ≤ k) ∧ Aside0 (Kd.R Kd.string 9 w' w.heap.size (fun _ => True) v3 x3_1) ∧ Aside0 (Below w.heap.size w w'))
 case atStart => exact ⟨(([] : List ByteArray)), (0), (by first | rfl | (simp; done) | (simp [*]; done)), H', ⟨Nat.le_refl _⟩, ⟨by first | exact Kd.R_nil _ _ _ _ _ | exact Kd.N_nil _ _ _ _ _ | exact Kd.V_nil _ _ _ _ _ | exact Kd.Q_nil _ _ _ _ _ | exact Kd.S_nil _ _ _ _ _⟩, ⟨by repeat (first | (with_reducible first | exact HB.out | apply below_alloc | apply pw_below_drewN | apply below_drew1) | exact HB.out)⟩⟩
 case round =>
  clear H'
  obtain ⟨x3_1, x4_1, rfl, HA, HK1, HO_3, HB⟩ := hrel
  cases gk with
  | zero => exact absurd HA.out (by simp [letterbaglaw23_Codes.l0])
  | succ k1 =>
   have H := HA.out
   clear HA
   simp only [letterbaglaw23_Codes.l0] at H
   by_cases c2 : x4_1 < (l0.length : Int)
   ·rw [if_pos c2] at H
    have c2b0 : decide (x4_1 < (l0.length : Int)) = true := decide_eq_true c2
    clear c2
    by_cases c3 : x4_1 < 2000
    ·rw [if_pos c3] at H
     have c3b0 : decide (x4_1 < 2000) = true := decide_eq_true c3
     clear c3
     by_cases c4 : 0 ≤ x4_1
     ·rw [if_pos c4] at H
      have c4b0 : decide (0 ≤ x4_1) = true := decide_eq_true c4
      clear c4
      obtain ⟨y223, hy223⟩ : ∃ y_ : List Int, y_ = (([(wrap64 (49 + (Int.tmod (wrap64 (rd l0 x4_1)) 3))) % 256, (wrap64 (48 + (Int.tmod (wrap64 (Int.tdiv (wrap64 (rd l0 x4_1)) 3)) 3))) % 256, (wrap64 (48 + (Int.tmod (wrap64 (Int.tdiv (wrap64 (rd l0 x4_1)) 9)) 3))) % 256, (wrap64 (48 + (Int.tmod (wrap64 (Int.tdiv (wrap64 (rd l0 x4_1)) 27)) 3))) % 256, (wrap64 (48 + (Int.tmod (wrap64 (Int.tdiv (wrap64 (rd l0 x4_1)) 81)) 3))) % 256] : List Int)) := ⟨_, rfl⟩
      replace H : (if x3_1.length < 8796093022208 then (letterbaglaw23_Codes.l0 k1 l0 (x3_1 ++ [strOfNums y223]) (wrap64 (x4_1 + 1))) else (none)) = some r := by first | (rw [hy223]; with_reducible exact H) | (have H2_ := (Option.bind_some _ _).symm.trans H; rw [hy223]; with_reducible exact H2_) | (have H2_ := (Option.bind_some _ _).symm.trans H; with_reducible exact H2_) | with_reducible exact H | (rw [hy223]; exact H) | exact H
      have Ny223 := Aside0.mk hy223
      clear hy223
      by_cases c5 : x3_1.length < 8796093022208
      ·rw [if_pos c5] at H
       have LMc5 := Aside0.mk c5
       clear c5
       obtain ⟨y226, hy226⟩ : ∃ y_ : List ByteArray, y_ = (x3_1 ++ [strOfNums y223]) := ⟨_, rfl⟩
       replace H : (letterbaglaw23_Codes.l0 k1 l0 y226 (wrap64 (x4_1 + 1))) = some r := by first | (rw [hy226]; with_reducible exact H) | (have H2_ := (Option.bind_some _ _).symm.trans H; rw [hy226]; with_reducible exact H2_) | (have H2_ := (Option.bind_some _ _).symm.trans H; with_reducible exact H2_) | with_reducible exact H | (rw [hy226]; exact H) | exact H
       have Ny226 := Aside0.mk hy226
       clear hy226
       have H' := Aside0.mk H
       clear H
       have p222 : 0 ≤ (x4_1 : Int) := of_decide_eq_true (by first | (with_reducible assumption) | assumption)
       have q222 : x4_1 < (l0.length : Int) := of_decide_eq_true (by first | (with_reducible assumption) | assumption)
       obtain ⟨ad222, e222, hx222_0⟩ := Kd.at_int HR0.out x4_1 p222 q222
       cases e222
       replace hx222_0 := (HB.out.cell (World.block_lt_of_cell? w _ hx222_0)).trans hx222_0
       replace p222 := eq_true p222
       replace q222 := eq_true q222
       go_wp2_with (first | ((with_reducible refine gate_dst (N := 46) rfl ?_); refine Kd.R_lit (Kd.int .u8) _ 5 ?hg (N := 46) ?hd (xs := ([(wrap64 (49 + (Int.tmod (wrap64 (rd l0 x4_1)) 3))) % 256, (wrap64 (48 + (Int.tmod (wrap64 (Int.tdiv (wrap64 (rd l0 x4_1)) 3)) 3))) % 256, (wrap64 (48 + (Int.tmod (wrap64 (Int.tdiv (wrap64 (rd l0 x4_1)) 9)) 3))) % 256, (wrap64 (48 + (Int.tmod (wrap64 (Int.tdiv (wrap64 (rd l0 x4_1)) 27)) 3))) % 256, (wrap64 (48 + (Int.tmod (wrap64 (Int.tdiv (wrap64 (rd l0 x4_1)) 81)) 3))) % 256] : List Int)) (inner := [.int .u8 ((wrap64 (49 + (Int.tmod (wrap64 (rd l0 x4_1)) 3))) % 256), .int .u8 ((wrap64 (48 + (Int.tmod (wrap64 (Int.tdiv (wrap64 (rd l0 x4_1)) 3)) 3))) % 256), .int .u8 ((wrap64 (48 + (Int.tmod (wrap64 (Int.tdiv (wrap64 (rd l0 x4_1)) 9)) 3))) % 256), .int .u8 ((wrap64 (48 + (Int.tmod (wrap64 (Int.tdiv (wrap64 (rd l0 x4_1)) 27)) 3))) % 256), .int .u8 ((wrap64 (48 + (Int.tmod (wrap64 (Int.tdiv (wrap64 (rd l0 x4_1)) 81)) 3))) % 256)]) (ok := fun _ => True) (okp := fun _ => True) ?hr ?hp (fun _ hk => hk) trivial (Below.refl _ _) (Nat.le_refl _) (by simp) ?_; (case hd => rfl); (case hg => rfl); (case hr => first | (go_simp; done) | (go_simp; rfl)); (case hp => exact (Reps.one (show Kd.M (Kd.int .u8) _ _ _ ((wrap64 (49 + (Int.tmod (wrap64 (rd l0 x4_1)) 3))) % 256) [.int .u8 ((wrap64 (49 + (Int.tmod (wrap64 (rd l0 x4_1)) 3))) % 256)] from rfl) (Reps.one (show Kd.M (Kd.int .u8) _ _ _ ((wrap64 (48 + (Int.tmod (wrap64 (Int.tdiv (wrap64 (rd l0 x4_1)) 3)) 3))) % 256) [.int .u8 ((wrap64 (48 + (Int.tmod (wrap64 (Int.tdiv (wrap64 (rd l0 x4_1)) 3)) 3))) % 256)] from rfl) (Reps.one (show Kd.M (Kd.int .u8) _ _ _ ((wrap64 (48 + (Int.tmod (wrap64 (Int.tdiv (wrap64 (rd l0 x4_1)) 9)) 3))) % 256) [.int .u8 ((wrap64 (48 + (Int.tmod (wrap64 (Int.tdiv (wrap64 (rd l0 x4_1)) 9)) 3))) % 256)] from rfl) (Reps.one (show Kd.M (Kd.int .u8) _ _ _ ((wrap64 (48 + (Int.tmod (wrap64 (Int.tdiv (wrap64 (rd l0 x4_1)) 27)) 3))) % 256) [.int .u8 ((wrap64 (48 + (Int.tmod (wrap64 (Int.tdiv (wrap64 (rd l0 x4_1)) 27)) 3))) % 256)] from rfl) (Reps.one (show Kd.M (Kd.int .u8) _ _ _ ((wrap64 (48 + (Int.tmod (wrap64 (Int.tdiv (wrap64 (rd l0 x4_1)) 81)) 3))) % 256) [.int .u8 ((wrap64 (48 + (Int.tmod (wrap64 (Int.tdiv (wrap64 (rd l0 x4_1)) 81)) 3))) % 256)] from rfl) (Reps.none _ _))))))); intro v224 w6 ho7 hb hg_ hnew_; clear hg_ hnew_; (first | rw [← Ny223.out] at ho7 | (simp only [Int.reduceToNat] at ho7; rw [← Ny223.out] at ho7)); have n0_ := Aside0.mk (Kd.R_below (by (with_reducible repeat (first | apply Kd.R_alloc | apply Kd.R_drewN | apply Kd.R_drew)); exact HO_3.out) hb); have n1_ := Aside0.mk (Kd.R_lower ho7 (below_size (by repeat (first | (with_reducible first | exact HB.out | apply below_alloc | apply pw_below_drewN | apply below_drew1) | exact HB.out)))); have n2_ := Aside0.mk (below_step (by repeat (first | (with_reducible first | exact HB.out | apply below_alloc | apply pw_below_drewN | apply below_drew1) | exact HB.out)) hb); clear HO_3; clear HB; have HO_3 := n0_; have HO225 := n1_; have HB := n2_; clear n0_ n1_ n2_; clear hb ho7; have hcv8 := own_string (P := Tryd.prog) Tryd.underlying29 Tryd.underlying5 Tryd.underlying9 (Kd.own_of_R HO225.out)) | ((with_reducible refine gate_builtin (b := .append) (xs := #[.tmp 21, .tmp 48]) rfl ?_); at_builtin; refine Kd.R_append Kd.string (w0 := w) w.heap.size rfl (.tmp 21) (.tmp 48) 63 9 (.string ⟨#[]⟩) 16 rfl Tryd.underlying63 info9 rfl (by decide) (by omega) u3 x3_1 (strOfNums y223) [.string (strOfNums y223)] (fun _ => True) (fun _ => False) rfl rfl ?aP (fun _ hk => hk.elim) ?aF ?aO ?aB ?aS ?aL ?_; (case aP => exact rfl); (case aB => exact (by repeat (first | (with_reducible first | exact HB.out | apply below_alloc | apply pw_below_drewN | apply below_drew1) | exact HB.out))); (case aF => exact (fun _ _ => trivial)); (case aO => exact (by (with_reducible repeat (first | apply Kd.R_alloc | apply Kd.R_drewN | apply Kd.R_drew)); exact HO_3.out)); (case aS => exact (below_size (by repeat (first | (with_reducible first | exact HB.out | apply below_alloc | apply pw_below_drewN | apply below_drew1) | exact HB.out)))); (case aL => have := LMc5.out; omega); intro v227 w9 ho hb hg hat; rw [← Ny226.out] at ho; have n0_ := Aside0.mk (Kd.R_over' (by (with_reducible repeat (first | apply Kd.R_alloc | apply Kd.R_drewN | apply Kd.R_drew)); exact HO225.out) (Kd.R_typed (by (with_reducible repeat (first | apply Kd.R_alloc | apply Kd.R_drewN | apply Kd.R_drew)); exact HO_3.out)) (by decide) hg); have n1_ := Aside0.mk (hb); have n2_ := Aside0.mk (ho); clear HO225; clear HB; clear HO_3; have HO225 := n0_; have HB := n1_; have HO228 := n2_; clear n0_ n1_ n2_; clear ho hb hg hat))
       go_roundg k1
       case measure => have := HK1.out; omega
       case rel => exact ⟨(y226), (wrap64 (x4_1 + 1)), (by first | rfl | (simp; done) | (simp [*]; done)), H', ⟨by have := HK1.out; omega⟩, ⟨by (with_reducible repeat (first | apply Kd.R_alloc | apply Kd.R_drewN | apply Kd.R_drew)); exact HO228.out⟩, ⟨by repeat (first | (with_reducible first | exact HB.out | apply below_alloc | apply pw_below_drewN | apply below_drew1) | exact HB.out)⟩⟩
      ·rw [if_neg c5] at H
       exact absurd H (by simp)
     ·rw [if_neg c4] at H
      exact absurd H (by simp)
    ·rw [if_neg c3] at H
     have c3b0 : decide (x4_1 < 2000) = false := decide_eq_false c3
     clear c3
     obtain rfl := Option.some.inj H
     go_wp2
     go_ret
     exact ⟨_, by first | rfl | (simp [errW_none, errW_some] <;> rfl) | (simp [*, errW_none, errW_some] <;> rfl), by (with_reducible repeat (first | apply Kd.R_alloc | apply Kd.R_drewN | apply Kd.R_drew)); exact HO_3.out, by repeat (first | (with_reducible first | exact HB.out | apply below_alloc | apply pw_below_drewN | apply below_drew1) | exact HB.out)⟩
   ·rw [if_neg c2] at H
    have c2b0 : decide (x4_1 < (l0.length : Int)) = false := decide_eq_false c2
    clear c2
    obtain rfl := Option.some.inj H
    go_wp2
    go_ret
    exact ⟨_, by first | rfl | (simp [errW_none, errW_some] <;> rfl) | (simp [*, errW_none, errW_some] <;> rfl), by (with_reducible repeat (first | apply Kd.R_alloc | apply Kd.R_drewN | apply Kd.R_drew)); exact HO_3.out, by repeat (first | (with_reducible first | exact HB.out | apply below_alloc | apply pw_below_drewN | apply below_drew1) | exact HB.out)⟩
end Go.Proofs.YtfglcfbcdhjcdaaDoor.Q

namespace Go.Proofs.YtfglcfbcdhjcdaaDoor.Q
open Go.RowKit Go.Proofs.YtfglcfbcdhjcdaaDoorW.PrintWords Go.Proofs.YtfglcfbcdhjcdaaDoorW.PrintLast Go.Proofs.YtfglcfbcdhjcdaaDoorW.PrintMore
set_option linter.unusedVariables false
set_option linter.unusedSimpArgs false
def prefB (a p : ByteArray) : Bool := decide (p.size ≤ a.size) && ((a.extract 0 p.size).toList == p.toList)
theorem prefix_is (a p : ByteArray) : strings_HasPrefix.f a p = some (prefB a p) := by
 unfold strings_HasPrefix.f stringslite_HasPrefix.f prefB
 by_cases h : p.size ≤ a.size
 ·rw [if_pos (by omega), if_pos (by omega), if_pos (by omega), Int.toNat_natCast, decide_eq_true h, Bool.true_and]
  rfl
 ·rw [if_neg (by omega), decide_eq_false h]
  rfl
def zoneStep (a b : ByteArray) (s : Int × Int) (z : Zn) : Int × Int :=
 if s.2 < 100 * (z.f0.size : Int) + (z.f1.size : Int) ∧ prefB a z.f0 = true ∧ prefB b z.f1 = true then (z.f2, 100 * (z.f0.size : Int) + (z.f1.size : Int)) else s
def zoneB (Z : List Zn) (a b : ByteArray) : Int := (Z.foldl (zoneStep a b) (0, -1)).1
theorem zn_get (Z : List Zn) (i : Nat) (h : i < Z.length) : rd_T67 Z (i : Int) = Z[i] := by
 unfold rd_T67
 rw [Int.toNat_natCast, List.getD_eq_getElem?_getD, List.getElem?_eq_getElem h]
 rfl
theorem zone_go (a b : ByteArray) (Z : List Zn) (hs : ∀ z ∈ Z, z.f0.size ≤ 1000 ∧ z.f1.size ≤ 1000) (hl : Z.length ≤ 1000000) : ∀ d i : Nat, i + d = Z.length → ∀ (k : Nat) (best long : Int), d < k → -1 ≤ long →
  tariff_zone.l0 k a b best long Z (Z.length : Int) (i : Int) = some (((Z.drop i).foldl (zoneStep a b) (best, long)).1) := by
 intro d
 induction d with
 | zero =>
  intro i hi k best long hk _
  obtain ⟨k, rfl⟩ : ∃ m, k = m + 1 := ⟨k - 1, by omega⟩
  simp only [tariff_zone.l0]
  rw [if_neg (by omega), List.drop_of_length_le (by omega)]
  rfl
 | succ d ih =>
  intro i hi k best long hk hlong
  obtain ⟨k, rfl⟩ : ∃ m, k = m + 1 := ⟨k - 1, by omega⟩
  have hlt : i < Z.length := by omega
  have hz := hs _ (List.getElem_mem hlt)
  simp only [tariff_zone.l0]
  rw [if_pos (by omega), if_pos (by omega), if_pos (by omega), zn_get Z i hlt, wrap64_id (100 * (Z[i].f0.size : Int)) (by omega) (by omega), wrap64_id (100 * (Z[i].f0.size : Int) + (Z[i].f1.size : Int)) (by omega) (by omega), wrap64_id ((i : Int) + 1) (by omega) (by omega)]
  rw [List.drop_eq_getElem_cons hlt, List.foldl_cons]
  have e : ((i : Int) + 1) = ((i + 1 : Nat) : Int) := by omega
  rw [e, prefix_is, prefix_is]
  simp only [Option.bind_some]
  unfold zoneStep
  by_cases h1 : long < 100 * (Z[i].f0.size : Int) + (Z[i].f1.size : Int)
  ·rw [if_pos (show 100 * (Z[i].f0.size : Int) + (Z[i].f1.size : Int) > long from h1)]
   by_cases h2 : prefB a Z[i].f0 = true
   ·rw [if_pos h2]
    by_cases h3 : prefB b Z[i].f1 = true
    ·rw [if_pos h3, if_pos ⟨h1, h2, h3⟩]
     exact ih (i + 1) (by omega) k _ _ (by omega) (by omega)
    ·rw [if_neg h3, if_neg (fun h => h3 h.2.2)]
     exact ih (i + 1) (by omega) k _ _ (by omega) (by omega)
   ·rw [if_neg h2, if_neg (fun h => h2 h.2.1)]
    exact ih (i + 1) (by omega) k _ _ (by omega) (by omega)
  ·rw [if_neg (show ¬ 100 * (Z[i].f0.size : Int) + (Z[i].f1.size : Int) > long from h1), if_neg (fun h => h1 h.1)]
   exact ih (i + 1) (by omega) k _ _ (by omega) (by omega)
theorem zone_is (R : List Rt) (Z : List Zn) (a b : ByteArray) (hs : ∀ z ∈ Z, z.f0.size ≤ 1000 ∧ z.f1.size ≤ 1000) (hl : Z.length ≤ 1000000) (k : Nat) (hk : Z.length < k) : tariff_zone.f k R Z a b = some (zoneB Z a b) := by
 have h := zone_go a b Z hs hl Z.length 0 (by omega) k 0 (-1) hk (by omega)
 rw [List.drop_zero] at h
 exact h
end Go.Proofs.YtfglcfbcdhjcdaaDoor.Q

namespace Go.Proofs.YtfglcfbcdhjcdaaDoor.Q
open Go.RowKit Go.Proofs.YtfglcfbcdhjcdaaDoorW.PrintWords Go.Proofs.YtfglcfbcdhjcdaaDoorW.PrintLast Go.Proofs.YtfglcfbcdhjcdaaDoorW.PrintMore
set_option linter.unusedVariables false
set_option linter.unusedSimpArgs false
def code5 (x : Nat) : ByteArray := mdText [UInt8.ofNat (49 + x % 3), UInt8.ofNat (48 + x / 3 % 3), UInt8.ofNat (48 + x / 9 % 3), UInt8.ofNat (48 + x / 27 % 3), UInt8.ofNat (48 + x / 81 % 3)]
set_option maxRecDepth 100000 in
theorem code5_is : ∀ x ∈ List.range 256, strOfNums (([(wrap64 (49 + (Int.tmod (wrap64 (x : Int)) 3))) % 256, (wrap64 (48 + (Int.tmod (wrap64 (Int.tdiv (wrap64 (x : Int)) 3)) 3))) % 256, (wrap64 (48 + (Int.tmod (wrap64 (Int.tdiv (wrap64 (x : Int)) 9)) 3))) % 256, (wrap64 (48 + (Int.tmod (wrap64 (Int.tdiv (wrap64 (x : Int)) 27)) 3))) % 256, (wrap64 (48 + (Int.tmod (wrap64 (Int.tdiv (wrap64 (x : Int)) 81)) 3))) % 256] : List Int)) = code5 x := by decide +kernel
set_option maxRecDepth 100000 in
theorem code5_facts : ∀ x ∈ List.range 256, ((code5 x).size == 5 && (codeB (code5 x) && (codeB (code5 x ++ ⟨#[55]⟩) && (codeB (code5 x ++ ⟨#[65]⟩) && (prefB (code5 x ++ ⟨#[55]⟩) (code5 x) && (prefB (code5 x ++ ⟨#[65]⟩) (code5 x) && ((code5 x ++ ⟨#[55]⟩).size == 6 && (code5 x ++ ⟨#[65]⟩).size == 6))))))) = true := by decide +kernel
theorem codes_go (l : List Int) (hl : ∀ x ∈ l, 0 ≤ x ∧ x ≤ 255) (hn : l.length ≤ 1000) : ∀ d i : Nat, i + d = l.length → ∀ (k : Nat) (acc : List ByteArray), d < k → acc.length = i → letterbaglaw23_Codes.l0 k l acc (i : Int) = some (acc ++ (l.drop i).map (fun x => code5 x.toNat)) := by
 intro d
 induction d with
 | zero =>
  intro i hi k acc hk _
  obtain ⟨k, rfl⟩ : ∃ m, k = m + 1 := ⟨k - 1, by omega⟩
  simp only [letterbaglaw23_Codes.l0]
  rw [if_neg (by omega), List.drop_of_length_le (by omega), List.map_nil, List.append_nil]
 | succ d ih =>
  intro i hi k acc hk ha
  obtain ⟨k, rfl⟩ : ∃ m, k = m + 1 := ⟨k - 1, by omega⟩
  have hlt : i < l.length := by omega
  have hx := hl _ (List.getElem_mem hlt)
  have hrd : rd l (i : Int) = l[i] := by
   unfold rd
   rw [Int.toNat_natCast, List.getD_eq_getElem?_getD, List.getElem?_eq_getElem hlt]
   rfl
  simp only [letterbaglaw23_Codes.l0]
  rw [if_pos (by omega), if_pos (by omega), if_pos (by omega), if_pos (by omega), hrd]
  have hc := code5_is l[i].toNat (List.mem_range.2 (by omega))
  rw [show ((l[i].toNat : Nat) : Int) = l[i] by omega] at hc
  rw [hc, wrap64_id ((i : Int) + 1) (by omega) (by omega), show ((i : Int) + 1) = ((i + 1 : Nat) : Int) by omega, ih (i + 1) (by omega) k _ (by omega) (by simp [ha]), List.drop_eq_getElem_cons hlt, List.map_cons, List.append_assoc]
  rfl
theorem codes_is (l : List Int) (hl : ∀ x ∈ l, 0 ≤ x ∧ x ≤ 255) (hn : l.length ≤ 1000) (k : Nat) (hk : l.length < k) : letterbaglaw23_Codes.f k l = some (l.map (fun x => code5 x.toNat)) := by
 have h := codes_go l hl hn l.length 0 (by omega) k [] hk rfl
 rw [List.drop_zero, List.nil_append] at h
 exact h
theorem st_get (L : List Sp) (i : Nat) (h : i < L.length) : rd_T61 L (i : Int) = L[i] := by
 unfold rd_T61
 rw [Int.toNat_natCast, List.getD_eq_getElem?_getD, List.getElem?_eq_getElem h]
 rfl
theorem rt_get (L : List Rt) (i : Nat) (h : i < L.length) : rd_T57 L (i : Int) = L[i] := by
 unfold rd_T57
 rw [Int.toNat_natCast, List.getD_eq_getElem?_getD, List.getElem?_eq_getElem h]
 rfl
end Go.Proofs.YtfglcfbcdhjcdaaDoor.Q

namespace Go.Proofs.YtfglcfbcdhjcdaaDoor.Q
open Go.RowKit Go.Proofs.YtfglcfbcdhjcdaaDoorW.PrintWords Go.Proofs.YtfglcfbcdhjcdaaDoorW.PrintLast Go.Proofs.YtfglcfbcdhjcdaaDoorW.PrintMore
set_option linter.unusedVariables false
set_option linter.unusedSimpArgs false
theorem zone_f (R : List Rt) (Z : List Zn) (a b : ByteArray) (hR : tariff_Right.f R Z = some true) (hs : ∀ z ∈ Z, z.f0.size ≤ 1000 ∧ z.f1.size ≤ 1000) (hl : Z.length ≤ 20) (ha : codeB a = true) (ha2 : a.size ≤ 100) (hb : codeB b = true) (hb2 : b.size ≤ 100) :
  tariff_Zone.f 30 R Z a b = some (zoneB Z a b, 0) := by
 unfold tariff_Zone.f
 rw [hR]
 simp only [Option.bind_some, if_true]
 rw [code_is a (by omega), ha]
 simp only [Option.bind_some, if_true]
 rw [code_is b (by omega), hb]
 simp only [Option.bind_some, if_true]
 rw [zone_is R Z a b hs (by omega) 30 (by omega)]
 rfl
set_option maxRecDepth 100000 in
theorem mdRows_short : ∀ nz ∈ [1, 2, 3], ∀ x ∈ List.range 512, ((mdRows nz x 9).all (fun z => decide (z.f0.size ≤ 3) && decide (z.f1.size ≤ 4))) = true := by decide +kernel
theorem made_short (N : Nat) : ∀ z ∈ madeZ N, z.f0.size ≤ 3 ∧ z.f1.size ≤ 4 := by
 have h := mdRows_short (mdZ N) (by have := mdZ_range N; simp; omega) (mdX N) (List.mem_range.2 (mdX_range N))
 simp only [List.all_eq_true, Bool.and_eq_true, decide_eq_true_eq] at h
 exact h
structure IsCode (c : ByteArray) : Prop where
 sz : c.size = 5
 ok : codeB c = true
 ok7 : codeB (c ++ ⟨#[55]⟩) = true
 okA : codeB (c ++ ⟨#[65]⟩) = true
 pre7 : prefB (c ++ ⟨#[55]⟩) c = true
 preA : prefB (c ++ ⟨#[65]⟩) c = true
 sz7 : (c ++ ⟨#[55]⟩).size = 6
 szA : (c ++ ⟨#[65]⟩).size = 6
theorem isCode (x : Nat) (h : x < 256) : IsCode (code5 x) := by
 have f := code5_facts x (List.mem_range.2 h)
 simp only [Bool.and_eq_true, beq_iff_eq] at f
 obtain ⟨h1, h2, h3, h4, h5, h6, h7, h8⟩ := f
 exact ⟨h1, h2, h3, h4, h5, h6, h7, h8⟩
end Go.Proofs.YtfglcfbcdhjcdaaDoor.Q

namespace Go.Proofs.YtfglcfbcdhjcdaaDoor.Q
open Go.RowKit Go.Proofs.YtfglcfbcdhjcdaaDoorW.PrintWords Go.Proofs.YtfglcfbcdhjcdaaDoorW.PrintLast Go.Proofs.YtfglcfbcdhjcdaaDoorW.PrintMore
set_option linter.unusedVariables false
set_option linter.unusedSimpArgs false
theorem plain.calls (s : ByteArray) (hs : Fits s) (w : World) : Calls Tryd.prog 68 #[.string s] w fun e w' => e = .returned (.bool (plainB s)) ∧ Below w.heap.size w w' :=
 scheme_plain.calls s _ w (by unfold scheme_plain.f; rw [if_pos (show s.size ≤ 9223372036854775807 from hs)])
def labelOk (l : Lv) (k : Nat) (x : Lb) : Bool :=
 ((x.f0.size : Int) == l.f1) && (plainB x.f0 && (namedB x.f1 && (k == 0 || Op.bytesLess (rd_T90 l.f2 ((k : Int) - 1)).f0.toList x.f0.toList)))
def labelsGo (l : Lv) : Nat → List Lb → Bool
 | _, [] => true
 | k, x :: xs => labelOk l k x && labelsGo l (k + 1) xs
def aloneB (l : Lv) (last : Bool) : Bool :=
 if namedB l.f0 && (decide (0 ≤ l.f1) && (decide (l.f1 ≤ 10) && (decide (0 ≤ l.f4) && decide (l.f4 ≤ 1000000)))) then
  if last then (l.f1 == 0) && (decide (l.f2.length = 0) && (l.f3 == 0))
  else labelsGo l 0 l.f2 && (decide (1 ≤ l.f3) && decide (l.f3 ≤ 2000))
 else false
structure LevelFits (l : Lv) : Prop where
 nm : Fits l.f0
 ll : l.f2.length ≤ 100000
 pre : ∀ x ∈ l.f2, Fits x.f0
 grp : ∀ x ∈ l.f2, Fits x.f1
end Go.Proofs.YtfglcfbcdhjcdaaDoor.Q

namespace Go.Proofs.YtfglcfbcdhjcdaaDoor.Q
open Go.RowKit Go.Proofs.YtfglcfbcdhjcdaaDoorW.PrintWords Go.Proofs.YtfglcfbcdhjcdaaDoorW.PrintLast Go.Proofs.YtfglcfbcdhjcdaaDoorW.PrintMore
set_option linter.unusedVariables false
set_option linter.unusedSimpArgs false
structure AloneTop (l : Lv) : Prop where
 nm : namedB l.f0 = true
 t1 : ¬ l.f1 < 0
 t2 : ¬ 10 < l.f1
 t3 : ¬ l.f4 < 0
 t4 : ¬ 1000000 < l.f4
theorem drop_at (l : List Lb) (k : Nat) (h : k < l.length) : l.drop k = rd_T90 l (k : Int) :: l.drop (k + 1) ∧ rd_T90 l (k : Int) ∈ l := by
 unfold rd_T90
 rw [Int.toNat_natCast, List.getD_eq_getElem?_getD, List.getElem?_eq_getElem h]
 exact ⟨List.drop_eq_getElem_cons h, List.getElem_mem h⟩
set_option maxHeartbeats 8000000 in
set_option maxRecDepth 100000 in
theorem scheme_alone.loop (l : Lv) (A : Option Addr) (c : Nat) (w : World) (hr : Kd.C k90 w A l.f2.length l.f2) (hf : LevelFits l) (ht : AloneTop l) :
  Calls Tryd.prog 69 #[.agg #[.string l.f0, .int .i64 l.f1, .slice A l.f2.length c, .int .i64 l.f3, .int .i64 l.f4], .bool false] w
   fun e w' => e = .returned (.bool (labelsGo l 0 l.f2 && (decide (1 ≤ l.f3) && decide (l.f3 ≤ 2000)))) ∧ Below w.heap.size w w' := by
 have hll := hf.ll
 have HR := Aside0.mk hr
 have HF := Aside0.mk hf
 have hnm := fun W => named.calls l.f0 hf.nm W
 obtain ⟨h1, t1, t2, t3, t4⟩ := ht
 rw [h1] at hnm
 clear hr hf h1
 generalize hn : l.f2.length = n at *
 have HN := Aside0.mk hn
 clear hn
 go_enter Tryd.func69, Tryd.ntmps69
 go_wp2_with (go_at_call 83; refine (hnm _).mono ?_; rintro e w' ⟨rfl, ⟨nd, rfl⟩⟩)
 clear hnm
 go_loopg [49] n (fun gg s49 wr => ∃ k : Nat, k ≤ n ∧ n - k ≤ gg ∧ s49 = .int .i64 k ∧ Aside0 (Below w.heap.size w wr) ∧ Aside0 (wr.heap[w.heap.size]? = some (.cells #[.string l.f0, .int .i64 l.f1, .slice A n c, .int .i64 l.f3, .int .i64 l.f4] 54 (0, 0))) ∧ Aside0 (labelsGo l k (l.f2.drop k) = labelsGo l 0 l.f2))
 case atStart => exact ⟨0, Nat.zero_le _, by omega, rfl, ⟨pw_below_drewN ((Below.refl _ _).alloc (Nat.le_refl _) _) _⟩, ⟨heap_alloc_new _ _⟩, ⟨rfl⟩⟩
 case round =>
  obtain ⟨k, hk, hg, rfl, BW, HB, HA⟩ := hrel
  have b1 : wr.cell? ⟨w.heap.size, 1, none⟩ = some (.int .i64 l.f1) := (blk_cell HB.out 1).trans rfl
  have b2 : wr.cell? ⟨w.heap.size, 2, none⟩ = some (.slice A n c) := (blk_cell HB.out 2).trans rfl
  have b3 : wr.cell? ⟨w.heap.size, 3, none⟩ = some (.int .i64 l.f3) := (blk_cell HB.out 3).trans rfl
  have lb := World.block_lt_of_cell? wr _ b1
  have lb0 := lb
  by_cases hlt : k < n
  ·obtain ⟨hd, hx⟩ := drop_at l.f2 k (by have := HN.out; omega)
   have hf1 := HF.out.pre _ hx
   have hf2 := HF.out.grp _ hx
   obtain ⟨ad, rfl, hc0, hc1⟩ := at_T90 (Kd.C_below HR.out BW.out) (k : Int) (by omega) (by omega)
   simp only [Int.toNat_natCast] at hc0 hc1
   have HS : Aside0 (labelsGo l k (l.f2.drop k) = (labelOk l k (rd_T90 l.f2 (k : Int)) && labelsGo l (k + 1) (l.f2.drop (k + 1)))) := ⟨by rw [hd]; rfl⟩
   clear hd hx
   generalize rd_T90 l.f2 (k : Int) = x at *
   have x0 : (wr.alloc (.cells #[.string x.f0, .string x.f1] 90)).cell? ⟨wr.heap.size, 0, none⟩ = some (.string x.f0) := (blk_cell (heap_alloc_new _ _) 0).trans rfl
   have x1 : (wr.alloc (.cells #[.string x.f0, .string x.f1] 90)).cell? ⟨wr.heap.size, 1, none⟩ = some (.string x.f1) := (blk_cell (heap_alloc_new _ _) 1).trans rfl
   have HY := Aside0.mk (below_alloc (Below.refl wr.heap.size wr) (.cells #[.string x.f0, .string x.f1] 90))
   go_wp2_with fail
   generalize hW : wr.alloc (.cells #[.string x.f0, .string x.f1] 90) = W at *
   have lx : wr.heap.size < W.heap.size := by rw [← hW]; simp
   clear hW
   have b1 := (HY.out.cell (p := ⟨w.heap.size, 1, none⟩) lb).trans b1
   have b2 := (HY.out.cell (p := ⟨w.heap.size, 2, none⟩) lb).trans b2
   have b3 := (HY.out.cell (p := ⟨w.heap.size, 3, none⟩) lb).trans b3
   have lb : w.heap.size < W.heap.size := by omega
   by_cases q1 : (x.f0.size : Int) = l.f1
   case neg =>
    have q1a : ((x.f0.size : Int) != l.f1) = true := bne_iff_ne.2 q1
    have q1b : ((x.f0.size : Int) == l.f1) = false := beq_eq_false_iff_ne.2 q1
    have HX : Aside0 (labelsGo l 0 l.f2 = false) := ⟨by rw [← HA.out, HS.out]; unfold labelOk; rw [q1b]; rfl⟩
    clear q1
    go_quiet (fail)
    go_wp2
    go_ret
    exact ⟨by rw [HX.out]; rfl, pw_below_drewN (BW.out.trans (HY.out.mono BW.out.size)) _⟩
   case pos =>
    have q1a : ((x.f0.size : Int) != l.f1) = false := bne_eq_false_iff_eq.2 q1
    have q1b : ((x.f0.size : Int) == l.f1) = true := beq_iff_eq.2 q1
    have HS1 : Aside0 (labelOk l k x = (plainB x.f0 && (namedB x.f1 && (k == 0 || Op.bytesLess (rd_T90 l.f2 ((k : Int) - 1)).f0.toList x.f0.toList)))) := ⟨by unfold labelOk; rw [q1b]; rfl⟩
    clear q1 q1b
    have hpl := fun W => plain.calls x.f0 hf1 W
    have hnm := fun W => named.calls x.f1 hf2 W
    cases q2 : plainB x.f0 with
    | false =>
     rw [q2] at hpl
     have HX : Aside0 (labelsGo l 0 l.f2 = false) := ⟨by rw [← HA.out, HS.out, HS1.out, q2]; rfl⟩
     clear q2
     refine wp_region_held_drew (S := (fun w' => w'.cell? ⟨wr.heap.size, 0, none⟩ = some (.string x.f0) ∧ w'.cell? ⟨wr.heap.size, 1, none⟩ = some (.string x.f1) ∧ w'.cell? ⟨w.heap.size, 1, none⟩ = some (.int .i64 l.f1) ∧ w'.cell? ⟨w.heap.size, 2, none⟩ = some (.slice (some ad) n c))) (by kernel_rfl) ?_ (fun hHeld => ?_)
     ·((try dsimp only); (first | go_keep | exact ⟨(hbA.cell (p := ⟨wr.heap.size, 0, none⟩) lx).trans x0, (hbA.cell (p := ⟨wr.heap.size, 1, none⟩) lx).trans x1, (hbA.cell (p := ⟨w.heap.size, 1, none⟩) lb).trans b1, (hbA.cell (p := ⟨w.heap.size, 2, none⟩) lb).trans b2⟩))
     refine takeT 0 ?_ rfl (by kernel_rfl) (by kernel_rfl) (by kernel_rfl) (fun _ _ _ h => h) (by rfl) ?_ (by assumption) ?_
     rotate_left
     ·(intro w hSw; (try dsimp only at hSw); go_simp; (try with_reducible rfl))
     try simp only [Act.put, sl1, sl2, sl3]
     refine takeT 1 ?_ rfl (by kernel_rfl) (by kernel_rfl) (by kernel_rfl) (fun _ _ _ h => h) (by rfl) ?_ (by assumption) ?_
     rotate_left
     ·(intro w hSw; (try dsimp only at hSw); go_simp; (try with_reducible rfl))
     try simp only [Act.put, sl1, sl2, sl3]
     refine takeT 2 ?_ rfl (by kernel_rfl) (by kernel_rfl) (by kernel_rfl) (fun _ _ _ h => h) (by rfl) ?_ (by assumption) ?_
     rotate_left
     ·(intro w hSw; (try dsimp only at hSw); go_simp; (try with_reducible rfl))
     try simp only [Act.put, sl1, sl2, sl3]
     refine takeT 3 ?_ rfl (by kernel_rfl) (by kernel_rfl) (by kernel_rfl) (fun _ _ _ h => h) (by rfl) ?_ (by assumption) ?_
     rotate_left
     ·(intro w hSw; (try dsimp only at hSw); go_simp; (try with_reducible rfl))
     try simp only [Act.put, sl1, sl2, sl3]
     refine takeT 4 ?_ rfl (by kernel_rfl) (by kernel_rfl) (by kernel_rfl) (fun _ _ _ h => h) (by rfl) ?_ (by assumption) ?_
     rotate_left
     ·(intro w hSw; (try dsimp only at hSw); go_simp; (try with_reducible rfl))
     try simp only [Act.put, sl1, sl2, sl3]
     refine takeT 5 ?_ rfl (by kernel_rfl) (by kernel_rfl) (by kernel_rfl) (fun _ _ _ h => h) (by rfl) ?_ (by assumption) ?_
     rotate_left
     ·(intro w hSw; (try dsimp only at hSw); go_simp; (try with_reducible rfl))
     try simp only [Act.put, sl1, sl2, sl3]
     refine takeT 6 ?_ rfl (by kernel_rfl) (by kernel_rfl) (by kernel_rfl) (fun _ _ _ h => h) (by rfl) ?_ (by assumption) ?_
     rotate_left
     ·(intro w hSw; (try dsimp only at hSw); go_simp; (try with_reducible rfl))
     try simp only [Act.put, sl1, sl2, sl3]
     refine takeT 7 ?_ rfl (by kernel_rfl) (by kernel_rfl) (by kernel_rfl) (fun _ _ _ h => h) (by rfl) ?_ (by assumption) ?_
     rotate_left
     ·(intro w hSw; (try dsimp only at hSw); go_simp; (try with_reducible rfl))
     try simp only [Act.put, sl1, sl2, sl3]
     refine takeT 8 ?_ rfl (by kernel_rfl) (by kernel_rfl) (by kernel_rfl) (fun _ _ _ h => h) (by rfl) ?_ (by assumption) ?_
     rotate_left
     ·(intro w hSw; (try dsimp only at hSw); go_simp; (try with_reducible rfl))
     try simp only [Act.put, sl1, sl2, sl3]
     refine takeC 9 rfl (by kernel_rfl) (by rfl) (fun K hK => ?_)
     go_simp
     ((go_at_call 68; refine (hpl W.drew).mono ?_; rintro e wA ⟨rfl, hbA'⟩; have hbA := (below_drew (Below.refl W.heap.size W)).trans hbA'; clear hbA'))
     (try go_wp2_with fail)
     refine hK.out _ _ ?_ (fun hHeld => ?_)
     ·((try dsimp only); (first | go_keep | exact ⟨(hbA.cell (p := ⟨wr.heap.size, 0, none⟩) lx).trans x0, (hbA.cell (p := ⟨wr.heap.size, 1, none⟩) lx).trans x1, (hbA.cell (p := ⟨w.heap.size, 1, none⟩) lb).trans b1, (hbA.cell (p := ⟨w.heap.size, 2, none⟩) lb).trans b2⟩))
     clear hK K
     try simp only [Act.put, sl1, sl2, sl3]
     refine takeT 10 ?_ rfl (by kernel_rfl) (by kernel_rfl) (by kernel_rfl) (fun _ _ _ h => h) (by rfl) ?_ (by assumption) ?_
     rotate_left
     ·(intro w hSw; (try dsimp only at hSw); go_simp; (try with_reducible rfl))
     try simp only [Act.put, sl1, sl2, sl3]
     refine takeT 11 ?_ rfl (by kernel_rfl) (by kernel_rfl) (by kernel_rfl) (fun _ _ _ h => h) (by rfl) ?_ (by assumption) ?_
     rotate_left
     ·(intro w hSw; (try dsimp only at hSw); go_simp; (try with_reducible rfl))
     try simp only [Act.put, sl1, sl2, sl3]
     refine takeT 12 ?_ rfl (by kernel_rfl) (by kernel_rfl) (by kernel_rfl) (fun _ _ _ h => h) (by rfl) ?_ (by assumption) ?_
     rotate_left
     ·(intro w hSw; (try dsimp only at hSw); go_simp; (try with_reducible rfl))
     try simp only [Act.put, sl1, sl2, sl3]
     refine takeF 13 rfl (by kernel_rfl) (by kernel_rfl) (by kernel_rfl) (fun _ _ _ h => h) (by rfl) (by assumption) ?_
     try simp only [Act.put, sl1, sl2, sl3]
     refine takeF 14 rfl (by kernel_rfl) (by kernel_rfl) (by kernel_rfl) (fun _ _ _ h => h) (by rfl) (by assumption) ?_
     try simp only [Act.put, sl1, sl2, sl3]
     refine takeF 15 rfl (by kernel_rfl) (by kernel_rfl) (by kernel_rfl) (fun _ _ _ h => h) (by rfl) (by assumption) ?_
     try simp only [Act.put, sl1, sl2, sl3]
     refine takeF 16 rfl (by kernel_rfl) (by kernel_rfl) (by kernel_rfl) (fun _ _ _ h => h) (by rfl) (by assumption) ?_
     try simp only [Act.put, sl1, sl2, sl3]
     refine takeT 17 ?_ rfl (by kernel_rfl) (by kernel_rfl) (by kernel_rfl) (fun _ _ _ h => h) (by rfl) ?_ (by assumption) ?_
     rotate_left
     ·(intro w hSw; (try dsimp only at hSw); go_simp; (try with_reducible rfl))
     try simp only [Act.put, sl1, sl2, sl3]
     refine takeT 18 ?_ rfl (by kernel_rfl) (by kernel_rfl) (by kernel_rfl) (fun _ _ _ h => h) (by rfl) ?_ (by assumption) ?_
     rotate_left
     ·(intro w hSw; (try dsimp only at hSw); go_simp; (try with_reducible rfl))
     try simp only [Act.put, sl1, sl2, sl3]
     refine takeF 19 rfl (by kernel_rfl) (by kernel_rfl) (by kernel_rfl) (fun _ _ _ h => h) (by rfl) (by assumption) ?_
     try simp only [Act.put, sl1, sl2, sl3]
     refine takeF 20 rfl (by kernel_rfl) (by kernel_rfl) (by kernel_rfl) (fun _ _ _ h => h) (by rfl) (by assumption) ?_
     try simp only [Act.put, sl1, sl2, sl3]
     refine takeF 21 rfl (by kernel_rfl) (by kernel_rfl) (by kernel_rfl) (fun _ _ _ h => h) (by rfl) (by assumption) ?_
     try simp only [Act.put, sl1, sl2, sl3]
     refine takeF 22 rfl (by kernel_rfl) (by kernel_rfl) (by kernel_rfl) (fun _ _ _ h => h) (by rfl) (by assumption) ?_
     try simp only [Act.put, sl1, sl2, sl3]
     refine takeF 23 rfl (by kernel_rfl) (by kernel_rfl) (by kernel_rfl) (fun _ _ _ h => h) (by rfl) (by assumption) ?_
     try simp only [Act.put, sl1, sl2, sl3]
     refine takeF 24 rfl (by kernel_rfl) (by kernel_rfl) (by kernel_rfl) (fun _ _ _ h => h) (by rfl) (by assumption) ?_
     try simp only [Act.put, sl1, sl2, sl3]
     refine takeF 25 rfl (by kernel_rfl) (by kernel_rfl) (by kernel_rfl) (fun _ _ _ h => h) (by rfl) (by assumption) ?_
     try simp only [Act.put, sl1, sl2, sl3]
     refine takeF 26 rfl (by kernel_rfl) (by kernel_rfl) (by kernel_rfl) (fun _ _ _ h => h) (by rfl) (by assumption) ?_
     try simp only [Act.put, sl1, sl2, sl3]
     refine takeF 27 rfl (by kernel_rfl) (by kernel_rfl) (by kernel_rfl) (fun _ _ _ h => h) (by rfl) (by assumption) ?_
     try simp only [Act.put, sl1, sl2, sl3]
     refine takeF 28 rfl (by kernel_rfl) (by kernel_rfl) (by kernel_rfl) (fun _ _ _ h => h) (by rfl) (by assumption) ?_
     try simp only [Act.put, sl1, sl2, sl3]
     refine takeF 29 rfl (by kernel_rfl) (by kernel_rfl) (by kernel_rfl) (fun _ _ _ h => h) (by rfl) (by assumption) ?_
     try simp only [Act.put, sl1, sl2, sl3]
     refine takeF 30 rfl (by kernel_rfl) (by kernel_rfl) (by kernel_rfl) (fun _ _ _ h => h) (by rfl) (by assumption) ?_
     try simp only [Act.put, sl1, sl2, sl3]
     refine takeF 31 rfl (by kernel_rfl) (by kernel_rfl) (by kernel_rfl) (fun _ _ _ h => h) (by rfl) (by assumption) ?_
     try simp only [Act.put, sl1, sl2, sl3]
     refine takeF 32 rfl (by kernel_rfl) (by kernel_rfl) (by kernel_rfl) (fun _ _ _ h => h) (by rfl) (by assumption) ?_
     try simp only [Act.put, sl1, sl2, sl3]
     refine takeT 33 ?_ rfl (by kernel_rfl) (by kernel_rfl) (by kernel_rfl) (fun _ _ _ h => h) (by rfl) ?_ (by assumption) ?_
     rotate_left
     ·(intro w hSw; (try dsimp only at hSw); go_simp; (try with_reducible rfl))
     try simp only [Act.put, sl1, sl2, sl3]
     refine wpAnyH_done (by kernel_rfl) ?_ _
     go_wp2
     go_ret
     exact ⟨by rw [HX.out]; rfl, (BW.out.trans (HY.out.mono BW.out.size)).trans (hbA.mono (Nat.le_trans BW.out.size HY.out.size))⟩
    | true =>
     rw [q2] at hpl
     cases q3 : namedB x.f1 with
     | false =>
      rw [q3] at hnm
      have HX : Aside0 (labelsGo l 0 l.f2 = false) := ⟨by rw [← HA.out, HS.out, HS1.out, q2, q3]; rfl⟩
      clear q2 q3
      refine wp_region_held_drew (S := (fun w' => w'.cell? ⟨wr.heap.size, 0, none⟩ = some (.string x.f0) ∧ w'.cell? ⟨wr.heap.size, 1, none⟩ = some (.string x.f1) ∧ w'.cell? ⟨w.heap.size, 1, none⟩ = some (.int .i64 l.f1) ∧ w'.cell? ⟨w.heap.size, 2, none⟩ = some (.slice (some ad) n c))) (by kernel_rfl) ?_ (fun hHeld => ?_)
      ·((try dsimp only); (first | go_keep | exact ⟨(hbA.cell (p := ⟨wr.heap.size, 0, none⟩) lx).trans x0, (hbA.cell (p := ⟨wr.heap.size, 1, none⟩) lx).trans x1, (hbA.cell (p := ⟨w.heap.size, 1, none⟩) lb).trans b1, (hbA.cell (p := ⟨w.heap.size, 2, none⟩) lb).trans b2⟩))
      refine takeT 0 ?_ rfl (by kernel_rfl) (by kernel_rfl) (by kernel_rfl) (fun _ _ _ h => h) (by rfl) ?_ (by assumption) ?_
      rotate_left
      ·(intro w hSw; (try dsimp only at hSw); go_simp; (try with_reducible rfl))
      try simp only [Act.put, sl1, sl2, sl3]
      refine takeT 1 ?_ rfl (by kernel_rfl) (by kernel_rfl) (by kernel_rfl) (fun _ _ _ h => h) (by rfl) ?_ (by assumption) ?_
      rotate_left
      ·(intro w hSw; (try dsimp only at hSw); go_simp; (try with_reducible rfl))
      try simp only [Act.put, sl1, sl2, sl3]
      refine takeT 2 ?_ rfl (by kernel_rfl) (by kernel_rfl) (by kernel_rfl) (fun _ _ _ h => h) (by rfl) ?_ (by assumption) ?_
      rotate_left
      ·(intro w hSw; (try dsimp only at hSw); go_simp; (try with_reducible rfl))
      try simp only [Act.put, sl1, sl2, sl3]
      refine takeT 3 ?_ rfl (by kernel_rfl) (by kernel_rfl) (by kernel_rfl) (fun _ _ _ h => h) (by rfl) ?_ (by assumption) ?_
      rotate_left
      ·(intro w hSw; (try dsimp only at hSw); go_simp; (try with_reducible rfl))
      try simp only [Act.put, sl1, sl2, sl3]
      refine takeT 4 ?_ rfl (by kernel_rfl) (by kernel_rfl) (by kernel_rfl) (fun _ _ _ h => h) (by rfl) ?_ (by assumption) ?_
      rotate_left
      ·(intro w hSw; (try dsimp only at hSw); go_simp; (try with_reducible rfl))
      try simp only [Act.put, sl1, sl2, sl3]
      refine takeT 5 ?_ rfl (by kernel_rfl) (by kernel_rfl) (by kernel_rfl) (fun _ _ _ h => h) (by rfl) ?_ (by assumption) ?_
      rotate_left
      ·(intro w hSw; (try dsimp only at hSw); go_simp; (try with_reducible rfl))
      try simp only [Act.put, sl1, sl2, sl3]
      refine takeT 6 ?_ rfl (by kernel_rfl) (by kernel_rfl) (by kernel_rfl) (fun _ _ _ h => h) (by rfl) ?_ (by assumption) ?_
      rotate_left
      ·(intro w hSw; (try dsimp only at hSw); go_simp; (try with_reducible rfl))
      try simp only [Act.put, sl1, sl2, sl3]
      refine takeT 7 ?_ rfl (by kernel_rfl) (by kernel_rfl) (by kernel_rfl) (fun _ _ _ h => h) (by rfl) ?_ (by assumption) ?_
      rotate_left
      ·(intro w hSw; (try dsimp only at hSw); go_simp; (try with_reducible rfl))
      try simp only [Act.put, sl1, sl2, sl3]
      refine takeT 8 ?_ rfl (by kernel_rfl) (by kernel_rfl) (by kernel_rfl) (fun _ _ _ h => h) (by rfl) ?_ (by assumption) ?_
      rotate_left
      ·(intro w hSw; (try dsimp only at hSw); go_simp; (try with_reducible rfl))
      try simp only [Act.put, sl1, sl2, sl3]
      refine takeC 9 rfl (by kernel_rfl) (by rfl) (fun K hK => ?_)
      go_simp
      (first | (go_at_call 68; refine (hpl W.drew).mono ?_; rintro e wA ⟨rfl, hbA'⟩; have hbA := (below_drew (Below.refl W.heap.size W)).trans hbA'; clear hbA') | (go_at_call 83; refine (hnm _).mono ?_; rintro e wB ⟨rfl, ⟨ne, rfl⟩⟩))
      (try go_wp2_with fail)
      refine hK.out _ _ ?_ (fun hHeld => ?_)
      ·((try dsimp only); (first | go_keep | exact ⟨(hbA.cell (p := ⟨wr.heap.size, 0, none⟩) lx).trans x0, (hbA.cell (p := ⟨wr.heap.size, 1, none⟩) lx).trans x1, (hbA.cell (p := ⟨w.heap.size, 1, none⟩) lb).trans b1, (hbA.cell (p := ⟨w.heap.size, 2, none⟩) lb).trans b2⟩))
      clear hK K
      try simp only [Act.put, sl1, sl2, sl3]
      refine takeT 10 ?_ rfl (by kernel_rfl) (by kernel_rfl) (by kernel_rfl) (fun _ _ _ h => h) (by rfl) ?_ (by assumption) ?_
      rotate_left
      ·(intro w hSw; (try dsimp only at hSw); go_simp; (try with_reducible rfl))
      try simp only [Act.put, sl1, sl2, sl3]
      refine takeT 11 ?_ rfl (by kernel_rfl) (by kernel_rfl) (by kernel_rfl) (fun _ _ _ h => h) (by rfl) ?_ (by assumption) ?_
      rotate_left
      ·(intro w hSw; (try dsimp only at hSw); go_simp; (try with_reducible rfl))
      try simp only [Act.put, sl1, sl2, sl3]
      refine takeT 12 ?_ rfl (by kernel_rfl) (by kernel_rfl) (by kernel_rfl) (fun _ _ _ h => h) (by rfl) ?_ (by assumption) ?_
      rotate_left
      ·(intro w hSw; (try dsimp only at hSw); go_simp; (try with_reducible rfl))
      try simp only [Act.put, sl1, sl2, sl3]
      refine takeT 13 ?_ rfl (by kernel_rfl) (by kernel_rfl) (by kernel_rfl) (fun _ _ _ h => h) (by rfl) ?_ (by assumption) ?_
      rotate_left
      ·(intro w hSw; (try dsimp only at hSw); go_simp; (try with_reducible rfl))
      try simp only [Act.put, sl1, sl2, sl3]
      refine takeT 14 ?_ rfl (by kernel_rfl) (by kernel_rfl) (by kernel_rfl) (fun _ _ _ h => h) (by rfl) ?_ (by assumption) ?_
      rotate_left
      ·(intro w hSw; (try dsimp only at hSw); go_simp; (try with_reducible rfl))
      try simp only [Act.put, sl1, sl2, sl3]
      refine takeC 15 rfl (by kernel_rfl) (by rfl) (fun K hK => ?_)
      go_simp
      (first | (go_at_call 68; refine (hpl W.drew).mono ?_; rintro e wA ⟨rfl, hbA'⟩; have hbA := (below_drew (Below.refl W.heap.size W)).trans hbA'; clear hbA') | (go_at_call 83; refine (hnm _).mono ?_; rintro e wB ⟨rfl, ⟨ne, rfl⟩⟩))
      (try go_wp2_with fail)
      refine hK.out _ _ ?_ (fun hHeld => ?_)
      ·((try dsimp only); (first | go_keep | exact ⟨(hbA.cell (p := ⟨wr.heap.size, 0, none⟩) lx).trans x0, (hbA.cell (p := ⟨wr.heap.size, 1, none⟩) lx).trans x1, (hbA.cell (p := ⟨w.heap.size, 1, none⟩) lb).trans b1, (hbA.cell (p := ⟨w.heap.size, 2, none⟩) lb).trans b2⟩))
      clear hK K
      try simp only [Act.put, sl1, sl2, sl3]
      refine takeT 16 ?_ rfl (by kernel_rfl) (by kernel_rfl) (by kernel_rfl) (fun _ _ _ h => h) (by rfl) ?_ (by assumption) ?_
      rotate_left
      ·(intro w hSw; (try dsimp only at hSw); go_simp; (try with_reducible rfl))
      try simp only [Act.put, sl1, sl2, sl3]
      refine takeT 17 ?_ rfl (by kernel_rfl) (by kernel_rfl) (by kernel_rfl) (fun _ _ _ h => h) (by rfl) ?_ (by assumption) ?_
      rotate_left
      ·(intro w hSw; (try dsimp only at hSw); go_simp; (try with_reducible rfl))
      try simp only [Act.put, sl1, sl2, sl3]
      refine takeT 18 ?_ rfl (by kernel_rfl) (by kernel_rfl) (by kernel_rfl) (fun _ _ _ h => h) (by rfl) ?_ (by assumption) ?_
      rotate_left
      ·(intro w hSw; (try dsimp only at hSw); go_simp; (try with_reducible rfl))
      try simp only [Act.put, sl1, sl2, sl3]
      refine takeF 19 rfl (by kernel_rfl) (by kernel_rfl) (by kernel_rfl) (fun _ _ _ h => h) (by rfl) (by assumption) ?_
      try simp only [Act.put, sl1, sl2, sl3]
      refine takeF 20 rfl (by kernel_rfl) (by kernel_rfl) (by kernel_rfl) (fun _ _ _ h => h) (by rfl) (by assumption) ?_
      try simp only [Act.put, sl1, sl2, sl3]
      refine takeF 21 rfl (by kernel_rfl) (by kernel_rfl) (by kernel_rfl) (fun _ _ _ h => h) (by rfl) (by assumption) ?_
      try simp only [Act.put, sl1, sl2, sl3]
      refine takeF 22 rfl (by kernel_rfl) (by kernel_rfl) (by kernel_rfl) (fun _ _ _ h => h) (by rfl) (by assumption) ?_
      try simp only [Act.put, sl1, sl2, sl3]
      refine takeF 23 rfl (by kernel_rfl) (by kernel_rfl) (by kernel_rfl) (fun _ _ _ h => h) (by rfl) (by assumption) ?_
      try simp only [Act.put, sl1, sl2, sl3]
      refine takeF 24 rfl (by kernel_rfl) (by kernel_rfl) (by kernel_rfl) (fun _ _ _ h => h) (by rfl) (by assumption) ?_
      try simp only [Act.put, sl1, sl2, sl3]
      refine takeF 25 rfl (by kernel_rfl) (by kernel_rfl) (by kernel_rfl) (fun _ _ _ h => h) (by rfl) (by assumption) ?_
      try simp only [Act.put, sl1, sl2, sl3]
      refine takeF 26 rfl (by kernel_rfl) (by kernel_rfl) (by kernel_rfl) (fun _ _ _ h => h) (by rfl) (by assumption) ?_
      try simp only [Act.put, sl1, sl2, sl3]
      refine takeF 27 rfl (by kernel_rfl) (by kernel_rfl) (by kernel_rfl) (fun _ _ _ h => h) (by rfl) (by assumption) ?_
      try simp only [Act.put, sl1, sl2, sl3]
      refine takeF 28 rfl (by kernel_rfl) (by kernel_rfl) (by kernel_rfl) (fun _ _ _ h => h) (by rfl) (by assumption) ?_
      try simp only [Act.put, sl1, sl2, sl3]
      refine takeF 29 rfl (by kernel_rfl) (by kernel_rfl) (by kernel_rfl) (fun _ _ _ h => h) (by rfl) (by assumption) ?_
      try simp only [Act.put, sl1, sl2, sl3]
      refine takeF 30 rfl (by kernel_rfl) (by kernel_rfl) (by kernel_rfl) (fun _ _ _ h => h) (by rfl) (by assumption) ?_
      try simp only [Act.put, sl1, sl2, sl3]
      refine takeF 31 rfl (by kernel_rfl) (by kernel_rfl) (by kernel_rfl) (fun _ _ _ h => h) (by rfl) (by assumption) ?_
      try simp only [Act.put, sl1, sl2, sl3]
      refine takeF 32 rfl (by kernel_rfl) (by kernel_rfl) (by kernel_rfl) (fun _ _ _ h => h) (by rfl) (by assumption) ?_
      try simp only [Act.put, sl1, sl2, sl3]
      refine takeT 33 ?_ rfl (by kernel_rfl) (by kernel_rfl) (by kernel_rfl) (fun _ _ _ h => h) (by rfl) ?_ (by assumption) ?_
      rotate_left
      ·(intro w hSw; (try dsimp only at hSw); go_simp; (try with_reducible rfl))
      try simp only [Act.put, sl1, sl2, sl3]
      refine wpAnyH_done (by kernel_rfl) ?_ _
      go_wp2
      go_ret
      exact ⟨by rw [HX.out]; rfl, pw_below_drewN ((BW.out.trans (HY.out.mono BW.out.size)).trans (hbA.mono (Nat.le_trans BW.out.size HY.out.size))) _⟩
     | true =>
      rw [q3] at hnm
      have HS2 : Aside0 (labelOk l k x = (k == 0 || Op.bytesLess (rd_T90 l.f2 ((k : Int) - 1)).f0.toList x.f0.toList)) := ⟨by rw [HS1.out, q2, q3]; rfl⟩
      clear q2 q3 HS1
      by_cases k0 : k = 0
      ·subst k0
       have HX : Aside0 (labelsGo l 1 (l.f2.drop 1) = labelsGo l 0 l.f2) := ⟨by rw [← HA.out, HS.out, HS2.out]; rfl⟩
       refine wp_region_held_drew (S := (fun w' => w'.cell? ⟨wr.heap.size, 0, none⟩ = some (.string x.f0) ∧ w'.cell? ⟨wr.heap.size, 1, none⟩ = some (.string x.f1) ∧ w'.cell? ⟨w.heap.size, 1, none⟩ = some (.int .i64 l.f1) ∧ w'.cell? ⟨w.heap.size, 2, none⟩ = some (.slice (some ad) n c))) (by kernel_rfl) ?_ (fun hHeld => ?_)
       ·((try dsimp only); (first | go_keep | exact ⟨(hbA.cell (p := ⟨wr.heap.size, 0, none⟩) lx).trans x0, (hbA.cell (p := ⟨wr.heap.size, 1, none⟩) lx).trans x1, (hbA.cell (p := ⟨w.heap.size, 1, none⟩) lb).trans b1, (hbA.cell (p := ⟨w.heap.size, 2, none⟩) lb).trans b2⟩))
       refine takeT 0 ?_ rfl (by kernel_rfl) (by kernel_rfl) (by kernel_rfl) (fun _ _ _ h => h) (by rfl) ?_ (by assumption) ?_
       rotate_left
       ·(intro w hSw; (try dsimp only at hSw); go_simp; (try with_reducible rfl))
       try simp only [Act.put, sl1, sl2, sl3]
       refine takeT 1 ?_ rfl (by kernel_rfl) (by kernel_rfl) (by kernel_rfl) (fun _ _ _ h => h) (by rfl) ?_ (by assumption) ?_
       rotate_left
       ·(intro w hSw; (try dsimp only at hSw); go_simp; (try with_reducible rfl))
       try simp only [Act.put, sl1, sl2, sl3]
       refine takeT 2 ?_ rfl (by kernel_rfl) (by kernel_rfl) (by kernel_rfl) (fun _ _ _ h => h) (by rfl) ?_ (by assumption) ?_
       rotate_left
       ·(intro w hSw; (try dsimp only at hSw); go_simp; (try with_reducible rfl))
       try simp only [Act.put, sl1, sl2, sl3]
       refine takeT 3 ?_ rfl (by kernel_rfl) (by kernel_rfl) (by kernel_rfl) (fun _ _ _ h => h) (by rfl) ?_ (by assumption) ?_
       rotate_left
       ·(intro w hSw; (try dsimp only at hSw); go_simp; (try with_reducible rfl))
       try simp only [Act.put, sl1, sl2, sl3]
       refine takeT 4 ?_ rfl (by kernel_rfl) (by kernel_rfl) (by kernel_rfl) (fun _ _ _ h => h) (by rfl) ?_ (by assumption) ?_
       rotate_left
       ·(intro w hSw; (try dsimp only at hSw); go_simp; (try with_reducible rfl))
       try simp only [Act.put, sl1, sl2, sl3]
       refine takeT 5 ?_ rfl (by kernel_rfl) (by kernel_rfl) (by kernel_rfl) (fun _ _ _ h => h) (by rfl) ?_ (by assumption) ?_
       rotate_left
       ·(intro w hSw; (try dsimp only at hSw); go_simp; (try with_reducible rfl))
       try simp only [Act.put, sl1, sl2, sl3]
       refine takeT 6 ?_ rfl (by kernel_rfl) (by kernel_rfl) (by kernel_rfl) (fun _ _ _ h => h) (by rfl) ?_ (by assumption) ?_
       rotate_left
       ·(intro w hSw; (try dsimp only at hSw); go_simp; (try with_reducible rfl))
       try simp only [Act.put, sl1, sl2, sl3]
       refine takeT 7 ?_ rfl (by kernel_rfl) (by kernel_rfl) (by kernel_rfl) (fun _ _ _ h => h) (by rfl) ?_ (by assumption) ?_
       rotate_left
       ·(intro w hSw; (try dsimp only at hSw); go_simp; (try with_reducible rfl))
       try simp only [Act.put, sl1, sl2, sl3]
       refine takeT 8 ?_ rfl (by kernel_rfl) (by kernel_rfl) (by kernel_rfl) (fun _ _ _ h => h) (by rfl) ?_ (by assumption) ?_
       rotate_left
       ·(intro w hSw; (try dsimp only at hSw); go_simp; (try with_reducible rfl))
       try simp only [Act.put, sl1, sl2, sl3]
       refine takeC 9 rfl (by kernel_rfl) (by rfl) (fun K hK => ?_)
       go_simp
       (first | (go_at_call 68; refine (hpl W.drew).mono ?_; rintro e wA ⟨rfl, hbA'⟩; have hbA := (below_drew (Below.refl W.heap.size W)).trans hbA'; clear hbA') | (go_at_call 83; refine (hnm _).mono ?_; rintro e wB ⟨rfl, ⟨ne, rfl⟩⟩))
       (try go_wp2_with fail)
       refine hK.out _ _ ?_ (fun hHeld => ?_)
       ·((try dsimp only); (first | go_keep | exact ⟨(hbA.cell (p := ⟨wr.heap.size, 0, none⟩) lx).trans x0, (hbA.cell (p := ⟨wr.heap.size, 1, none⟩) lx).trans x1, (hbA.cell (p := ⟨w.heap.size, 1, none⟩) lb).trans b1, (hbA.cell (p := ⟨w.heap.size, 2, none⟩) lb).trans b2⟩))
       clear hK K
       try simp only [Act.put, sl1, sl2, sl3]
       refine takeT 10 ?_ rfl (by kernel_rfl) (by kernel_rfl) (by kernel_rfl) (fun _ _ _ h => h) (by rfl) ?_ (by assumption) ?_
       rotate_left
       ·(intro w hSw; (try dsimp only at hSw); go_simp; (try with_reducible rfl))
       try simp only [Act.put, sl1, sl2, sl3]
       refine takeT 11 ?_ rfl (by kernel_rfl) (by kernel_rfl) (by kernel_rfl) (fun _ _ _ h => h) (by rfl) ?_ (by assumption) ?_
       rotate_left
       ·(intro w hSw; (try dsimp only at hSw); go_simp; (try with_reducible rfl))
       try simp only [Act.put, sl1, sl2, sl3]
       refine takeT 12 ?_ rfl (by kernel_rfl) (by kernel_rfl) (by kernel_rfl) (fun _ _ _ h => h) (by rfl) ?_ (by assumption) ?_
       rotate_left
       ·(intro w hSw; (try dsimp only at hSw); go_simp; (try with_reducible rfl))
       try simp only [Act.put, sl1, sl2, sl3]
       refine takeT 13 ?_ rfl (by kernel_rfl) (by kernel_rfl) (by kernel_rfl) (fun _ _ _ h => h) (by rfl) ?_ (by assumption) ?_
       rotate_left
       ·(intro w hSw; (try dsimp only at hSw); go_simp; (try with_reducible rfl))
       try simp only [Act.put, sl1, sl2, sl3]
       refine takeT 14 ?_ rfl (by kernel_rfl) (by kernel_rfl) (by kernel_rfl) (fun _ _ _ h => h) (by rfl) ?_ (by assumption) ?_
       rotate_left
       ·(intro w hSw; (try dsimp only at hSw); go_simp; (try with_reducible rfl))
       try simp only [Act.put, sl1, sl2, sl3]
       refine takeC 15 rfl (by kernel_rfl) (by rfl) (fun K hK => ?_)
       go_simp
       (first | (go_at_call 68; refine (hpl W.drew).mono ?_; rintro e wA ⟨rfl, hbA'⟩; have hbA := (below_drew (Below.refl W.heap.size W)).trans hbA'; clear hbA') | (go_at_call 83; refine (hnm _).mono ?_; rintro e wB ⟨rfl, ⟨ne, rfl⟩⟩))
       (try go_wp2_with fail)
       refine hK.out _ _ ?_ (fun hHeld => ?_)
       ·((try dsimp only); (first | go_keep | exact ⟨(hbA.cell (p := ⟨wr.heap.size, 0, none⟩) lx).trans x0, (hbA.cell (p := ⟨wr.heap.size, 1, none⟩) lx).trans x1, (hbA.cell (p := ⟨w.heap.size, 1, none⟩) lb).trans b1, (hbA.cell (p := ⟨w.heap.size, 2, none⟩) lb).trans b2⟩))
       clear hK K
       try simp only [Act.put, sl1, sl2, sl3]
       refine takeT 16 ?_ rfl (by kernel_rfl) (by kernel_rfl) (by kernel_rfl) (fun _ _ _ h => h) (by rfl) ?_ (by assumption) ?_
       rotate_left
       ·(intro w hSw; (try dsimp only at hSw); go_simp; (try with_reducible rfl))
       try simp only [Act.put, sl1, sl2, sl3]
       refine takeT 17 ?_ rfl (by kernel_rfl) (by kernel_rfl) (by kernel_rfl) (fun _ _ _ h => h) (by rfl) ?_ (by assumption) ?_
       rotate_left
       ·(intro w hSw; (try dsimp only at hSw); go_simp; (try with_reducible rfl))
       try simp only [Act.put, sl1, sl2, sl3]
       refine takeT 18 ?_ rfl (by kernel_rfl) (by kernel_rfl) (by kernel_rfl) (fun _ _ _ h => h) (by rfl) ?_ (by assumption) ?_
       rotate_left
       ·(intro w hSw; (try dsimp only at hSw); go_simp; (try with_reducible rfl))
       try simp only [Act.put, sl1, sl2, sl3]
       refine takeT 19 ?_ rfl (by kernel_rfl) (by kernel_rfl) (by kernel_rfl) (fun _ _ _ h => h) (by rfl) ?_ (by assumption) ?_
       rotate_left
       ·(intro w hSw; (try dsimp only at hSw); go_simp; (try with_reducible rfl))
       try simp only [Act.put, sl1, sl2, sl3]
       refine takeT 20 ?_ rfl (by kernel_rfl) (by kernel_rfl) (by kernel_rfl) (fun _ _ _ h => h) (by rfl) ?_ (by assumption) ?_
       rotate_left
       ·(intro w hSw; (try dsimp only at hSw); go_simp; (try with_reducible rfl))
       try simp only [Act.put, sl1, sl2, sl3]
       refine takeT 21 ?_ rfl (by kernel_rfl) (by kernel_rfl) (by kernel_rfl) (fun _ _ _ h => h) (by rfl) ?_ (by assumption) ?_
       rotate_left
       ·(intro w hSw; (try dsimp only at hSw); go_simp; (try with_reducible rfl))
       try simp only [Act.put, sl1, sl2, sl3]
       refine takeF 22 rfl (by kernel_rfl) (by kernel_rfl) (by kernel_rfl) (fun _ _ _ h => h) (by rfl) (by assumption) ?_
       try simp only [Act.put, sl1, sl2, sl3]
       refine takeF 23 rfl (by kernel_rfl) (by kernel_rfl) (by kernel_rfl) (fun _ _ _ h => h) (by rfl) (by assumption) ?_
       try simp only [Act.put, sl1, sl2, sl3]
       refine takeF 24 rfl (by kernel_rfl) (by kernel_rfl) (by kernel_rfl) (fun _ _ _ h => h) (by rfl) (by assumption) ?_
       try simp only [Act.put, sl1, sl2, sl3]
       refine takeF 25 rfl (by kernel_rfl) (by kernel_rfl) (by kernel_rfl) (fun _ _ _ h => h) (by rfl) (by assumption) ?_
       try simp only [Act.put, sl1, sl2, sl3]
       refine takeF 26 rfl (by kernel_rfl) (by kernel_rfl) (by kernel_rfl) (fun _ _ _ h => h) (by rfl) (by assumption) ?_
       try simp only [Act.put, sl1, sl2, sl3]
       refine takeF 27 rfl (by kernel_rfl) (by kernel_rfl) (by kernel_rfl) (fun _ _ _ h => h) (by rfl) (by assumption) ?_
       try simp only [Act.put, sl1, sl2, sl3]
       refine takeF 28 rfl (by kernel_rfl) (by kernel_rfl) (by kernel_rfl) (fun _ _ _ h => h) (by rfl) (by assumption) ?_
       try simp only [Act.put, sl1, sl2, sl3]
       refine takeF 29 rfl (by kernel_rfl) (by kernel_rfl) (by kernel_rfl) (fun _ _ _ h => h) (by rfl) (by assumption) ?_
       try simp only [Act.put, sl1, sl2, sl3]
       refine takeF 30 rfl (by kernel_rfl) (by kernel_rfl) (by kernel_rfl) (fun _ _ _ h => h) (by rfl) (by assumption) ?_
       try simp only [Act.put, sl1, sl2, sl3]
       refine takeF 31 rfl (by kernel_rfl) (by kernel_rfl) (by kernel_rfl) (fun _ _ _ h => h) (by rfl) (by assumption) ?_
       try simp only [Act.put, sl1, sl2, sl3]
       refine takeT 32 ?_ rfl (by kernel_rfl) (by kernel_rfl) (by kernel_rfl) (fun _ _ _ h => h) (by rfl) ?_ (by assumption) ?_
       rotate_left
       ·(intro w hSw; (try dsimp only at hSw); go_simp; (try with_reducible rfl))
       try simp only [Act.put, sl1, sl2, sl3]
       refine takeT 33 ?_ rfl (by kernel_rfl) (by kernel_rfl) (by kernel_rfl) (fun _ _ _ h => h) (by rfl) ?_ (by assumption) ?_
       rotate_left
       ·(intro w hSw; (try dsimp only at hSw); go_simp; (try with_reducible rfl))
       try simp only [Act.put, sl1, sl2, sl3]
       refine wpAnyH_done (by kernel_rfl) ?_ _
       go_wp2
       go_roundg (n - (0 + 1))
       case measure => omega
       case rel =>
        have hYA := HY.out.trans (hbA.mono HY.out.size)
        exact ⟨0 + 1, by omega, Nat.le_refl _, by go_num, ⟨pw_below_drewN (BW.out.trans (hYA.mono BW.out.size)) _⟩, ⟨((pw_below_drewN hYA _).block _ lb0).trans HB.out⟩, HX⟩
      ·have kp : 0 < k := by omega
       obtain ⟨ad', e', y0, -⟩ := at_T90 (Kd.C_below HR.out (BW.out.trans (HY.out.mono BW.out.size))) ((k : Int) - 1) (by omega) (by omega)
       injection e' with e'
       subst e'
       rw [show ((k : Int) - 1).toNat = k - 1 by omega] at y0
       generalize rd_T90 l.f2 ((k : Int) - 1) = y at *
       have lp := World.block_lt_of_cell? W _ y0
       have hw1 : IntKind.i64.wrap ((k : Int) - 1) = (k : Int) - 1 := wrap_i64_int (by omega) (by omega)
       have tn1 : ((k : Int) - 1).toNat = k - 1 := by omega
       have i0 : (0 : Int) ≤ (k : Int) - 1 := by omega
       have i2 : (1 : Int) ≤ (k : Int) := by omega
       have i3 : 1 ≤ k := by omega
       have i4 : (k : Int) - 1 + 1 ≤ (n : Int) := by omega
       have i1 : (k : Int) - 1 < (n : Int) := by omega
       cases q4 : Op.bytesLess y.f0.toList x.f0.toList with
       | false =>
        have HX : Aside0 (labelsGo l 0 l.f2 = false) := ⟨by rw [← HA.out, HS.out, HS2.out, q4]; simp [k0]⟩
        refine wp_region_held_drew (S := (fun w' => w'.cell? ⟨wr.heap.size, 0, none⟩ = some (.string x.f0) ∧ w'.cell? ⟨wr.heap.size, 1, none⟩ = some (.string x.f1) ∧ w'.cell? ⟨w.heap.size, 1, none⟩ = some (.int .i64 l.f1) ∧ w'.cell? ⟨w.heap.size, 2, none⟩ = some (.slice (some ad) n c) ∧ w'.cell? (ad.add ((k - 1) * 2)) = some (.string y.f0))) (by kernel_rfl) ?_ (fun hHeld => ?_)
        ·((try dsimp only); (first | go_keep | exact ⟨(hbA.cell (p := ⟨wr.heap.size, 0, none⟩) lx).trans x0, (hbA.cell (p := ⟨wr.heap.size, 1, none⟩) lx).trans x1, (hbA.cell (p := ⟨w.heap.size, 1, none⟩) lb).trans b1, (hbA.cell (p := ⟨w.heap.size, 2, none⟩) lb).trans b2, (hbA.cell lp).trans y0⟩))
        refine takeT 0 ?_ rfl (by kernel_rfl) (by kernel_rfl) (by kernel_rfl) (fun _ _ _ h => h) (by rfl) ?_ (by assumption) ?_
        rotate_left
        ·(intro w hSw; (try dsimp only at hSw); go_simp; (try with_reducible rfl))
        try simp only [Act.put, sl1, sl2, sl3]
        refine takeT 1 ?_ rfl (by kernel_rfl) (by kernel_rfl) (by kernel_rfl) (fun _ _ _ h => h) (by rfl) ?_ (by assumption) ?_
        rotate_left
        ·(intro w hSw; (try dsimp only at hSw); go_simp; (try with_reducible rfl))
        try simp only [Act.put, sl1, sl2, sl3]
        refine takeT 2 ?_ rfl (by kernel_rfl) (by kernel_rfl) (by kernel_rfl) (fun _ _ _ h => h) (by rfl) ?_ (by assumption) ?_
        rotate_left
        ·(intro w hSw; (try dsimp only at hSw); go_simp; (try with_reducible rfl))
        try simp only [Act.put, sl1, sl2, sl3]
        refine takeT 3 ?_ rfl (by kernel_rfl) (by kernel_rfl) (by kernel_rfl) (fun _ _ _ h => h) (by rfl) ?_ (by assumption) ?_
        rotate_left
        ·(intro w hSw; (try dsimp only at hSw); go_simp; (try with_reducible rfl))
        try simp only [Act.put, sl1, sl2, sl3]
        refine takeT 4 ?_ rfl (by kernel_rfl) (by kernel_rfl) (by kernel_rfl) (fun _ _ _ h => h) (by rfl) ?_ (by assumption) ?_
        rotate_left
        ·(intro w hSw; (try dsimp only at hSw); go_simp; (try with_reducible rfl))
        try simp only [Act.put, sl1, sl2, sl3]
        refine takeT 5 ?_ rfl (by kernel_rfl) (by kernel_rfl) (by kernel_rfl) (fun _ _ _ h => h) (by rfl) ?_ (by assumption) ?_
        rotate_left
        ·(intro w hSw; (try dsimp only at hSw); go_simp; (try with_reducible rfl))
        try simp only [Act.put, sl1, sl2, sl3]
        refine takeT 6 ?_ rfl (by kernel_rfl) (by kernel_rfl) (by kernel_rfl) (fun _ _ _ h => h) (by rfl) ?_ (by assumption) ?_
        rotate_left
        ·(intro w hSw; (try dsimp only at hSw); go_simp; (try with_reducible rfl))
        try simp only [Act.put, sl1, sl2, sl3]
        refine takeT 7 ?_ rfl (by kernel_rfl) (by kernel_rfl) (by kernel_rfl) (fun _ _ _ h => h) (by rfl) ?_ (by assumption) ?_
        rotate_left
        ·(intro w hSw; (try dsimp only at hSw); go_simp; (try with_reducible rfl))
        try simp only [Act.put, sl1, sl2, sl3]
        refine takeT 8 ?_ rfl (by kernel_rfl) (by kernel_rfl) (by kernel_rfl) (fun _ _ _ h => h) (by rfl) ?_ (by assumption) ?_
        rotate_left
        ·(intro w hSw; (try dsimp only at hSw); go_simp; (try with_reducible rfl))
        try simp only [Act.put, sl1, sl2, sl3]
        refine takeC 9 rfl (by kernel_rfl) (by rfl) (fun K hK => ?_)
        go_simp
        (first | (go_at_call 68; refine (hpl W.drew).mono ?_; rintro e wA ⟨rfl, hbA'⟩; have hbA := (below_drew (Below.refl W.heap.size W)).trans hbA'; clear hbA') | (go_at_call 83; refine (hnm _).mono ?_; rintro e wB ⟨rfl, ⟨ne, rfl⟩⟩))
        (try go_wp2_with fail)
        refine hK.out _ _ ?_ (fun hHeld => ?_)
        ·((try dsimp only); (first | go_keep | exact ⟨(hbA.cell (p := ⟨wr.heap.size, 0, none⟩) lx).trans x0, (hbA.cell (p := ⟨wr.heap.size, 1, none⟩) lx).trans x1, (hbA.cell (p := ⟨w.heap.size, 1, none⟩) lb).trans b1, (hbA.cell (p := ⟨w.heap.size, 2, none⟩) lb).trans b2, (hbA.cell lp).trans y0⟩))
        clear hK K
        try simp only [Act.put, sl1, sl2, sl3]
        refine takeT 10 ?_ rfl (by kernel_rfl) (by kernel_rfl) (by kernel_rfl) (fun _ _ _ h => h) (by rfl) ?_ (by assumption) ?_
        rotate_left
        ·(intro w hSw; (try dsimp only at hSw); go_simp; (try with_reducible rfl))
        try simp only [Act.put, sl1, sl2, sl3]
        refine takeT 11 ?_ rfl (by kernel_rfl) (by kernel_rfl) (by kernel_rfl) (fun _ _ _ h => h) (by rfl) ?_ (by assumption) ?_
        rotate_left
        ·(intro w hSw; (try dsimp only at hSw); go_simp; (try with_reducible rfl))
        try simp only [Act.put, sl1, sl2, sl3]
        refine takeT 12 ?_ rfl (by kernel_rfl) (by kernel_rfl) (by kernel_rfl) (fun _ _ _ h => h) (by rfl) ?_ (by assumption) ?_
        rotate_left
        ·(intro w hSw; (try dsimp only at hSw); go_simp; (try with_reducible rfl))
        try simp only [Act.put, sl1, sl2, sl3]
        refine takeT 13 ?_ rfl (by kernel_rfl) (by kernel_rfl) (by kernel_rfl) (fun _ _ _ h => h) (by rfl) ?_ (by assumption) ?_
        rotate_left
        ·(intro w hSw; (try dsimp only at hSw); go_simp; (try with_reducible rfl))
        try simp only [Act.put, sl1, sl2, sl3]
        refine takeT 14 ?_ rfl (by kernel_rfl) (by kernel_rfl) (by kernel_rfl) (fun _ _ _ h => h) (by rfl) ?_ (by assumption) ?_
        rotate_left
        ·(intro w hSw; (try dsimp only at hSw); go_simp; (try with_reducible rfl))
        try simp only [Act.put, sl1, sl2, sl3]
        refine takeC 15 rfl (by kernel_rfl) (by rfl) (fun K hK => ?_)
        go_simp
        (first | (go_at_call 68; refine (hpl W.drew).mono ?_; rintro e wA ⟨rfl, hbA'⟩; have hbA := (below_drew (Below.refl W.heap.size W)).trans hbA'; clear hbA') | (go_at_call 83; refine (hnm _).mono ?_; rintro e wB ⟨rfl, ⟨ne, rfl⟩⟩))
        (try go_wp2_with fail)
        refine hK.out _ _ ?_ (fun hHeld => ?_)
        ·((try dsimp only); (first | go_keep | exact ⟨(hbA.cell (p := ⟨wr.heap.size, 0, none⟩) lx).trans x0, (hbA.cell (p := ⟨wr.heap.size, 1, none⟩) lx).trans x1, (hbA.cell (p := ⟨w.heap.size, 1, none⟩) lb).trans b1, (hbA.cell (p := ⟨w.heap.size, 2, none⟩) lb).trans b2, (hbA.cell lp).trans y0⟩))
        clear hK K
        try simp only [Act.put, sl1, sl2, sl3]
        refine takeT 16 ?_ rfl (by kernel_rfl) (by kernel_rfl) (by kernel_rfl) (fun _ _ _ h => h) (by rfl) ?_ (by assumption) ?_
        rotate_left
        ·(intro w hSw; (try dsimp only at hSw); go_simp; (try with_reducible rfl))
        try simp only [Act.put, sl1, sl2, sl3]
        refine takeT 17 ?_ rfl (by kernel_rfl) (by kernel_rfl) (by kernel_rfl) (fun _ _ _ h => h) (by rfl) ?_ (by assumption) ?_
        rotate_left
        ·(intro w hSw; (try dsimp only at hSw); go_simp; (try with_reducible rfl))
        try simp only [Act.put, sl1, sl2, sl3]
        refine takeT 18 ?_ rfl (by kernel_rfl) (by kernel_rfl) (by kernel_rfl) (fun _ _ _ h => h) (by rfl) ?_ (by assumption) ?_
        rotate_left
        ·(intro w hSw; (try dsimp only at hSw); go_simp; (try with_reducible rfl))
        try simp only [Act.put, sl1, sl2, sl3]
        refine takeT 19 ?_ rfl (by kernel_rfl) (by kernel_rfl) (by kernel_rfl) (fun _ _ _ h => h) (by rfl) ?_ (by assumption) ?_
        rotate_left
        ·(intro w hSw; (try dsimp only at hSw); go_simp; (try with_reducible rfl))
        try simp only [Act.put, sl1, sl2, sl3]
        refine takeT 20 ?_ rfl (by kernel_rfl) (by kernel_rfl) (by kernel_rfl) (fun _ _ _ h => h) (by rfl) ?_ (by assumption) ?_
        rotate_left
        ·(intro w hSw; (try dsimp only at hSw); go_simp; (try with_reducible rfl))
        try simp only [Act.put, sl1, sl2, sl3]
        refine takeT 21 ?_ rfl (by kernel_rfl) (by kernel_rfl) (by kernel_rfl) (fun _ _ _ h => h) (by rfl) ?_ (by assumption) ?_
        rotate_left
        ·(intro w hSw; (try dsimp only at hSw); go_simp; (try with_reducible rfl))
        try simp only [Act.put, sl1, sl2, sl3]
        refine takeT 22 ?_ rfl (by kernel_rfl) (by kernel_rfl) (by kernel_rfl) (fun _ _ _ h => h) (by rfl) ?_ (by assumption) ?_
        rotate_left
        ·(intro w hSw; (try dsimp only at hSw); go_simp; (try with_reducible rfl))
        try simp only [Act.put, sl1, sl2, sl3]
        refine takeT 23 ?_ rfl (by kernel_rfl) (by kernel_rfl) (by kernel_rfl) (fun _ _ _ h => h) (by rfl) ?_ (by assumption) ?_
        rotate_left
        ·(intro w hSw; (try dsimp only at hSw); go_simp; (try with_reducible rfl))
        try simp only [Act.put, sl1, sl2, sl3]
        refine takeT 24 ?_ rfl (by kernel_rfl) (by kernel_rfl) (by kernel_rfl) (fun _ _ _ h => h) (by rfl) ?_ (by assumption) ?_
        rotate_left
        ·(intro w hSw; (try dsimp only at hSw); go_simp; (try with_reducible rfl))
        try simp only [Act.put, sl1, sl2, sl3]
        refine takeT 25 ?_ rfl (by kernel_rfl) (by kernel_rfl) (by kernel_rfl) (fun _ _ _ h => h) (by rfl) ?_ (by assumption) ?_
        rotate_left
        ·(intro w hSw; (try dsimp only at hSw); go_simp; (try with_reducible rfl))
        try simp only [Act.put, sl1, sl2, sl3]
        refine takeT 26 ?_ rfl (by kernel_rfl) (by kernel_rfl) (by kernel_rfl) (fun _ _ _ h => h) (by rfl) ?_ (by assumption) ?_
        rotate_left
        ·(intro w hSw; (try dsimp only at hSw); go_simp; (try with_reducible rfl))
        try simp only [Act.put, sl1, sl2, sl3]
        refine takeT 27 ?_ rfl (by kernel_rfl) (by kernel_rfl) (by kernel_rfl) (fun _ _ _ h => h) (by rfl) ?_ (by assumption) ?_
        rotate_left
        ·(intro w hSw; (try dsimp only at hSw); go_simp; (try with_reducible rfl))
        try simp only [Act.put, sl1, sl2, sl3]
        refine takeT 28 ?_ rfl (by kernel_rfl) (by kernel_rfl) (by kernel_rfl) (fun _ _ _ h => h) (by rfl) ?_ (by assumption) ?_
        rotate_left
        ·(intro w hSw; (try dsimp only at hSw); go_simp; (try with_reducible rfl))
        try simp only [Act.put, sl1, sl2, sl3]
        refine takeT 29 ?_ rfl (by kernel_rfl) (by kernel_rfl) (by kernel_rfl) (fun _ _ _ h => h) (by rfl) ?_ (by assumption) ?_
        rotate_left
        ·(intro w hSw; (try dsimp only at hSw); go_simp; (try with_reducible rfl))
        try simp only [Act.put, sl1, sl2, sl3]
        refine takeT 30 ?_ rfl (by kernel_rfl) (by kernel_rfl) (by kernel_rfl) (fun _ _ _ h => h) (by rfl) ?_ (by assumption) ?_
        rotate_left
        ·(intro w hSw; (try dsimp only at hSw); go_simp; (try with_reducible rfl))
        try simp only [Act.put, sl1, sl2, sl3]
        refine takeT 31 ?_ rfl (by kernel_rfl) (by kernel_rfl) (by kernel_rfl) (fun _ _ _ h => h) (by rfl) ?_ (by assumption) ?_
        rotate_left
        ·(intro w hSw; (try dsimp only at hSw); go_simp; (try with_reducible rfl))
        try simp only [Act.put, sl1, sl2, sl3]
        refine takeT 32 ?_ rfl (by kernel_rfl) (by kernel_rfl) (by kernel_rfl) (fun _ _ _ h => h) (by rfl) ?_ (by assumption) ?_
        rotate_left
        ·(intro w hSw; (try dsimp only at hSw); go_simp; (try with_reducible rfl))
        try simp only [Act.put, sl1, sl2, sl3]
        refine takeT 33 ?_ rfl (by kernel_rfl) (by kernel_rfl) (by kernel_rfl) (fun _ _ _ h => h) (by rfl) ?_ (by assumption) ?_
        rotate_left
        ·(intro w hSw; (try dsimp only at hSw); go_simp; (try with_reducible rfl))
        try simp only [Act.put, sl1, sl2, sl3]
        refine wpAnyH_done (by kernel_rfl) ?_ _
        go_wp2
        go_ret
        exact ⟨by rw [HX.out]; rfl, pw_below_drewN ((BW.out.trans (HY.out.mono BW.out.size)).trans (hbA.mono (Nat.le_trans BW.out.size HY.out.size))) _⟩
       | true =>
        have HX : Aside0 (labelsGo l (k + 1) (l.f2.drop (k + 1)) = labelsGo l 0 l.f2) := ⟨by rw [← HA.out, HS.out, HS2.out, q4]; simp⟩
        refine wp_region_held_drew (S := (fun w' => w'.cell? ⟨wr.heap.size, 0, none⟩ = some (.string x.f0) ∧ w'.cell? ⟨wr.heap.size, 1, none⟩ = some (.string x.f1) ∧ w'.cell? ⟨w.heap.size, 1, none⟩ = some (.int .i64 l.f1) ∧ w'.cell? ⟨w.heap.size, 2, none⟩ = some (.slice (some ad) n c) ∧ w'.cell? (ad.add ((k - 1) * 2)) = some (.string y.f0))) (by kernel_rfl) ?_ (fun hHeld => ?_)
        ·((try dsimp only); (first | go_keep | exact ⟨(hbA.cell (p := ⟨wr.heap.size, 0, none⟩) lx).trans x0, (hbA.cell (p := ⟨wr.heap.size, 1, none⟩) lx).trans x1, (hbA.cell (p := ⟨w.heap.size, 1, none⟩) lb).trans b1, (hbA.cell (p := ⟨w.heap.size, 2, none⟩) lb).trans b2, (hbA.cell lp).trans y0⟩))
        refine takeT 0 ?_ rfl (by kernel_rfl) (by kernel_rfl) (by kernel_rfl) (fun _ _ _ h => h) (by rfl) ?_ (by assumption) ?_
        rotate_left
        ·(intro w hSw; (try dsimp only at hSw); go_simp; (try with_reducible rfl))
        try simp only [Act.put, sl1, sl2, sl3]
        refine takeT 1 ?_ rfl (by kernel_rfl) (by kernel_rfl) (by kernel_rfl) (fun _ _ _ h => h) (by rfl) ?_ (by assumption) ?_
        rotate_left
        ·(intro w hSw; (try dsimp only at hSw); go_simp; (try with_reducible rfl))
        try simp only [Act.put, sl1, sl2, sl3]
        refine takeT 2 ?_ rfl (by kernel_rfl) (by kernel_rfl) (by kernel_rfl) (fun _ _ _ h => h) (by rfl) ?_ (by assumption) ?_
        rotate_left
        ·(intro w hSw; (try dsimp only at hSw); go_simp; (try with_reducible rfl))
        try simp only [Act.put, sl1, sl2, sl3]
        refine takeT 3 ?_ rfl (by kernel_rfl) (by kernel_rfl) (by kernel_rfl) (fun _ _ _ h => h) (by rfl) ?_ (by assumption) ?_
        rotate_left
        ·(intro w hSw; (try dsimp only at hSw); go_simp; (try with_reducible rfl))
        try simp only [Act.put, sl1, sl2, sl3]
        refine takeT 4 ?_ rfl (by kernel_rfl) (by kernel_rfl) (by kernel_rfl) (fun _ _ _ h => h) (by rfl) ?_ (by assumption) ?_
        rotate_left
        ·(intro w hSw; (try dsimp only at hSw); go_simp; (try with_reducible rfl))
        try simp only [Act.put, sl1, sl2, sl3]
        refine takeT 5 ?_ rfl (by kernel_rfl) (by kernel_rfl) (by kernel_rfl) (fun _ _ _ h => h) (by rfl) ?_ (by assumption) ?_
        rotate_left
        ·(intro w hSw; (try dsimp only at hSw); go_simp; (try with_reducible rfl))
        try simp only [Act.put, sl1, sl2, sl3]
        refine takeT 6 ?_ rfl (by kernel_rfl) (by kernel_rfl) (by kernel_rfl) (fun _ _ _ h => h) (by rfl) ?_ (by assumption) ?_
        rotate_left
        ·(intro w hSw; (try dsimp only at hSw); go_simp; (try with_reducible rfl))
        try simp only [Act.put, sl1, sl2, sl3]
        refine takeT 7 ?_ rfl (by kernel_rfl) (by kernel_rfl) (by kernel_rfl) (fun _ _ _ h => h) (by rfl) ?_ (by assumption) ?_
        rotate_left
        ·(intro w hSw; (try dsimp only at hSw); go_simp; (try with_reducible rfl))
        try simp only [Act.put, sl1, sl2, sl3]
        refine takeT 8 ?_ rfl (by kernel_rfl) (by kernel_rfl) (by kernel_rfl) (fun _ _ _ h => h) (by rfl) ?_ (by assumption) ?_
        rotate_left
        ·(intro w hSw; (try dsimp only at hSw); go_simp; (try with_reducible rfl))
        try simp only [Act.put, sl1, sl2, sl3]
        refine takeC 9 rfl (by kernel_rfl) (by rfl) (fun K hK => ?_)
        go_simp
        (first | (go_at_call 68; refine (hpl W.drew).mono ?_; rintro e wA ⟨rfl, hbA'⟩; have hbA := (below_drew (Below.refl W.heap.size W)).trans hbA'; clear hbA') | (go_at_call 83; refine (hnm _).mono ?_; rintro e wB ⟨rfl, ⟨ne, rfl⟩⟩))
        (try go_wp2_with fail)
        refine hK.out _ _ ?_ (fun hHeld => ?_)
        ·((try dsimp only); (first | go_keep | exact ⟨(hbA.cell (p := ⟨wr.heap.size, 0, none⟩) lx).trans x0, (hbA.cell (p := ⟨wr.heap.size, 1, none⟩) lx).trans x1, (hbA.cell (p := ⟨w.heap.size, 1, none⟩) lb).trans b1, (hbA.cell (p := ⟨w.heap.size, 2, none⟩) lb).trans b2, (hbA.cell lp).trans y0⟩))
        clear hK K
        try simp only [Act.put, sl1, sl2, sl3]
        refine takeT 10 ?_ rfl (by kernel_rfl) (by kernel_rfl) (by kernel_rfl) (fun _ _ _ h => h) (by rfl) ?_ (by assumption) ?_
        rotate_left
        ·(intro w hSw; (try dsimp only at hSw); go_simp; (try with_reducible rfl))
        try simp only [Act.put, sl1, sl2, sl3]
        refine takeT 11 ?_ rfl (by kernel_rfl) (by kernel_rfl) (by kernel_rfl) (fun _ _ _ h => h) (by rfl) ?_ (by assumption) ?_
        rotate_left
        ·(intro w hSw; (try dsimp only at hSw); go_simp; (try with_reducible rfl))
        try simp only [Act.put, sl1, sl2, sl3]
        refine takeT 12 ?_ rfl (by kernel_rfl) (by kernel_rfl) (by kernel_rfl) (fun _ _ _ h => h) (by rfl) ?_ (by assumption) ?_
        rotate_left
        ·(intro w hSw; (try dsimp only at hSw); go_simp; (try with_reducible rfl))
        try simp only [Act.put, sl1, sl2, sl3]
        refine takeT 13 ?_ rfl (by kernel_rfl) (by kernel_rfl) (by kernel_rfl) (fun _ _ _ h => h) (by rfl) ?_ (by assumption) ?_
        rotate_left
        ·(intro w hSw; (try dsimp only at hSw); go_simp; (try with_reducible rfl))
        try simp only [Act.put, sl1, sl2, sl3]
        refine takeT 14 ?_ rfl (by kernel_rfl) (by kernel_rfl) (by kernel_rfl) (fun _ _ _ h => h) (by rfl) ?_ (by assumption) ?_
        rotate_left
        ·(intro w hSw; (try dsimp only at hSw); go_simp; (try with_reducible rfl))
        try simp only [Act.put, sl1, sl2, sl3]
        refine takeC 15 rfl (by kernel_rfl) (by rfl) (fun K hK => ?_)
        go_simp
        (first | (go_at_call 68; refine (hpl W.drew).mono ?_; rintro e wA ⟨rfl, hbA'⟩; have hbA := (below_drew (Below.refl W.heap.size W)).trans hbA'; clear hbA') | (go_at_call 83; refine (hnm _).mono ?_; rintro e wB ⟨rfl, ⟨ne, rfl⟩⟩))
        (try go_wp2_with fail)
        refine hK.out _ _ ?_ (fun hHeld => ?_)
        ·((try dsimp only); (first | go_keep | exact ⟨(hbA.cell (p := ⟨wr.heap.size, 0, none⟩) lx).trans x0, (hbA.cell (p := ⟨wr.heap.size, 1, none⟩) lx).trans x1, (hbA.cell (p := ⟨w.heap.size, 1, none⟩) lb).trans b1, (hbA.cell (p := ⟨w.heap.size, 2, none⟩) lb).trans b2, (hbA.cell lp).trans y0⟩))
        clear hK K
        try simp only [Act.put, sl1, sl2, sl3]
        refine takeT 16 ?_ rfl (by kernel_rfl) (by kernel_rfl) (by kernel_rfl) (fun _ _ _ h => h) (by rfl) ?_ (by assumption) ?_
        rotate_left
        ·(intro w hSw; (try dsimp only at hSw); go_simp; (try with_reducible rfl))
        try simp only [Act.put, sl1, sl2, sl3]
        refine takeT 17 ?_ rfl (by kernel_rfl) (by kernel_rfl) (by kernel_rfl) (fun _ _ _ h => h) (by rfl) ?_ (by assumption) ?_
        rotate_left
        ·(intro w hSw; (try dsimp only at hSw); go_simp; (try with_reducible rfl))
        try simp only [Act.put, sl1, sl2, sl3]
        refine takeT 18 ?_ rfl (by kernel_rfl) (by kernel_rfl) (by kernel_rfl) (fun _ _ _ h => h) (by rfl) ?_ (by assumption) ?_
        rotate_left
        ·(intro w hSw; (try dsimp only at hSw); go_simp; (try with_reducible rfl))
        try simp only [Act.put, sl1, sl2, sl3]
        refine takeT 19 ?_ rfl (by kernel_rfl) (by kernel_rfl) (by kernel_rfl) (fun _ _ _ h => h) (by rfl) ?_ (by assumption) ?_
        rotate_left
        ·(intro w hSw; (try dsimp only at hSw); go_simp; (try with_reducible rfl))
        try simp only [Act.put, sl1, sl2, sl3]
        refine takeT 20 ?_ rfl (by kernel_rfl) (by kernel_rfl) (by kernel_rfl) (fun _ _ _ h => h) (by rfl) ?_ (by assumption) ?_
        rotate_left
        ·(intro w hSw; (try dsimp only at hSw); go_simp; (try with_reducible rfl))
        try simp only [Act.put, sl1, sl2, sl3]
        refine takeT 21 ?_ rfl (by kernel_rfl) (by kernel_rfl) (by kernel_rfl) (fun _ _ _ h => h) (by rfl) ?_ (by assumption) ?_
        rotate_left
        ·(intro w hSw; (try dsimp only at hSw); go_simp; (try with_reducible rfl))
        try simp only [Act.put, sl1, sl2, sl3]
        refine takeT 22 ?_ rfl (by kernel_rfl) (by kernel_rfl) (by kernel_rfl) (fun _ _ _ h => h) (by rfl) ?_ (by assumption) ?_
        rotate_left
        ·(intro w hSw; (try dsimp only at hSw); go_simp; (try with_reducible rfl))
        try simp only [Act.put, sl1, sl2, sl3]
        refine takeT 23 ?_ rfl (by kernel_rfl) (by kernel_rfl) (by kernel_rfl) (fun _ _ _ h => h) (by rfl) ?_ (by assumption) ?_
        rotate_left
        ·(intro w hSw; (try dsimp only at hSw); go_simp; (try with_reducible rfl))
        try simp only [Act.put, sl1, sl2, sl3]
        refine takeT 24 ?_ rfl (by kernel_rfl) (by kernel_rfl) (by kernel_rfl) (fun _ _ _ h => h) (by rfl) ?_ (by assumption) ?_
        rotate_left
        ·(intro w hSw; (try dsimp only at hSw); go_simp; (try with_reducible rfl))
        try simp only [Act.put, sl1, sl2, sl3]
        refine takeT 25 ?_ rfl (by kernel_rfl) (by kernel_rfl) (by kernel_rfl) (fun _ _ _ h => h) (by rfl) ?_ (by assumption) ?_
        rotate_left
        ·(intro w hSw; (try dsimp only at hSw); go_simp; (try with_reducible rfl))
        try simp only [Act.put, sl1, sl2, sl3]
        refine takeT 26 ?_ rfl (by kernel_rfl) (by kernel_rfl) (by kernel_rfl) (fun _ _ _ h => h) (by rfl) ?_ (by assumption) ?_
        rotate_left
        ·(intro w hSw; (try dsimp only at hSw); go_simp; (try with_reducible rfl))
        try simp only [Act.put, sl1, sl2, sl3]
        refine takeT 27 ?_ rfl (by kernel_rfl) (by kernel_rfl) (by kernel_rfl) (fun _ _ _ h => h) (by rfl) ?_ (by assumption) ?_
        rotate_left
        ·(intro w hSw; (try dsimp only at hSw); go_simp; (try with_reducible rfl))
        try simp only [Act.put, sl1, sl2, sl3]
        refine takeT 28 ?_ rfl (by kernel_rfl) (by kernel_rfl) (by kernel_rfl) (fun _ _ _ h => h) (by rfl) ?_ (by assumption) ?_
        rotate_left
        ·(intro w hSw; (try dsimp only at hSw); go_simp; (try with_reducible rfl))
        try simp only [Act.put, sl1, sl2, sl3]
        refine takeT 29 ?_ rfl (by kernel_rfl) (by kernel_rfl) (by kernel_rfl) (fun _ _ _ h => h) (by rfl) ?_ (by assumption) ?_
        rotate_left
        ·(intro w hSw; (try dsimp only at hSw); go_simp; (try with_reducible rfl))
        try simp only [Act.put, sl1, sl2, sl3]
        refine takeT 30 ?_ rfl (by kernel_rfl) (by kernel_rfl) (by kernel_rfl) (fun _ _ _ h => h) (by rfl) ?_ (by assumption) ?_
        rotate_left
        ·(intro w hSw; (try dsimp only at hSw); go_simp; (try with_reducible rfl))
        try simp only [Act.put, sl1, sl2, sl3]
        refine takeT 31 ?_ rfl (by kernel_rfl) (by kernel_rfl) (by kernel_rfl) (fun _ _ _ h => h) (by rfl) ?_ (by assumption) ?_
        rotate_left
        ·(intro w hSw; (try dsimp only at hSw); go_simp; (try with_reducible rfl))
        try simp only [Act.put, sl1, sl2, sl3]
        refine takeT 32 ?_ rfl (by kernel_rfl) (by kernel_rfl) (by kernel_rfl) (fun _ _ _ h => h) (by rfl) ?_ (by assumption) ?_
        rotate_left
        ·(intro w hSw; (try dsimp only at hSw); go_simp; (try with_reducible rfl))
        try simp only [Act.put, sl1, sl2, sl3]
        refine takeT 33 ?_ rfl (by kernel_rfl) (by kernel_rfl) (by kernel_rfl) (fun _ _ _ h => h) (by rfl) ?_ (by assumption) ?_
        rotate_left
        ·(intro w hSw; (try dsimp only at hSw); go_simp; (try with_reducible rfl))
        try simp only [Act.put, sl1, sl2, sl3]
        refine wpAnyH_done (by kernel_rfl) ?_ _
        go_wp2
        go_roundg (n - (k + 1))
        case measure => omega
        case rel =>
         have hYA := HY.out.trans (hbA.mono HY.out.size)
         exact ⟨k + 1, by omega, Nat.le_refl _, by go_num, ⟨pw_below_drewN (BW.out.trans (hYA.mono BW.out.size)) _⟩, ⟨((pw_below_drewN hYA _).block _ lb0).trans HB.out⟩, HX⟩
  ·obtain rfl : k = n := by omega
   have HX : Aside0 (labelsGo l 0 l.f2 = true) := ⟨by rw [← HA.out, List.drop_of_length_le (by have := HN.out; omega)]; rfl⟩
   by_cases r1 : 1 ≤ l.f3
   ·have HX1 : Aside0 (decide (1 ≤ l.f3) = true) := ⟨decide_eq_true r1⟩
    go_wp2_with fail
    go_ret
    exact ⟨by rw [HX.out]; rfl, BW.out⟩
   ·have HX1 : Aside0 (decide (1 ≤ l.f3) = false) := ⟨decide_eq_false r1⟩
    go_wp2_with fail
    go_ret
    exact ⟨by rw [HX.out, HX1.out]; rfl, BW.out⟩
end Go.Proofs.YtfglcfbcdhjcdaaDoor.Q

namespace Go.Proofs.YtfglcfbcdhjcdaaDoor.Q
open Go.RowKit Go.Proofs.YtfglcfbcdhjcdaaDoorW.PrintWords Go.Proofs.YtfglcfbcdhjcdaaDoorW.PrintLast Go.Proofs.YtfglcfbcdhjcdaaDoorW.PrintMore
set_option linter.unusedVariables false
set_option linter.unusedSimpArgs false
theorem NestInv.start (w : World) (l nx : Lv) (A : Option Addr) (c : Nat) (An : Option Addr) (cn : Nat) :
  NestInv w l nx A c An cn [] (((((w.alloc (.cells (levelCells l A c) 54)).alloc (.cells (levelCells nx An cn) 54)).alloc (.map #[] 0)).alloc (.cells #[.map (some (w.heap.size + 2))] 113)).alloc (.cells #[.slice none 0 0] 63)) := by
 refine ⟨?_, by simp, ?_, ?_, ?_, ⟨.slice none 0 0, ?_, Kd.R_nil _ _ _ _ _⟩, ?_⟩
 ·exact (((((Below.refl _ _).alloc (Nat.le_refl _) _).alloc (by simp) _).alloc (by rw [World.size_alloc, World.size_alloc]; omega) _).alloc (by rw [World.size_alloc, World.size_alloc, World.size_alloc]; omega) _).alloc (by rw [World.size_alloc, World.size_alloc, World.size_alloc, World.size_alloc]; omega) _
 ·exact (Below.heap_alloc _ _ _ (by simp only [World.size_alloc]; omega)).trans ((Below.heap_alloc _ _ _ (by simp only [World.size_alloc]; omega)).trans ((Below.heap_alloc _ _ _ (by simp; omega)).trans ((Below.heap_alloc _ _ _ (by simp)).trans (heap_alloc_new _ _))))
 ·exact (Below.heap_alloc _ _ _ (by simp only [World.size_alloc]; omega)).trans ((Below.heap_alloc _ _ _ (by simp only [World.size_alloc]; omega)).trans ((Below.heap_alloc _ _ _ (by simp)).trans (by simpa using heap_alloc_new (w.alloc (.cells (levelCells l A c) 54)) (.cells (levelCells nx An cn) 54))))
 ·exact (Below.heap_alloc _ _ _ (by simp)).trans (by simpa using heap_alloc_new (((w.alloc (.cells (levelCells l A c) 54)).alloc (.cells (levelCells nx An cn) 54)).alloc (.map #[] 0)) (.cells #[.map (some (w.heap.size + 2))] 113))
 ·simpa using heap_alloc_new ((((w.alloc (.cells (levelCells l A c) 54)).alloc (.cells (levelCells nx An cn) 54)).alloc (.map #[] 0)).alloc (.cells #[.map (some (w.heap.size + 2))] 113)) (.cells #[.slice none 0 0] 63)
 ·have h := MapInt.made keyS 3 ((w.alloc (.cells (levelCells l A c) 54)).alloc (.cells (levelCells nx An cn) 54))
  have h2 := (h.below (below_alloc (Below.refl _ _) (.cells #[.map (some (w.heap.size + 2))] 113))).below (below_alloc (Below.refl _ _) (.cells #[.slice none 0 0] 63))
  rw [show metMap l [] = fun _ => none from rfl]
  show MapInt keyS _ _ (w.heap.size + 1 + 1) 0 _
  simpa using h2
set_option maxHeartbeats 4000000 in
set_option maxRecDepth 100000 in
theorem scheme_nested.calls (l nx : Lv) (A : Option Addr) (c : Nat) (An : Option Addr) (cn : Nat) (w : World) (hr : Kd.C k90 w A l.f2.length l.f2) (hrn : Kd.C k90 w An nx.f2.length nx.f2) (ho : NestOk l nx) :
  Calls Tryd.prog 70 #[.agg #[.string l.f0, .int .i64 l.f1, .slice A l.f2.length c, .int .i64 l.f3, .int .i64 l.f4], .agg #[.string nx.f0, .int .i64 nx.f1, .slice An nx.f2.length cn, .int .i64 nx.f3, .int .i64 nx.f4]] w
   fun e w' => e = .returned (.bool (nestedB l nx)) ∧ Below w.heap.size w w' := by
 have hll := ho.ll
 have hmm := @run_makeMap Tryd.prog
 have HR := Aside0.mk hr
 have HRN := Aside0.mk hrn
 have HO := Aside0.mk ho
 clear hr hrn ho
 generalize hn : l.f2.length = n at *
 have HN := Aside0.mk hn
 clear hn
 go_enter Tryd.func70, Tryd.ntmps70
 go_wp2
 go_loopg [15] n (fun gg s15 wr => ∃ (k : Nat) (all : List ByteArray), k ≤ n ∧ n - k ≤ gg ∧ s15 = .int .i64 k ∧ all.length ≤ 2 * k ∧ Aside0 (NestInv w l nx A c An cn all wr) ∧ Aside0 (MetOk l all) ∧ Aside0 (nestGo l nx (l.f2.drop k) all = nestedB l nx))
 case atStart => exact ⟨0, [], Nat.zero_le _, by omega, rfl, by simp, ⟨by have h := NestInv.start w l nx A c An cn; unfold levelCells at h; rw [HN.out] at h; exact h⟩, ⟨fun p hp => by cases hp⟩, ⟨rfl⟩⟩
 case round =>
  obtain ⟨k, all, hk, hg, rfl, hal, HI, HM, HA⟩ := hrel
  by_cases hlt : k < n
  ·have hx : rd_T90 l.f2 (k : Int) ∈ l.f2 := by
    unfold rd_T90
    rw [Int.toNat_natCast, List.getD_eq_getElem?_getD, List.getElem?_eq_getElem (show k < l.f2.length by have := HN.out; omega)]
    exact List.getElem_mem _
   have hdrop : l.f2.drop k = rd_T90 l.f2 (k : Int) :: l.f2.drop (k + 1) := by
    unfold rd_T90
    rw [Int.toNat_natCast, List.getD_eq_getElem?_getD, List.getElem?_eq_getElem (show k < l.f2.length by have := HN.out; omega)]
    exact List.drop_eq_getElem_cons _
   have hp1 := HO.out.pre _ hx
   have hp2 := HO.out.grp _ hx
   obtain ⟨ad, rfl, hc0, hc1⟩ := at_T90 (Kd.C_below HR.out HI.out.bel) (k : Int) (by omega) (by omega)
   simp only [Int.toNat_natCast] at hc0 hc1
   have HD := Aside0.mk hdrop
   clear hdrop hx
   generalize rd_T90 l.f2 (k : Int) = x at *
   have HX := Aside0.mk (HI.out.below (below_alloc (Below.refl wr.heap.size wr) (.cells #[.string x.f0, .string x.f1] 90)))
   have HXb : (wr.alloc (.cells #[.string x.f0, .string x.f1] 90)).heap[wr.heap.size]? = some (.cells #[.string x.f0, .string x.f1] 90 (0, 0)) := heap_alloc_new _ _
   have HXB := Aside0.mk HXb
   have HSZ := Aside0.mk HI.out.size
   clear HXb
   go_wp2_with fail
   refine (nestFn.calls w l nx _ c An cn all x.f0 _ (by rw [HN.out]; exact HR.out) HRN.out HO.out HM.out (by omega) hp1 HX.out).mono ?_
   rintro e w2 ⟨rfl, hi2, hk2⟩
   have HI2 := Aside0.mk hi2
   have HM2 := Aside0.mk (HM.out.met (p := x.f0) hp1)
   have hb2 := hk2 _ _ (by show w.heap.size + 5 ≤ wr.heap.size; exact HSZ.out) HXB.out
   have x1 : w2.cell? ⟨wr.heap.size, 1, none⟩ = some (.string x.f1) := (blk_cell hb2 1).trans rfl
   have p1 : w2.cell? ⟨w.heap.size, 1, none⟩ = some (.int .i64 l.f1) := (blk_cell hi2.bl 1).trans rfl
   have hal2 := nestMet_len (l := l) (all := all) (p := x.f0)
   clear hi2 hk2 hb2 hc0 hc1
   have HE : Aside0 (nestGo l nx (l.f2.drop k) all = if nestFits l nx all x.f0 then (if ((x.f1.size : Int) == l.f1) && plainB x.f1 then (if nestFits l nx (nestMet l all x.f0) x.f1 then nestGo l nx (l.f2.drop (k + 1)) (nestMet l (nestMet l all x.f0) x.f1) else false) else nestGo l nx (l.f2.drop (k + 1)) (nestMet l all x.f0)) else false) := ⟨by rw [HD.out]; rfl⟩
   generalize nestMet l all x.f0 = all2 at *
   generalize hq1 : nestFits l nx all x.f0 = b1 at *
   clear hq1
   cases b1 with
   | false =>
    have HF : Aside0 (nestedB l nx = false) := ⟨by rw [← HA.out, HE.out]; rfl⟩
    go_wp2_with fail
    go_ret
    exact ⟨by rw [HF.out]; rfl, HI2.out.bel⟩
   | true =>
    by_cases hsz : (x.f1.size : Int) = l.f1
    ·have hszb : ((x.f1.size : Int) == l.f1) = true := beq_iff_eq.2 hsz
     have HSS := Aside0.mk hsz
     have HSB := Aside0.mk hszb
     clear hsz
     go_wp2_with fail
     refine (scheme_plain.calls x.f1 (plainB x.f1) w2 (by unfold scheme_plain.f; rw [if_pos (by omega)])).mono ?_
     rintro e w3 ⟨rfl, hb3⟩
     have HI3 := Aside0.mk (HI2.out.below hb3)
     have x3 : w3.cell? ⟨wr.heap.size, 1, none⟩ = some (.string x.f1) := (hb3.cell (p := ⟨wr.heap.size, 1, none⟩) (World.block_lt_of_cell? w2 _ x1)).trans x1
     clear hb3 x1 p1
     generalize hq2 : plainB x.f1 = b2 at *
     clear hq2
     cases b2 with
     | false =>
      go_wp2_with fail
      go_roundg (n - (k + 1))
      case measure => omega
      case rel => exact ⟨k + 1, all2, by omega, Nat.le_refl _, by go_num, by omega, HI3, HM2, ⟨by rw [← HA.out, HE.out, HSB.out]; rfl⟩⟩
     | true =>
      go_wp2_with fail
      refine (nestFn.calls w l nx _ c An cn all2 x.f1 _ (by rw [HN.out]; exact HR.out) HRN.out HO.out HM2.out (by omega) HSS.out HI3.out).mono ?_
      rintro e w4 ⟨rfl, hi4, -⟩
      have HI4 := Aside0.mk hi4
      have HM4 := Aside0.mk (HM2.out.met (p := x.f1) HSS.out)
      have hal4 := nestMet_len (l := l) (all := all2) (p := x.f1)
      clear hi4
      generalize nestMet l all2 x.f1 = all4 at *
      generalize hq4 : nestFits l nx all2 x.f1 = b4 at *
      clear hq4
      cases b4 with
      | false =>
       have HF : Aside0 (nestedB l nx = false) := ⟨by rw [← HA.out, HE.out, HSB.out]; rfl⟩
       go_wp2_with fail
       go_ret
       exact ⟨by rw [HF.out]; rfl, HI4.out.bel⟩
      | true =>
       go_wp2_with fail
       go_roundg (n - (k + 1))
       case measure => omega
       case rel => exact ⟨k + 1, all4, by omega, Nat.le_refl _, by go_num, by omega, HI4, HM4, ⟨by rw [← HA.out, HE.out, HSB.out]; rfl⟩⟩
    ·have hszb : ((x.f1.size : Int) == l.f1) = false := beq_eq_false_iff_ne.2 hsz
     have HSB := Aside0.mk hszb
     clear hsz
     go_wp2_with fail
     go_roundg (n - (k + 1))
     case measure => omega
     case rel => exact ⟨k + 1, all2, by omega, Nat.le_refl _, by go_num, by omega, HI2, HM2, ⟨by rw [← HA.out, HE.out, HSB.out]; rfl⟩⟩
  ·obtain rfl : n = k := by omega
   have HF : Aside0 (nestedB l nx = true) := ⟨by rw [← HA.out, List.drop_of_length_le (by have := HN.out; omega)]; rfl⟩
   go_wp2_with fail
   go_ret
   exact ⟨by rw [HF.out]; rfl, HI.out.bel⟩
end Go.Proofs.YtfglcfbcdhjcdaaDoor.Q

namespace Go.Proofs.YtfglcfbcdhjcdaaDoor.Q
open Go.RowKit Go.Proofs.YtfglcfbcdhjcdaaDoorW.PrintWords Go.Proofs.YtfglcfbcdhjcdaaDoorW.PrintLast Go.Proofs.YtfglcfbcdhjcdaaDoorW.PrintMore
set_option linter.unusedVariables false
set_option linter.unusedSimpArgs false
def nameCnt (L : List Lv) (k : Nat) (s : ByteArray) : Nat := ((L.take k).filter (fun x => decide (x.f0 = s))).length
def nameMap (L : List Lv) (k : Nat) (s : ByteArray) : Option Int := if nameCnt L k s = 0 then none else some (nameCnt L k s : Int)
def rightGo (L : List Lv) : Nat → Int → List Lv → Bool
 | _, _, [] => true
 | k, s, x :: xs => decide (s + x.f2.length ≤ 200) && (decide (nameCnt L k x.f0 = 0) && (aloneB x ((k : Int) == (L.length : Int) - 1) && rightGo L (k + 1) (s + x.f2.length) xs))
def nestsGo (p : Lv) : List Lv → Bool
 | [] => true
 | x :: xs => decide (x.f1 ≤ p.f1) && (nestedB p x && nestsGo x xs)
def nestsB : List Lv → Bool
 | [] => true
 | p :: xs => nestsGo p xs
def rightB (L : List Lv) : Bool := decide (1 ≤ L.length) && (decide (L.length ≤ 6) && (rightGo L 0 0 L && nestsB L))
theorem rd_drop (L : List Lv) (k : Nat) (h : k < L.length) : L.drop k = rd_T54 L (k : Int) :: L.drop (k + 1) ∧ rd_T54 L (k : Int) ∈ L := by
 unfold rd_T54
 rw [Int.toNat_natCast, List.getD_eq_getElem?_getD, List.getElem?_eq_getElem h]
 exact ⟨List.drop_eq_getElem_cons h, List.getElem_mem h⟩
theorem nameCnt_next (L : List Lv) (k : Nat) (h : k < L.length) (s : ByteArray) :
  nameCnt L (k + 1) s = nameCnt L k s + (if s = (rd_T54 L (k : Int)).f0 then 1 else 0) := by
 have hk : L.take (k + 1) = L.take k ++ [rd_T54 L (k : Int)] := by
  unfold rd_T54
  rw [Int.toNat_natCast, List.getD_eq_getElem?_getD, List.take_add_one, List.getElem?_eq_getElem h]
  rfl
 unfold nameCnt
 rw [hk, List.filter_append, List.length_append]
 by_cases e : s = (rd_T54 L (k : Int)).f0
 ·rw [if_pos e, List.filter_cons_of_pos (by simpa using e.symm)]
  rfl
 ·rw [if_neg e, List.filter_cons_of_neg (by simpa using fun h => e h.symm)]
  rfl
theorem nameCnt_le (L : List Lv) (k : Nat) (s : ByteArray) : nameCnt L k s ≤ k := by
 unfold nameCnt
 exact Nat.le_trans (List.length_filter_le _ _) (by rw [List.length_take]; omega)
theorem nameMap_getD (L : List Lv) (k : Nat) (s : ByteArray) : (nameMap L k s).getD 0 = (nameCnt L k s : Int) := by
 unfold nameMap
 split
 ·rename_i h; rw [h]; rfl
 ·rfl
theorem nameMap_next (L : List Lv) (k : Nat) (h : k < L.length) (x : ByteArray) (hx : (rd_T54 L (k : Int)).f0 = x) :
  (fun s => if s = x then some ((nameCnt L k x : Int) + 1) else nameMap L k s) = nameMap L (k + 1) := by
 subst hx
 funext s
 have hn := nameCnt_next L k h s
 by_cases e : s = (rd_T54 L (k : Int)).f0
 ·rw [if_pos e] at hn ⊢
  unfold nameMap
  rw [if_neg (by omega), hn, ← e]
  simp
 ·rw [if_neg e] at hn ⊢
  unfold nameMap
  rw [hn, Nat.add_zero]
theorem labelsGo_spec (l : Lv) : ∀ (xs : List Lb) (k : Nat), labelsGo l k xs = true → ∀ x ∈ xs, (x.f0.size : Int) = l.f1 ∧ x.f1.size ≤ 20 := by
 intro xs
 induction xs with
 | nil => intro k _ x hx; cases hx
 | cons y ys ih =>
  intro k h x hx
  unfold labelsGo at h
  rw [Bool.and_eq_true] at h
  rcases List.mem_cons.1 hx with rfl | hx
  ·have h1 := h.1
   unfold labelOk namedB at h1
   simp only [Bool.and_eq_true, beq_iff_eq, decide_eq_true_eq] at h1
   exact ⟨h1.1, h1.2.2.1.2.2⟩
  ·exact ih _ h.2 x hx
structure LevelRight (l : Lv) : Prop where
 p0 : 0 ≤ l.f1
 p1 : l.f1 ≤ 10
 lb : l.f2.length ≤ 200
theorem aloneB_spec {l : Lv} {last : Bool} (h : aloneB l last = true) : 0 ≤ l.f1 ∧ l.f1 ≤ 10 ∧ (last = false → ∀ x ∈ l.f2, (x.f0.size : Int) = l.f1 ∧ x.f1.size ≤ 20) := by
 unfold aloneB at h
 split at h
 ·rename_i h1
  simp only [Bool.and_eq_true, decide_eq_true_eq] at h1
  refine ⟨h1.2.1, h1.2.2.1, fun hl => ?_⟩
  subst hl
  simp only [Bool.false_eq_true, if_false, Bool.and_eq_true] at h
  exact labelsGo_spec l _ _ h.1
 ·cases h
theorem rightGo_spec (L : List Lv) (d : Nat) : ∀ (k : Nat) (s : Int), k + d = L.length → 0 ≤ s → rightGo L k s (L.drop k) = true →
  ∀ i, k ≤ i → i < L.length → LevelRight (rd_T54 L (i : Int)) ∧ (i + 1 < L.length → ∀ x ∈ (rd_T54 L (i : Int)).f2, (x.f0.size : Int) = (rd_T54 L (i : Int)).f1 ∧ x.f1.size ≤ 20) := by
 induction d with
 | zero => intro k s hk _ _ i h1 h2; omega
 | succ d ih =>
  intro k s hk hs h i h1 h2
  rw [(rd_drop L k (by omega)).1] at h
  unfold rightGo at h
  simp only [Bool.and_eq_true, decide_eq_true_eq] at h
  obtain ⟨hl, _, ha, hr⟩ := h
  by_cases e : i = k
  ·subst e
   obtain ⟨a1, a2, a3⟩ := aloneB_spec ha
   refine ⟨⟨a1, a2, by omega⟩, fun hi => a3 ?_⟩
   exact beq_eq_false_iff_ne.2 (by omega)
  ·exact ih (k + 1) _ (by omega) (by omega) hr i (by omega) h2
theorem nestOk_of (L : List Lv) (h : rightGo L 0 0 L = true) (i : Nat) (hi : i + 1 < L.length) (hle : (rd_T54 L ((i + 1 : Nat) : Int)).f1 ≤ (rd_T54 L (i : Int)).f1) :
  NestOk (rd_T54 L (i : Int)) (rd_T54 L ((i + 1 : Nat) : Int)) := by
 have H := rightGo_spec L L.length 0 0 (by omega) (by omega) (by rw [List.drop_zero]; exact h)
 obtain ⟨a, b⟩ := H i (by omega) (by omega)
 obtain ⟨c, _⟩ := H (i + 1) (by omega) hi
 have b := b hi
 exact ⟨c.p0, hle, by have := a.p1; omega, a.lb, c.lb, fun x hx => (b x hx).1, fun x hx => by have := (b x hx).2; omega⟩
theorem nestsB_at (L : List Lv) (h : 1 ≤ L.length) : nestsB L = nestsGo (rd_T54 L 0) (L.drop 1) := by
 cases L with
 | nil => simp at h
 | cons a l => rfl
end Go.Proofs.YtfglcfbcdhjcdaaDoor.Q

namespace Go.Proofs.YtfglcfbcdhjcdaaDoor.Q
open Go.RowKit Go.Proofs.YtfglcfbcdhjcdaaDoorW.PrintWords Go.Proofs.YtfglcfbcdhjcdaaDoorW.PrintLast Go.Proofs.YtfglcfbcdhjcdaaDoorW.PrintMore
set_option linter.unusedVariables false
set_option linter.unusedSimpArgs false
set_option maxHeartbeats 4000000 in
set_option maxRecDepth 100000 in
theorem scheme_alone.calls0 (l : Lv) (A : Option Addr) (c : Nat) (last : Bool) (w : World) (hr : Kd.C k90 w A l.f2.length l.f2) (hf : LevelFits l) :
  Calls Tryd.prog 69 #[.agg #[.string l.f0, .int .i64 l.f1, .slice A l.f2.length c, .int .i64 l.f3, .int .i64 l.f4], .bool last] w
   fun e w' => e = .returned (.bool (aloneB l last)) ∧ Below w.heap.size w w' := by
 have hll := hf.ll
 have HR := Aside0.mk hr
 have HF := Aside0.mk hf
 have hnm := fun W => named.calls l.f0 hf.nm W
 clear hr hf
 generalize hn : l.f2.length = n at *
 have HN := Aside0.mk hn
 clear hn
 generalize hq1 : namedB l.f0 = b1 at *
 have HQ1 := Aside0.mk hq1
 clear hq1
 cases b1 with
 | false =>
  have HE : Aside0 (aloneB l last = false) := ⟨by unfold aloneB; rw [HQ1.out]; rfl⟩
  go_enter Tryd.func69, Tryd.ntmps69
  go_wp2_with (go_at_call 83; refine (hnm _).mono ?_; rintro e w' ⟨rfl, ⟨nd, rfl⟩⟩)
  go_ret
  exact ⟨by rw [HE.out]; rfl, pw_below_drewN ((Below.refl _ _).alloc (Nat.le_refl _) _) _⟩
 | true =>
  have HE : Aside0 (aloneB l last = if (decide (0 ≤ l.f1) && (decide (l.f1 ≤ 10) && (decide (0 ≤ l.f4) && decide (l.f4 ≤ 1000000)))) = true then (if last then (l.f1 == 0) && (decide (l.f2.length = 0) && (l.f3 == 0)) else labelsGo l 0 l.f2 && (decide (1 ≤ l.f3) && decide (l.f3 ≤ 2000))) else false) := ⟨by unfold aloneB; rw [HQ1.out, Bool.true_and]⟩
  by_cases t1 : l.f1 < 0
  ·have HX : Aside0 (aloneB l last = false) := ⟨by rw [HE.out, decide_eq_false (show ¬ 0 ≤ l.f1 by omega)]; rfl⟩
   go_enter Tryd.func69, Tryd.ntmps69
   go_wp2_with (go_at_call 83; refine (hnm _).mono ?_; rintro e w' ⟨rfl, ⟨nd, rfl⟩⟩)
   go_ret
   exact ⟨by rw [HX.out]; rfl, pw_below_drewN ((Below.refl _ _).alloc (Nat.le_refl _) _) _⟩
  by_cases t2 : 10 < l.f1
  ·have HX : Aside0 (aloneB l last = false) := ⟨by rw [HE.out, decide_eq_true (show 0 ≤ l.f1 by omega), decide_eq_false (show ¬ l.f1 ≤ 10 by omega)]; rfl⟩
   go_enter Tryd.func69, Tryd.ntmps69
   go_wp2_with (go_at_call 83; refine (hnm _).mono ?_; rintro e w' ⟨rfl, ⟨nd, rfl⟩⟩)
   go_ret
   exact ⟨by rw [HX.out]; rfl, pw_below_drewN ((Below.refl _ _).alloc (Nat.le_refl _) _) _⟩
  by_cases t3 : l.f4 < 0
  ·have HX : Aside0 (aloneB l last = false) := ⟨by rw [HE.out, decide_eq_true (show 0 ≤ l.f1 by omega), decide_eq_true (show l.f1 ≤ 10 by omega), decide_eq_false (show ¬ 0 ≤ l.f4 by omega)]; rfl⟩
   go_enter Tryd.func69, Tryd.ntmps69
   go_wp2_with (go_at_call 83; refine (hnm _).mono ?_; rintro e w' ⟨rfl, ⟨nd, rfl⟩⟩)
   go_ret
   exact ⟨by rw [HX.out]; rfl, pw_below_drewN ((Below.refl _ _).alloc (Nat.le_refl _) _) _⟩
  by_cases t4 : 1000000 < l.f4
  ·have HX : Aside0 (aloneB l last = false) := ⟨by rw [HE.out, decide_eq_true (show 0 ≤ l.f1 by omega), decide_eq_true (show l.f1 ≤ 10 by omega), decide_eq_true (show 0 ≤ l.f4 by omega), decide_eq_false (show ¬ l.f4 ≤ 1000000 by omega)]; rfl⟩
   go_enter Tryd.func69, Tryd.ntmps69
   go_wp2_with (go_at_call 83; refine (hnm _).mono ?_; rintro e w' ⟨rfl, ⟨nd, rfl⟩⟩)
   go_ret
   exact ⟨by rw [HX.out]; rfl, pw_below_drewN ((Below.refl _ _).alloc (Nat.le_refl _) _) _⟩
  have HE2 : Aside0 (aloneB l last = if last then (l.f1 == 0) && (decide (l.f2.length = 0) && (l.f3 == 0)) else labelsGo l 0 l.f2 && (decide (1 ≤ l.f3) && decide (l.f3 ≤ 2000))) := ⟨by rw [HE.out, decide_eq_true (show 0 ≤ l.f1 by omega), decide_eq_true (show l.f1 ≤ 10 by omega), decide_eq_true (show 0 ≤ l.f4 by omega), decide_eq_true (show l.f4 ≤ 1000000 by omega)]; rfl⟩
  have HQ0 := HQ1
  clear HE HQ1
  cases last with
  | true =>
   have HX : Aside0 (aloneB l true = ((l.f1 == 0) && (decide (n = 0) && (l.f3 == 0)))) := ⟨by rw [HE2.out, HN.out]; rfl⟩
   clear HE2
   by_cases s1 : l.f1 = 0
   ·have s1b : (l.f1 == 0) = true := beq_iff_eq.2 s1
    have HS1 := Aside0.mk s1b
    clear s1
    by_cases s2 : n = 0
    ·have s2b : ((n : Int) == 0) = true := beq_iff_eq.2 (by omega)
     have HS2 := Aside0.mk s2
     clear s2
     go_enter Tryd.func69, Tryd.ntmps69
     go_wp2_with (go_at_call 83; refine (hnm _).mono ?_; rintro e w' ⟨rfl, ⟨nd, rfl⟩⟩)
     go_ret
     exact ⟨by rw [HX.out, HS1.out, decide_eq_true HS2.out]; rfl, pw_below_drewN ((Below.refl _ _).alloc (Nat.le_refl _) _) _⟩
    ·have s2b : ((n : Int) == 0) = false := beq_eq_false_iff_ne.2 (by omega)
     have HS2 := Aside0.mk s2
     go_enter Tryd.func69, Tryd.ntmps69
     go_wp2_with (go_at_call 83; refine (hnm _).mono ?_; rintro e w' ⟨rfl, ⟨nd, rfl⟩⟩)
     go_ret
     exact ⟨by rw [HX.out, HS1.out, decide_eq_false HS2.out]; rfl, pw_below_drewN ((Below.refl _ _).alloc (Nat.le_refl _) _) _⟩
   ·have s1b : (l.f1 == 0) = false := beq_eq_false_iff_ne.2 s1
    have HS1 := Aside0.mk s1b
    go_enter Tryd.func69, Tryd.ntmps69
    go_wp2_with (go_at_call 83; refine (hnm _).mono ?_; rintro e w' ⟨rfl, ⟨nd, rfl⟩⟩)
    go_ret
    exact ⟨by rw [HX.out, HS1.out]; rfl, pw_below_drewN ((Below.refl _ _).alloc (Nat.le_refl _) _) _⟩
  | false =>
   have HX : Aside0 (aloneB l false = (labelsGo l 0 l.f2 && (decide (1 ≤ l.f3) && decide (l.f3 ≤ 2000)))) := ⟨by rw [HE2.out]; rfl⟩
   have h := scheme_alone.loop l A c w (by rw [HN.out]; exact HR.out) HF.out ⟨HQ0.out, t1, t2, t3, t4⟩
   rw [HN.out] at h
   rw [HX.out]
   exact h
end Go.Proofs.YtfglcfbcdhjcdaaDoor.Q
