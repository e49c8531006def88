/- A part of the proof of a law of the chapter (lemmas and walks of functions). Conditions: none but those of the statement. -/
import Derived.Test.YtfglcfbcdhjcdaaDoorA0
import Derived.Test.YtfglcfbcdhjcdaaDoorA1
import Derived.Test.YtfglcfbcdhjcdaaDoorA2
import Derived.Test.YtfglcfbcdhjcdaaDoorA3
namespace Go.Proofs.YtfglcfbcdhjcdaaDoor.Q
open Go.RowKit Go.Proofs.YtfglcfbcdhjcdaaDoorW.PrintWords Go.Proofs.YtfglcfbcdhjcdaaDoorW.PrintLast Go.Proofs.YtfglcfbcdhjcdaaDoorW.PrintMore
attribute [local go_sem] max2_int min2_int max_two min_two max_three min_three max_four min_four
set_option linter.unusedVariables false
set_option linter.unusedSimpArgs false
mutual
def tariff_Bases.j0 : Nat → Bool → List (S57) → List (S67) → Int → Int → ByteArray → List (S48) → Option (List Int × Int)
 | 0, _, _, _, _, _, _, _ => none
 | k + 1, x19, x144000, x144001, x145000, x145001, x145002, x145003 => if x19 = true then (some (([] : List Int), 2)) else ((tariff_rate.f k x144000 x144001 x145000).bind fun bt147 => (if bt147.1 = 0 then (some (([] : List Int), 6)) else (if 0 ≤ (x145003.length : Int) then (if ((x145003.length : Int) : Int).toNat ≤ 35184372088832 then (tariff_Bases.l0 k (([] : List Int)) x145003 (x145003.length : Int) 0 x144000 x144001 x145000 x145001 x145002 x145003 bt147.1 bt147.2.1 bt147.2.2) else (none)) else (none))))
def tariff_Bases.l0 : Nat → List Int → List (S48) → Int → Int → List (S57) → List (S67) → Int → Int → ByteArray → List (S48) → Int → List (S61) → Int → Option (List Int × Int)
 | 0, _, _, _, _, _, _, _, _, _, _, _, _, _ => none
 | k + 1, x7, x32, x33, x34, x144000, x144001, x145000, x145001, x145002, x145003, x153000, x153001, x153002 => if x34 < x33 then (if 0 ≤ x34 then (if x34 < (x32.length : Int) then ((tariff_zone.f k x144000 x144001 x145002 ((rd_T48 x32 x34).f2)).bind fun t158 => ((tariff_price.f x153000 x153001 x153002 t158 ((rd_T48 x32 x34).f3)).bind fun bt159 => (if bt159.2 = 0 then (if x7.length < 17592186044416 then (tariff_Bases.l0 k (x7 ++ [bt159.1]) x32 x33 (wrap64 (x34 + 1)) x144000 x144001 x145000 x145001 x145002 x145003 x153000 x153001 x153002) else (none)) else (some (([] : List Int), bt159.2))))) else (none)) else (none)) else (some (x7, 0))
end
def tariff_Bases.f (k : Nat) (l0_0 : List (S57)) (l0_1 : List (S67)) (a1_0 : Int) (a1_1 : Int) (a1_2 : ByteArray) (l1_3 : List (S48)) : Option (List Int × Int) := (tariff_Right.f l0_0 l0_1).bind fun t145 => (if t145 = true then ((tariff_Mailing.f k a1_0 a1_1 a1_2 l1_3).bind fun t146 => (tariff_Bases.j0 k (!t146) l0_0 l0_1 a1_0 a1_1 a1_2 l1_3)) else (tariff_Bases.j0 k true l0_0 l0_1 a1_0 a1_1 a1_2 l1_3))
def tariff_Bases.T10 : Bool × List (List Nat × List Nat) := (true, [([], []), ([], []), ([], []), ([2], [2]), ([], []), ([4], [4]), ([1, 3, 5], [1, 3, 5]), ([], []), ([7], [7]), ([0, 6, 8, 6], [0, 6, 8]), ([9], [9]), ([10], [10]), ([10], [10]), ([11, 9, 0, 1, 2, 3, 4, 5, 6, 7, 8, 9, 10, 11], [11]), ([12, 13, 0, 1, 2, 3, 4, 5, 6, 7, 8, 9, 10, 11, 12, 13], [12])])
def tariff_Bases.B10 : List Nat := [0, 0, 0, 4, 0, 16, 62, 0, 128, 511, 1023, 2047, 2047, 4095, 16383]
theorem tariff_Bases.tab10 : rtab .any (opsOf Tryd.f16 10) = tariff_Bases.T10 := by kernel_rfl
theorem tariff_Bases.bits10 : waitsOk tariff_Bases.T10.2 tariff_Bases.B10 = true := by kernel_rfl
set_option maxHeartbeats 8000000 in
set_option maxRecDepth 100000 in
theorem tariff_Bases.calls (k : Nat) (A0_0 : Option Addr) (c0_0 : Nat) (l0_0 : List (S57)) (A0_1 : Option Addr) (c0_1 : Nat) (l0_1 : List (S67)) (a1_0 : Int) (a1_1 : Int) (a1_2 : ByteArray) (A1_3 : Option Addr) (c1_3 : Nat) (l1_3 : List (S48)) (r1 : List Int) (r2 : Int) (w : World) (hr0_0 : Kd.C k57 w A0_0 l0_0.length l0_0) (hc0_0 : l0_0.length ≤ c0_0) (hr0_1 : Kd.C k67 w A0_1 l0_1.length l0_1) (hc0_1 : l0_1.length ≤ c0_1) (hr1_3 : Kd.C k48 w A1_3 l1_3.length l1_3) (hc1_3 : l1_3.length ≤ c1_3) (h : tariff_Bases.f k l0_0 l0_1 a1_0 a1_1 a1_2 l1_3 = some (r1, r2)) :
  Calls Tryd.prog 16 #[.agg #[.slice A0_0 l0_0.length c0_0, .slice A0_1 l0_1.length c0_1], .agg #[.int .u8 a1_0, .int .u8 a1_1, .string a1_2, .slice A1_3 l1_3.length c1_3]] w fun e w' => ∃ v0_ : Value, e = .returned (.tuple #[v0_, .int .i64 r2]) ∧ Kd.R (Kd.int .i64) 3 w' w.heap.size (fun _ => True) v0_ r1 ∧ Below w.heap.size w w' := by
 have hu25 := Tryd.underlying25
 have hu36 := Tryd.underlying36
 have hu57 := Tryd.underlying57
 have hu48 := Tryd.underlying48
 have HR0_0 := Aside0.mk hr0_0
 have HC0_0 := Aside0.mk hc0_0
 clear hr0_0 hc0_0
 have HR0_1 := Aside0.mk hr0_1
 have HC0_1 := Aside0.mk hc0_1
 clear hr0_1 hc0_1
 have HR1_3 := Aside0.mk hr1_3
 have HC1_3 := Aside0.mk hc1_3
 clear hr1_3 hc1_3
 have HB := Aside0.mk (Below.refl w.heap.size w)
 have H : ((tariff_Right.f l0_0 l0_1).bind fun t145 => (if t145 = true then ((tariff_Mailing.f k a1_0 a1_1 a1_2 l1_3).bind fun t146 => (tariff_Bases.j0 k (!t146) l0_0 l0_1 a1_0 a1_1 a1_2 l1_3)) else (tariff_Bases.j0 k true l0_0 l0_1 a1_0 a1_1 a1_2 l1_3))) = some (r1, r2) := h
 clear h
 have HC3 := Aside0.mk H
 clear H
 go_enter Tryd.func16, Tryd.ntmps16
 go_upto_region 1 with (first | ((with_reducible refine gate_dst (N := 2) rfl ?_); refine box_event ?hg (N := 2) ?hd (cs := #[.slice A0_0 l0_0.length c0_0, .slice A0_1 l0_1.length c0_1]) (t := 25) ?hr ?_; (case hd => rfl); (case hg => rfl); (case hr => first | (go_simp; done) | (go_simp; rfl)); intro gb143 hg w4 hbox hb; have n0_ := Aside0.mk (below_step (by repeat (first | (with_reducible first | exact HB.out | apply below_alloc | apply pw_below_drewN | apply below_drew1) | exact HB.out)) hb); have n1_ := Aside0.mk (hbox); have n2_ := Aside0.mk ((by rw [hg]; exact (below_size (by repeat (first | (with_reducible first | exact HB.out | apply below_alloc | apply pw_below_drewN | apply below_drew1) | exact HB.out))) : w.heap.size ≤ gb143)); have n3_ := Aside0.mk ((by rw [hg]; exact (below_size (by repeat (first | (with_reducible first | exact HB.out | apply below_alloc | apply pw_below_drewN | apply below_drew1) | exact HB.out))) : w.heap.size ≤ gb143)); clear HB; have HB := n0_; have BK143 := n1_; have GW143 := n2_; have GE143 := n3_; clear n0_ n1_ n2_ n3_; clear hb hbox hg) | ((with_reducible refine gate_dst (N := 3) rfl ?_); refine box_event ?hg (N := 3) ?hd (cs := #[.int .u8 a1_0, .int .u8 a1_1, .string a1_2, .slice A1_3 l1_3.length c1_3]) (t := 36) ?hr ?_; (case hd => rfl); (case hg => rfl); (case hr => first | (go_simp; done) | (go_simp; rfl)); intro gb144 hg w5 hbox hb; have n0_ := Aside0.mk (blk_below (g := gb143) (o := .cells #[.slice A0_0 l0_0.length c0_0, .slice A0_1 l0_1.length c0_1] 25 (0, 0)) (by (with_reducible repeat (first | refine blk_drewN ?_ _ | refine blk_drew ?_ | refine blk_alloc ?_ _)); exact BK143.out) hb); have n1_ := Aside0.mk (below_step (by repeat (first | (with_reducible first | exact HB.out | apply below_alloc | apply pw_below_drewN | apply below_drew1 | refine below_set ?_ GE143.out) | exact HB.out)) hb); have n2_ := Aside0.mk (hbox); have n3_ := Aside0.mk ((by rw [hg]; exact (below_size (by repeat (first | (with_reducible first | exact HB.out | apply below_alloc | apply pw_below_drewN | apply below_drew1 | refine below_set ?_ GE143.out) | exact HB.out))) : w.heap.size ≤ gb144)); have n4_ := Aside0.mk ((by rw [hg]; exact (below_size (by repeat (first | (with_reducible first | exact HB.out | apply below_alloc | apply pw_below_drewN | apply below_drew1 | refine below_set ?_ GE143.out) | exact HB.out))) : w.heap.size ≤ gb144)); have n5_ := Aside0.mk ((by rw [hg]; exact Nat.ne_of_lt (blk_lt (g := gb143) (o := .cells #[.slice A0_0 l0_0.length c0_0, .slice A0_1 l0_1.length c0_1] 25 (0, 0)) (by (with_reducible repeat (first | refine blk_drewN ?_ _ | refine blk_drew ?_ | refine blk_alloc ?_ _)); exact BK143.out)) : gb143 ≠ gb144)); have n6_ := Aside0.mk ((by rw [hg]; exact Nat.ne_of_gt (blk_lt (g := gb143) (o := .cells #[.slice A0_0 l0_0.length c0_0, .slice A0_1 l0_1.length c0_1] 25 (0, 0)) (by (with_reducible repeat (first | refine blk_drewN ?_ _ | refine blk_drew ?_ | refine blk_alloc ?_ _)); exact BK143.out)) : gb144 ≠ gb143)); clear BK143; clear HB; have BK143 := n0_; have HB := n1_; have BK144 := n2_; have GW144 := n3_; have GE144 := n4_; have NB143_144 := n5_; have NB144_143 := n6_; clear n0_ n1_ n2_ n3_ n4_ n5_ n6_; clear hb hbox hg))
 (try simp only [Act.put, sl1, sl2, sl3])
 go_cut [19] (fun v19 wc => ∃ (kq : Nat) (x19_2 : Bool), v19 = .bool x19_2 ∧ Aside0 (tariff_Bases.j0 kq x19_2 l0_0 l0_1 a1_0 a1_1 a1_2 l1_3 = some (r1, r2)) ∧ Aside0 (kq ≤ k) ∧ Aside0 (wc.heap[gb143]? = some (.cells #[(.slice A0_0 l0_0.length c0_0), (.slice A0_1 l0_1.length c0_1)] 25 (0, 0))) ∧ Aside0 (wc.heap[gb144]? = some (.cells #[.int .u8 a1_0, .int .u8 a1_1, .string a1_2, (.slice A1_3 l1_3.length c1_3)] 36 (0, 0))) ∧ Aside0 (Below w.heap.size w wc))
 case first =>
  have H := HC3.out
  clear HC3
  replace H := Option.bind_eq_some_iff.mp H
  obtain ⟨t145, A60, H⟩ := H
  replace H : (if t145 = true then ((tariff_Mailing.f k a1_0 a1_1 a1_2 l1_3).bind fun t146 => (tariff_Bases.j0 k (!t146) l0_0 l0_1 a1_0 a1_1 a1_2 l1_3)) else (tariff_Bases.j0 k true l0_0 l0_1 a1_0 a1_1 a1_2 l1_3)) = some (r1, r2) := H
  have A6 := Aside0.mk A60
  clear A60
  by_cases c7 : t145 = true
  ·subst c7
   have H1 : ((tariff_Mailing.f k a1_0 a1_1 a1_2 l1_3).bind fun t146 => (tariff_Bases.j0 k (!t146) l0_0 l0_1 a1_0 a1_1 a1_2 l1_3)) = some (r1, r2) := by rw [if_pos rfl] at H; exact H
   clear H
   have H := H1
   clear H1
   replace H := Option.bind_eq_some_iff.mp H
   obtain ⟨t146, A80, H⟩ := H
   replace H : (tariff_Bases.j0 k (!t146) l0_0 l0_1 a1_0 a1_1 a1_2 l1_3) = some (r1, r2) := H
   have A8 := Aside0.mk A80
   clear A80
   have H' := Aside0.mk H
   clear H
   have hnb9 := NB143_144.out
   have hnc9 := NB144_143.out
   have hcz10_0 : w5.cell? ⟨gb143, 0, none⟩ = some (.slice A0_0 l0_0.length c0_0) := (blk_cell BK143.out 0).trans rfl
   have hcz10_1 : w5.cell? ⟨gb143, 1, none⟩ = some (.slice A0_1 l0_1.length c0_1) := (blk_cell BK143.out 1).trans rfl
   have hfz10_0 := blk_frozen BK143.out 0
   have hfz10_1 := blk_frozen BK143.out 1
   go_wp2_with (first | ((with_reducible refine gate_callee (f := 18) rfl ?_); refine goesL_ (some 13) rfl rfl Tryd.func18 (by kernel_rfl) rfl #[.agg #[.slice A0_0 l0_0.length c0_0, .slice A0_1 l0_1.length c0_1]] rfl (by (try simp only [List.map_toArray, List.map_cons, List.map_nil]); first | done | rfl | (simp only [List.length_drop, List.length_take]; rfl)) ?_; (with_reducible refine (tariff_Right.calls _ _ l0_0 _ _ l0_1 true _ ?side1 ?side2 ?side3 ?side4 A6.out).mono ?_); (case side1 => repeat (first | exact (Kd.C_below HR0_0.out HB.out) | (with_reducible refine Kd.C_alloc ?_ _) | (with_reducible refine Kd.C_drewN ?_ _) | (with_reducible refine Kd.C_drew ?_))); (case side2 => exact HC0_0.out); (case side3 => repeat (first | exact (Kd.C_below HR0_1.out HB.out) | (with_reducible refine Kd.C_alloc ?_ _) | (with_reducible refine Kd.C_drewN ?_ _) | (with_reducible refine Kd.C_drew ?_))); (case side4 => exact HC0_1.out); rintro e w11 ⟨rfl, hb⟩; refine ⟨_, rfl, ?_⟩; have n0_ := Aside0.mk (blk_below (g := gb143) (o := .cells #[.slice A0_0 l0_0.length c0_0, .slice A0_1 l0_1.length c0_1] 25 (0, 0)) (by (with_reducible repeat (first | refine blk_drewN ?_ _ | refine blk_drew ?_ | refine blk_alloc ?_ _)); exact BK143.out) hb); have n1_ := Aside0.mk (blk_below (g := gb144) (o := .cells #[.int .u8 a1_0, .int .u8 a1_1, .string a1_2, .slice A1_3 l1_3.length c1_3] 36 (0, 0)) (by (with_reducible repeat (first | refine blk_drewN ?_ _ | refine blk_drew ?_ | refine blk_alloc ?_ _)); exact BK144.out) hb); have n2_ := Aside0.mk (below_step (by repeat (first | (with_reducible first | exact HB.out | apply below_alloc | apply pw_below_drewN | apply below_drew1 | refine below_set ?_ GE143.out | refine below_set ?_ GE144.out) | exact HB.out)) hb); clear BK143; clear BK144; clear HB; have BK143 := n0_; have BK144 := n1_; have HB := n2_; clear n0_ n1_ n2_; (try clear hb); (try clear hb2); (try clear hk); (try clear hi); have hcz12_0 : w11.cell? ⟨gb144, 0, none⟩ = some (.int .u8 a1_0) := (blk_cell BK144.out 0).trans rfl; have hcz12_1 : w11.cell? ⟨gb144, 1, none⟩ = some (.int .u8 a1_1) := (blk_cell BK144.out 1).trans rfl; have hcz12_2 : w11.cell? ⟨gb144, 2, none⟩ = some (.string a1_2) := (blk_cell BK144.out 2).trans rfl; have hcz12_3 : w11.cell? ⟨gb144, 3, none⟩ = some (.slice A1_3 l1_3.length c1_3) := (blk_cell BK144.out 3).trans rfl; have hfz12_0 := blk_frozen BK144.out 0; have hfz12_1 := blk_frozen BK144.out 1; have hfz12_2 := blk_frozen BK144.out 2; have hfz12_3 := blk_frozen BK144.out 3) | (go_at_call 19; (with_reducible refine (tariff_Mailing.calls k a1_0 a1_1 a1_2 _ _ l1_3 t146 _ ?side1 ?side2 A8.out).mono ?_); (case side1 => repeat (first | exact (Kd.C_below HR1_3.out HB.out) | (with_reducible refine Kd.C_alloc ?_ _) | (with_reducible refine Kd.C_drewN ?_ _) | (with_reducible refine Kd.C_drew ?_))); (case side2 => exact HC1_3.out); rintro e w13 ⟨rfl, hb⟩; have n0_ := Aside0.mk (blk_below (g := gb143) (o := .cells #[.slice A0_0 l0_0.length c0_0, .slice A0_1 l0_1.length c0_1] 25 (0, 0)) (by (with_reducible repeat (first | refine blk_drewN ?_ _ | refine blk_drew ?_ | refine blk_alloc ?_ _)); exact BK143.out) hb); have n1_ := Aside0.mk (blk_below (g := gb144) (o := .cells #[.int .u8 a1_0, .int .u8 a1_1, .string a1_2, .slice A1_3 l1_3.length c1_3] 36 (0, 0)) (by (with_reducible repeat (first | refine blk_drewN ?_ _ | refine blk_drew ?_ | refine blk_alloc ?_ _)); exact BK144.out) hb); have n2_ := Aside0.mk (below_step (by repeat (first | (with_reducible first | exact HB.out | apply below_alloc | apply pw_below_drewN | apply below_drew1 | refine below_set ?_ GE143.out | refine below_set ?_ GE144.out) | exact HB.out)) hb); clear BK143; clear BK144; clear HB; have BK143 := n0_; have BK144 := n1_; have HB := n2_; clear n0_ n1_ n2_; (try clear hb); (try clear hb2); (try clear hk); (try clear hi)))
   go_meet
   case rel => exact ⟨_, (!t146), (by first | rfl | (simp; done) | (simp [*]; done)), H', ⟨by first | omega | exact Nat.le_refl _⟩, ⟨by (with_reducible repeat (first | refine blk_drewN ?_ _ | refine blk_drew ?_ | refine blk_alloc ?_ _)); exact BK143.out⟩, ⟨by (with_reducible repeat (first | refine blk_drewN ?_ _ | refine blk_drew ?_ | refine blk_alloc ?_ _)); exact BK144.out⟩, ⟨by repeat (first | (with_reducible first | exact HB.out | apply below_alloc | apply pw_below_drewN | apply below_drew1 | refine below_set ?_ GE143.out | refine below_set ?_ GE144.out) | exact HB.out)⟩⟩
  ·replace c7 := Bool.eq_false_iff.mpr c7
   subst c7
   have H1 : (tariff_Bases.j0 k true l0_0 l0_1 a1_0 a1_1 a1_2 l1_3) = some (r1, r2) := by rw [if_neg (show ¬ (false = true) by decide)] at H; exact H
   clear H
   have H := H1
   clear H1
   have H' := Aside0.mk H
   clear H
   have hnb14 := NB143_144.out
   have hnc14 := NB144_143.out
   have hcz15_0 : w5.cell? ⟨gb143, 0, none⟩ = some (.slice A0_0 l0_0.length c0_0) := (blk_cell BK143.out 0).trans rfl
   have hcz15_1 : w5.cell? ⟨gb143, 1, none⟩ = some (.slice A0_1 l0_1.length c0_1) := (blk_cell BK143.out 1).trans rfl
   have hfz15_0 := blk_frozen BK143.out 0
   have hfz15_1 := blk_frozen BK143.out 1
   go_wp2_with (first | ((with_reducible refine gate_callee (f := 18) rfl ?_); refine goesL_ (some 13) rfl rfl Tryd.func18 (by kernel_rfl) rfl #[.agg #[.slice A0_0 l0_0.length c0_0, .slice A0_1 l0_1.length c0_1]] rfl (by (try simp only [List.map_toArray, List.map_cons, List.map_nil]); first | done | rfl | (simp only [List.length_drop, List.length_take]; rfl)) ?_; (with_reducible refine (tariff_Right.calls _ _ l0_0 _ _ l0_1 false _ ?side1 ?side2 ?side3 ?side4 A6.out).mono ?_); (case side1 => repeat (first | exact (Kd.C_below HR0_0.out HB.out) | (with_reducible refine Kd.C_alloc ?_ _) | (with_reducible refine Kd.C_drewN ?_ _) | (with_reducible refine Kd.C_drew ?_))); (case side2 => exact HC0_0.out); (case side3 => repeat (first | exact (Kd.C_below HR0_1.out HB.out) | (with_reducible refine Kd.C_alloc ?_ _) | (with_reducible refine Kd.C_drewN ?_ _) | (with_reducible refine Kd.C_drew ?_))); (case side4 => exact HC0_1.out); rintro e w16 ⟨rfl, hb⟩; refine ⟨_, rfl, ?_⟩; have n0_ := Aside0.mk (blk_below (g := gb143) (o := .cells #[.slice A0_0 l0_0.length c0_0, .slice A0_1 l0_1.length c0_1] 25 (0, 0)) (by (with_reducible repeat (first | refine blk_drewN ?_ _ | refine blk_drew ?_ | refine blk_alloc ?_ _)); exact BK143.out) hb); have n1_ := Aside0.mk (blk_below (g := gb144) (o := .cells #[.int .u8 a1_0, .int .u8 a1_1, .string a1_2, .slice A1_3 l1_3.length c1_3] 36 (0, 0)) (by (with_reducible repeat (first | refine blk_drewN ?_ _ | refine blk_drew ?_ | refine blk_alloc ?_ _)); exact BK144.out) hb); have n2_ := Aside0.mk (below_step (by repeat (first | (with_reducible first | exact HB.out | apply below_alloc | apply pw_below_drewN | apply below_drew1 | refine below_set ?_ GE143.out | refine below_set ?_ GE144.out) | exact HB.out)) hb); clear BK143; clear BK144; clear HB; have BK143 := n0_; have BK144 := n1_; have HB := n2_; clear n0_ n1_ n2_; (try clear hb); (try clear hb2); (try clear hk); (try clear hi)))
   go_meet
   case rel => exact ⟨_, (true), (by first | rfl | (simp; done) | (simp [*]; done)), H', ⟨by first | omega | exact Nat.le_refl _⟩, ⟨by (with_reducible repeat (first | refine blk_drewN ?_ _ | refine blk_drew ?_ | refine blk_alloc ?_ _)); exact BK143.out⟩, ⟨by (with_reducible repeat (first | refine blk_drewN ?_ _ | refine blk_drew ?_ | refine blk_alloc ?_ _)); exact BK144.out⟩, ⟨by repeat (first | (with_reducible first | exact HB.out | apply below_alloc | apply pw_below_drewN | apply below_drew1 | refine below_set ?_ GE143.out | refine below_set ?_ GE144.out) | exact HB.out)⟩⟩
 case rest =>
  clear HC3
  try clear c1
  try clear p2
  try clear c7
  try clear c9
  try clear c14
  try clear c16
  try clear hcz10_0
  try clear hcz10_1
  try clear hcz12_0
  try clear hcz12_1
  try clear hcz12_2
  try clear hcz12_3
  try clear hcz15_0
  try clear hcz15_1
  try clear hfz10_0
  try clear hfz10_1
  try clear hfz12_0
  try clear hfz12_1
  try clear hfz12_2
  try clear hfz12_3
  try clear hfz15_0
  try clear hfz15_1
  obtain ⟨kq, x19_2, rfl, HA, HJ2, BK143, BK144, HB⟩ := hcut
  cases kq with
  | zero => exact absurd HA.out (by simp [tariff_Bases.j0])
  | succ kj2 =>
   have H := HA.out
   clear HA
   simp only [tariff_Bases.j0] at H
   by_cases c17 : x19_2 = true
   ·subst c17
    have H1 : (some (([] : List Int), 2)) = some (r1, r2) := by rw [if_pos rfl] at H; exact H
    clear H
    have H := H1
    clear H1
    simp only [Option.some.injEq, Prod.mk.injEq] at H
    obtain ⟨rfl, rfl⟩ := H
    go_wp2
    go_ret2
    exact ⟨_, by first | rfl | (simp [errW_none, errW_some] <;> rfl) | (simp [*, errW_none, errW_some] <;> rfl), by first | exact Kd.R_nil _ _ _ _ _ | exact Kd.N_nil _ _ _ _ _ | exact Kd.V_nil _ _ _ _ _ | exact Kd.Q_nil _ _ _ _ _ | exact Kd.S_nil _ _ _ _ _, by repeat (first | (with_reducible first | exact HB.out | apply below_alloc | apply pw_below_drewN | apply below_drew1 | refine below_set ?_ GE143.out | refine below_set ?_ GE144.out) | exact HB.out)⟩
   ·replace c17 := Bool.eq_false_iff.mpr c17
    subst c17
    have H1 : ((tariff_rate.f kj2 l0_0 l0_1 a1_0).bind fun bt147 => (if bt147.1 = 0 then (some (([] : List Int), 6)) else (if 0 ≤ (l1_3.length : Int) then (if ((l1_3.length : Int) : Int).toNat ≤ 35184372088832 then (tariff_Bases.l0 kj2 (([] : List Int)) l1_3 (l1_3.length : Int) 0 l0_0 l0_1 a1_0 a1_1 a1_2 l1_3 bt147.1 bt147.2.1 bt147.2.2) else (none)) else (none)))) = some (r1, r2) := by rw [if_neg (show ¬ (false = true) by decide)] at H; exact H
    clear H
    have H := H1
    clear H1
    replace H := Option.bind_eq_some_iff.mp H
    obtain ⟨⟨t147, t148, t151⟩, A180, H⟩ := H
    replace H : (if t147 = 0 then (some (([] : List Int), 6)) else (if 0 ≤ (l1_3.length : Int) then (if ((l1_3.length : Int) : Int).toNat ≤ 35184372088832 then (tariff_Bases.l0 kj2 (([] : List Int)) l1_3 (l1_3.length : Int) 0 l0_0 l0_1 a1_0 a1_1 a1_2 l1_3 t147 t148 t151) else (none)) else (none))) = some (r1, r2) := H
    have A18 := Aside0.mk A180
    clear A180
    by_cases c19 : t147 = 0
    ·rw [if_pos c19] at H
     have c19b0 : (t147 == 0) = true := beq_iff_eq.mpr c19
     have c19b1 : (t147 != 0) = false := bne_eq_false_iff_eq.mpr c19
     clear c19
     simp only [Option.some.injEq, Prod.mk.injEq] at H
     obtain ⟨rfl, rfl⟩ := H
     have hnb20 := NB143_144.out
     have hnc20 := NB144_143.out
     have hcz21_0 : wc.cell? ⟨gb143, 0, none⟩ = some (.slice A0_0 l0_0.length c0_0) := (blk_cell BK143.out 0).trans rfl
     have hcz21_1 : wc.cell? ⟨gb143, 1, none⟩ = some (.slice A0_1 l0_1.length c0_1) := (blk_cell BK143.out 1).trans rfl
     have hfz21_0 := blk_frozen BK143.out 0
     have hfz21_1 := blk_frozen BK143.out 1
     have hcz22_0 : wc.cell? ⟨gb144, 0, none⟩ = some (.int .u8 a1_0) := (blk_cell BK144.out 0).trans rfl
     have hcz22_1 : wc.cell? ⟨gb144, 1, none⟩ = some (.int .u8 a1_1) := (blk_cell BK144.out 1).trans rfl
     have hcz22_2 : wc.cell? ⟨gb144, 2, none⟩ = some (.string a1_2) := (blk_cell BK144.out 2).trans rfl
     have hcz22_3 : wc.cell? ⟨gb144, 3, none⟩ = some (.slice A1_3 l1_3.length c1_3) := (blk_cell BK144.out 3).trans rfl
     have hfz22_0 := blk_frozen BK144.out 0
     have hfz22_1 := blk_frozen BK144.out 1
     have hfz22_2 := blk_frozen BK144.out 2
     have hfz22_3 := blk_frozen BK144.out 3
     go_wp2_with (first | ((with_reducible refine gate_callee (f := 41) rfl ?_); refine goesL_ (some 23) rfl rfl Tryd.func41 (by kernel_rfl) rfl #[.agg #[.slice A0_0 l0_0.length c0_0, .slice A0_1 l0_1.length c0_1], .int .u8 a1_0] rfl (by (try simp only [List.map_toArray, List.map_cons, List.map_nil]); first | done | rfl | (simp only [List.length_drop, List.length_take]; rfl)) ?_; (with_reducible refine (tariff_rate.calls kj2 (fun k_ => k_ < w.heap.size) _ _ l0_0 _ _ l0_1 a1_0 t147 t148 t151 _ ?side1 ?side2 ?side3 A18.out).mono ?_); (case side1 => exact Kd.V_mk HC0_0.out (Kd.F_below (Kd.C_F k57_heap HR0_0.out) (by repeat (first | (with_reducible first | exact HB.out | apply below_alloc | apply pw_below_drewN | apply below_drew1 | refine below_set ?_ GE143.out | refine below_set ?_ GE144.out) | exact HB.out)))); (case side2 => repeat (first | exact (Kd.C_below HR0_1.out HB.out) | (with_reducible refine Kd.C_alloc ?_ _) | (with_reducible refine Kd.C_drewN ?_ _) | (with_reducible refine Kd.C_drew ?_))); (case side3 => exact HC0_1.out); rintro e w23 ⟨v149, rfl, ho0, hb⟩; refine ⟨_, rfl, ?_⟩; have n0_ := Aside0.mk (Kd.V_lower (Kd.V_mono (ok' := fun k_ => k_ ≠ gb143 ∧ k_ ≠ gb144) ho0 (fun k_ hk_ => ⟨Or.elim hk_ (fun hs_ => fun e_ => Nat.not_le.2 hs_ (by rw [e_]; exact GW143.out)) (fun hn_ => (Kd.freshB (g := gb143) (o := .cells #[.slice A0_0 l0_0.length c0_0, .slice A0_1 l0_1.length c0_1] 25 (0, 0)) (by (with_reducible repeat (first | refine blk_drewN ?_ _ | refine blk_drew ?_ | refine blk_alloc ?_ _)); exact BK143.out) k_ hn_)), Or.elim hk_ (fun hs_ => fun e_ => Nat.not_le.2 hs_ (by rw [e_]; exact GW144.out)) (fun hn_ => (Kd.freshB (g := gb144) (o := .cells #[.int .u8 a1_0, .int .u8 a1_1, .string a1_2, .slice A1_3 l1_3.length c1_3] 36 (0, 0)) (by (with_reducible repeat (first | refine blk_drewN ?_ _ | refine blk_drew ?_ | refine blk_alloc ?_ _)); exact BK144.out) k_ hn_))⟩)) (below_size (by repeat (first | (with_reducible first | exact HB.out | apply below_alloc | apply pw_below_drewN | apply below_drew1 | refine below_set ?_ GE143.out | refine below_set ?_ GE144.out) | exact HB.out)))); have n1_ := Aside0.mk (blk_below (g := gb143) (o := .cells #[.slice A0_0 l0_0.length c0_0, .slice A0_1 l0_1.length c0_1] 25 (0, 0)) (by (with_reducible repeat (first | refine blk_drewN ?_ _ | refine blk_drew ?_ | refine blk_alloc ?_ _)); exact BK143.out) hb); have n2_ := Aside0.mk (blk_below (g := gb144) (o := .cells #[.int .u8 a1_0, .int .u8 a1_1, .string a1_2, .slice A1_3 l1_3.length c1_3] 36 (0, 0)) (by (with_reducible repeat (first | refine blk_drewN ?_ _ | refine blk_drew ?_ | refine blk_alloc ?_ _)); exact BK144.out) hb); have n3_ := Aside0.mk (below_step (by repeat (first | (with_reducible first | exact HB.out | apply below_alloc | apply pw_below_drewN | apply below_drew1 | refine below_set ?_ GE143.out | refine below_set ?_ GE144.out) | exact HB.out)) hb); clear BK143; clear BK144; clear HB; have HO150 := n0_; have BK143 := n1_; have BK144 := n2_; have HB := n3_; clear n0_ n1_ n2_ n3_; (try clear hb); (try clear hb2); (try clear hk); (try clear hi); (try clear ho0)) | ((with_reducible refine gate_dst (N := 6) rfl ?_); refine box_event ?hg (N := 6) ?hd (cs := #[.int .u8 0, .slice none 0 0, .int .i64 0]) (t := 57) ?hr ?_; (case hd => rfl); (case hg => rfl); (case hr => first | (go_simp; done) | (go_simp; rfl)); intro gb152 hg w24 hbox hb; have n0_ := Aside0.mk (Kd.V_below (Kd.V_elderB (by (with_reducible repeat (first | apply Kd.V_alloc | apply Kd.V_drewN | apply Kd.V_drew)); exact HO150.out) gb152 (Nat.le_of_eq hg.symm)) hb); have n1_ := Aside0.mk (blk_below (g := gb143) (o := .cells #[.slice A0_0 l0_0.length c0_0, .slice A0_1 l0_1.length c0_1] 25 (0, 0)) (by (with_reducible repeat (first | refine blk_drewN ?_ _ | refine blk_drew ?_ | refine blk_alloc ?_ _)); exact BK143.out) hb); have n2_ := Aside0.mk (blk_below (g := gb144) (o := .cells #[.int .u8 a1_0, .int .u8 a1_1, .string a1_2, .slice A1_3 l1_3.length c1_3] 36 (0, 0)) (by (with_reducible repeat (first | refine blk_drewN ?_ _ | refine blk_drew ?_ | refine blk_alloc ?_ _)); exact BK144.out) hb); have n3_ := Aside0.mk (below_step (by repeat (first | (with_reducible first | exact HB.out | apply below_alloc | apply pw_below_drewN | apply below_drew1 | refine below_set ?_ GE143.out | refine below_set ?_ GE144.out) | exact HB.out)) hb); have n4_ := Aside0.mk (hbox); have n5_ := Aside0.mk ((by rw [hg]; exact (below_size (by repeat (first | (with_reducible first | exact HB.out | apply below_alloc | apply pw_below_drewN | apply below_drew1 | refine below_set ?_ GE143.out | refine below_set ?_ GE144.out) | exact HB.out))) : w.heap.size ≤ gb152)); have n6_ := Aside0.mk ((by rw [hg]; exact (below_size (by repeat (first | (with_reducible first | exact HB.out | apply below_alloc | apply pw_below_drewN | apply below_drew1 | refine below_set ?_ GE143.out | refine below_set ?_ GE144.out) | exact HB.out))) : w.heap.size ≤ gb152)); have n7_ := Aside0.mk ((by rw [hg]; exact Nat.ne_of_lt (blk_lt (g := gb143) (o := .cells #[.slice A0_0 l0_0.length c0_0, .slice A0_1 l0_1.length c0_1] 25 (0, 0)) (by (with_reducible repeat (first | refine blk_drewN ?_ _ | refine blk_drew ?_ | refine blk_alloc ?_ _)); exact BK143.out)) : gb143 ≠ gb152)); have n8_ := Aside0.mk ((by rw [hg]; exact Nat.ne_of_gt (blk_lt (g := gb143) (o := .cells #[.slice A0_0 l0_0.length c0_0, .slice A0_1 l0_1.length c0_1] 25 (0, 0)) (by (with_reducible repeat (first | refine blk_drewN ?_ _ | refine blk_drew ?_ | refine blk_alloc ?_ _)); exact BK143.out)) : gb152 ≠ gb143)); have n9_ := Aside0.mk ((by rw [hg]; exact Nat.ne_of_lt (blk_lt (g := gb144) (o := .cells #[.int .u8 a1_0, .int .u8 a1_1, .string a1_2, .slice A1_3 l1_3.length c1_3] 36 (0, 0)) (by (with_reducible repeat (first | refine blk_drewN ?_ _ | refine blk_drew ?_ | refine blk_alloc ?_ _)); exact BK144.out)) : gb144 ≠ gb152)); have n10_ := Aside0.mk ((by rw [hg]; exact Nat.ne_of_gt (blk_lt (g := gb144) (o := .cells #[.int .u8 a1_0, .int .u8 a1_1, .string a1_2, .slice A1_3 l1_3.length c1_3] 36 (0, 0)) (by (with_reducible repeat (first | refine blk_drewN ?_ _ | refine blk_drew ?_ | refine blk_alloc ?_ _)); exact BK144.out)) : gb152 ≠ gb144)); clear HO150; clear BK143; clear BK144; clear HB; have HO150 := n0_; have BK143 := n1_; have BK144 := n2_; have HB := n3_; have BK152 := n4_; have GW152 := n5_; have GE152 := n6_; have NB143_152 := n7_; have NB152_143 := n8_; have NB144_152 := n9_; have NB152_144 := n10_; clear n0_ n1_ n2_ n3_ n4_ n5_ n6_ n7_ n8_ n9_ n10_; clear hb hbox hg; have hnb25 := NB152_143.out; have hnc25 := NB143_152.out; have hnb26 := NB152_144.out; have hnc26 := NB144_152.out; have hcz27_0 : w24.cell? ⟨gb152, 0, none⟩ = some (.int .u8 0) := (blk_cell BK152.out 0).trans rfl; have hcz27_1 : w24.cell? ⟨gb152, 1, none⟩ = some (.slice none 0 0) := (blk_cell BK152.out 1).trans rfl; have hcz27_2 : w24.cell? ⟨gb152, 2, none⟩ = some (.int .i64 0) := (blk_cell BK152.out 2).trans rfl; have hfz27_0 := blk_frozen BK152.out 0; have hfz27_1 := blk_frozen BK152.out 1; have hfz27_2 := blk_frozen BK152.out 2; obtain ⟨Ao28, co28, eo28⟩ := Kd.V_slice HO150.out; subst eo28))
     go_ret2
     exact ⟨_, by first | rfl | (simp [errW_none, errW_some] <;> rfl) | (simp [*, errW_none, errW_some] <;> rfl), by first | exact Kd.R_nil _ _ _ _ _ | exact Kd.N_nil _ _ _ _ _ | exact Kd.V_nil _ _ _ _ _ | exact Kd.Q_nil _ _ _ _ _ | exact Kd.S_nil _ _ _ _ _, by repeat (first | (with_reducible first | exact HB.out | apply below_alloc | apply pw_below_drewN | apply below_drew1 | refine below_set ?_ GE143.out | refine below_set ?_ GE144.out | refine below_set ?_ GE152.out) | exact HB.out)⟩
    ·rw [if_neg c19] at H
     have c19b0 : (t147 == 0) = false := beq_eq_false_iff_ne.mpr c19
     have c19b1 : (t147 != 0) = true := bne_iff_ne.mpr c19
     by_cases c29 : 0 ≤ (l1_3.length : Int)
     ·rw [if_pos c29] at H
      have c29b0 := eq_true c29
      have c29b1 : decide (0 ≤ (l1_3.length : Int)) = true := decide_eq_true c29
      clear c29
      by_cases c30 : ((l1_3.length : Int) : Int).toNat ≤ 35184372088832
      ·rw [if_pos c30] at H
       have c30b0 := eq_true c30
       have c30b1 : decide (((l1_3.length : Int) : Int).toNat ≤ 35184372088832) = true := decide_eq_true c30
       clear c30
       obtain ⟨y153, hy153⟩ : ∃ y_ : List Int, y_ = (([] : List Int)) := ⟨_, rfl⟩
       replace H : (tariff_Bases.l0 kj2 y153 l1_3 (l1_3.length : Int) 0 l0_0 l0_1 a1_0 a1_1 a1_2 l1_3 t147 t148 t151) = some (r1, r2) := by first | (rw [hy153]; with_reducible exact H) | (have H2_ := (Option.bind_some _ _).symm.trans H; rw [hy153]; with_reducible exact H2_) | (have H2_ := (Option.bind_some _ _).symm.trans H; with_reducible exact H2_) | with_reducible exact H | (rw [hy153]; exact H) | exact H
       have Ny153 := Aside0.mk hy153
       clear hy153
       have H' := Aside0.mk H
       clear H
       have hnb31 := NB143_144.out
       have hnc31 := NB144_143.out
       have hcz32_0 : wc.cell? ⟨gb143, 0, none⟩ = some (.slice A0_0 l0_0.length c0_0) := (blk_cell BK143.out 0).trans rfl
       have hcz32_1 : wc.cell? ⟨gb143, 1, none⟩ = some (.slice A0_1 l0_1.length c0_1) := (blk_cell BK143.out 1).trans rfl
       have hfz32_0 := blk_frozen BK143.out 0
       have hfz32_1 := blk_frozen BK143.out 1
       have hcz33_0 : wc.cell? ⟨gb144, 0, none⟩ = some (.int .u8 a1_0) := (blk_cell BK144.out 0).trans rfl
       have hcz33_1 : wc.cell? ⟨gb144, 1, none⟩ = some (.int .u8 a1_1) := (blk_cell BK144.out 1).trans rfl
       have hcz33_2 : wc.cell? ⟨gb144, 2, none⟩ = some (.string a1_2) := (blk_cell BK144.out 2).trans rfl
       have hcz33_3 : wc.cell? ⟨gb144, 3, none⟩ = some (.slice A1_3 l1_3.length c1_3) := (blk_cell BK144.out 3).trans rfl
       have hfz33_0 := blk_frozen BK144.out 0
       have hfz33_1 := blk_frozen BK144.out 1
       have hfz33_2 := blk_frozen BK144.out 2
       have hfz33_3 := blk_frozen BK144.out 3
       go_wp2_with (first | ((with_reducible refine gate_callee (f := 41) rfl ?_); refine goesL_ (some 23) rfl rfl Tryd.func41 (by kernel_rfl) rfl #[.agg #[.slice A0_0 l0_0.length c0_0, .slice A0_1 l0_1.length c0_1], .int .u8 a1_0] rfl (by (try simp only [List.map_toArray, List.map_cons, List.map_nil]); first | done | rfl | (simp only [List.length_drop, List.length_take]; rfl)) ?_; (with_reducible refine (tariff_rate.calls kj2 (fun k_ => k_ < w.heap.size) _ _ l0_0 _ _ l0_1 a1_0 t147 t148 t151 _ ?side1 ?side2 ?side3 A18.out).mono ?_); (case side1 => exact Kd.V_mk HC0_0.out (Kd.F_below (Kd.C_F k57_heap HR0_0.out) (by repeat (first | (with_reducible first | exact HB.out | apply below_alloc | apply pw_below_drewN | apply below_drew1 | refine below_set ?_ GE143.out | refine below_set ?_ GE144.out) | exact HB.out)))); (case side2 => repeat (first | exact (Kd.C_below HR0_1.out HB.out) | (with_reducible refine Kd.C_alloc ?_ _) | (with_reducible refine Kd.C_drewN ?_ _) | (with_reducible refine Kd.C_drew ?_))); (case side3 => exact HC0_1.out); rintro e w34 ⟨v149, rfl, ho0, hb⟩; refine ⟨_, rfl, ?_⟩; have n0_ := Aside0.mk (Kd.V_lower (Kd.V_mono (ok' := fun k_ => k_ ≠ gb143 ∧ k_ ≠ gb144) ho0 (fun k_ hk_ => ⟨Or.elim hk_ (fun hs_ => fun e_ => Nat.not_le.2 hs_ (by rw [e_]; exact GW143.out)) (fun hn_ => (Kd.freshB (g := gb143) (o := .cells #[.slice A0_0 l0_0.length c0_0, .slice A0_1 l0_1.length c0_1] 25 (0, 0)) (by (with_reducible repeat (first | refine blk_drewN ?_ _ | refine blk_drew ?_ | refine blk_alloc ?_ _)); exact BK143.out) k_ hn_)), Or.elim hk_ (fun hs_ => fun e_ => Nat.not_le.2 hs_ (by rw [e_]; exact GW144.out)) (fun hn_ => (Kd.freshB (g := gb144) (o := .cells #[.int .u8 a1_0, .int .u8 a1_1, .string a1_2, .slice A1_3 l1_3.length c1_3] 36 (0, 0)) (by (with_reducible repeat (first | refine blk_drewN ?_ _ | refine blk_drew ?_ | refine blk_alloc ?_ _)); exact BK144.out) k_ hn_))⟩)) (below_size (by repeat (first | (with_reducible first | exact HB.out | apply below_alloc | apply pw_below_drewN | apply below_drew1 | refine below_set ?_ GE143.out | refine below_set ?_ GE144.out) | exact HB.out)))); have n1_ := Aside0.mk (blk_below (g := gb143) (o := .cells #[.slice A0_0 l0_0.length c0_0, .slice A0_1 l0_1.length c0_1] 25 (0, 0)) (by (with_reducible repeat (first | refine blk_drewN ?_ _ | refine blk_drew ?_ | refine blk_alloc ?_ _)); exact BK143.out) hb); have n2_ := Aside0.mk (blk_below (g := gb144) (o := .cells #[.int .u8 a1_0, .int .u8 a1_1, .string a1_2, .slice A1_3 l1_3.length c1_3] 36 (0, 0)) (by (with_reducible repeat (first | refine blk_drewN ?_ _ | refine blk_drew ?_ | refine blk_alloc ?_ _)); exact BK144.out) hb); have n3_ := Aside0.mk (below_step (by repeat (first | (with_reducible first | exact HB.out | apply below_alloc | apply pw_below_drewN | apply below_drew1 | refine below_set ?_ GE143.out | refine below_set ?_ GE144.out) | exact HB.out)) hb); clear BK143; clear BK144; clear HB; have HO150 := n0_; have BK143 := n1_; have BK144 := n2_; have HB := n3_; clear n0_ n1_ n2_ n3_; (try clear hb); (try clear hb2); (try clear hk); (try clear hi); (try clear ho0)) | ((with_reducible refine gate_dst (N := 6) rfl ?_); refine box_event ?hg (N := 6) ?hd (cs := #[.int .u8 0, .slice none 0 0, .int .i64 0]) (t := 57) ?hr ?_; (case hd => rfl); (case hg => rfl); (case hr => first | (go_simp; done) | (go_simp; rfl)); intro gb152 hg w35 hbox hb; have n0_ := Aside0.mk (Kd.V_below (Kd.V_elderB (by (with_reducible repeat (first | apply Kd.V_alloc | apply Kd.V_drewN | apply Kd.V_drew)); exact HO150.out) gb152 (Nat.le_of_eq hg.symm)) hb); have n1_ := Aside0.mk (blk_below (g := gb143) (o := .cells #[.slice A0_0 l0_0.length c0_0, .slice A0_1 l0_1.length c0_1] 25 (0, 0)) (by (with_reducible repeat (first | refine blk_drewN ?_ _ | refine blk_drew ?_ | refine blk_alloc ?_ _)); exact BK143.out) hb); have n2_ := Aside0.mk (blk_below (g := gb144) (o := .cells #[.int .u8 a1_0, .int .u8 a1_1, .string a1_2, .slice A1_3 l1_3.length c1_3] 36 (0, 0)) (by (with_reducible repeat (first | refine blk_drewN ?_ _ | refine blk_drew ?_ | refine blk_alloc ?_ _)); exact BK144.out) hb); have n3_ := Aside0.mk (below_step (by repeat (first | (with_reducible first | exact HB.out | apply below_alloc | apply pw_below_drewN | apply below_drew1 | refine below_set ?_ GE143.out | refine below_set ?_ GE144.out) | exact HB.out)) hb); have n4_ := Aside0.mk (hbox); have n5_ := Aside0.mk ((by rw [hg]; exact (below_size (by repeat (first | (with_reducible first | exact HB.out | apply below_alloc | apply pw_below_drewN | apply below_drew1 | refine below_set ?_ GE143.out | refine below_set ?_ GE144.out) | exact HB.out))) : w.heap.size ≤ gb152)); have n6_ := Aside0.mk ((by rw [hg]; exact (below_size (by repeat (first | (with_reducible first | exact HB.out | apply below_alloc | apply pw_below_drewN | apply below_drew1 | refine below_set ?_ GE143.out | refine below_set ?_ GE144.out) | exact HB.out))) : w.heap.size ≤ gb152)); have n7_ := Aside0.mk ((by rw [hg]; exact Nat.ne_of_lt (blk_lt (g := gb143) (o := .cells #[.slice A0_0 l0_0.length c0_0, .slice A0_1 l0_1.length c0_1] 25 (0, 0)) (by (with_reducible repeat (first | refine blk_drewN ?_ _ | refine blk_drew ?_ | refine blk_alloc ?_ _)); exact BK143.out)) : gb143 ≠ gb152)); have n8_ := Aside0.mk ((by rw [hg]; exact Nat.ne_of_gt (blk_lt (g := gb143) (o := .cells #[.slice A0_0 l0_0.length c0_0, .slice A0_1 l0_1.length c0_1] 25 (0, 0)) (by (with_reducible repeat (first | refine blk_drewN ?_ _ | refine blk_drew ?_ | refine blk_alloc ?_ _)); exact BK143.out)) : gb152 ≠ gb143)); have n9_ := Aside0.mk ((by rw [hg]; exact Nat.ne_of_lt (blk_lt (g := gb144) (o := .cells #[.int .u8 a1_0, .int .u8 a1_1, .string a1_2, .slice A1_3 l1_3.length c1_3] 36 (0, 0)) (by (with_reducible repeat (first | refine blk_drewN ?_ _ | refine blk_drew ?_ | refine blk_alloc ?_ _)); exact BK144.out)) : gb144 ≠ gb152)); have n10_ := Aside0.mk ((by rw [hg]; exact Nat.ne_of_gt (blk_lt (g := gb144) (o := .cells #[.int .u8 a1_0, .int .u8 a1_1, .string a1_2, .slice A1_3 l1_3.length c1_3] 36 (0, 0)) (by (with_reducible repeat (first | refine blk_drewN ?_ _ | refine blk_drew ?_ | refine blk_alloc ?_ _)); exact BK144.out)) : gb152 ≠ gb144)); clear HO150; clear BK143; clear BK144; clear HB; have HO150 := n0_; have BK143 := n1_; have BK144 := n2_; have HB := n3_; have BK152 := n4_; have GW152 := n5_; have GE152 := n6_; have NB143_152 := n7_; have NB152_143 := n8_; have NB144_152 := n9_; have NB152_144 := n10_; clear n0_ n1_ n2_ n3_ n4_ n5_ n6_ n7_ n8_ n9_ n10_; clear hb hbox hg; have hnb36 := NB152_143.out; have hnc36 := NB143_152.out; have hnb37 := NB152_144.out; have hnc37 := NB144_152.out; have hcz38_0 : w35.cell? ⟨gb152, 0, none⟩ = some (.int .u8 0) := (blk_cell BK152.out 0).trans rfl; have hcz38_1 : w35.cell? ⟨gb152, 1, none⟩ = some (.slice none 0 0) := (blk_cell BK152.out 1).trans rfl; have hcz38_2 : w35.cell? ⟨gb152, 2, none⟩ = some (.int .i64 0) := (blk_cell BK152.out 2).trans rfl; have hfz38_0 := blk_frozen BK152.out 0; have hfz38_1 := blk_frozen BK152.out 1; have hfz38_2 := blk_frozen BK152.out 2; obtain ⟨Ao39, co39, eo39⟩ := Kd.V_slice HO150.out; subst eo39; have hcz40_0 : w35.cell? ⟨gb144, 0, none⟩ = some (.int .u8 a1_0) := (blk_cell BK144.out 0).trans rfl; have hcz40_1 : w35.cell? ⟨gb144, 1, none⟩ = some (.int .u8 a1_1) := (blk_cell BK144.out 1).trans rfl; have hcz40_2 : w35.cell? ⟨gb144, 2, none⟩ = some (.string a1_2) := (blk_cell BK144.out 2).trans rfl; have hcz40_3 : w35.cell? ⟨gb144, 3, none⟩ = some (.slice A1_3 l1_3.length c1_3) := (blk_cell BK144.out 3).trans rfl; have hfz40_0 := blk_frozen BK144.out 0; have hfz40_1 := blk_frozen BK144.out 1; have hfz40_2 := blk_frozen BK144.out 2; have hfz40_3 := blk_frozen BK144.out 3) | ((with_reducible refine gate_dst (N := 30) rfl ?_); refine Kd.R_make0 (Kd.int .i64) _ 3 rfl (N := 30) rfl 38 _ _ rfl (l1_3.length : Int) rfl rfl Tryd.underlying38 (.int .i64 0) 8 info3 rfl (by decide) (by omega) 0 (ok := fun _ => True) (okp := fun _ => True) rfl (fun _ hk => hk) trivial (of_decide_eq_true (by first | (with_reducible assumption) | assumption)) (Nat.le_trans (Nat.mul_le_mul_right _ (of_decide_eq_true (by first | (with_reducible assumption) | assumption) : (l1_3.length : Int).toNat ≤ 35184372088832)) (by omega)) (Below.refl _ _) (Nat.le_refl _) ?_; intro v154 w41 ho42 hb hg_ hnew_; clear hg_ hnew_; (first | rw [← Ny153.out] at ho42 | (simp only [Int.reduceToNat] at ho42; rw [← Ny153.out] at ho42)); have n0_ := Aside0.mk (Kd.V_elder' (by (with_reducible repeat (first | apply Kd.V_alloc | apply Kd.V_drewN | apply Kd.V_drew)); exact (Kd.V_mono (Kd.V_far (p := ⟨gb152, 2, none⟩) (Kd.V_far (p := ⟨gb152, 1, none⟩) (Kd.V_far (p := ⟨gb152, 0, none⟩) (Kd.V_mono HO150.out (fun k_ hk => (⟨hk, hk.2⟩ : _ ∧ k_ ≠ gb152))) (fun _ hk => hk.2) (.int .u8 t147)) (fun _ hk => hk.2) (.slice Ao39 t148.length co39)) (fun _ hk => hk.2) (.int .i64 t151)) (fun _ h_ => h_.1))) (Kd.R_base ho42) hb); have n1_ := Aside0.mk (Kd.R_lower ho42 (below_size (by repeat (first | (with_reducible first | exact HB.out | apply below_alloc | apply pw_below_drewN | apply below_drew1 | refine below_set ?_ GE143.out | refine below_set ?_ GE144.out | refine below_set ?_ GE152.out) | exact HB.out)))); have n2_ := Aside0.mk (blk_below (g := gb143) (o := .cells #[.slice A0_0 l0_0.length c0_0, .slice A0_1 l0_1.length c0_1] 25 (0, 0)) (by (with_reducible repeat (first | refine blk_drewN ?_ _ | refine blk_drew ?_ | refine blk_alloc ?_ _)); refine blk_far ?_ NB143_152.out _; (with_reducible repeat (first | refine blk_drewN ?_ _ | refine blk_drew ?_ | refine blk_alloc ?_ _)); refine blk_far ?_ NB143_152.out _; (with_reducible repeat (first | refine blk_drewN ?_ _ | refine blk_drew ?_ | refine blk_alloc ?_ _)); refine blk_far ?_ NB143_152.out _; (with_reducible repeat (first | refine blk_drewN ?_ _ | refine blk_drew ?_ | refine blk_alloc ?_ _)); exact BK143.out) hb); have n3_ := Aside0.mk (blk_below (g := gb144) (o := .cells #[.int .u8 a1_0, .int .u8 a1_1, .string a1_2, .slice A1_3 l1_3.length c1_3] 36 (0, 0)) (by (with_reducible repeat (first | refine blk_drewN ?_ _ | refine blk_drew ?_ | refine blk_alloc ?_ _)); refine blk_far ?_ NB144_152.out _; (with_reducible repeat (first | refine blk_drewN ?_ _ | refine blk_drew ?_ | refine blk_alloc ?_ _)); refine blk_far ?_ NB144_152.out _; (with_reducible repeat (first | refine blk_drewN ?_ _ | refine blk_drew ?_ | refine blk_alloc ?_ _)); refine blk_far ?_ NB144_152.out _; (with_reducible repeat (first | refine blk_drewN ?_ _ | refine blk_drew ?_ | refine blk_alloc ?_ _)); exact BK144.out) hb); have n4_ := Aside0.mk (blk_below (g := gb152) (o := .cells #[.int .u8 t147, .slice Ao39 t148.length co39, .int .i64 t151] 57 (0, 0)) (by (with_reducible repeat (first | refine blk_drewN ?_ _ | refine blk_drew ?_ | refine blk_alloc ?_ _)); refine blk_put (cs := #[.int .u8 t147, .slice Ao39 t148.length co39, .int .i64 0]) ?_ 2 _ rfl; (with_reducible repeat (first | refine blk_drewN ?_ _ | refine blk_drew ?_ | refine blk_alloc ?_ _)); refine blk_put (cs := #[.int .u8 t147, .slice none 0 0, .int .i64 0]) ?_ 1 _ rfl; (with_reducible repeat (first | refine blk_drewN ?_ _ | refine blk_drew ?_ | refine blk_alloc ?_ _)); refine blk_put (cs := #[.int .u8 0, .slice none 0 0, .int .i64 0]) ?_ 0 _ rfl; (with_reducible repeat (first | refine blk_drewN ?_ _ | refine blk_drew ?_ | refine blk_alloc ?_ _)); exact BK152.out) hb); have n5_ := Aside0.mk (below_step (by repeat (first | (with_reducible first | exact HB.out | apply below_alloc | apply pw_below_drewN | apply below_drew1 | refine below_set ?_ GE143.out | refine below_set ?_ GE144.out | refine below_set ?_ GE152.out) | exact HB.out)) hb); clear HO150; clear BK143; clear BK144; clear BK152; clear HB; have HO150 := n0_; have HO155 := n1_; have BK143 := n2_; have BK144 := n3_; have BK152 := n4_; have HB := n5_; clear n0_ n1_ n2_ n3_ n4_ n5_; clear hb ho42; have hcz43_0 : w41.cell? ⟨gb144, 0, none⟩ = some (.int .u8 a1_0) := (blk_cell BK144.out 0).trans rfl; have hcz43_1 : w41.cell? ⟨gb144, 1, none⟩ = some (.int .u8 a1_1) := (blk_cell BK144.out 1).trans rfl; have hcz43_2 : w41.cell? ⟨gb144, 2, none⟩ = some (.string a1_2) := (blk_cell BK144.out 2).trans rfl; have hcz43_3 : w41.cell? ⟨gb144, 3, none⟩ = some (.slice A1_3 l1_3.length c1_3) := (blk_cell BK144.out 3).trans rfl; have hfz43_0 := blk_frozen BK144.out 0; have hfz43_1 := blk_frozen BK144.out 1; have hfz43_2 := blk_frozen BK144.out 2; have hfz43_3 := blk_frozen BK144.out 3))
       go_loopg [7, 34] kj2 (fun kq v7 v34 w' => ∃ (x7_2 : List Int) (x34_2 : Int), v34 = .int .i64 x34_2 ∧ Aside0 (tariff_Bases.l0 kq x7_2 l1_3 (l1_3.length : Int) x34_2 l0_0 l0_1 a1_0 a1_1 a1_2 l1_3 t147 t148 t151 = some (r1, r2)) ∧ Aside0 (kq ≤ kj2) ∧ Aside0 (Kd.R (Kd.int .i64) 3 w' w.heap.size (fun _ => True) v7 x7_2) ∧ Aside0 (Kd.V k61 61 w' w.heap.size (fun k_ => some k_ ≠ (v7 : Value).ownBlock ∧ k_ ≠ gb143 ∧ k_ ≠ gb144 ∧ k_ ≠ gb152) (.slice Ao39 t148.length co39) t148) ∧ Aside0 (w'.heap[gb143]? = some (.cells #[(.slice A0_0 l0_0.length c0_0), (.slice A0_1 l0_1.length c0_1)] 25 (0, 0))) ∧ Aside0 (w'.heap[gb144]? = some (.cells #[.int .u8 a1_0, .int .u8 a1_1, .string a1_2, (.slice A1_3 l1_3.length c1_3)] 36 (0, 0))) ∧ Aside0 (w'.heap[gb152]? = some (.cells #[.int .u8 t147, (.slice Ao39 t148.length co39), .int .i64 t151] 57 (0, 0))) ∧ Aside0 (Below w.heap.size w w'))
       case atStart => exact ⟨(y153), (0), (by first | rfl | (simp; done) | (simp [*]; done)), H', ⟨Nat.le_refl _⟩, ⟨by (with_reducible repeat (first | apply Kd.R_alloc | apply Kd.R_drewN | apply Kd.R_drew)); exact HO155.out⟩, ⟨by (with_reducible repeat (first | apply Kd.V_alloc | apply Kd.V_drewN | apply Kd.V_drew)); exact Kd.V_mono HO150.out (fun _ hk => ⟨hk.2, ⟨hk.1.1.1, ⟨hk.1.1.2, hk.1.2⟩⟩⟩)⟩, ⟨by (with_reducible repeat (first | refine blk_drewN ?_ _ | refine blk_drew ?_ | refine blk_alloc ?_ _)); exact BK143.out⟩, ⟨by (with_reducible repeat (first | refine blk_drewN ?_ _ | refine blk_drew ?_ | refine blk_alloc ?_ _)); exact BK144.out⟩, ⟨by (with_reducible repeat (first | refine blk_drewN ?_ _ | refine blk_drew ?_ | refine blk_alloc ?_ _)); exact BK152.out⟩, ⟨by repeat (first | (with_reducible first | exact HB.out | apply below_alloc | apply pw_below_drewN | apply below_drew1 | refine below_set ?_ GE143.out | refine below_set ?_ GE144.out | refine below_set ?_ GE152.out) | exact HB.out)⟩⟩
       case round =>
        clear H'
        try clear c1
        try clear c2
        try clear p2
        try clear c3
        try clear c4
        try clear c7
        try clear c9
        try clear c14
        try clear c16
        try clear c17
        try clear c18
        try clear c19
        try clear c19b0
        try clear c19b1
        try clear c20
        try clear c25
        try clear c26
        try clear c29
        try clear c29b0
        try clear c29b1
        try clear c30
        try clear c30b0
        try clear c30b1
        try clear c31
        try clear c36
        try clear c37
        try clear c41
        try clear hcz10_0
        try clear hcz10_1
        try clear hcz12_0
        try clear hcz12_1
        try clear hcz12_2
        try clear hcz12_3
        try clear hcz15_0
        try clear hcz15_1
        try clear hcz21_0
        try clear hcz21_1
        try clear hcz22_0
        try clear hcz22_1
        try clear hcz22_2
        try clear hcz22_3
        try clear hcz27_0
        try clear hcz27_1
        try clear hcz27_2
        try clear hcz32_0
        try clear hcz32_1
        try clear hcz33_0
        try clear hcz33_1
        try clear hcz33_2
        try clear hcz33_3
        try clear hcz38_0
        try clear hcz38_1
        try clear hcz38_2
        try clear hcz40_0
        try clear hcz40_1
        try clear hcz40_2
        try clear hcz40_3
        try clear hcz43_0
        try clear hcz43_1
        try clear hcz43_2
        try clear hcz43_3
        try clear hfz10_0
        try clear hfz10_1
        try clear hfz12_0
        try clear hfz12_1
        try clear hfz12_2
        try clear hfz12_3
        try clear hfz15_0
        try clear hfz15_1
        try clear hfz21_0
        try clear hfz21_1
        try clear hfz22_0
        try clear hfz22_1
        try clear hfz22_2
        try clear hfz22_3
        try clear hfz27_0
        try clear hfz27_1
        try clear hfz27_2
        try clear hfz32_0
        try clear hfz32_1
        try clear hfz33_0
        try clear hfz33_1
        try clear hfz33_2
        try clear hfz33_3
        try clear hfz38_0
        try clear hfz38_1
        try clear hfz38_2
        try clear hfz40_0
        try clear hfz40_1
        try clear hfz40_2
        try clear hfz40_3
        try clear hfz43_0
        try clear hfz43_1
        try clear hfz43_2
        try clear hfz43_3
        try clear p2
        obtain ⟨x7_2, x34_2, rfl, HA, HK2, HO_7, HO_153001, BK143, BK144, BK152, HB⟩ := hrel
        cases gk with
        | zero => exact absurd HA.out (by simp [tariff_Bases.l0])
        | succ k2 =>
         have H := HA.out
         clear HA
         simp only [tariff_Bases.l0] at H
         by_cases c44 : x34_2 < (l1_3.length : Int)
         ·rw [if_pos c44] at H
          have c44b0 : decide (x34_2 < (l1_3.length : Int)) = true := decide_eq_true c44
          clear c44
          by_cases c45 : 0 ≤ x34_2
          ·rw [if_pos c45] at H
           have c45b0 : decide (0 ≤ x34_2) = true := decide_eq_true c45
           clear c45
           by_cases c46 : x34_2 < (l1_3.length : Int)
           ·rw [if_pos c46] at H
            have c46b0 : decide (x34_2 < (l1_3.length : Int)) = true := decide_eq_true c46
            clear c46
            replace H := Option.bind_eq_some_iff.mp H
            obtain ⟨t158, A470, H⟩ := H
            replace H : ((tariff_price.f t147 t148 t151 t158 ((rd_T48 l1_3 x34_2).f3)).bind fun bt159 => (if bt159.2 = 0 then (if x7_2.length < 17592186044416 then (tariff_Bases.l0 k2 (x7_2 ++ [bt159.1]) l1_3 (l1_3.length : Int) (wrap64 (x34_2 + 1)) l0_0 l0_1 a1_0 a1_1 a1_2 l1_3 t147 t148 t151) else (none)) else (some (([] : List Int), bt159.2)))) = some (r1, r2) := H
            have A47 := Aside0.mk A470
            clear A470
            replace H := Option.bind_eq_some_iff.mp H
            obtain ⟨⟨t159, t160⟩, A480, H⟩ := H
            replace H : (if t160 = 0 then (if x7_2.length < 17592186044416 then (tariff_Bases.l0 k2 (x7_2 ++ [t159]) l1_3 (l1_3.length : Int) (wrap64 (x34_2 + 1)) l0_0 l0_1 a1_0 a1_1 a1_2 l1_3 t147 t148 t151) else (none)) else (some (([] : List Int), t160))) = some (r1, r2) := H
            have A48 := Aside0.mk A480
            clear A480
            by_cases c49 : t160 = 0
            ·rw [if_pos c49] at H
             have c49b0 : (t160 == 0) = true := beq_iff_eq.mpr c49
             have c49b1 : (t160 != 0) = false := bne_eq_false_iff_eq.mpr c49
             clear c49
             by_cases c50 : x7_2.length < 17592186044416
             ·rw [if_pos c50] at H
              have LMc50 := Aside0.mk c50
              clear c50
              obtain ⟨y161, hy161⟩ : ∃ y_ : List Int, y_ = (x7_2 ++ [t159]) := ⟨_, rfl⟩
              replace H : (tariff_Bases.l0 k2 y161 l1_3 (l1_3.length : Int) (wrap64 (x34_2 + 1)) l0_0 l0_1 a1_0 a1_1 a1_2 l1_3 t147 t148 t151) = some (r1, r2) := by first | (rw [hy161]; with_reducible exact H) | (have H2_ := (Option.bind_some _ _).symm.trans H; rw [hy161]; with_reducible exact H2_) | (have H2_ := (Option.bind_some _ _).symm.trans H; with_reducible exact H2_) | with_reducible exact H | (rw [hy161]; exact H) | exact H
              have Ny161 := Aside0.mk hy161
              clear hy161
              have H' := Aside0.mk H
              clear H
              have p156 : 0 ≤ (x34_2 : Int) := of_decide_eq_true (by first | (with_reducible assumption) | assumption)
              have q156 : x34_2 < (l1_3.length : Int) := of_decide_eq_true (by first | (with_reducible assumption) | assumption)
              obtain ⟨ad156, e156, hx156_0, hx156_1, hx156_2, hx156_3, hx156_4⟩ := at_T48 HR1_3.out x34_2 p156 q156
              cases e156
              replace hx156_0 := (HB.out.cell (World.block_lt_of_cell? w _ hx156_0)).trans hx156_0
              replace hx156_1 := (HB.out.cell (World.block_lt_of_cell? w _ hx156_1)).trans hx156_1
              replace hx156_2 := (HB.out.cell (World.block_lt_of_cell? w _ hx156_2)).trans hx156_2
              replace hx156_3 := (HB.out.cell (World.block_lt_of_cell? w _ hx156_3)).trans hx156_3
              replace hx156_4 := (HB.out.cell (World.block_lt_of_cell? w _ hx156_4)).trans hx156_4
              replace p156 := eq_true p156
              replace q156 := eq_true q156
              try go_wp2_with (first | ((with_reducible refine gate_dst (N := 9) rfl ?_); refine box_event ?hg (N := 9) ?hd (cs := #[.int .i64 0, .int .i64 0, .string (⟨#[]⟩ : ByteArray), .int .i64 0, .bool false]) (t := 48) ?hr ?_; (case hd => rfl); (case hg => rfl); (case hr => first | (go_simp; done) | (go_simp; rfl)); intro gb157 hg w51 hbox hb; have n0_ := Aside0.mk (Kd.R_below (by (with_reducible repeat (first | apply Kd.R_alloc | apply Kd.R_drewN | apply Kd.R_drew)); exact HO_7.out) hb); have n1_ := Aside0.mk (Kd.V_below (Kd.V_elderB (by (with_reducible repeat (first | apply Kd.V_alloc | apply Kd.V_drewN | apply Kd.V_drew)); exact HO_153001.out) gb157 (Nat.le_of_eq hg.symm)) hb); have n2_ := Aside0.mk (blk_below (g := gb143) (o := .cells #[.slice A0_0 l0_0.length c0_0, .slice A0_1 l0_1.length c0_1] 25 (0, 0)) (by (with_reducible repeat (first | refine blk_drewN ?_ _ | refine blk_drew ?_ | refine blk_alloc ?_ _)); exact BK143.out) hb); have n3_ := Aside0.mk (blk_below (g := gb144) (o := .cells #[.int .u8 a1_0, .int .u8 a1_1, .string a1_2, .slice (some ad156) l1_3.length c1_3] 36 (0, 0)) (by (with_reducible repeat (first | refine blk_drewN ?_ _ | refine blk_drew ?_ | refine blk_alloc ?_ _)); exact BK144.out) hb); have n4_ := Aside0.mk (blk_below (g := gb152) (o := .cells #[.int .u8 t147, .slice Ao39 t148.length co39, .int .i64 t151] 57 (0, 0)) (by (with_reducible repeat (first | refine blk_drewN ?_ _ | refine blk_drew ?_ | refine blk_alloc ?_ _)); exact BK152.out) hb); have n5_ := Aside0.mk (below_step (by repeat (first | (with_reducible first | exact HB.out | apply below_alloc | apply pw_below_drewN | apply below_drew1 | refine below_set ?_ GE143.out | refine below_set ?_ GE144.out | refine below_set ?_ GE152.out) | exact HB.out)) hb); have n6_ := Aside0.mk (hbox); have n7_ := Aside0.mk ((by rw [hg]; exact (below_size (by repeat (first | (with_reducible first | exact HB.out | apply below_alloc | apply pw_below_drewN | apply below_drew1 | refine below_set ?_ GE143.out | refine below_set ?_ GE144.out | refine below_set ?_ GE152.out) | exact HB.out))) : w.heap.size ≤ gb157)); have n8_ := Aside0.mk ((by rw [hg]; exact (below_size (by repeat (first | (with_reducible first | exact HB.out | apply below_alloc | apply pw_below_drewN | apply below_drew1 | refine below_set ?_ GE143.out | refine below_set ?_ GE144.out | refine below_set ?_ GE152.out) | exact HB.out))) : w.heap.size ≤ gb157)); have n9_ := Aside0.mk ((by rw [hg]; exact Nat.ne_of_lt (blk_lt (g := gb143) (o := .cells #[.slice A0_0 l0_0.length c0_0, .slice A0_1 l0_1.length c0_1] 25 (0, 0)) (by (with_reducible repeat (first | refine blk_drewN ?_ _ | refine blk_drew ?_ | refine blk_alloc ?_ _)); exact BK143.out)) : gb143 ≠ gb157)); have n10_ := Aside0.mk ((by rw [hg]; exact Nat.ne_of_gt (blk_lt (g := gb143) (o := .cells #[.slice A0_0 l0_0.length c0_0, .slice A0_1 l0_1.length c0_1] 25 (0, 0)) (by (with_reducible repeat (first | refine blk_drewN ?_ _ | refine blk_drew ?_ | refine blk_alloc ?_ _)); exact BK143.out)) : gb157 ≠ gb143)); have n11_ := Aside0.mk ((by rw [hg]; exact Nat.ne_of_lt (blk_lt (g := gb144) (o := .cells #[.int .u8 a1_0, .int .u8 a1_1, .string a1_2, .slice (some ad156) l1_3.length c1_3] 36 (0, 0)) (by (with_reducible repeat (first | refine blk_drewN ?_ _ | refine blk_drew ?_ | refine blk_alloc ?_ _)); exact BK144.out)) : gb144 ≠ gb157)); have n12_ := Aside0.mk ((by rw [hg]; exact Nat.ne_of_gt (blk_lt (g := gb144) (o := .cells #[.int .u8 a1_0, .int .u8 a1_1, .string a1_2, .slice (some ad156) l1_3.length c1_3] 36 (0, 0)) (by (with_reducible repeat (first | refine blk_drewN ?_ _ | refine blk_drew ?_ | refine blk_alloc ?_ _)); exact BK144.out)) : gb157 ≠ gb144)); have n13_ := Aside0.mk ((by rw [hg]; exact Nat.ne_of_lt (blk_lt (g := gb152) (o := .cells #[.int .u8 t147, .slice Ao39 t148.length co39, .int .i64 t151] 57 (0, 0)) (by (with_reducible repeat (first | refine blk_drewN ?_ _ | refine blk_drew ?_ | refine blk_alloc ?_ _)); exact BK152.out)) : gb152 ≠ gb157)); have n14_ := Aside0.mk ((by rw [hg]; exact Nat.ne_of_gt (blk_lt (g := gb152) (o := .cells #[.int .u8 t147, .slice Ao39 t148.length co39, .int .i64 t151] 57 (0, 0)) (by (with_reducible repeat (first | refine blk_drewN ?_ _ | refine blk_drew ?_ | refine blk_alloc ?_ _)); exact BK152.out)) : gb157 ≠ gb152)); clear HO_7; clear HO_153001; clear BK143; clear BK144; clear BK152; clear HB; have HO_7 := n0_; have HO_153001 := n1_; have BK143 := n2_; have BK144 := n3_; have BK152 := n4_; have HB := n5_; have BK157 := n6_; have GW157 := n7_; have GE157 := n8_; have NB143_157 := n9_; have NB157_143 := n10_; have NB144_157 := n11_; have NB157_144 := n12_; have NB152_157 := n13_; have NB157_152 := n14_; clear n0_ n1_ n2_ n3_ n4_ n5_ n6_ n7_ n8_ n9_ n10_ n11_ n12_ n13_ n14_; clear hb hbox hg; have hnb52 := NB157_143.out; have hnc52 := NB143_157.out; have hnb53 := NB157_144.out; have hnc53 := NB144_157.out; have hnb54 := NB157_152.out; have hnc54 := NB152_157.out; have hcz55_0 : w51.cell? ⟨gb157, 0, none⟩ = some (.int .i64 0) := (blk_cell BK157.out 0).trans rfl; have hcz55_1 : w51.cell? ⟨gb157, 1, none⟩ = some (.int .i64 0) := (blk_cell BK157.out 1).trans rfl; have hcz55_2 : w51.cell? ⟨gb157, 2, none⟩ = some (.string (⟨#[]⟩ : ByteArray)) := (blk_cell BK157.out 2).trans rfl; have hcz55_3 : w51.cell? ⟨gb157, 3, none⟩ = some (.int .i64 0) := (blk_cell BK157.out 3).trans rfl; have hcz55_4 : w51.cell? ⟨gb157, 4, none⟩ = some (.bool false) := (blk_cell BK157.out 4).trans rfl; have hfz55_0 := blk_frozen BK157.out 0; have hfz55_1 := blk_frozen BK157.out 1; have hfz55_2 := blk_frozen BK157.out 2; have hfz55_3 := blk_frozen BK157.out 3; have hfz55_4 := blk_frozen BK157.out 4))
              have n0_ : Aside0 (Kd.R (Kd.int .i64) 3 (((((w51.setCell ⟨gb157, 0, none⟩ (.int .i64 ((rd_T48 l1_3 x34_2).f0))).setCell ⟨gb157, 1, none⟩ (.int .i64 ((rd_T48 l1_3 x34_2).f1))).setCell ⟨gb157, 2, none⟩ (.string ((rd_T48 l1_3 x34_2).f2))).setCell ⟨gb157, 3, none⟩ (.int .i64 ((rd_T48 l1_3 x34_2).f3))).setCell ⟨gb157, 4, none⟩ (.bool ((rd_T48 l1_3 x34_2).f4))) w.heap.size (fun _ => True) u7 x7_2) := ⟨by (with_reducible repeat (first | apply Kd.R_alloc | apply Kd.R_drewN | apply Kd.R_drew)); exact Kd.R_mono (Kd.R_far (p := ⟨gb157, 4, none⟩) (Kd.R_far (p := ⟨gb157, 3, none⟩) (Kd.R_far (p := ⟨gb157, 2, none⟩) (Kd.R_far (p := ⟨gb157, 1, none⟩) (Kd.R_far (p := ⟨gb157, 0, none⟩) (Kd.R_types HO_7.out BK157.out (by decide)) (fun _ hk => hk.2) (.int .i64 ((rd_T48 l1_3 x34_2).f0))) (fun _ hk => hk.2) (.int .i64 ((rd_T48 l1_3 x34_2).f1))) (fun _ hk => hk.2) (.string ((rd_T48 l1_3 x34_2).f2))) (fun _ hk => hk.2) (.int .i64 ((rd_T48 l1_3 x34_2).f3))) (fun _ hk => hk.2) (.bool ((rd_T48 l1_3 x34_2).f4))) (fun _ hk => trivial)⟩
              have n1_ : Aside0 (Kd.V k61 61 (((((w51.setCell ⟨gb157, 0, none⟩ (.int .i64 ((rd_T48 l1_3 x34_2).f0))).setCell ⟨gb157, 1, none⟩ (.int .i64 ((rd_T48 l1_3 x34_2).f1))).setCell ⟨gb157, 2, none⟩ (.string ((rd_T48 l1_3 x34_2).f2))).setCell ⟨gb157, 3, none⟩ (.int .i64 ((rd_T48 l1_3 x34_2).f3))).setCell ⟨gb157, 4, none⟩ (.bool ((rd_T48 l1_3 x34_2).f4))) w.heap.size (fun k_ => some k_ ≠ (u7 : Value).ownBlock ∧ k_ ≠ gb143 ∧ k_ ≠ gb144 ∧ k_ ≠ gb152 ∧ k_ ≠ gb157) (.slice Ao39 t148.length co39) t148) := ⟨by (with_reducible repeat (first | apply Kd.V_alloc | apply Kd.V_drewN | apply Kd.V_drew)); exact Kd.V_mono (Kd.V_far (p := ⟨gb157, 4, none⟩) (Kd.V_far (p := ⟨gb157, 3, none⟩) (Kd.V_far (p := ⟨gb157, 2, none⟩) (Kd.V_far (p := ⟨gb157, 1, none⟩) (Kd.V_far (p := ⟨gb157, 0, none⟩) (Kd.V_mono HO_153001.out (fun k_ hk => (⟨hk, hk.2⟩ : _ ∧ k_ ≠ gb157))) (fun _ hk => hk.2) (.int .i64 ((rd_T48 l1_3 x34_2).f0))) (fun _ hk => hk.2) (.int .i64 ((rd_T48 l1_3 x34_2).f1))) (fun _ hk => hk.2) (.string ((rd_T48 l1_3 x34_2).f2))) (fun _ hk => hk.2) (.int .i64 ((rd_T48 l1_3 x34_2).f3))) (fun _ hk => hk.2) (.bool ((rd_T48 l1_3 x34_2).f4))) (fun _ hk => ⟨hk.1.1.1, ⟨hk.1.1.2.1, ⟨hk.1.1.2.2.1, ⟨hk.1.1.2.2.2, hk.1.2⟩⟩⟩⟩)⟩
              have n2_ : Aside0 ((((((w51.setCell ⟨gb157, 0, none⟩ (.int .i64 ((rd_T48 l1_3 x34_2).f0))).setCell ⟨gb157, 1, none⟩ (.int .i64 ((rd_T48 l1_3 x34_2).f1))).setCell ⟨gb157, 2, none⟩ (.string ((rd_T48 l1_3 x34_2).f2))).setCell ⟨gb157, 3, none⟩ (.int .i64 ((rd_T48 l1_3 x34_2).f3))).setCell ⟨gb157, 4, none⟩ (.bool ((rd_T48 l1_3 x34_2).f4))).heap[gb143]? = some (.cells #[.slice A0_0 l0_0.length c0_0, .slice A0_1 l0_1.length c0_1] 25 (0, 0))) := ⟨by (with_reducible repeat (first | refine blk_drewN ?_ _ | refine blk_drew ?_ | refine blk_alloc ?_ _)); refine blk_far ?_ NB143_157.out _; (with_reducible repeat (first | refine blk_drewN ?_ _ | refine blk_drew ?_ | refine blk_alloc ?_ _)); refine blk_far ?_ NB143_157.out _; (with_reducible repeat (first | refine blk_drewN ?_ _ | refine blk_drew ?_ | refine blk_alloc ?_ _)); refine blk_far ?_ NB143_157.out _; (with_reducible repeat (first | refine blk_drewN ?_ _ | refine blk_drew ?_ | refine blk_alloc ?_ _)); refine blk_far ?_ NB143_157.out _; (with_reducible repeat (first | refine blk_drewN ?_ _ | refine blk_drew ?_ | refine blk_alloc ?_ _)); refine blk_far ?_ NB143_157.out _; (with_reducible repeat (first | refine blk_drewN ?_ _ | refine blk_drew ?_ | refine blk_alloc ?_ _)); exact BK143.out⟩
              have n3_ : Aside0 ((((((w51.setCell ⟨gb157, 0, none⟩ (.int .i64 ((rd_T48 l1_3 x34_2).f0))).setCell ⟨gb157, 1, none⟩ (.int .i64 ((rd_T48 l1_3 x34_2).f1))).setCell ⟨gb157, 2, none⟩ (.string ((rd_T48 l1_3 x34_2).f2))).setCell ⟨gb157, 3, none⟩ (.int .i64 ((rd_T48 l1_3 x34_2).f3))).setCell ⟨gb157, 4, none⟩ (.bool ((rd_T48 l1_3 x34_2).f4))).heap[gb144]? = some (.cells #[.int .u8 a1_0, .int .u8 a1_1, .string a1_2, .slice (some ad156) l1_3.length c1_3] 36 (0, 0))) := ⟨by (with_reducible repeat (first | refine blk_drewN ?_ _ | refine blk_drew ?_ | refine blk_alloc ?_ _)); refine blk_far ?_ NB144_157.out _; (with_reducible repeat (first | refine blk_drewN ?_ _ | refine blk_drew ?_ | refine blk_alloc ?_ _)); refine blk_far ?_ NB144_157.out _; (with_reducible repeat (first | refine blk_drewN ?_ _ | refine blk_drew ?_ | refine blk_alloc ?_ _)); refine blk_far ?_ NB144_157.out _; (with_reducible repeat (first | refine blk_drewN ?_ _ | refine blk_drew ?_ | refine blk_alloc ?_ _)); refine blk_far ?_ NB144_157.out _; (with_reducible repeat (first | refine blk_drewN ?_ _ | refine blk_drew ?_ | refine blk_alloc ?_ _)); refine blk_far ?_ NB144_157.out _; (with_reducible repeat (first | refine blk_drewN ?_ _ | refine blk_drew ?_ | refine blk_alloc ?_ _)); exact BK144.out⟩
              have n4_ : Aside0 ((((((w51.setCell ⟨gb157, 0, none⟩ (.int .i64 ((rd_T48 l1_3 x34_2).f0))).setCell ⟨gb157, 1, none⟩ (.int .i64 ((rd_T48 l1_3 x34_2).f1))).setCell ⟨gb157, 2, none⟩ (.string ((rd_T48 l1_3 x34_2).f2))).setCell ⟨gb157, 3, none⟩ (.int .i64 ((rd_T48 l1_3 x34_2).f3))).setCell ⟨gb157, 4, none⟩ (.bool ((rd_T48 l1_3 x34_2).f4))).heap[gb152]? = some (.cells #[.int .u8 t147, .slice Ao39 t148.length co39, .int .i64 t151] 57 (0, 0))) := ⟨by (with_reducible repeat (first | refine blk_drewN ?_ _ | refine blk_drew ?_ | refine blk_alloc ?_ _)); refine blk_far ?_ NB152_157.out _; (with_reducible repeat (first | refine blk_drewN ?_ _ | refine blk_drew ?_ | refine blk_alloc ?_ _)); refine blk_far ?_ NB152_157.out _; (with_reducible repeat (first | refine blk_drewN ?_ _ | refine blk_drew ?_ | refine blk_alloc ?_ _)); refine blk_far ?_ NB152_157.out _; (with_reducible repeat (first | refine blk_drewN ?_ _ | refine blk_drew ?_ | refine blk_alloc ?_ _)); refine blk_far ?_ NB152_157.out _; (with_reducible repeat (first | refine blk_drewN ?_ _ | refine blk_drew ?_ | refine blk_alloc ?_ _)); refine blk_far ?_ NB152_157.out _; (with_reducible repeat (first | refine blk_drewN ?_ _ | refine blk_drew ?_ | refine blk_alloc ?_ _)); exact BK152.out⟩
              have n5_ : Aside0 ((((((w51.setCell ⟨gb157, 0, none⟩ (.int .i64 ((rd_T48 l1_3 x34_2).f0))).setCell ⟨gb157, 1, none⟩ (.int .i64 ((rd_T48 l1_3 x34_2).f1))).setCell ⟨gb157, 2, none⟩ (.string ((rd_T48 l1_3 x34_2).f2))).setCell ⟨gb157, 3, none⟩ (.int .i64 ((rd_T48 l1_3 x34_2).f3))).setCell ⟨gb157, 4, none⟩ (.bool ((rd_T48 l1_3 x34_2).f4))).heap[gb157]? = some (.cells #[.int .i64 ((rd_T48 l1_3 x34_2).f0), .int .i64 ((rd_T48 l1_3 x34_2).f1), .string ((rd_T48 l1_3 x34_2).f2), .int .i64 ((rd_T48 l1_3 x34_2).f3), .bool ((rd_T48 l1_3 x34_2).f4)] 48 (0, 0))) := ⟨by (with_reducible repeat (first | refine blk_drewN ?_ _ | refine blk_drew ?_ | refine blk_alloc ?_ _)); refine blk_put (cs := #[.int .i64 ((rd_T48 l1_3 x34_2).f0), .int .i64 ((rd_T48 l1_3 x34_2).f1), .string ((rd_T48 l1_3 x34_2).f2), .int .i64 ((rd_T48 l1_3 x34_2).f3), .bool false]) ?_ 4 _ rfl; (with_reducible repeat (first | refine blk_drewN ?_ _ | refine blk_drew ?_ | refine blk_alloc ?_ _)); refine blk_put (cs := #[.int .i64 ((rd_T48 l1_3 x34_2).f0), .int .i64 ((rd_T48 l1_3 x34_2).f1), .string ((rd_T48 l1_3 x34_2).f2), .int .i64 0, .bool false]) ?_ 3 _ rfl; (with_reducible repeat (first | refine blk_drewN ?_ _ | refine blk_drew ?_ | refine blk_alloc ?_ _)); refine blk_put (cs := #[.int .i64 ((rd_T48 l1_3 x34_2).f0), .int .i64 ((rd_T48 l1_3 x34_2).f1), .string (⟨#[]⟩ : ByteArray), .int .i64 0, .bool false]) ?_ 2 _ rfl; (with_reducible repeat (first | refine blk_drewN ?_ _ | refine blk_drew ?_ | refine blk_alloc ?_ _)); refine blk_put (cs := #[.int .i64 ((rd_T48 l1_3 x34_2).f0), .int .i64 0, .string (⟨#[]⟩ : ByteArray), .int .i64 0, .bool false]) ?_ 1 _ rfl; (with_reducible repeat (first | refine blk_drewN ?_ _ | refine blk_drew ?_ | refine blk_alloc ?_ _)); refine blk_put (cs := #[.int .i64 0, .int .i64 0, .string (⟨#[]⟩ : ByteArray), .int .i64 0, .bool false]) ?_ 0 _ rfl; (with_reducible repeat (first | refine blk_drewN ?_ _ | refine blk_drew ?_ | refine blk_alloc ?_ _)); exact BK157.out⟩
              have n6_ : Aside0 (Below w.heap.size w (((((w51.setCell ⟨gb157, 0, none⟩ (.int .i64 ((rd_T48 l1_3 x34_2).f0))).setCell ⟨gb157, 1, none⟩ (.int .i64 ((rd_T48 l1_3 x34_2).f1))).setCell ⟨gb157, 2, none⟩ (.string ((rd_T48 l1_3 x34_2).f2))).setCell ⟨gb157, 3, none⟩ (.int .i64 ((rd_T48 l1_3 x34_2).f3))).setCell ⟨gb157, 4, none⟩ (.bool ((rd_T48 l1_3 x34_2).f4)))) := ⟨by repeat (first | (with_reducible first | exact HB.out | apply below_alloc | apply pw_below_drewN | apply below_drew1 | refine below_set ?_ GE143.out | refine below_set ?_ GE144.out | refine below_set ?_ GE152.out | refine below_set ?_ GE157.out) | exact HB.out)⟩
              (try clear HO_7)
              (try clear HO_153001)
              (try clear BK143)
              (try clear BK144)
              (try clear BK152)
              (try clear BK157)
              (try clear HB)
              generalize (((((w51.setCell ⟨gb157, 0, none⟩ (.int .i64 ((rd_T48 l1_3 x34_2).f0))).setCell ⟨gb157, 1, none⟩ (.int .i64 ((rd_T48 l1_3 x34_2).f1))).setCell ⟨gb157, 2, none⟩ (.string ((rd_T48 l1_3 x34_2).f2))).setCell ⟨gb157, 3, none⟩ (.int .i64 ((rd_T48 l1_3 x34_2).f3))).setCell ⟨gb157, 4, none⟩ (.bool ((rd_T48 l1_3 x34_2).f4))) = w56 at n0_ n1_ n2_ n3_ n4_ n5_ n6_ ⊢
              have HO_7 := n0_
              have HO_153001 := n1_
              have BK143 := n2_
              have BK144 := n3_
              have BK152 := n4_
              have BK157 := n5_
              have HB := n6_
              clear n0_ n1_ n2_ n3_ n4_ n5_ n6_
              have n0_ := Aside0.mk (Kd.R_drew HO_7.out)
              have n1_ := Aside0.mk (Kd.V_drew HO_153001.out)
              have n2_ := Aside0.mk (blk_drew BK143.out)
              have n3_ := Aside0.mk (blk_drew BK144.out)
              have n4_ := Aside0.mk (blk_drew BK152.out)
              have n5_ := Aside0.mk (blk_drew BK157.out)
              have n6_ := Aside0.mk (below_drew1 HB.out)
              clear HO_7
              clear HO_153001
              clear BK143
              clear BK144
              clear BK152
              clear BK157
              clear HB
              have HO_7 := n0_
              have HO_153001 := n1_
              have BK143 := n2_
              have BK144 := n3_
              have BK152 := n4_
              have BK157 := n5_
              have HB := n6_
              clear n0_ n1_ n2_ n3_ n4_ n5_ n6_
              refine start_ (n := 15) (S := fun w' => w'.cell? ⟨gb152, 0, none⟩ = some (.int .u8 t147) ∧ w'.cell? ⟨gb152, 1, none⟩ = some (.slice Ao39 t148.length co39) ∧ w'.cell? ⟨gb152, 2, none⟩ = some (.int .i64 t151) ∧ w'.cell? ⟨gb143, 0, none⟩ = some (.slice A0_0 l0_0.length c0_0) ∧ w'.cell? ⟨gb143, 1, none⟩ = some (.slice A0_1 l0_1.length c0_1) ∧ w'.cell? ⟨gb144, 0, none⟩ = some (.int .u8 a1_0) ∧ w'.cell? ⟨gb144, 1, none⟩ = some (.int .u8 a1_1) ∧ w'.cell? ⟨gb144, 2, none⟩ = some (.string a1_2) ∧ w'.cell? ⟨gb144, 3, none⟩ = some (.slice (some ad156) l1_3.length c1_3) ∧ w'.cell? ⟨gb157, 0, none⟩ = some (.int .i64 ((rd_T48 l1_3 x34_2).f0)) ∧ w'.cell? ⟨gb157, 1, none⟩ = some (.int .i64 ((rd_T48 l1_3 x34_2).f1)) ∧ w'.cell? ⟨gb157, 2, none⟩ = some (.string ((rd_T48 l1_3 x34_2).f2)) ∧ w'.cell? ⟨gb157, 3, none⟩ = some (.int .i64 ((rd_T48 l1_3 x34_2).f3)) ∧ w'.cell? ⟨gb157, 4, none⟩ = some (.bool ((rd_T48 l1_3 x34_2).f4))) (ds := []) #[false, false, false, false, false, false, false, false, false, false, false, false, false, false, false] (by kernel_rfl) rfl rfl ⟨(blk_cell BK152.out 0).trans rfl, (blk_cell BK152.out 1).trans rfl, (blk_cell BK152.out 2).trans rfl, (blk_cell BK143.out 0).trans rfl, (blk_cell BK143.out 1).trans rfl, (blk_cell BK144.out 0).trans rfl, (blk_cell BK144.out 1).trans rfl, (blk_cell BK144.out 2).trans rfl, (blk_cell BK144.out 3).trans rfl, (blk_cell BK157.out 0).trans rfl, (blk_cell BK157.out 1).trans rfl, (blk_cell BK157.out 2).trans rfl, (blk_cell BK157.out 3).trans rfl, (blk_cell BK157.out 4).trans rfl⟩ (fun hHeld => ?_); refine with_tabW tariff_Bases.tab10 tariff_Bases.bits10 (fun HT_ HW_ => ?_)
              generalize w56.drew = w57 at HO_7 HO_153001 BK143 BK144 BK152 BK157 HB hHeld ⊢
              refine pure_ (i := 2) (N := some 41) (v := ?_) (a' := ?_) #[false, false, true, false, false, false, false, false, false, false, false, false, false, false, false] rfl rfl (any_of HT_.out (by kernel_rfl)) (fun _ _ _ h => h) (Or.inl ⟨by rfl, ?_⟩) ?_ ?_
              rotate_left
              ·intro w'
               go_simp
               with_reducible rfl
              rotate_left
              ·simp only [Act.put, sl1, sl2, sl3, i64_w, i32_w]
               rfl
              refine pure_ (i := 4) (N := some 43) (v := ?_) (a' := ?_) #[false, false, true, false, true, false, false, false, false, false, false, false, false, false, false] rfl rfl (any_of HT_.out (by kernel_rfl)) (fun _ _ _ h => h) (Or.inl ⟨by rfl, ?_⟩) ?_ ?_
              rotate_left
              ·intro w'
               go_simp
               with_reducible rfl
              rotate_left
              ·simp only [Act.put, sl1, sl2, sl3, i64_w, i32_w]
               rfl
              refine pure_ (i := 7) (N := some 46) (v := ?_) (a' := ?_) #[false, false, true, false, true, false, false, true, false, false, false, false, false, false, false] rfl rfl (any_of HT_.out (by kernel_rfl)) (fun _ _ _ h => h) (Or.inl ⟨by rfl, ?_⟩) ?_ ?_
              rotate_left
              ·intro w'
               go_simp
               with_reducible rfl
              rotate_left
              ·simp only [Act.put, sl1, sl2, sl3, i64_w, i32_w]
               rfl
              refine take_ (i := 0) (N := some 39) (v := ?_) (a' := ?_) #[true, false, true, false, true, false, false, true, false, false, false, false, false, false, false] rfl rfl (take_ofW HT_.out HW_.out (by kernel_rfl)) (fun _ _ _ h => h) (Or.inl ⟨by rfl, ?_⟩) hHeld ?_ ?_
              rotate_left
              ·rintro w' ⟨s0, s1, s2, s3, s4, s5, s6, s7, s8, s9, s10, s11, s12, s13⟩
               go_simp
               with_reducible rfl
              rotate_left
              ·simp only [Act.put, sl1, sl2, sl3, i64_w, i32_w]
               rfl
              refine take_ (i := 1) (N := some 40) (v := ?_) (a' := ?_) #[true, true, true, false, true, false, false, true, false, false, false, false, false, false, false] rfl rfl (take_ofW HT_.out HW_.out (by kernel_rfl)) (fun _ _ _ h => h) (Or.inl ⟨by rfl, ?_⟩) hHeld ?_ ?_
              rotate_left
              ·rintro w' ⟨s0, s1, s2, s3, s4, s5, s6, s7, s8, s9, s10, s11, s12, s13⟩
               go_simp
               with_reducible rfl
              rotate_left
              ·simp only [Act.put, sl1, sl2, sl3, i64_w, i32_w]
               rfl
              refine take_ (i := 3) (N := some 42) (v := ?_) (a' := ?_) #[true, true, true, true, true, false, false, true, false, false, false, false, false, false, false] rfl rfl (take_ofW HT_.out HW_.out (by kernel_rfl)) (fun _ _ _ h => h) (Or.inl ⟨by rfl, ?_⟩) hHeld ?_ ?_
              rotate_left
              ·rintro w' ⟨s0, s1, s2, s3, s4, s5, s6, s7, s8, s9, s10, s11, s12, s13⟩
               go_simp
               with_reducible rfl
              rotate_left
              ·simp only [Act.put, sl1, sl2, sl3, i64_w, i32_w]
               rfl
              refine take_ (i := 5) (N := some 44) (v := ?_) (a' := ?_) #[true, true, true, true, true, true, false, true, false, false, false, false, false, false, false] rfl rfl (take_ofW HT_.out HW_.out (by kernel_rfl)) (fun _ _ _ h => h) (Or.inl ⟨by rfl, ?_⟩) hHeld ?_ ?_
              rotate_left
              ·rintro w' ⟨s0, s1, s2, s3, s4, s5, s6, s7, s8, s9, s10, s11, s12, s13⟩
               go_simp
               with_reducible rfl
              rotate_left
              ·simp only [Act.put, sl1, sl2, sl3, i64_w, i32_w]
               rfl
              refine take_ (i := 8) (N := some 47) (v := ?_) (a' := ?_) #[true, true, true, true, true, true, false, true, true, false, false, false, false, false, false] rfl rfl (take_ofW HT_.out HW_.out (by kernel_rfl)) (fun _ _ _ h => h) (Or.inl ⟨by rfl, ?_⟩) hHeld ?_ ?_
              rotate_left
              ·rintro w' ⟨s0, s1, s2, s3, s4, s5, s6, s7, s8, s9, s10, s11, s12, s13⟩
               go_simp
               with_reducible rfl
              rotate_left
              ·simp only [Act.put, sl1, sl2, sl3, i64_w, i32_w]
               rfl
              refine one_ (i := 6) (N := some 45) #[true, true, true, true, true, true, true, true, true, false, false, false, false, false, false] rfl rfl (one_of HT_.out (by kernel_rfl)) (by decide) (fun K hK => ?_)
              refine goes_ Tryd.func43 (by kernel_rfl) rfl #[.agg #[.slice A0_0 l0_0.length c0_0, .slice A0_1 l0_1.length c0_1], .string a1_2, .string ((rd_T48 l1_3 x34_2).f2)] (by rfl) rfl rfl (by (try simp only [List.map_toArray, List.map_cons, List.map_nil]); first | done | rfl | (simp only [List.length_drop, List.length_take]; rfl)) ?_
              with_reducible refine (tariff_zone.calls k2 _ _ l0_0 _ _ l0_1 a1_2 ((rd_T48 l1_3 x34_2).f2) t158 _ ?side1 ?side2 ?side3 ?side4 A47.out).mono ?_
              (case side1 => repeat (first | exact (Kd.C_below HR0_0.out HB.out) | (with_reducible refine Kd.C_alloc ?_ _) | (with_reducible refine Kd.C_drewN ?_ _) | (with_reducible refine Kd.C_drew ?_)))
              (case side2 => exact HC0_0.out)
              (case side3 => repeat (first | exact (Kd.C_below HR0_1.out HB.out) | (with_reducible refine Kd.C_alloc ?_ _) | (with_reducible refine Kd.C_drewN ?_ _) | (with_reducible refine Kd.C_drew ?_)))
              (case side4 => exact HC0_1.out)
              rintro e w58 ⟨rfl, hb⟩
              refine ⟨_, rfl, ?_⟩
              have n0_ := Aside0.mk (Kd.R_below (by (with_reducible repeat (first | apply Kd.R_alloc | apply Kd.R_drewN | apply Kd.R_drew)); exact HO_7.out) hb)
              have n1_ := Aside0.mk (Kd.V_below (by (with_reducible repeat (first | apply Kd.V_alloc | apply Kd.V_drewN | apply Kd.V_drew)); exact HO_153001.out) hb)
              have n2_ := Aside0.mk (blk_below (g := gb143) (o := .cells #[.slice A0_0 l0_0.length c0_0, .slice A0_1 l0_1.length c0_1] 25 (0, 0)) (by (with_reducible repeat (first | refine blk_drewN ?_ _ | refine blk_drew ?_ | refine blk_alloc ?_ _)); exact BK143.out) hb)
              have n3_ := Aside0.mk (blk_below (g := gb144) (o := .cells #[.int .u8 a1_0, .int .u8 a1_1, .string a1_2, .slice (some ad156) l1_3.length c1_3] 36 (0, 0)) (by (with_reducible repeat (first | refine blk_drewN ?_ _ | refine blk_drew ?_ | refine blk_alloc ?_ _)); exact BK144.out) hb)
              have n4_ := Aside0.mk (blk_below (g := gb152) (o := .cells #[.int .u8 t147, .slice Ao39 t148.length co39, .int .i64 t151] 57 (0, 0)) (by (with_reducible repeat (first | refine blk_drewN ?_ _ | refine blk_drew ?_ | refine blk_alloc ?_ _)); exact BK152.out) hb)
              have n5_ := Aside0.mk (blk_below (g := gb157) (o := .cells #[.int .i64 ((rd_T48 l1_3 x34_2).f0), .int .i64 ((rd_T48 l1_3 x34_2).f1), .string ((rd_T48 l1_3 x34_2).f2), .int .i64 ((rd_T48 l1_3 x34_2).f3), .bool ((rd_T48 l1_3 x34_2).f4)] 48 (0, 0)) (by (with_reducible repeat (first | refine blk_drewN ?_ _ | refine blk_drew ?_ | refine blk_alloc ?_ _)); exact BK157.out) hb)
              have n6_ := Aside0.mk (below_step (by repeat (first | (with_reducible first | exact HB.out | apply below_alloc | apply pw_below_drewN | apply below_drew1 | refine below_set ?_ GE143.out | refine below_set ?_ GE144.out | refine below_set ?_ GE152.out | refine below_set ?_ GE157.out) | exact HB.out)) hb)
              clear HO_7
              clear HO_153001
              clear BK143
              clear BK144
              clear BK152
              clear BK157
              clear HB
              have HO_7 := n0_
              have HO_153001 := n1_
              have BK143 := n2_
              have BK144 := n3_
              have BK152 := n4_
              have BK157 := n5_
              have HB := n6_
              clear n0_ n1_ n2_ n3_ n4_ n5_ n6_
              (try clear hb)
              (try clear hb2)
              (try clear hk)
              (try clear hi)
              refine hK.out _ _ ⟨(blk_cell BK152.out 0).trans rfl, (blk_cell BK152.out 1).trans rfl, (blk_cell BK152.out 2).trans rfl, (blk_cell BK143.out 0).trans rfl, (blk_cell BK143.out 1).trans rfl, (blk_cell BK144.out 0).trans rfl, (blk_cell BK144.out 1).trans rfl, (blk_cell BK144.out 2).trans rfl, (blk_cell BK144.out 3).trans rfl, (blk_cell BK157.out 0).trans rfl, (blk_cell BK157.out 1).trans rfl, (blk_cell BK157.out 2).trans rfl, (blk_cell BK157.out 3).trans rfl, (blk_cell BK157.out 4).trans rfl⟩ (fun hHeld => ?_)
              clear hK K
              refine norm_ (a' := ?_) ?_ ?_
              rotate_left
              ·show Act.put _ (some 45) _ = _
               simp only [Act.put, sl1, sl2, sl3, i64_w, i32_w]
               rfl
              refine one_ (i := 9) (N := some 48) #[true, true, true, true, true, true, true, true, true, true, false, false, false, false, false] rfl rfl (one_of HT_.out (by kernel_rfl)) (by decide) (fun K hK => ?_)
              refine goes_ Tryd.func42 (by kernel_rfl) rfl #[.agg #[.int .u8 t147, .slice Ao39 t148.length co39, .int .i64 t151], .int .i64 t158, .int .i64 ((rd_T48 l1_3 x34_2).f3)] (by rfl) rfl rfl (by (try simp only [List.map_toArray, List.map_cons, List.map_nil]); first | done | rfl | (simp only [List.length_drop, List.length_take]; rfl)) ?_
              with_reducible refine (tariff_price.calls t147 _ _ t148 t151 t158 ((rd_T48 l1_3 x34_2).f3) t159 t160 _ ?side1 ?side2 A48.out).mono ?_
              (case side1 => repeat (first | exact (Kd.V_reads' HO_153001.out).2.2 | (with_reducible refine Kd.C_alloc ?_ _) | (with_reducible refine Kd.C_drewN ?_ _) | (with_reducible refine Kd.C_drew ?_)))
              (case side2 => exact (Kd.V_reads' HO_153001.out).2.1)
              rintro e w59 ⟨rfl, hb⟩
              refine ⟨_, rfl, ?_⟩
              have n0_ := Aside0.mk (Kd.R_below (by (with_reducible repeat (first | apply Kd.R_alloc | apply Kd.R_drewN | apply Kd.R_drew)); exact HO_7.out) hb)
              have n1_ := Aside0.mk (Kd.V_below (by (with_reducible repeat (first | apply Kd.V_alloc | apply Kd.V_drewN | apply Kd.V_drew)); exact HO_153001.out) hb)
              have n2_ := Aside0.mk (blk_below (g := gb143) (o := .cells #[.slice A0_0 l0_0.length c0_0, .slice A0_1 l0_1.length c0_1] 25 (0, 0)) (by (with_reducible repeat (first | refine blk_drewN ?_ _ | refine blk_drew ?_ | refine blk_alloc ?_ _)); exact BK143.out) hb)
              have n3_ := Aside0.mk (blk_below (g := gb144) (o := .cells #[.int .u8 a1_0, .int .u8 a1_1, .string a1_2, .slice (some ad156) l1_3.length c1_3] 36 (0, 0)) (by (with_reducible repeat (first | refine blk_drewN ?_ _ | refine blk_drew ?_ | refine blk_alloc ?_ _)); exact BK144.out) hb)
              have n4_ := Aside0.mk (blk_below (g := gb152) (o := .cells #[.int .u8 t147, .slice Ao39 t148.length co39, .int .i64 t151] 57 (0, 0)) (by (with_reducible repeat (first | refine blk_drewN ?_ _ | refine blk_drew ?_ | refine blk_alloc ?_ _)); exact BK152.out) hb)
              have n5_ := Aside0.mk (blk_below (g := gb157) (o := .cells #[.int .i64 ((rd_T48 l1_3 x34_2).f0), .int .i64 ((rd_T48 l1_3 x34_2).f1), .string ((rd_T48 l1_3 x34_2).f2), .int .i64 ((rd_T48 l1_3 x34_2).f3), .bool ((rd_T48 l1_3 x34_2).f4)] 48 (0, 0)) (by (with_reducible repeat (first | refine blk_drewN ?_ _ | refine blk_drew ?_ | refine blk_alloc ?_ _)); exact BK157.out) hb)
              have n6_ := Aside0.mk (below_step (by repeat (first | (with_reducible first | exact HB.out | apply below_alloc | apply pw_below_drewN | apply below_drew1 | refine below_set ?_ GE143.out | refine below_set ?_ GE144.out | refine below_set ?_ GE152.out | refine below_set ?_ GE157.out) | exact HB.out)) hb)
              clear HO_7
              clear HO_153001
              clear BK143
              clear BK144
              clear BK152
              clear BK157
              clear HB
              have HO_7 := n0_
              have HO_153001 := n1_
              have BK143 := n2_
              have BK144 := n3_
              have BK152 := n4_
              have BK157 := n5_
              have HB := n6_
              clear n0_ n1_ n2_ n3_ n4_ n5_ n6_
              (try clear hb)
              (try clear hb2)
              (try clear hk)
              (try clear hi)
              refine hK.out _ _ ⟨(blk_cell BK152.out 0).trans rfl, (blk_cell BK152.out 1).trans rfl, (blk_cell BK152.out 2).trans rfl, (blk_cell BK143.out 0).trans rfl, (blk_cell BK143.out 1).trans rfl, (blk_cell BK144.out 0).trans rfl, (blk_cell BK144.out 1).trans rfl, (blk_cell BK144.out 2).trans rfl, (blk_cell BK144.out 3).trans rfl, (blk_cell BK157.out 0).trans rfl, (blk_cell BK157.out 1).trans rfl, (blk_cell BK157.out 2).trans rfl, (blk_cell BK157.out 3).trans rfl, (blk_cell BK157.out 4).trans rfl⟩ (fun hHeld => ?_)
              clear hK K
              refine norm_ (a' := ?_) ?_ ?_
              rotate_left
              ·show Act.put _ (some 48) _ = _
               simp only [Act.put, sl1, sl2, sl3, i64_w, i32_w]
               rfl
              refine pure_ (i := 10) (N := some 38) (v := ?_) (a' := ?_) #[true, true, true, true, true, true, true, true, true, true, true, false, false, false, false] rfl rfl (any_of HT_.out (by kernel_rfl)) (fun _ _ _ h => h) (Or.inl ⟨by rfl, ?_⟩) ?_ ?_
              rotate_left
              ·intro w'
               go_simp
               with_reducible rfl
              rotate_left
              ·simp only [Act.put, sl1, sl2, sl3, i64_w, i32_w]
               rfl
              refine pure_ (i := 11) (N := some 49) (v := ?_) (a' := ?_) #[true, true, true, true, true, true, true, true, true, true, true, true, false, false, false] rfl rfl (any_of HT_.out (by kernel_rfl)) (fun _ _ _ h => h) (Or.inl ⟨by rfl, ?_⟩) ?_ ?_
              rotate_left
              ·intro w'
               go_simp
               with_reducible rfl
              rotate_left
              ·simp only [Act.put, sl1, sl2, sl3, i64_w, i32_w]
               rfl
              refine pure_ (i := 12) (N := some 50) (v := ?_) (a' := ?_) #[true, true, true, true, true, true, true, true, true, true, true, true, true, false, false] rfl rfl (any_of HT_.out (by kernel_rfl)) (fun _ _ _ h => h) (Or.inl ⟨by rfl, ?_⟩) ?_ ?_
              rotate_left
              ·intro w'
               go_simp
               with_reducible rfl
              rotate_left
              ·simp only [Act.put, sl1, sl2, sl3, i64_w, i32_w]
               rfl
              refine pure_ (i := 13) (N := some 10) (v := ?_) (a' := ?_) #[true, true, true, true, true, true, true, true, true, true, true, true, true, true, false] rfl rfl (any_of HT_.out (by kernel_rfl)) (fun _ _ _ h => h) (Or.inl ⟨by rfl, ?_⟩) ?_ ?_
              rotate_left
              ·intro w'
               go_simp
               with_reducible rfl
              rotate_left
              ·simp only [Act.put, sl1, sl2, sl3, i64_w, i32_w]
               rfl
              refine pure_ (i := 14) (N := some 11) (v := ?_) (a' := ?_) #[true, true, true, true, true, true, true, true, true, true, true, true, true, true, true] rfl rfl (any_of HT_.out (by kernel_rfl)) (fun _ _ _ h => h) (Or.inl ⟨by rfl, ?_⟩) ?_ ?_
              rotate_left
              ·intro w'
               go_simp
               with_reducible rfl
              rotate_left
              ·simp only [Act.put, sl1, sl2, sl3, i64_w, i32_w]
               rfl
              refine done_ (done_of HT_.out (by kernel_rfl)) ?_
              try go_wp2_with (first | ((with_reducible refine gate_builtin (b := .append) (xs := #[.tmp 54, .tmp 56]) rfl ?_); at_builtin; refine Kd.R_append (Kd.int .i64) (w0 := w) w.heap.size rfl (.tmp 54) (.tmp 56) 38 3 (.int .i64 0) 8 rfl Tryd.underlying38 info3 rfl (by decide) (by omega) u7 x7_2 t159 [.int .i64 t159] (fun _ => True) (fun _ => False) rfl rfl ?aP (fun _ hk => hk.elim) ?aF ?aO ?aB ?aS ?aL ?_; (case aP => exact rfl); (case aB => exact (by repeat (first | (with_reducible first | exact HB.out | apply below_alloc | apply pw_below_drewN | apply below_drew1 | refine below_set ?_ GE143.out | refine below_set ?_ GE144.out | refine below_set ?_ GE152.out | refine below_set ?_ GE157.out) | exact HB.out))); (case aF => exact (fun _ _ => trivial)); (case aO => exact (by (with_reducible repeat (first | apply Kd.R_alloc | apply Kd.R_drewN | apply Kd.R_drew)); exact HO_7.out)); (case aS => exact (below_size (by repeat (first | (with_reducible first | exact HB.out | apply below_alloc | apply pw_below_drewN | apply below_drew1 | refine below_set ?_ GE143.out | refine below_set ?_ GE144.out | refine below_set ?_ GE152.out | refine below_set ?_ GE157.out) | exact HB.out)))); (case aL => have := LMc50.out; omega); intro v162 w60 ho hb hg hat; rw [← Ny161.out] at ho; have n0_ := Aside0.mk (Kd.V_afterv (ok := (fun k_ => k_ ≠ gb143 ∧ k_ ≠ gb144 ∧ k_ ≠ gb152 ∧ k_ ≠ gb157)) (by (with_reducible repeat (first | apply Kd.V_alloc | apply Kd.V_drewN | apply Kd.V_drew)); exact Kd.V_mono HO_153001.out (fun _ hk => ⟨⟨hk.2.1, ⟨hk.2.2.1, ⟨hk.2.2.2.1, hk.2.2.2.2⟩⟩⟩, hk.1⟩)) hg hat); have n1_ := Aside0.mk (blk_grown (g := gb143) (o := .cells #[.slice A0_0 l0_0.length c0_0, .slice A0_1 l0_1.length c0_1] 25 (0, 0)) (by (with_reducible repeat (first | refine blk_drewN ?_ _ | refine blk_drew ?_ | refine blk_alloc ?_ _)); exact BK143.out) hg (Kd.R_ne HO_7.out BK143.out (by decide))); have n2_ := Aside0.mk (blk_grown (g := gb144) (o := .cells #[.int .u8 a1_0, .int .u8 a1_1, .string a1_2, .slice (some ad156) l1_3.length c1_3] 36 (0, 0)) (by (with_reducible repeat (first | refine blk_drewN ?_ _ | refine blk_drew ?_ | refine blk_alloc ?_ _)); exact BK144.out) hg (Kd.R_ne HO_7.out BK144.out (by decide))); have n3_ := Aside0.mk (blk_grown (g := gb152) (o := .cells #[.int .u8 t147, .slice Ao39 t148.length co39, .int .i64 t151] 57 (0, 0)) (by (with_reducible repeat (first | refine blk_drewN ?_ _ | refine blk_drew ?_ | refine blk_alloc ?_ _)); exact BK152.out) hg (Kd.R_ne HO_7.out BK152.out (by decide))); have n4_ := Aside0.mk (blk_grown (g := gb157) (o := .cells #[.int .i64 ((rd_T48 l1_3 x34_2).f0), .int .i64 ((rd_T48 l1_3 x34_2).f1), .string ((rd_T48 l1_3 x34_2).f2), .int .i64 ((rd_T48 l1_3 x34_2).f3), .bool ((rd_T48 l1_3 x34_2).f4)] 48 (0, 0)) (by (with_reducible repeat (first | refine blk_drewN ?_ _ | refine blk_drew ?_ | refine blk_alloc ?_ _)); exact BK157.out) hg (Kd.R_ne HO_7.out BK157.out (by decide))); have n5_ := Aside0.mk (hb); have n6_ := Aside0.mk (ho); clear HO_153001; clear BK143; clear BK144; clear BK152; clear BK157; clear HB; clear HO_7; have HO_153001 := n0_; have BK143 := n1_; have BK144 := n2_; have BK152 := n3_; have BK157 := n4_; have HB := n5_; have HO163 := n6_; clear n0_ n1_ n2_ n3_ n4_ n5_ n6_; clear ho hb hg hat))
              go_roundg k2
              case measure => have := HJ2.out; have := HK2.out; omega
              case rel => exact ⟨(y161), (wrap64 (x34_2 + 1)), (by first | rfl | (simp; done) | (simp [*]; done)), H', ⟨by have := HJ2.out; have := HK2.out; omega⟩, ⟨by (with_reducible repeat (first | apply Kd.R_alloc | apply Kd.R_drewN | apply Kd.R_drew)); exact HO163.out⟩, ⟨by (with_reducible repeat (first | apply Kd.V_alloc | apply Kd.V_drewN | apply Kd.V_drew)); exact Kd.V_mono HO_153001.out (fun _ hk => ⟨hk.2, ⟨hk.1.1, ⟨hk.1.2.1, hk.1.2.2.1⟩⟩⟩)⟩, ⟨by (with_reducible repeat (first | refine blk_drewN ?_ _ | refine blk_drew ?_ | refine blk_alloc ?_ _)); exact BK143.out⟩, ⟨by (with_reducible repeat (first | refine blk_drewN ?_ _ | refine blk_drew ?_ | refine blk_alloc ?_ _)); exact BK144.out⟩, ⟨by (with_reducible repeat (first | refine blk_drewN ?_ _ | refine blk_drew ?_ | refine blk_alloc ?_ _)); exact BK152.out⟩, ⟨by repeat (first | (with_reducible first | exact HB.out | apply below_alloc | apply pw_below_drewN | apply below_drew1 | refine below_set ?_ GE143.out | refine below_set ?_ GE144.out | refine below_set ?_ GE152.out | refine below_set ?_ GE157.out) | exact HB.out)⟩⟩
             ·rw [if_neg c50] at H
              exact absurd H (by simp)
            ·rw [if_neg c49] at H
             have c49b0 : (t160 == 0) = false := beq_eq_false_iff_ne.mpr c49
             have c49b1 : (t160 != 0) = true := bne_iff_ne.mpr c49
             simp only [Option.some.injEq, Prod.mk.injEq] at H
             obtain ⟨rfl, rfl⟩ := H
             have p156 : 0 ≤ (x34_2 : Int) := of_decide_eq_true (by first | (with_reducible assumption) | assumption)
             have q156 : x34_2 < (l1_3.length : Int) := of_decide_eq_true (by first | (with_reducible assumption) | assumption)
             obtain ⟨ad156, e156, hx156_0, hx156_1, hx156_2, hx156_3, hx156_4⟩ := at_T48 HR1_3.out x34_2 p156 q156
             cases e156
             replace hx156_0 := (HB.out.cell (World.block_lt_of_cell? w _ hx156_0)).trans hx156_0
             replace hx156_1 := (HB.out.cell (World.block_lt_of_cell? w _ hx156_1)).trans hx156_1
             replace hx156_2 := (HB.out.cell (World.block_lt_of_cell? w _ hx156_2)).trans hx156_2
             replace hx156_3 := (HB.out.cell (World.block_lt_of_cell? w _ hx156_3)).trans hx156_3
             replace hx156_4 := (HB.out.cell (World.block_lt_of_cell? w _ hx156_4)).trans hx156_4
             replace p156 := eq_true p156
             replace q156 := eq_true q156
             try go_wp2_with (first | ((with_reducible refine gate_dst (N := 9) rfl ?_); refine box_event ?hg (N := 9) ?hd (cs := #[.int .i64 0, .int .i64 0, .string (⟨#[]⟩ : ByteArray), .int .i64 0, .bool false]) (t := 48) ?hr ?_; (case hd => rfl); (case hg => rfl); (case hr => first | (go_simp; done) | (go_simp; rfl)); intro gb157 hg w61 hbox hb; have n0_ := Aside0.mk (Kd.R_below (by (with_reducible repeat (first | apply Kd.R_alloc | apply Kd.R_drewN | apply Kd.R_drew)); exact HO_7.out) hb); have n1_ := Aside0.mk (Kd.V_below (Kd.V_elderB (by (with_reducible repeat (first | apply Kd.V_alloc | apply Kd.V_drewN | apply Kd.V_drew)); exact HO_153001.out) gb157 (Nat.le_of_eq hg.symm)) hb); have n2_ := Aside0.mk (blk_below (g := gb143) (o := .cells #[.slice A0_0 l0_0.length c0_0, .slice A0_1 l0_1.length c0_1] 25 (0, 0)) (by (with_reducible repeat (first | refine blk_drewN ?_ _ | refine blk_drew ?_ | refine blk_alloc ?_ _)); exact BK143.out) hb); have n3_ := Aside0.mk (blk_below (g := gb144) (o := .cells #[.int .u8 a1_0, .int .u8 a1_1, .string a1_2, .slice (some ad156) l1_3.length c1_3] 36 (0, 0)) (by (with_reducible repeat (first | refine blk_drewN ?_ _ | refine blk_drew ?_ | refine blk_alloc ?_ _)); exact BK144.out) hb); have n4_ := Aside0.mk (blk_below (g := gb152) (o := .cells #[.int .u8 t147, .slice Ao39 t148.length co39, .int .i64 t151] 57 (0, 0)) (by (with_reducible repeat (first | refine blk_drewN ?_ _ | refine blk_drew ?_ | refine blk_alloc ?_ _)); exact BK152.out) hb); have n5_ := Aside0.mk (below_step (by repeat (first | (with_reducible first | exact HB.out | apply below_alloc | apply pw_below_drewN | apply below_drew1 | refine below_set ?_ GE143.out | refine below_set ?_ GE144.out | refine below_set ?_ GE152.out) | exact HB.out)) hb); have n6_ := Aside0.mk (hbox); have n7_ := Aside0.mk ((by rw [hg]; exact (below_size (by repeat (first | (with_reducible first | exact HB.out | apply below_alloc | apply pw_below_drewN | apply below_drew1 | refine below_set ?_ GE143.out | refine below_set ?_ GE144.out | refine below_set ?_ GE152.out) | exact HB.out))) : w.heap.size ≤ gb157)); have n8_ := Aside0.mk ((by rw [hg]; exact (below_size (by repeat (first | (with_reducible first | exact HB.out | apply below_alloc | apply pw_below_drewN | apply below_drew1 | refine below_set ?_ GE143.out | refine below_set ?_ GE144.out | refine below_set ?_ GE152.out) | exact HB.out))) : w.heap.size ≤ gb157)); have n9_ := Aside0.mk ((by rw [hg]; exact Nat.ne_of_lt (blk_lt (g := gb143) (o := .cells #[.slice A0_0 l0_0.length c0_0, .slice A0_1 l0_1.length c0_1] 25 (0, 0)) (by (with_reducible repeat (first | refine blk_drewN ?_ _ | refine blk_drew ?_ | refine blk_alloc ?_ _)); exact BK143.out)) : gb143 ≠ gb157)); have n10_ := Aside0.mk ((by rw [hg]; exact Nat.ne_of_gt (blk_lt (g := gb143) (o := .cells #[.slice A0_0 l0_0.length c0_0, .slice A0_1 l0_1.length c0_1] 25 (0, 0)) (by (with_reducible repeat (first | refine blk_drewN ?_ _ | refine blk_drew ?_ | refine blk_alloc ?_ _)); exact BK143.out)) : gb157 ≠ gb143)); have n11_ := Aside0.mk ((by rw [hg]; exact Nat.ne_of_lt (blk_lt (g := gb144) (o := .cells #[.int .u8 a1_0, .int .u8 a1_1, .string a1_2, .slice (some ad156) l1_3.length c1_3] 36 (0, 0)) (by (with_reducible repeat (first | refine blk_drewN ?_ _ | refine blk_drew ?_ | refine blk_alloc ?_ _)); exact BK144.out)) : gb144 ≠ gb157)); have n12_ := Aside0.mk ((by rw [hg]; exact Nat.ne_of_gt (blk_lt (g := gb144) (o := .cells #[.int .u8 a1_0, .int .u8 a1_1, .string a1_2, .slice (some ad156) l1_3.length c1_3] 36 (0, 0)) (by (with_reducible repeat (first | refine blk_drewN ?_ _ | refine blk_drew ?_ | refine blk_alloc ?_ _)); exact BK144.out)) : gb157 ≠ gb144)); have n13_ := Aside0.mk ((by rw [hg]; exact Nat.ne_of_lt (blk_lt (g := gb152) (o := .cells #[.int .u8 t147, .slice Ao39 t148.length co39, .int .i64 t151] 57 (0, 0)) (by (with_reducible repeat (first | refine blk_drewN ?_ _ | refine blk_drew ?_ | refine blk_alloc ?_ _)); exact BK152.out)) : gb152 ≠ gb157)); have n14_ := Aside0.mk ((by rw [hg]; exact Nat.ne_of_gt (blk_lt (g := gb152) (o := .cells #[.int .u8 t147, .slice Ao39 t148.length co39, .int .i64 t151] 57 (0, 0)) (by (with_reducible repeat (first | refine blk_drewN ?_ _ | refine blk_drew ?_ | refine blk_alloc ?_ _)); exact BK152.out)) : gb157 ≠ gb152)); clear HO_7; clear HO_153001; clear BK143; clear BK144; clear BK152; clear HB; have HO_7 := n0_; have HO_153001 := n1_; have BK143 := n2_; have BK144 := n3_; have BK152 := n4_; have HB := n5_; have BK157 := n6_; have GW157 := n7_; have GE157 := n8_; have NB143_157 := n9_; have NB157_143 := n10_; have NB144_157 := n11_; have NB157_144 := n12_; have NB152_157 := n13_; have NB157_152 := n14_; clear n0_ n1_ n2_ n3_ n4_ n5_ n6_ n7_ n8_ n9_ n10_ n11_ n12_ n13_ n14_; clear hb hbox hg; have hnb62 := NB157_143.out; have hnc62 := NB143_157.out; have hnb63 := NB157_144.out; have hnc63 := NB144_157.out; have hnb64 := NB157_152.out; have hnc64 := NB152_157.out; have hcz65_0 : w61.cell? ⟨gb157, 0, none⟩ = some (.int .i64 0) := (blk_cell BK157.out 0).trans rfl; have hcz65_1 : w61.cell? ⟨gb157, 1, none⟩ = some (.int .i64 0) := (blk_cell BK157.out 1).trans rfl; have hcz65_2 : w61.cell? ⟨gb157, 2, none⟩ = some (.string (⟨#[]⟩ : ByteArray)) := (blk_cell BK157.out 2).trans rfl; have hcz65_3 : w61.cell? ⟨gb157, 3, none⟩ = some (.int .i64 0) := (blk_cell BK157.out 3).trans rfl; have hcz65_4 : w61.cell? ⟨gb157, 4, none⟩ = some (.bool false) := (blk_cell BK157.out 4).trans rfl; have hfz65_0 := blk_frozen BK157.out 0; have hfz65_1 := blk_frozen BK157.out 1; have hfz65_2 := blk_frozen BK157.out 2; have hfz65_3 := blk_frozen BK157.out 3; have hfz65_4 := blk_frozen BK157.out 4))
             have n0_ : Aside0 (Kd.R (Kd.int .i64) 3 (((((w61.setCell ⟨gb157, 0, none⟩ (.int .i64 ((rd_T48 l1_3 x34_2).f0))).setCell ⟨gb157, 1, none⟩ (.int .i64 ((rd_T48 l1_3 x34_2).f1))).setCell ⟨gb157, 2, none⟩ (.string ((rd_T48 l1_3 x34_2).f2))).setCell ⟨gb157, 3, none⟩ (.int .i64 ((rd_T48 l1_3 x34_2).f3))).setCell ⟨gb157, 4, none⟩ (.bool ((rd_T48 l1_3 x34_2).f4))) w.heap.size (fun _ => True) u7 x7_2) := ⟨by (with_reducible repeat (first | apply Kd.R_alloc | apply Kd.R_drewN | apply Kd.R_drew)); exact Kd.R_mono (Kd.R_far (p := ⟨gb157, 4, none⟩) (Kd.R_far (p := ⟨gb157, 3, none⟩) (Kd.R_far (p := ⟨gb157, 2, none⟩) (Kd.R_far (p := ⟨gb157, 1, none⟩) (Kd.R_far (p := ⟨gb157, 0, none⟩) (Kd.R_types HO_7.out BK157.out (by decide)) (fun _ hk => hk.2) (.int .i64 ((rd_T48 l1_3 x34_2).f0))) (fun _ hk => hk.2) (.int .i64 ((rd_T48 l1_3 x34_2).f1))) (fun _ hk => hk.2) (.string ((rd_T48 l1_3 x34_2).f2))) (fun _ hk => hk.2) (.int .i64 ((rd_T48 l1_3 x34_2).f3))) (fun _ hk => hk.2) (.bool ((rd_T48 l1_3 x34_2).f4))) (fun _ hk => trivial)⟩
             have n1_ : Aside0 (Kd.V k61 61 (((((w61.setCell ⟨gb157, 0, none⟩ (.int .i64 ((rd_T48 l1_3 x34_2).f0))).setCell ⟨gb157, 1, none⟩ (.int .i64 ((rd_T48 l1_3 x34_2).f1))).setCell ⟨gb157, 2, none⟩ (.string ((rd_T48 l1_3 x34_2).f2))).setCell ⟨gb157, 3, none⟩ (.int .i64 ((rd_T48 l1_3 x34_2).f3))).setCell ⟨gb157, 4, none⟩ (.bool ((rd_T48 l1_3 x34_2).f4))) w.heap.size (fun k_ => some k_ ≠ (u7 : Value).ownBlock ∧ k_ ≠ gb143 ∧ k_ ≠ gb144 ∧ k_ ≠ gb152 ∧ k_ ≠ gb157) (.slice Ao39 t148.length co39) t148) := ⟨by (with_reducible repeat (first | apply Kd.V_alloc | apply Kd.V_drewN | apply Kd.V_drew)); exact Kd.V_mono (Kd.V_far (p := ⟨gb157, 4, none⟩) (Kd.V_far (p := ⟨gb157, 3, none⟩) (Kd.V_far (p := ⟨gb157, 2, none⟩) (Kd.V_far (p := ⟨gb157, 1, none⟩) (Kd.V_far (p := ⟨gb157, 0, none⟩) (Kd.V_mono HO_153001.out (fun k_ hk => (⟨hk, hk.2⟩ : _ ∧ k_ ≠ gb157))) (fun _ hk => hk.2) (.int .i64 ((rd_T48 l1_3 x34_2).f0))) (fun _ hk => hk.2) (.int .i64 ((rd_T48 l1_3 x34_2).f1))) (fun _ hk => hk.2) (.string ((rd_T48 l1_3 x34_2).f2))) (fun _ hk => hk.2) (.int .i64 ((rd_T48 l1_3 x34_2).f3))) (fun _ hk => hk.2) (.bool ((rd_T48 l1_3 x34_2).f4))) (fun _ hk => ⟨hk.1.1.1, ⟨hk.1.1.2.1, ⟨hk.1.1.2.2.1, ⟨hk.1.1.2.2.2, hk.1.2⟩⟩⟩⟩)⟩
             have n2_ : Aside0 ((((((w61.setCell ⟨gb157, 0, none⟩ (.int .i64 ((rd_T48 l1_3 x34_2).f0))).setCell ⟨gb157, 1, none⟩ (.int .i64 ((rd_T48 l1_3 x34_2).f1))).setCell ⟨gb157, 2, none⟩ (.string ((rd_T48 l1_3 x34_2).f2))).setCell ⟨gb157, 3, none⟩ (.int .i64 ((rd_T48 l1_3 x34_2).f3))).setCell ⟨gb157, 4, none⟩ (.bool ((rd_T48 l1_3 x34_2).f4))).heap[gb143]? = some (.cells #[.slice A0_0 l0_0.length c0_0, .slice A0_1 l0_1.length c0_1] 25 (0, 0))) := ⟨by (with_reducible repeat (first | refine blk_drewN ?_ _ | refine blk_drew ?_ | refine blk_alloc ?_ _)); refine blk_far ?_ NB143_157.out _; (with_reducible repeat (first | refine blk_drewN ?_ _ | refine blk_drew ?_ | refine blk_alloc ?_ _)); refine blk_far ?_ NB143_157.out _; (with_reducible repeat (first | refine blk_drewN ?_ _ | refine blk_drew ?_ | refine blk_alloc ?_ _)); refine blk_far ?_ NB143_157.out _; (with_reducible repeat (first | refine blk_drewN ?_ _ | refine blk_drew ?_ | refine blk_alloc ?_ _)); refine blk_far ?_ NB143_157.out _; (with_reducible repeat (first | refine blk_drewN ?_ _ | refine blk_drew ?_ | refine blk_alloc ?_ _)); refine blk_far ?_ NB143_157.out _; (with_reducible repeat (first | refine blk_drewN ?_ _ | refine blk_drew ?_ | refine blk_alloc ?_ _)); exact BK143.out⟩
             have n3_ : Aside0 ((((((w61.setCell ⟨gb157, 0, none⟩ (.int .i64 ((rd_T48 l1_3 x34_2).f0))).setCell ⟨gb157, 1, none⟩ (.int .i64 ((rd_T48 l1_3 x34_2).f1))).setCell ⟨gb157, 2, none⟩ (.string ((rd_T48 l1_3 x34_2).f2))).setCell ⟨gb157, 3, none⟩ (.int .i64 ((rd_T48 l1_3 x34_2).f3))).setCell ⟨gb157, 4, none⟩ (.bool ((rd_T48 l1_3 x34_2).f4))).heap[gb144]? = some (.cells #[.int .u8 a1_0, .int .u8 a1_1, .string a1_2, .slice (some ad156) l1_3.length c1_3] 36 (0, 0))) := ⟨by (with_reducible repeat (first | refine blk_drewN ?_ _ | refine blk_drew ?_ | refine blk_alloc ?_ _)); refine blk_far ?_ NB144_157.out _; (with_reducible repeat (first | refine blk_drewN ?_ _ | refine blk_drew ?_ | refine blk_alloc ?_ _)); refine blk_far ?_ NB144_157.out _; (with_reducible repeat (first | refine blk_drewN ?_ _ | refine blk_drew ?_ | refine blk_alloc ?_ _)); refine blk_far ?_ NB144_157.out _; (with_reducible repeat (first | refine blk_drewN ?_ _ | refine blk_drew ?_ | refine blk_alloc ?_ _)); refine blk_far ?_ NB144_157.out _; (with_reducible repeat (first | refine blk_drewN ?_ _ | refine blk_drew ?_ | refine blk_alloc ?_ _)); refine blk_far ?_ NB144_157.out _; (with_reducible repeat (first | refine blk_drewN ?_ _ | refine blk_drew ?_ | refine blk_alloc ?_ _)); exact BK144.out⟩
             have n4_ : Aside0 ((((((w61.setCell ⟨gb157, 0, none⟩ (.int .i64 ((rd_T48 l1_3 x34_2).f0))).setCell ⟨gb157, 1, none⟩ (.int .i64 ((rd_T48 l1_3 x34_2).f1))).setCell ⟨gb157, 2, none⟩ (.string ((rd_T48 l1_3 x34_2).f2))).setCell ⟨gb157, 3, none⟩ (.int .i64 ((rd_T48 l1_3 x34_2).f3))).setCell ⟨gb157, 4, none⟩ (.bool ((rd_T48 l1_3 x34_2).f4))).heap[gb152]? = some (.cells #[.int .u8 t147, .slice Ao39 t148.length co39, .int .i64 t151] 57 (0, 0))) := ⟨by (with_reducible repeat (first | refine blk_drewN ?_ _ | refine blk_drew ?_ | refine blk_alloc ?_ _)); refine blk_far ?_ NB152_157.out _; (with_reducible repeat (first | refine blk_drewN ?_ _ | refine blk_drew ?_ | refine blk_alloc ?_ _)); refine blk_far ?_ NB152_157.out _; (with_reducible repeat (first | refine blk_drewN ?_ _ | refine blk_drew ?_ | refine blk_alloc ?_ _)); refine blk_far ?_ NB152_157.out _; (with_reducible repeat (first | refine blk_drewN ?_ _ | refine blk_drew ?_ | refine blk_alloc ?_ _)); refine blk_far ?_ NB152_157.out _; (with_reducible repeat (first | refine blk_drewN ?_ _ | refine blk_drew ?_ | refine blk_alloc ?_ _)); refine blk_far ?_ NB152_157.out _; (with_reducible repeat (first | refine blk_drewN ?_ _ | refine blk_drew ?_ | refine blk_alloc ?_ _)); exact BK152.out⟩
             have n5_ : Aside0 ((((((w61.setCell ⟨gb157, 0, none⟩ (.int .i64 ((rd_T48 l1_3 x34_2).f0))).setCell ⟨gb157, 1, none⟩ (.int .i64 ((rd_T48 l1_3 x34_2).f1))).setCell ⟨gb157, 2, none⟩ (.string ((rd_T48 l1_3 x34_2).f2))).setCell ⟨gb157, 3, none⟩ (.int .i64 ((rd_T48 l1_3 x34_2).f3))).setCell ⟨gb157, 4, none⟩ (.bool ((rd_T48 l1_3 x34_2).f4))).heap[gb157]? = some (.cells #[.int .i64 ((rd_T48 l1_3 x34_2).f0), .int .i64 ((rd_T48 l1_3 x34_2).f1), .string ((rd_T48 l1_3 x34_2).f2), .int .i64 ((rd_T48 l1_3 x34_2).f3), .bool ((rd_T48 l1_3 x34_2).f4)] 48 (0, 0))) := ⟨by (with_reducible repeat (first | refine blk_drewN ?_ _ | refine blk_drew ?_ | refine blk_alloc ?_ _)); refine blk_put (cs := #[.int .i64 ((rd_T48 l1_3 x34_2).f0), .int .i64 ((rd_T48 l1_3 x34_2).f1), .string ((rd_T48 l1_3 x34_2).f2), .int .i64 ((rd_T48 l1_3 x34_2).f3), .bool false]) ?_ 4 _ rfl; (with_reducible repeat (first | refine blk_drewN ?_ _ | refine blk_drew ?_ | refine blk_alloc ?_ _)); refine blk_put (cs := #[.int .i64 ((rd_T48 l1_3 x34_2).f0), .int .i64 ((rd_T48 l1_3 x34_2).f1), .string ((rd_T48 l1_3 x34_2).f2), .int .i64 0, .bool false]) ?_ 3 _ rfl; (with_reducible repeat (first | refine blk_drewN ?_ _ | refine blk_drew ?_ | refine blk_alloc ?_ _)); refine blk_put (cs := #[.int .i64 ((rd_T48 l1_3 x34_2).f0), .int .i64 ((rd_T48 l1_3 x34_2).f1), .string (⟨#[]⟩ : ByteArray), .int .i64 0, .bool false]) ?_ 2 _ rfl; (with_reducible repeat (first | refine blk_drewN ?_ _ | refine blk_drew ?_ | refine blk_alloc ?_ _)); refine blk_put (cs := #[.int .i64 ((rd_T48 l1_3 x34_2).f0), .int .i64 0, .string (⟨#[]⟩ : ByteArray), .int .i64 0, .bool false]) ?_ 1 _ rfl; (with_reducible repeat (first | refine blk_drewN ?_ _ | refine blk_drew ?_ | refine blk_alloc ?_ _)); refine blk_put (cs := #[.int .i64 0, .int .i64 0, .string (⟨#[]⟩ : ByteArray), .int .i64 0, .bool false]) ?_ 0 _ rfl; (with_reducible repeat (first | refine blk_drewN ?_ _ | refine blk_drew ?_ | refine blk_alloc ?_ _)); exact BK157.out⟩
             have n6_ : Aside0 (Below w.heap.size w (((((w61.setCell ⟨gb157, 0, none⟩ (.int .i64 ((rd_T48 l1_3 x34_2).f0))).setCell ⟨gb157, 1, none⟩ (.int .i64 ((rd_T48 l1_3 x34_2).f1))).setCell ⟨gb157, 2, none⟩ (.string ((rd_T48 l1_3 x34_2).f2))).setCell ⟨gb157, 3, none⟩ (.int .i64 ((rd_T48 l1_3 x34_2).f3))).setCell ⟨gb157, 4, none⟩ (.bool ((rd_T48 l1_3 x34_2).f4)))) := ⟨by repeat (first | (with_reducible first | exact HB.out | apply below_alloc | apply pw_below_drewN | apply below_drew1 | refine below_set ?_ GE143.out | refine below_set ?_ GE144.out | refine below_set ?_ GE152.out | refine below_set ?_ GE157.out) | exact HB.out)⟩
             (try clear HO_7)
             (try clear HO_153001)
             (try clear BK143)
             (try clear BK144)
             (try clear BK152)
             (try clear BK157)
             (try clear HB)
             generalize (((((w61.setCell ⟨gb157, 0, none⟩ (.int .i64 ((rd_T48 l1_3 x34_2).f0))).setCell ⟨gb157, 1, none⟩ (.int .i64 ((rd_T48 l1_3 x34_2).f1))).setCell ⟨gb157, 2, none⟩ (.string ((rd_T48 l1_3 x34_2).f2))).setCell ⟨gb157, 3, none⟩ (.int .i64 ((rd_T48 l1_3 x34_2).f3))).setCell ⟨gb157, 4, none⟩ (.bool ((rd_T48 l1_3 x34_2).f4))) = w66 at n0_ n1_ n2_ n3_ n4_ n5_ n6_ ⊢
             have HO_7 := n0_
             have HO_153001 := n1_
             have BK143 := n2_
             have BK144 := n3_
             have BK152 := n4_
             have BK157 := n5_
             have HB := n6_
             clear n0_ n1_ n2_ n3_ n4_ n5_ n6_
             have n0_ := Aside0.mk (Kd.R_drew HO_7.out)
             have n1_ := Aside0.mk (Kd.V_drew HO_153001.out)
             have n2_ := Aside0.mk (blk_drew BK143.out)
             have n3_ := Aside0.mk (blk_drew BK144.out)
             have n4_ := Aside0.mk (blk_drew BK152.out)
             have n5_ := Aside0.mk (blk_drew BK157.out)
             have n6_ := Aside0.mk (below_drew1 HB.out)
             clear HO_7
             clear HO_153001
             clear BK143
             clear BK144
             clear BK152
             clear BK157
             clear HB
             have HO_7 := n0_
             have HO_153001 := n1_
             have BK143 := n2_
             have BK144 := n3_
             have BK152 := n4_
             have BK157 := n5_
             have HB := n6_
             clear n0_ n1_ n2_ n3_ n4_ n5_ n6_
             refine start_ (n := 15) (S := fun w' => w'.cell? ⟨gb152, 0, none⟩ = some (.int .u8 t147) ∧ w'.cell? ⟨gb152, 1, none⟩ = some (.slice Ao39 t148.length co39) ∧ w'.cell? ⟨gb152, 2, none⟩ = some (.int .i64 t151) ∧ w'.cell? ⟨gb143, 0, none⟩ = some (.slice A0_0 l0_0.length c0_0) ∧ w'.cell? ⟨gb143, 1, none⟩ = some (.slice A0_1 l0_1.length c0_1) ∧ w'.cell? ⟨gb144, 0, none⟩ = some (.int .u8 a1_0) ∧ w'.cell? ⟨gb144, 1, none⟩ = some (.int .u8 a1_1) ∧ w'.cell? ⟨gb144, 2, none⟩ = some (.string a1_2) ∧ w'.cell? ⟨gb144, 3, none⟩ = some (.slice (some ad156) l1_3.length c1_3) ∧ w'.cell? ⟨gb157, 0, none⟩ = some (.int .i64 ((rd_T48 l1_3 x34_2).f0)) ∧ w'.cell? ⟨gb157, 1, none⟩ = some (.int .i64 ((rd_T48 l1_3 x34_2).f1)) ∧ w'.cell? ⟨gb157, 2, none⟩ = some (.string ((rd_T48 l1_3 x34_2).f2)) ∧ w'.cell? ⟨gb157, 3, none⟩ = some (.int .i64 ((rd_T48 l1_3 x34_2).f3)) ∧ w'.cell? ⟨gb157, 4, none⟩ = some (.bool ((rd_T48 l1_3 x34_2).f4))) (ds := []) #[false, false, false, false, false, false, false, false, false, false, false, false, false, false, false] (by kernel_rfl) rfl rfl ⟨(blk_cell BK152.out 0).trans rfl, (blk_cell BK152.out 1).trans rfl, (blk_cell BK152.out 2).trans rfl, (blk_cell BK143.out 0).trans rfl, (blk_cell BK143.out 1).trans rfl, (blk_cell BK144.out 0).trans rfl, (blk_cell BK144.out 1).trans rfl, (blk_cell BK144.out 2).trans rfl, (blk_cell BK144.out 3).trans rfl, (blk_cell BK157.out 0).trans rfl, (blk_cell BK157.out 1).trans rfl, (blk_cell BK157.out 2).trans rfl, (blk_cell BK157.out 3).trans rfl, (blk_cell BK157.out 4).trans rfl⟩ (fun hHeld => ?_); refine with_tabW tariff_Bases.tab10 tariff_Bases.bits10 (fun HT_ HW_ => ?_)
             generalize w66.drew = w67 at HO_7 HO_153001 BK143 BK144 BK152 BK157 HB hHeld ⊢
             refine pure_ (i := 2) (N := some 41) (v := ?_) (a' := ?_) #[false, false, true, false, false, false, false, false, false, false, false, false, false, false, false] rfl rfl (any_of HT_.out (by kernel_rfl)) (fun _ _ _ h => h) (Or.inl ⟨by rfl, ?_⟩) ?_ ?_
             rotate_left
             ·intro w'
              go_simp
              with_reducible rfl
             rotate_left
             ·simp only [Act.put, sl1, sl2, sl3, i64_w, i32_w]
              rfl
             refine pure_ (i := 4) (N := some 43) (v := ?_) (a' := ?_) #[false, false, true, false, true, false, false, false, false, false, false, false, false, false, false] rfl rfl (any_of HT_.out (by kernel_rfl)) (fun _ _ _ h => h) (Or.inl ⟨by rfl, ?_⟩) ?_ ?_
             rotate_left
             ·intro w'
              go_simp
              with_reducible rfl
             rotate_left
             ·simp only [Act.put, sl1, sl2, sl3, i64_w, i32_w]
              rfl
             refine pure_ (i := 7) (N := some 46) (v := ?_) (a' := ?_) #[false, false, true, false, true, false, false, true, false, false, false, false, false, false, false] rfl rfl (any_of HT_.out (by kernel_rfl)) (fun _ _ _ h => h) (Or.inl ⟨by rfl, ?_⟩) ?_ ?_
             rotate_left
             ·intro w'
              go_simp
              with_reducible rfl
             rotate_left
             ·simp only [Act.put, sl1, sl2, sl3, i64_w, i32_w]
              rfl
             refine take_ (i := 0) (N := some 39) (v := ?_) (a' := ?_) #[true, false, true, false, true, false, false, true, false, false, false, false, false, false, false] rfl rfl (take_ofW HT_.out HW_.out (by kernel_rfl)) (fun _ _ _ h => h) (Or.inl ⟨by rfl, ?_⟩) hHeld ?_ ?_
             rotate_left
             ·rintro w' ⟨s0, s1, s2, s3, s4, s5, s6, s7, s8, s9, s10, s11, s12, s13⟩
              go_simp
              with_reducible rfl
             rotate_left
             ·simp only [Act.put, sl1, sl2, sl3, i64_w, i32_w]
              rfl
             refine take_ (i := 1) (N := some 40) (v := ?_) (a' := ?_) #[true, true, true, false, true, false, false, true, false, false, false, false, false, false, false] rfl rfl (take_ofW HT_.out HW_.out (by kernel_rfl)) (fun _ _ _ h => h) (Or.inl ⟨by rfl, ?_⟩) hHeld ?_ ?_
             rotate_left
             ·rintro w' ⟨s0, s1, s2, s3, s4, s5, s6, s7, s8, s9, s10, s11, s12, s13⟩
              go_simp
              with_reducible rfl
             rotate_left
             ·simp only [Act.put, sl1, sl2, sl3, i64_w, i32_w]
              rfl
             refine take_ (i := 3) (N := some 42) (v := ?_) (a' := ?_) #[true, true, true, true, true, false, false, true, false, false, false, false, false, false, false] rfl rfl (take_ofW HT_.out HW_.out (by kernel_rfl)) (fun _ _ _ h => h) (Or.inl ⟨by rfl, ?_⟩) hHeld ?_ ?_
             rotate_left
             ·rintro w' ⟨s0, s1, s2, s3, s4, s5, s6, s7, s8, s9, s10, s11, s12, s13⟩
              go_simp
              with_reducible rfl
             rotate_left
             ·simp only [Act.put, sl1, sl2, sl3, i64_w, i32_w]
              rfl
             refine take_ (i := 5) (N := some 44) (v := ?_) (a' := ?_) #[true, true, true, true, true, true, false, true, false, false, false, false, false, false, false] rfl rfl (take_ofW HT_.out HW_.out (by kernel_rfl)) (fun _ _ _ h => h) (Or.inl ⟨by rfl, ?_⟩) hHeld ?_ ?_
             rotate_left
             ·rintro w' ⟨s0, s1, s2, s3, s4, s5, s6, s7, s8, s9, s10, s11, s12, s13⟩
              go_simp
              with_reducible rfl
             rotate_left
             ·simp only [Act.put, sl1, sl2, sl3, i64_w, i32_w]
              rfl
             refine take_ (i := 8) (N := some 47) (v := ?_) (a' := ?_) #[true, true, true, true, true, true, false, true, true, false, false, false, false, false, false] rfl rfl (take_ofW HT_.out HW_.out (by kernel_rfl)) (fun _ _ _ h => h) (Or.inl ⟨by rfl, ?_⟩) hHeld ?_ ?_
             rotate_left
             ·rintro w' ⟨s0, s1, s2, s3, s4, s5, s6, s7, s8, s9, s10, s11, s12, s13⟩
              go_simp
              with_reducible rfl
             rotate_left
             ·simp only [Act.put, sl1, sl2, sl3, i64_w, i32_w]
              rfl
             refine one_ (i := 6) (N := some 45) #[true, true, true, true, true, true, true, true, true, false, false, false, false, false, false] rfl rfl (one_of HT_.out (by kernel_rfl)) (by decide) (fun K hK => ?_)
             refine goes_ Tryd.func43 (by kernel_rfl) rfl #[.agg #[.slice A0_0 l0_0.length c0_0, .slice A0_1 l0_1.length c0_1], .string a1_2, .string ((rd_T48 l1_3 x34_2).f2)] (by rfl) rfl rfl (by (try simp only [List.map_toArray, List.map_cons, List.map_nil]); first | done | rfl | (simp only [List.length_drop, List.length_take]; rfl)) ?_
             with_reducible refine (tariff_zone.calls k2 _ _ l0_0 _ _ l0_1 a1_2 ((rd_T48 l1_3 x34_2).f2) t158 _ ?side1 ?side2 ?side3 ?side4 A47.out).mono ?_
             (case side1 => repeat (first | exact (Kd.C_below HR0_0.out HB.out) | (with_reducible refine Kd.C_alloc ?_ _) | (with_reducible refine Kd.C_drewN ?_ _) | (with_reducible refine Kd.C_drew ?_)))
             (case side2 => exact HC0_0.out)
             (case side3 => repeat (first | exact (Kd.C_below HR0_1.out HB.out) | (with_reducible refine Kd.C_alloc ?_ _) | (with_reducible refine Kd.C_drewN ?_ _) | (with_reducible refine Kd.C_drew ?_)))
             (case side4 => exact HC0_1.out)
             rintro e w68 ⟨rfl, hb⟩
             refine ⟨_, rfl, ?_⟩
             have n0_ := Aside0.mk (Kd.R_below (by (with_reducible repeat (first | apply Kd.R_alloc | apply Kd.R_drewN | apply Kd.R_drew)); exact HO_7.out) hb)
             have n1_ := Aside0.mk (Kd.V_below (by (with_reducible repeat (first | apply Kd.V_alloc | apply Kd.V_drewN | apply Kd.V_drew)); exact HO_153001.out) hb)
             have n2_ := Aside0.mk (blk_below (g := gb143) (o := .cells #[.slice A0_0 l0_0.length c0_0, .slice A0_1 l0_1.length c0_1] 25 (0, 0)) (by (with_reducible repeat (first | refine blk_drewN ?_ _ | refine blk_drew ?_ | refine blk_alloc ?_ _)); exact BK143.out) hb)
             have n3_ := Aside0.mk (blk_below (g := gb144) (o := .cells #[.int .u8 a1_0, .int .u8 a1_1, .string a1_2, .slice (some ad156) l1_3.length c1_3] 36 (0, 0)) (by (with_reducible repeat (first | refine blk_drewN ?_ _ | refine blk_drew ?_ | refine blk_alloc ?_ _)); exact BK144.out) hb)
             have n4_ := Aside0.mk (blk_below (g := gb152) (o := .cells #[.int .u8 t147, .slice Ao39 t148.length co39, .int .i64 t151] 57 (0, 0)) (by (with_reducible repeat (first | refine blk_drewN ?_ _ | refine blk_drew ?_ | refine blk_alloc ?_ _)); exact BK152.out) hb)
             have n5_ := Aside0.mk (blk_below (g := gb157) (o := .cells #[.int .i64 ((rd_T48 l1_3 x34_2).f0), .int .i64 ((rd_T48 l1_3 x34_2).f1), .string ((rd_T48 l1_3 x34_2).f2), .int .i64 ((rd_T48 l1_3 x34_2).f3), .bool ((rd_T48 l1_3 x34_2).f4)] 48 (0, 0)) (by (with_reducible repeat (first | refine blk_drewN ?_ _ | refine blk_drew ?_ | refine blk_alloc ?_ _)); exact BK157.out) hb)
             have n6_ := Aside0.mk (below_step (by repeat (first | (with_reducible first | exact HB.out | apply below_alloc | apply pw_below_drewN | apply below_drew1 | refine below_set ?_ GE143.out | refine below_set ?_ GE144.out | refine below_set ?_ GE152.out | refine below_set ?_ GE157.out) | exact HB.out)) hb)
             clear HO_7
             clear HO_153001
             clear BK143
             clear BK144
             clear BK152
             clear BK157
             clear HB
             have HO_7 := n0_
             have HO_153001 := n1_
             have BK143 := n2_
             have BK144 := n3_
             have BK152 := n4_
             have BK157 := n5_
             have HB := n6_
             clear n0_ n1_ n2_ n3_ n4_ n5_ n6_
             (try clear hb)
             (try clear hb2)
             (try clear hk)
             (try clear hi)
             refine hK.out _ _ ⟨(blk_cell BK152.out 0).trans rfl, (blk_cell BK152.out 1).trans rfl, (blk_cell BK152.out 2).trans rfl, (blk_cell BK143.out 0).trans rfl, (blk_cell BK143.out 1).trans rfl, (blk_cell BK144.out 0).trans rfl, (blk_cell BK144.out 1).trans rfl, (blk_cell BK144.out 2).trans rfl, (blk_cell BK144.out 3).trans rfl, (blk_cell BK157.out 0).trans rfl, (blk_cell BK157.out 1).trans rfl, (blk_cell BK157.out 2).trans rfl, (blk_cell BK157.out 3).trans rfl, (blk_cell BK157.out 4).trans rfl⟩ (fun hHeld => ?_)
             clear hK K
             refine norm_ (a' := ?_) ?_ ?_
             rotate_left
             ·show Act.put _ (some 45) _ = _
              simp only [Act.put, sl1, sl2, sl3, i64_w, i32_w]
              rfl
             refine one_ (i := 9) (N := some 48) #[true, true, true, true, true, true, true, true, true, true, false, false, false, false, false] rfl rfl (one_of HT_.out (by kernel_rfl)) (by decide) (fun K hK => ?_)
             refine goes_ Tryd.func42 (by kernel_rfl) rfl #[.agg #[.int .u8 t147, .slice Ao39 t148.length co39, .int .i64 t151], .int .i64 t158, .int .i64 ((rd_T48 l1_3 x34_2).f3)] (by rfl) rfl rfl (by (try simp only [List.map_toArray, List.map_cons, List.map_nil]); first | done | rfl | (simp only [List.length_drop, List.length_take]; rfl)) ?_
             with_reducible refine (tariff_price.calls t147 _ _ t148 t151 t158 ((rd_T48 l1_3 x34_2).f3) t159 t160 _ ?side1 ?side2 A48.out).mono ?_
             (case side1 => repeat (first | exact (Kd.V_reads' HO_153001.out).2.2 | (with_reducible refine Kd.C_alloc ?_ _) | (with_reducible refine Kd.C_drewN ?_ _) | (with_reducible refine Kd.C_drew ?_)))
             (case side2 => exact (Kd.V_reads' HO_153001.out).2.1)
             rintro e w69 ⟨rfl, hb⟩
             refine ⟨_, rfl, ?_⟩
             have n0_ := Aside0.mk (Kd.R_below (by (with_reducible repeat (first | apply Kd.R_alloc | apply Kd.R_drewN | apply Kd.R_drew)); exact HO_7.out) hb)
             have n1_ := Aside0.mk (Kd.V_below (by (with_reducible repeat (first | apply Kd.V_alloc | apply Kd.V_drewN | apply Kd.V_drew)); exact HO_153001.out) hb)
             have n2_ := Aside0.mk (blk_below (g := gb143) (o := .cells #[.slice A0_0 l0_0.length c0_0, .slice A0_1 l0_1.length c0_1] 25 (0, 0)) (by (with_reducible repeat (first | refine blk_drewN ?_ _ | refine blk_drew ?_ | refine blk_alloc ?_ _)); exact BK143.out) hb)
             have n3_ := Aside0.mk (blk_below (g := gb144) (o := .cells #[.int .u8 a1_0, .int .u8 a1_1, .string a1_2, .slice (some ad156) l1_3.length c1_3] 36 (0, 0)) (by (with_reducible repeat (first | refine blk_drewN ?_ _ | refine blk_drew ?_ | refine blk_alloc ?_ _)); exact BK144.out) hb)
             have n4_ := Aside0.mk (blk_below (g := gb152) (o := .cells #[.int .u8 t147, .slice Ao39 t148.length co39, .int .i64 t151] 57 (0, 0)) (by (with_reducible repeat (first | refine blk_drewN ?_ _ | refine blk_drew ?_ | refine blk_alloc ?_ _)); exact BK152.out) hb)
             have n5_ := Aside0.mk (blk_below (g := gb157) (o := .cells #[.int .i64 ((rd_T48 l1_3 x34_2).f0), .int .i64 ((rd_T48 l1_3 x34_2).f1), .string ((rd_T48 l1_3 x34_2).f2), .int .i64 ((rd_T48 l1_3 x34_2).f3), .bool ((rd_T48 l1_3 x34_2).f4)] 48 (0, 0)) (by (with_reducible repeat (first | refine blk_drewN ?_ _ | refine blk_drew ?_ | refine blk_alloc ?_ _)); exact BK157.out) hb)
             have n6_ := Aside0.mk (below_step (by repeat (first | (with_reducible first | exact HB.out | apply below_alloc | apply pw_below_drewN | apply below_drew1 | refine below_set ?_ GE143.out | refine below_set ?_ GE144.out | refine below_set ?_ GE152.out | refine below_set ?_ GE157.out) | exact HB.out)) hb)
             clear HO_7
             clear HO_153001
             clear BK143
             clear BK144
             clear BK152
             clear BK157
             clear HB
             have HO_7 := n0_
             have HO_153001 := n1_
             have BK143 := n2_
             have BK144 := n3_
             have BK152 := n4_
             have BK157 := n5_
             have HB := n6_
             clear n0_ n1_ n2_ n3_ n4_ n5_ n6_
             (try clear hb)
             (try clear hb2)
             (try clear hk)
             (try clear hi)
             refine hK.out _ _ ⟨(blk_cell BK152.out 0).trans rfl, (blk_cell BK152.out 1).trans rfl, (blk_cell BK152.out 2).trans rfl, (blk_cell BK143.out 0).trans rfl, (blk_cell BK143.out 1).trans rfl, (blk_cell BK144.out 0).trans rfl, (blk_cell BK144.out 1).trans rfl, (blk_cell BK144.out 2).trans rfl, (blk_cell BK144.out 3).trans rfl, (blk_cell BK157.out 0).trans rfl, (blk_cell BK157.out 1).trans rfl, (blk_cell BK157.out 2).trans rfl, (blk_cell BK157.out 3).trans rfl, (blk_cell BK157.out 4).trans rfl⟩ (fun hHeld => ?_)
             clear hK K
             refine norm_ (a' := ?_) ?_ ?_
             rotate_left
             ·show Act.put _ (some 48) _ = _
              simp only [Act.put, sl1, sl2, sl3, i64_w, i32_w]
              rfl
             refine pure_ (i := 10) (N := some 38) (v := ?_) (a' := ?_) #[true, true, true, true, true, true, true, true, true, true, true, false, false, false, false] rfl rfl (any_of HT_.out (by kernel_rfl)) (fun _ _ _ h => h) (Or.inl ⟨by rfl, ?_⟩) ?_ ?_
             rotate_left
             ·intro w'
              go_simp
              with_reducible rfl
             rotate_left
             ·simp only [Act.put, sl1, sl2, sl3, i64_w, i32_w]
              rfl
             refine pure_ (i := 11) (N := some 49) (v := ?_) (a' := ?_) #[true, true, true, true, true, true, true, true, true, true, true, true, false, false, false] rfl rfl (any_of HT_.out (by kernel_rfl)) (fun _ _ _ h => h) (Or.inl ⟨by rfl, ?_⟩) ?_ ?_
             rotate_left
             ·intro w'
              go_simp
              with_reducible rfl
             rotate_left
             ·simp only [Act.put, sl1, sl2, sl3, i64_w, i32_w]
              rfl
             refine pure_ (i := 12) (N := some 50) (v := ?_) (a' := ?_) #[true, true, true, true, true, true, true, true, true, true, true, true, true, false, false] rfl rfl (any_of HT_.out (by kernel_rfl)) (fun _ _ _ h => h) (Or.inl ⟨by rfl, ?_⟩) ?_ ?_
             rotate_left
             ·intro w'
              go_simp
              with_reducible rfl
             rotate_left
             ·simp only [Act.put, sl1, sl2, sl3, i64_w, i32_w]
              rfl
             refine pure_ (i := 13) (N := some 10) (v := ?_) (a' := ?_) #[true, true, true, true, true, true, true, true, true, true, true, true, true, true, false] rfl rfl (any_of HT_.out (by kernel_rfl)) (fun _ _ _ h => h) (Or.inl ⟨by rfl, ?_⟩) ?_ ?_
             rotate_left
             ·intro w'
              go_simp
              with_reducible rfl
             rotate_left
             ·simp only [Act.put, sl1, sl2, sl3, i64_w, i32_w]
              rfl
             refine pure_ (i := 14) (N := some 11) (v := ?_) (a' := ?_) #[true, true, true, true, true, true, true, true, true, true, true, true, true, true, true] rfl rfl (any_of HT_.out (by kernel_rfl)) (fun _ _ _ h => h) (Or.inl ⟨by rfl, ?_⟩) ?_ ?_
             rotate_left
             ·intro w'
              go_simp
              with_reducible rfl
             rotate_left
             ·simp only [Act.put, sl1, sl2, sl3, i64_w, i32_w]
              rfl
             refine done_ (done_of HT_.out (by kernel_rfl)) ?_
             try go_wp2
             go_ret2
             exact ⟨_, by first | rfl | (simp [errW_none, errW_some] <;> rfl) | (simp [*, errW_none, errW_some] <;> rfl), by first | exact Kd.R_nil _ _ _ _ _ | exact Kd.N_nil _ _ _ _ _ | exact Kd.V_nil _ _ _ _ _ | exact Kd.Q_nil _ _ _ _ _ | exact Kd.S_nil _ _ _ _ _, by repeat (first | (with_reducible first | exact HB.out | apply below_alloc | apply pw_below_drewN | apply below_drew1 | refine below_set ?_ GE143.out | refine below_set ?_ GE144.out | refine below_set ?_ GE152.out | refine below_set ?_ GE157.out) | exact HB.out)⟩
           ·rw [if_neg c46] at H
            exact absurd H (by simp)
          ·rw [if_neg c45] at H
           exact absurd H (by simp)
         ·rw [if_neg c44] at H
          have c44b0 : decide (x34_2 < (l1_3.length : Int)) = false := decide_eq_false c44
          clear c44
          simp only [Option.some.injEq, Prod.mk.injEq] at H
          obtain ⟨rfl, rfl⟩ := H
          go_wp2
          go_ret2
          exact ⟨_, by first | rfl | (simp [errW_none, errW_some] <;> rfl) | (simp [*, errW_none, errW_some] <;> rfl), by (with_reducible repeat (first | apply Kd.R_alloc | apply Kd.R_drewN | apply Kd.R_drew)); exact HO_7.out, by repeat (first | (with_reducible first | exact HB.out | apply below_alloc | apply pw_below_drewN | apply below_drew1 | refine below_set ?_ GE143.out | refine below_set ?_ GE144.out | refine below_set ?_ GE152.out) | exact HB.out)⟩
      ·rw [if_neg c30] at H
       exact absurd H (by simp)
     ·rw [if_neg c29] at H
      exact absurd H (by simp)
end Go.Proofs.YtfglcfbcdhjcdaaDoor.Q

namespace Go.Proofs.YtfglcfbcdhjcdaaDoor.Q
open Go.RowKit Go.Proofs.YtfglcfbcdhjcdaaDoorW.PrintWords Go.Proofs.YtfglcfbcdhjcdaaDoorW.PrintLast Go.Proofs.YtfglcfbcdhjcdaaDoorW.PrintMore
attribute [local go_sem] max2_int min2_int max_two min_two max_three min_three max_four min_four
set_option linter.unusedVariables false
set_option linter.unusedSimpArgs false
mutual
def tariff_Postage.j0 : Nat → List (S54) → List Int → Bool → List (S57) → List (S67) → Int → Int → ByteArray → List (S48) → Option (List Int × Int)
 | 0, _, _, _, _, _, _, _, _, _ => none
 | k + 1, x1, x3, x28, x175000, x175001, x176000, x176001, x176002, x176003 => if x28 = true then (some (([] : List Int), 2)) else (tariff_Postage.l0 k x1 x3 x3 (x3.length : Int) 0 x175000 x175001 x176000 x176001 x176002 x176003)
def tariff_Postage.l0 : Nat → List (S54) → List Int → List Int → Int → Int → List (S57) → List (S67) → Int → Int → ByteArray → List (S48) → Option (List Int × Int)
 | 0, _, _, _, _, _, _, _, _, _, _, _ => none
 | k + 1, x1, x3, x29, x30, x31, x175000, x175001, x176000, x176001, x176002, x176003 => if x31 < x30 then (if 0 ≤ x31 then (if x31 < (x29.length : Int) then (if (rd x29 x31) < 0 then (some (([] : List Int), 2)) else (if (rd x29 x31) ≥ (x1.length : Int) then (some (([] : List Int), 2)) else (tariff_Postage.l0 k x1 x3 x29 x30 (wrap64 (x31 + 1)) x175000 x175001 x176000 x176001 x176002 x176003))) else (none)) else (none)) else ((tariff_Bases.f k x175000 x175001 x176000 x176001 x176002 x176003).bind fun bt178 => (if bt178.2 = 0 then ((tariff_rate.f k x175000 x175001 x176000).bind fun bt182 => (tariff_Postage.l1 k x1 bt178.1 bt182.2.2 x3 (x3.length : Int) 0 x176000 x176001 x176002 x176003)) else (some (([] : List Int), bt178.2))))
def tariff_Postage.l1 : Nat → List (S54) → List Int → Int → List Int → Int → Int → Int → Int → ByteArray → List (S48) → Option (List Int × Int)
 | 0, _, _, _, _, _, _, _, _, _, _ => none
 | k + 1, x1, x12, x14, x58, x59, x60, x176000, x176001, x176002, x176003 => if x60 < x59 then (if 0 ≤ x60 then (if x60 < (x58.length : Int) then (if x60 < (x12.length : Int) then (if 0 ≤ (rd x58 x60) then (if (rd x58 x60) < (x1.length : Int) then ((some (x12.set (x60 : Int).toNat (wrap64 ((rd x12 x60) - ((rd_T54 x1 (rd x58 x60)).f4))) : List Int)).bind fun y190 => (if x60 < (x176003.length : Int) then (if (rd_T48 x176003 x60).f4 = true then (tariff_Postage.l1 k x1 (y190.set (x60 : Int).toNat (wrap64 ((wrap64 ((rd x12 x60) - ((rd_T54 x1 (rd x58 x60)).f4))) - x14))) x14 x58 x59 (wrap64 (x60 + 1)) x176000 x176001 x176002 x176003) else (tariff_Postage.l1 k x1 y190 x14 x58 x59 (wrap64 (x60 + 1)) x176000 x176001 x176002 x176003)) else (none))) else (none)) else (none)) else (none)) else (none)) else (none)) else (some (x12, 0))
end
def tariff_Postage.f (k : Nat) (l0_0 : List (S57)) (l0_1 : List (S67)) (l1 : List (S54)) (a2_0 : Int) (a2_1 : Int) (a2_2 : ByteArray) (l2_3 : List (S48)) (l3 : List Int) : Option (List Int × Int) := if (l3.length : Int) = (l2_3.length : Int) then ((tariff_Fits.f k l0_0 l0_1 l1).bind fun t176 => (tariff_Postage.j0 k l1 l3 (!t176) l0_0 l0_1 a2_0 a2_1 a2_2 l2_3)) else (tariff_Postage.j0 k l1 l3 true l0_0 l0_1 a2_0 a2_1 a2_2 l2_3)
def tariff_Postage.T16 : Bool × List (List Nat × List Nat) := (true, [([], []), ([], []), ([0, 1], [0, 1]), ([2], [2]), ([], []), ([], []), ([4, 5], [4, 5]), ([6], [6]), ([7], [7]), ([3, 8], [3, 8]), ([0, 1, 0, 1, 2, 3, 4, 5, 6, 7, 8, 9], [0, 1]), ([10, 9, 0, 1, 2, 3, 4, 5, 6, 7, 8, 9], [9, 10])])
def tariff_Postage.B16 : List Nat := [0, 0, 3, 7, 0, 0, 48, 112, 240, 511, 1023, 2047]
theorem tariff_Postage.tab16 : rtab .any (opsOf Tryd.f17 16) = tariff_Postage.T16 := by kernel_rfl
theorem tariff_Postage.bits16 : waitsOk tariff_Postage.T16.2 tariff_Postage.B16 = true := by kernel_rfl
set_option maxHeartbeats 8000000 in
set_option maxRecDepth 100000 in
theorem tariff_Postage.calls (k : Nat) (A0_0 : Option Addr) (c0_0 : Nat) (l0_0 : List (S57)) (A0_1 : Option Addr) (c0_1 : Nat) (l0_1 : List (S67)) (A1 : Option Addr) (c1 : Nat) (l1 : List (S54)) (a2_0 : Int) (a2_1 : Int) (a2_2 : ByteArray) (A2_3 : Option Addr) (c2_3 : Nat) (l2_3 : List (S48)) (A3 : Option Addr) (c3 : Nat) (l3 : List Int) (r1 : List Int) (r2 : Int) (w : World) (hr0_0 : Kd.C k57 w A0_0 l0_0.length l0_0) (hc0_0 : l0_0.length ≤ c0_0) (hr0_1 : Kd.C k67 w A0_1 l0_1.length l0_1) (hc0_1 : l0_1.length ≤ c0_1) (hr1 : Kd.C k54 w A1 l1.length l1) (hc1 : l1.length ≤ c1) (hr2_3 : Kd.C k48 w A2_3 l2_3.length l2_3) (hc2_3 : l2_3.length ≤ c2_3) (hr3 : Kd.C (Kd.int .i64) w A3 l3.length l3) (hc3 : l3.length ≤ c3) (h : tariff_Postage.f k l0_0 l0_1 l1 a2_0 a2_1 a2_2 l2_3 l3 = some (r1, r2)) :
  Calls Tryd.prog 17 #[.agg #[.slice A0_0 l0_0.length c0_0, .slice A0_1 l0_1.length c0_1], .slice A1 l1.length c1, .agg #[.int .u8 a2_0, .int .u8 a2_1, .string a2_2, .slice A2_3 l2_3.length c2_3], .slice A3 l3.length c3] w fun e w' => ∃ v0_ : Value, e = .returned (.tuple #[v0_, .int .i64 r2]) ∧ Kd.R (Kd.int .i64) 3 w' w.heap.size (fun _ => True) v0_ r1 ∧ Below w.heap.size w w' := by
 have hufl := Tryd.underlying57
 have hfl : ∀ (x : Int) (A : Option Addr) (n c : Nat) (z : Int) (W : World), Sem.run Tryd.prog (Instr.field 57 (.agg #[.int .u8 x, .slice A n c, .int .i64 z]) 2) W = .ok (.int .i64 z) W := by intro x A n c z W; simp [Instr.field, run_underlying hufl, part, Result.andThen, asAgg]
 clear hufl
 have hu25 := Tryd.underlying25
 have hu36 := Tryd.underlying36
 have HR0_0 := Aside0.mk hr0_0
 have HC0_0 := Aside0.mk hc0_0
 clear hr0_0 hc0_0
 have HR0_1 := Aside0.mk hr0_1
 have HC0_1 := Aside0.mk hc0_1
 clear hr0_1 hc0_1
 have HR1 := Aside0.mk hr1
 have HC1 := Aside0.mk hc1
 clear hr1 hc1
 have HR2_3 := Aside0.mk hr2_3
 have HC2_3 := Aside0.mk hc2_3
 clear hr2_3 hc2_3
 have HR3 := Aside0.mk hr3
 have HC3 := Aside0.mk hc3
 clear hr3 hc3
 have HB := Aside0.mk (Below.refl w.heap.size w)
 have H : (if (l3.length : Int) = (l2_3.length : Int) then ((tariff_Fits.f k l0_0 l0_1 l1).bind fun t176 => (tariff_Postage.j0 k l1 l3 (!t176) l0_0 l0_1 a2_0 a2_1 a2_2 l2_3)) else (tariff_Postage.j0 k l1 l3 true l0_0 l0_1 a2_0 a2_1 a2_2 l2_3)) = some (r1, r2) := h
 clear h
 have HC5 := Aside0.mk H
 clear H
 go_enter Tryd.func17, Tryd.ntmps17
 go_upto_region 1 with (first | ((with_reducible refine gate_dst (N := 4) rfl ?_); (try (refine gate_guard (by rfl) ?_; dsimp only)); refine box_event ?hg (N := 4) ?hd (cs := #[.slice A0_0 l0_0.length c0_0, .slice A0_1 l0_1.length c0_1]) (t := 25) ?hr ?_; (case hd => rfl); (case hg => rfl); (case hr => first | (go_simp; done) | (go_simp; rfl)); intro gb174 hg w6 hbox hb; have n0_ := Aside0.mk (below_step (by repeat (first | (with_reducible first | exact HB.out | apply below_alloc | apply pw_below_drewN | apply below_drew1) | exact HB.out)) hb); have n1_ := Aside0.mk (hbox); have n2_ := Aside0.mk ((by rw [hg]; exact (below_size (by repeat (first | (with_reducible first | exact HB.out | apply below_alloc | apply pw_below_drewN | apply below_drew1) | exact HB.out))) : w.heap.size ≤ gb174)); have n3_ := Aside0.mk ((by rw [hg]; exact (below_size (by repeat (first | (with_reducible first | exact HB.out | apply below_alloc | apply pw_below_drewN | apply below_drew1) | exact HB.out))) : w.heap.size ≤ gb174)); clear HB; have HB := n0_; have BK174 := n1_; have GW174 := n2_; have GE174 := n3_; clear n0_ n1_ n2_ n3_; clear hb hbox hg) | ((with_reducible refine gate_dst (N := 6) rfl ?_); (try (refine gate_guard (by rfl) ?_; dsimp only)); refine box_event ?hg (N := 6) ?hd (cs := #[.int .u8 a2_0, .int .u8 a2_1, .string a2_2, .slice A2_3 l2_3.length c2_3]) (t := 36) ?hr ?_; (case hd => rfl); (case hg => rfl); (case hr => first | (go_simp; done) | (go_simp; rfl)); intro gb175 hg w7 hbox hb; have n0_ := Aside0.mk (blk_below (g := gb174) (o := .cells #[.slice A0_0 l0_0.length c0_0, .slice A0_1 l0_1.length c0_1] 25 (0, 0)) (by (with_reducible repeat (first | refine blk_drewN ?_ _ | refine blk_drew ?_ | refine blk_alloc ?_ _)); exact BK174.out) hb); have n1_ := Aside0.mk (below_step (by repeat (first | (with_reducible first | exact HB.out | apply below_alloc | apply pw_below_drewN | apply below_drew1 | refine below_set ?_ GE174.out) | exact HB.out)) hb); have n2_ := Aside0.mk (hbox); have n3_ := Aside0.mk ((by rw [hg]; exact (below_size (by repeat (first | (with_reducible first | exact HB.out | apply below_alloc | apply pw_below_drewN | apply below_drew1 | refine below_set ?_ GE174.out) | exact HB.out))) : w.heap.size ≤ gb175)); have n4_ := Aside0.mk ((by rw [hg]; exact (below_size (by repeat (first | (with_reducible first | exact HB.out | apply below_alloc | apply pw_below_drewN | apply below_drew1 | refine below_set ?_ GE174.out) | exact HB.out))) : w.heap.size ≤ gb175)); have n5_ := Aside0.mk ((by rw [hg]; exact Nat.ne_of_lt (blk_lt (g := gb174) (o := .cells #[.slice A0_0 l0_0.length c0_0, .slice A0_1 l0_1.length c0_1] 25 (0, 0)) (by (with_reducible repeat (first | refine blk_drewN ?_ _ | refine blk_drew ?_ | refine blk_alloc ?_ _)); exact BK174.out)) : gb174 ≠ gb175)); have n6_ := Aside0.mk ((by rw [hg]; exact Nat.ne_of_gt (blk_lt (g := gb174) (o := .cells #[.slice A0_0 l0_0.length c0_0, .slice A0_1 l0_1.length c0_1] 25 (0, 0)) (by (with_reducible repeat (first | refine blk_drewN ?_ _ | refine blk_drew ?_ | refine blk_alloc ?_ _)); exact BK174.out)) : gb175 ≠ gb174)); clear BK174; clear HB; have BK174 := n0_; have HB := n1_; have BK175 := n2_; have GW175 := n3_; have GE175 := n4_; have NB174_175 := n5_; have NB175_174 := n6_; clear n0_ n1_ n2_ n3_ n4_ n5_ n6_; clear hb hbox hg))
 (try simp only [Act.put, sl1, sl2, sl3])
 go_cut [28] (fun v28 wc => ∃ (kq : Nat) (x28_4 : Bool), v28 = .bool x28_4 ∧ Aside0 (tariff_Postage.j0 kq l1 l3 x28_4 l0_0 l0_1 a2_0 a2_1 a2_2 l2_3 = some (r1, r2)) ∧ Aside0 (kq ≤ k) ∧ Aside0 (wc.heap[gb174]? = some (.cells #[(.slice A0_0 l0_0.length c0_0), (.slice A0_1 l0_1.length c0_1)] 25 (0, 0))) ∧ Aside0 (wc.heap[gb175]? = some (.cells #[.int .u8 a2_0, .int .u8 a2_1, .string a2_2, (.slice A2_3 l2_3.length c2_3)] 36 (0, 0))) ∧ Aside0 (Below w.heap.size w wc))
 case first =>
  have H := HC5.out
  clear HC5
  by_cases c8 : (l3.length : Int) = (l2_3.length : Int)
  ·rw [if_pos c8] at H
   have c8b0 : ((l3.length : Int) == (l2_3.length : Int)) = true := beq_iff_eq.mpr c8
   have c8b1 : ((l3.length : Int) != (l2_3.length : Int)) = false := bne_eq_false_iff_eq.mpr c8
   have c8b2 : (l3.length == l2_3.length) = true := by first | simpa using c8 | (simp at c8 ⊢; omega)
   clear c8
   (first | rw [c8b0] | (simp only [i64_w, i32_w]; rw [c8b0]) | skip)
   replace H := Option.bind_eq_some_iff.mp H
   obtain ⟨t176, A90, H⟩ := H
   replace H : (tariff_Postage.j0 k l1 l3 (!t176) l0_0 l0_1 a2_0 a2_1 a2_2 l2_3) = some (r1, r2) := H
   have A9 := Aside0.mk A90
   clear A90
   have H' := Aside0.mk H
   clear H
   have hnb10 := NB175_174.out
   have hnc10 := NB174_175.out
   have hcz11_0 : w7.cell? ⟨gb175, 0, none⟩ = some (.int .u8 a2_0) := (blk_cell BK175.out 0).trans rfl
   have hcz11_1 : w7.cell? ⟨gb175, 1, none⟩ = some (.int .u8 a2_1) := (blk_cell BK175.out 1).trans rfl
   have hcz11_2 : w7.cell? ⟨gb175, 2, none⟩ = some (.string a2_2) := (blk_cell BK175.out 2).trans rfl
   have hcz11_3 : w7.cell? ⟨gb175, 3, none⟩ = some (.slice A2_3 l2_3.length c2_3) := (blk_cell BK175.out 3).trans rfl
   have hfz11_0 := blk_frozen BK175.out 0
   have hfz11_1 := blk_frozen BK175.out 1
   have hfz11_2 := blk_frozen BK175.out 2
   have hfz11_3 := blk_frozen BK175.out 3
   have hcz12_0 : w7.cell? ⟨gb174, 0, none⟩ = some (.slice A0_0 l0_0.length c0_0) := (blk_cell BK174.out 0).trans rfl
   have hcz12_1 : w7.cell? ⟨gb174, 1, none⟩ = some (.slice A0_1 l0_1.length c0_1) := (blk_cell BK174.out 1).trans rfl
   have hfz12_0 := blk_frozen BK174.out 0
   have hfz12_1 := blk_frozen BK174.out 1
   go_wp2_with (first | (go_at_call 20; (with_reducible refine (tariff_Fits.calls k _ _ l0_0 _ _ l0_1 _ _ l1 t176 _ ?side1 ?side2 ?side3 ?side4 ?side5 ?side6 A9.out).mono ?_); (case side1 => repeat (first | exact (Kd.C_below HR0_0.out HB.out) | (with_reducible refine Kd.C_alloc ?_ _) | (with_reducible refine Kd.C_drewN ?_ _) | (with_reducible refine Kd.C_drew ?_))); (case side2 => exact HC0_0.out); (case side3 => repeat (first | exact (Kd.C_below HR0_1.out HB.out) | (with_reducible refine Kd.C_alloc ?_ _) | (with_reducible refine Kd.C_drewN ?_ _) | (with_reducible refine Kd.C_drew ?_))); (case side4 => exact HC0_1.out); (case side5 => repeat (first | exact (Kd.C_below HR1.out HB.out) | (with_reducible refine Kd.C_alloc ?_ _) | (with_reducible refine Kd.C_drewN ?_ _) | (with_reducible refine Kd.C_drew ?_))); (case side6 => exact HC1.out); rintro e w13 ⟨rfl, hb⟩; have n0_ := Aside0.mk (blk_below (g := gb174) (o := .cells #[.slice A0_0 l0_0.length c0_0, .slice A0_1 l0_1.length c0_1] 25 (0, 0)) (by (with_reducible repeat (first | refine blk_drewN ?_ _ | refine blk_drew ?_ | refine blk_alloc ?_ _)); exact BK174.out) hb); have n1_ := Aside0.mk (blk_below (g := gb175) (o := .cells #[.int .u8 a2_0, .int .u8 a2_1, .string a2_2, .slice A2_3 l2_3.length c2_3] 36 (0, 0)) (by (with_reducible repeat (first | refine blk_drewN ?_ _ | refine blk_drew ?_ | refine blk_alloc ?_ _)); exact BK175.out) hb); have n2_ := Aside0.mk (below_step (by repeat (first | (with_reducible first | exact HB.out | apply below_alloc | apply pw_below_drewN | apply below_drew1 | refine below_set ?_ GE174.out | refine below_set ?_ GE175.out) | exact HB.out)) hb); clear BK174; clear BK175; clear HB; have BK174 := n0_; have BK175 := n1_; have HB := n2_; clear n0_ n1_ n2_; (try clear hb); (try clear hb2); (try clear hk); (try clear hi)))
   go_meet
   case rel => exact ⟨_, (!t176), (by first | rfl | (simp; done) | (simp [*]; done)), H', ⟨by first | omega | exact Nat.le_refl _⟩, ⟨by (with_reducible repeat (first | refine blk_drewN ?_ _ | refine blk_drew ?_ | refine blk_alloc ?_ _)); exact BK174.out⟩, ⟨by (with_reducible repeat (first | refine blk_drewN ?_ _ | refine blk_drew ?_ | refine blk_alloc ?_ _)); exact BK175.out⟩, ⟨by repeat (first | (with_reducible first | exact HB.out | apply below_alloc | apply pw_below_drewN | apply below_drew1 | refine below_set ?_ GE174.out | refine below_set ?_ GE175.out) | exact HB.out)⟩⟩
  ·rw [if_neg c8] at H
   have c8b0 : ((l3.length : Int) == (l2_3.length : Int)) = false := beq_eq_false_iff_ne.mpr c8
   have c8b1 : ((l3.length : Int) != (l2_3.length : Int)) = true := bne_iff_ne.mpr c8
   have c8b2 : (l3.length == l2_3.length) = false := by first | simpa using c8 | (simp at c8 ⊢; omega)
   (first | rw [c8b0] | (simp only [i64_w, i32_w]; rw [c8b0]) | skip)
   have H' := Aside0.mk H
   clear H
   have hnb14 := NB175_174.out
   have hnc14 := NB174_175.out
   have hcz15_0 : w7.cell? ⟨gb175, 0, none⟩ = some (.int .u8 a2_0) := (blk_cell BK175.out 0).trans rfl
   have hcz15_1 : w7.cell? ⟨gb175, 1, none⟩ = some (.int .u8 a2_1) := (blk_cell BK175.out 1).trans rfl
   have hcz15_2 : w7.cell? ⟨gb175, 2, none⟩ = some (.string a2_2) := (blk_cell BK175.out 2).trans rfl
   have hcz15_3 : w7.cell? ⟨gb175, 3, none⟩ = some (.slice A2_3 l2_3.length c2_3) := (blk_cell BK175.out 3).trans rfl
   have hfz15_0 := blk_frozen BK175.out 0
   have hfz15_1 := blk_frozen BK175.out 1
   have hfz15_2 := blk_frozen BK175.out 2
   have hfz15_3 := blk_frozen BK175.out 3
   go_wp2
   go_meet
   case rel => exact ⟨_, (true), (by first | rfl | (simp; done) | (simp [*]; done)), H', ⟨by first | omega | exact Nat.le_refl _⟩, ⟨by (with_reducible repeat (first | refine blk_drewN ?_ _ | refine blk_drew ?_ | refine blk_alloc ?_ _)); exact BK174.out⟩, ⟨by (with_reducible repeat (first | refine blk_drewN ?_ _ | refine blk_drew ?_ | refine blk_alloc ?_ _)); exact BK175.out⟩, ⟨by repeat (first | (with_reducible first | exact HB.out | apply below_alloc | apply pw_below_drewN | apply below_drew1 | refine below_set ?_ GE174.out | refine below_set ?_ GE175.out) | exact HB.out)⟩⟩
 case rest =>
  clear HC5
  try clear c1
  try clear c2
  try clear p2
  try clear c3
  try clear c8
  try clear c8b0
  try clear c8b1
  try clear c8b2
  try clear c10
  try clear c14
  try clear hcz11_0
  try clear hcz11_1
  try clear hcz11_2
  try clear hcz11_3
  try clear hcz12_0
  try clear hcz12_1
  try clear hcz15_0
  try clear hcz15_1
  try clear hcz15_2
  try clear hcz15_3
  try clear hfz11_0
  try clear hfz11_1
  try clear hfz11_2
  try clear hfz11_3
  try clear hfz12_0
  try clear hfz12_1
  try clear hfz15_0
  try clear hfz15_1
  try clear hfz15_2
  try clear hfz15_3
  obtain ⟨kq, x28_4, rfl, HA, HJ4, BK174, BK175, HB⟩ := hcut
  cases kq with
  | zero => exact absurd HA.out (by simp [tariff_Postage.j0])
  | succ kj4 =>
   have H := HA.out
   clear HA
   simp only [tariff_Postage.j0] at H
   by_cases c16 : x28_4 = true
   ·subst c16
    have H1 : (some (([] : List Int), 2)) = some (r1, r2) := by rw [if_pos rfl] at H; exact H
    clear H
    have H := H1
    clear H1
    simp only [Option.some.injEq, Prod.mk.injEq] at H
    obtain ⟨rfl, rfl⟩ := H
    go_wp2
    go_ret2
    exact ⟨_, by first | rfl | (simp [errW_none, errW_some] <;> rfl) | (simp [*, errW_none, errW_some] <;> rfl), by first | exact Kd.R_nil _ _ _ _ _ | exact Kd.N_nil _ _ _ _ _ | exact Kd.V_nil _ _ _ _ _ | exact Kd.Q_nil _ _ _ _ _ | exact Kd.S_nil _ _ _ _ _, by repeat (first | (with_reducible first | exact HB.out | apply below_alloc | apply pw_below_drewN | apply below_drew1 | refine below_set ?_ GE174.out | refine below_set ?_ GE175.out) | exact HB.out)⟩
   ·replace c16 := Bool.eq_false_iff.mpr c16
    subst c16
    have H1 : (tariff_Postage.l0 kj4 l1 l3 l3 (l3.length : Int) 0 l0_0 l0_1 a2_0 a2_1 a2_2 l2_3) = some (r1, r2) := by rw [if_neg (show ¬ (false = true) by decide)] at H; exact H
    clear H
    have H := H1
    clear H1
    have H' := Aside0.mk H
    clear H
    go_wp2
    go_loopg [31] kj4 (fun kq v31 w' => ∃ (x31_2 : Int), v31 = .int .i64 x31_2 ∧ Aside0 (tariff_Postage.l0 kq l1 l3 l3 (l3.length : Int) x31_2 l0_0 l0_1 a2_0 a2_1 a2_2 l2_3 = some (r1, r2)) ∧ Aside0 (kq ≤ kj4) ∧ Aside0 (w'.heap[gb174]? = some (.cells #[(.slice A0_0 l0_0.length c0_0), (.slice A0_1 l0_1.length c0_1)] 25 (0, 0))) ∧ Aside0 (w'.heap[gb175]? = some (.cells #[.int .u8 a2_0, .int .u8 a2_1, .string a2_2, (.slice A2_3 l2_3.length c2_3)] 36 (0, 0))) ∧ Aside0 (Below w.heap.size w w'))
    case atStart => exact ⟨(0), (by first | rfl | (simp; done) | (simp [*]; done)), H', ⟨Nat.le_refl _⟩, ⟨by (with_reducible repeat (first | refine blk_drewN ?_ _ | refine blk_drew ?_ | refine blk_alloc ?_ _)); exact BK174.out⟩, ⟨by (with_reducible repeat (first | refine blk_drewN ?_ _ | refine blk_drew ?_ | refine blk_alloc ?_ _)); exact BK175.out⟩, ⟨by repeat (first | (with_reducible first | exact HB.out | apply below_alloc | apply pw_below_drewN | apply below_drew1 | refine below_set ?_ GE174.out | refine below_set ?_ GE175.out) | exact HB.out)⟩⟩
    case round =>
     clear H'
     try clear c1
     try clear c2
     try clear p2
     try clear c3
     try clear c8
     try clear c8b0
     try clear c8b1
     try clear c8b2
     try clear c10
     try clear c14
     try clear c16
     try clear hcz11_0
     try clear hcz11_1
     try clear hcz11_2
     try clear hcz11_3
     try clear hcz12_0
     try clear hcz12_1
     try clear hcz15_0
     try clear hcz15_1
     try clear hcz15_2
     try clear hcz15_3
     try clear hfz11_0
     try clear hfz11_1
     try clear hfz11_2
     try clear hfz11_3
     try clear hfz12_0
     try clear hfz12_1
     try clear hfz15_0
     try clear hfz15_1
     try clear hfz15_2
     try clear hfz15_3
     try clear p2
     obtain ⟨x31_2, rfl, HA, HK2, BK174, BK175, HB⟩ := hrel
     cases gk with
     | zero => exact absurd HA.out (by simp [tariff_Postage.l0])
     | succ k2 =>
      have H := HA.out
      clear HA
      simp only [tariff_Postage.l0] at H
      by_cases c17 : x31_2 < (l3.length : Int)
      ·rw [if_pos c17] at H
       have c17b0 : decide (x31_2 < (l3.length : Int)) = true := decide_eq_true c17
       clear c17
       by_cases c18 : 0 ≤ x31_2
       ·rw [if_pos c18] at H
        have c18b0 : decide (0 ≤ x31_2) = true := decide_eq_true c18
        clear c18
        by_cases c19 : x31_2 < (l3.length : Int)
        ·rw [if_pos c19] at H
         have c19b0 : decide (x31_2 < (l3.length : Int)) = true := decide_eq_true c19
         clear c19
         by_cases c20 : (rd l3 x31_2) < 0
         ·rw [if_pos c20] at H
          have c20b0 : decide ((rd l3 x31_2) < 0) = true := decide_eq_true c20
          clear c20
          simp only [Option.some.injEq, Prod.mk.injEq] at H
          obtain ⟨rfl, rfl⟩ := H
          have p177 : 0 ≤ (x31_2 : Int) := of_decide_eq_true (by first | (with_reducible assumption) | assumption)
          have q177 : x31_2 < (l3.length : Int) := of_decide_eq_true (by first | (with_reducible assumption) | assumption)
          obtain ⟨ad177, e177, hx177_0⟩ := Kd.at_int HR3.out x31_2 p177 q177
          cases e177
          replace hx177_0 := (HB.out.cell (World.block_lt_of_cell? w _ hx177_0)).trans hx177_0
          replace p177 := eq_true p177
          replace q177 := eq_true q177
          go_wp2
          go_ret2
          exact ⟨_, by first | rfl | (simp [errW_none, errW_some] <;> rfl) | (simp [*, errW_none, errW_some] <;> rfl), by first | exact Kd.R_nil _ _ _ _ _ | exact Kd.N_nil _ _ _ _ _ | exact Kd.V_nil _ _ _ _ _ | exact Kd.Q_nil _ _ _ _ _ | exact Kd.S_nil _ _ _ _ _, by repeat (first | (with_reducible first | exact HB.out | apply below_alloc | apply pw_below_drewN | apply below_drew1 | refine below_set ?_ GE174.out | refine below_set ?_ GE175.out) | exact HB.out)⟩
         ·rw [if_neg c20] at H
          have c20b0 : decide ((rd l3 x31_2) < 0) = false := decide_eq_false c20
          clear c20
          by_cases c21 : (rd l3 x31_2) ≥ (l1.length : Int)
          ·rw [if_pos c21] at H
           have c21b0 : decide ((l1.length : Int) ≤ (rd l3 x31_2)) = true := decide_eq_true c21
           clear c21
           simp only [Option.some.injEq, Prod.mk.injEq] at H
           obtain ⟨rfl, rfl⟩ := H
           have p177 : 0 ≤ (x31_2 : Int) := of_decide_eq_true (by first | (with_reducible assumption) | assumption)
           have q177 : x31_2 < (l3.length : Int) := of_decide_eq_true (by first | (with_reducible assumption) | assumption)
           obtain ⟨ad177, e177, hx177_0⟩ := Kd.at_int HR3.out x31_2 p177 q177
           cases e177
           replace hx177_0 := (HB.out.cell (World.block_lt_of_cell? w _ hx177_0)).trans hx177_0
           replace p177 := eq_true p177
           replace q177 := eq_true q177
           go_wp2
           go_ret2
           exact ⟨_, by first | rfl | (simp [errW_none, errW_some] <;> rfl) | (simp [*, errW_none, errW_some] <;> rfl), by first | exact Kd.R_nil _ _ _ _ _ | exact Kd.N_nil _ _ _ _ _ | exact Kd.V_nil _ _ _ _ _ | exact Kd.Q_nil _ _ _ _ _ | exact Kd.S_nil _ _ _ _ _, by repeat (first | (with_reducible first | exact HB.out | apply below_alloc | apply pw_below_drewN | apply below_drew1 | refine below_set ?_ GE174.out | refine below_set ?_ GE175.out) | exact HB.out)⟩
          ·rw [if_neg c21] at H
           have c21b0 : decide ((l1.length : Int) ≤ (rd l3 x31_2)) = false := decide_eq_false c21
           clear c21
           have H' := Aside0.mk H
           clear H
           have p177 : 0 ≤ (x31_2 : Int) := of_decide_eq_true (by first | (with_reducible assumption) | assumption)
           have q177 : x31_2 < (l3.length : Int) := of_decide_eq_true (by first | (with_reducible assumption) | assumption)
           obtain ⟨ad177, e177, hx177_0⟩ := Kd.at_int HR3.out x31_2 p177 q177
           cases e177
           replace hx177_0 := (HB.out.cell (World.block_lt_of_cell? w _ hx177_0)).trans hx177_0
           replace p177 := eq_true p177
           replace q177 := eq_true q177
           go_wp2
           go_roundg k2
           case measure => have := HJ4.out; have := HK2.out; omega
           case rel => exact ⟨(wrap64 (x31_2 + 1)), (by first | rfl | (simp; done) | (simp [*]; done)), H', ⟨by have := HJ4.out; have := HK2.out; omega⟩, ⟨by (with_reducible repeat (first | refine blk_drewN ?_ _ | refine blk_drew ?_ | refine blk_alloc ?_ _)); exact BK174.out⟩, ⟨by (with_reducible repeat (first | refine blk_drewN ?_ _ | refine blk_drew ?_ | refine blk_alloc ?_ _)); exact BK175.out⟩, ⟨by repeat (first | (with_reducible first | exact HB.out | apply below_alloc | apply pw_below_drewN | apply below_drew1 | refine below_set ?_ GE174.out | refine below_set ?_ GE175.out) | exact HB.out)⟩⟩
        ·rw [if_neg c19] at H
         exact absurd H (by simp)
       ·rw [if_neg c18] at H
        exact absurd H (by simp)
      ·rw [if_neg c17] at H
       have c17b0 : decide (x31_2 < (l3.length : Int)) = false := decide_eq_false c17
       clear c17
       replace H := Option.bind_eq_some_iff.mp H
       obtain ⟨⟨t178, t181⟩, A220, H⟩ := H
       replace H : (if t181 = 0 then ((tariff_rate.f k2 l0_0 l0_1 a2_0).bind fun bt182 => (tariff_Postage.l1 k2 l1 t178 bt182.2.2 l3 (l3.length : Int) 0 a2_0 a2_1 a2_2 l2_3)) else (some (([] : List Int), t181))) = some (r1, r2) := H
       have A22 := Aside0.mk A220
       clear A220
       by_cases c23 : t181 = 0
       ·rw [if_pos c23] at H
        have c23b0 : (t181 == 0) = true := beq_iff_eq.mpr c23
        have c23b1 : (t181 != 0) = false := bne_eq_false_iff_eq.mpr c23
        clear c23
        replace H := Option.bind_eq_some_iff.mp H
        obtain ⟨⟨t182, t183, t186⟩, A240, H⟩ := H
        replace H : (tariff_Postage.l1 k2 l1 t178 t186 l3 (l3.length : Int) 0 a2_0 a2_1 a2_2 l2_3) = some (r1, r2) := H
        have A24 := Aside0.mk A240
        clear A240
        have H' := Aside0.mk H
        clear H
        have hnb25 := NB174_175.out
        have hnc25 := NB175_174.out
        have hcz26_0 : wr.cell? ⟨gb174, 0, none⟩ = some (.slice A0_0 l0_0.length c0_0) := (blk_cell BK174.out 0).trans rfl
        have hcz26_1 : wr.cell? ⟨gb174, 1, none⟩ = some (.slice A0_1 l0_1.length c0_1) := (blk_cell BK174.out 1).trans rfl
        have hfz26_0 := blk_frozen BK174.out 0
        have hfz26_1 := blk_frozen BK174.out 1
        have hcz27_0 : wr.cell? ⟨gb175, 0, none⟩ = some (.int .u8 a2_0) := (blk_cell BK175.out 0).trans rfl
        have hcz27_1 : wr.cell? ⟨gb175, 1, none⟩ = some (.int .u8 a2_1) := (blk_cell BK175.out 1).trans rfl
        have hcz27_2 : wr.cell? ⟨gb175, 2, none⟩ = some (.string a2_2) := (blk_cell BK175.out 2).trans rfl
        have hcz27_3 : wr.cell? ⟨gb175, 3, none⟩ = some (.slice A2_3 l2_3.length c2_3) := (blk_cell BK175.out 3).trans rfl
        have hfz27_0 := blk_frozen BK175.out 0
        have hfz27_1 := blk_frozen BK175.out 1
        have hfz27_2 := blk_frozen BK175.out 2
        have hfz27_3 := blk_frozen BK175.out 3
        go_wp2_with (first | ((with_reducible refine gate_callee (f := 16) rfl ?_); refine goesL_ (some 47) rfl rfl Tryd.func16 (by kernel_rfl) rfl #[.agg #[.slice A0_0 l0_0.length c0_0, .slice A0_1 l0_1.length c0_1], .agg #[.int .u8 a2_0, .int .u8 a2_1, .string a2_2, .slice A2_3 l2_3.length c2_3]] rfl (by (try simp only [List.map_toArray, List.map_cons, List.map_nil]); first | done | rfl | (simp only [List.length_drop, List.length_take]; rfl)) ?_; (with_reducible refine (tariff_Bases.calls k2 _ _ l0_0 _ _ l0_1 a2_0 a2_1 a2_2 _ _ l2_3 t178 t181 _ ?side1 ?side2 ?side3 ?side4 ?side5 ?side6 A22.out).mono ?_); (case side1 => repeat (first | exact (Kd.C_below HR0_0.out HB.out) | (with_reducible refine Kd.C_alloc ?_ _) | (with_reducible refine Kd.C_drewN ?_ _) | (with_reducible refine Kd.C_drew ?_))); (case side2 => exact HC0_0.out); (case side3 => repeat (first | exact (Kd.C_below HR0_1.out HB.out) | (with_reducible refine Kd.C_alloc ?_ _) | (with_reducible refine Kd.C_drewN ?_ _) | (with_reducible refine Kd.C_drew ?_))); (case side4 => exact HC0_1.out); (case side5 => repeat (first | exact (Kd.C_below HR2_3.out HB.out) | (with_reducible refine Kd.C_alloc ?_ _) | (with_reducible refine Kd.C_drewN ?_ _) | (with_reducible refine Kd.C_drew ?_))); (case side6 => exact HC2_3.out); rintro e w28 ⟨v179, rfl, ho0, hb⟩; refine ⟨_, rfl, ?_⟩; have n0_ := Aside0.mk (Kd.R_lower ho0 (below_size (by repeat (first | (with_reducible first | exact HB.out | apply below_alloc | apply pw_below_drewN | apply below_drew1 | refine below_set ?_ GE174.out | refine below_set ?_ GE175.out) | exact HB.out)))); have n1_ := Aside0.mk (blk_below (g := gb174) (o := .cells #[.slice A0_0 l0_0.length c0_0, .slice A0_1 l0_1.length c0_1] 25 (0, 0)) (by (with_reducible repeat (first | refine blk_drewN ?_ _ | refine blk_drew ?_ | refine blk_alloc ?_ _)); exact BK174.out) hb); have n2_ := Aside0.mk (blk_below (g := gb175) (o := .cells #[.int .u8 a2_0, .int .u8 a2_1, .string a2_2, .slice A2_3 l2_3.length c2_3] 36 (0, 0)) (by (with_reducible repeat (first | refine blk_drewN ?_ _ | refine blk_drew ?_ | refine blk_alloc ?_ _)); exact BK175.out) hb); have n3_ := Aside0.mk (below_step (by repeat (first | (with_reducible first | exact HB.out | apply below_alloc | apply pw_below_drewN | apply below_drew1 | refine below_set ?_ GE174.out | refine below_set ?_ GE175.out) | exact HB.out)) hb); clear BK174; clear BK175; clear HB; have HO180 := n0_; have BK174 := n1_; have BK175 := n2_; have HB := n3_; clear n0_ n1_ n2_ n3_; (try clear hb); (try clear hb2); (try clear hk); (try clear hi); (try clear ho0); have hcz29_0 : w28.cell? ⟨gb174, 0, none⟩ = some (.slice A0_0 l0_0.length c0_0) := (blk_cell BK174.out 0).trans rfl; have hcz29_1 : w28.cell? ⟨gb174, 1, none⟩ = some (.slice A0_1 l0_1.length c0_1) := (blk_cell BK174.out 1).trans rfl; have hfz29_0 := blk_frozen BK174.out 0; have hfz29_1 := blk_frozen BK174.out 1; have hcz30_0 : w28.cell? ⟨gb175, 0, none⟩ = some (.int .u8 a2_0) := (blk_cell BK175.out 0).trans rfl; have hcz30_1 : w28.cell? ⟨gb175, 1, none⟩ = some (.int .u8 a2_1) := (blk_cell BK175.out 1).trans rfl; have hcz30_2 : w28.cell? ⟨gb175, 2, none⟩ = some (.string a2_2) := (blk_cell BK175.out 2).trans rfl; have hcz30_3 : w28.cell? ⟨gb175, 3, none⟩ = some (.slice A2_3 l2_3.length c2_3) := (blk_cell BK175.out 3).trans rfl; have hfz30_0 := blk_frozen BK175.out 0; have hfz30_1 := blk_frozen BK175.out 1; have hfz30_2 := blk_frozen BK175.out 2; have hfz30_3 := blk_frozen BK175.out 3) | ((with_reducible refine gate_callee (f := 41) rfl ?_); refine goesL_ (some 56) rfl rfl Tryd.func41 (by kernel_rfl) rfl #[.agg #[.slice A0_0 l0_0.length c0_0, .slice A0_1 l0_1.length c0_1], .int .u8 a2_0] rfl (by (try simp only [List.map_toArray, List.map_cons, List.map_nil]); first | done | rfl | (simp only [List.length_drop, List.length_take]; rfl)) ?_; (with_reducible refine (tariff_rate.calls k2 (fun k_ => k_ < w.heap.size) _ _ l0_0 _ _ l0_1 a2_0 t182 t183 t186 _ ?side1 ?side2 ?side3 A24.out).mono ?_); (case side1 => exact Kd.V_mk HC0_0.out (Kd.F_below (Kd.C_F k57_heap HR0_0.out) (by repeat (first | (with_reducible first | exact HB.out | apply below_alloc | apply pw_below_drewN | apply below_drew1 | refine below_set ?_ GE174.out | refine below_set ?_ GE175.out) | exact HB.out)))); (case side2 => repeat (first | exact (Kd.C_below HR0_1.out HB.out) | (with_reducible refine Kd.C_alloc ?_ _) | (with_reducible refine Kd.C_drewN ?_ _) | (with_reducible refine Kd.C_drew ?_))); (case side3 => exact HC0_1.out); rintro e w31 ⟨v184, rfl, ho0, hb⟩; obtain ⟨_, _, rfl⟩ := Kd.V_slice ho0; refine ⟨_, rfl, ?_⟩; have n0_ := Aside0.mk (Kd.R_below (by (with_reducible repeat (first | apply Kd.R_alloc | apply Kd.R_drewN | apply Kd.R_drew)); exact HO180.out) hb); have n1_ := Aside0.mk (Kd.V_lower (Kd.V_mono (ok' := fun k_ => some k_ ≠ (v179 : Value).ownBlock ∧ k_ ≠ gb174 ∧ k_ ≠ gb175) ho0 (fun k_ hk_ => ⟨Or.elim hk_ (fun hs_ => fun e_ => Nat.not_le.2 hs_ (Kd.R_base HO180.out k_ e_.symm)) (fun hn_ => (Kd.fresh' (Kd.R_lt (by (with_reducible repeat (first | apply Kd.R_alloc | apply Kd.R_drewN | apply Kd.R_drew)); exact HO180.out)) k_ hn_)), Or.elim hk_ (fun hs_ => fun e_ => Nat.not_le.2 hs_ (by rw [e_]; exact GW174.out)) (fun hn_ => (Kd.freshB (g := gb174) (o := .cells #[.slice A0_0 l0_0.length c0_0, .slice A0_1 l0_1.length c0_1] 25 (0, 0)) (by (with_reducible repeat (first | refine blk_drewN ?_ _ | refine blk_drew ?_ | refine blk_alloc ?_ _)); exact BK174.out) k_ hn_)), Or.elim hk_ (fun hs_ => fun e_ => Nat.not_le.2 hs_ (by rw [e_]; exact GW175.out)) (fun hn_ => (Kd.freshB (g := gb175) (o := .cells #[.int .u8 a2_0, .int .u8 a2_1, .string a2_2, .slice A2_3 l2_3.length c2_3] 36 (0, 0)) (by (with_reducible repeat (first | refine blk_drewN ?_ _ | refine blk_drew ?_ | refine blk_alloc ?_ _)); exact BK175.out) k_ hn_))⟩)) (below_size (by repeat (first | (with_reducible first | exact HB.out | apply below_alloc | apply pw_below_drewN | apply below_drew1 | refine below_set ?_ GE174.out | refine below_set ?_ GE175.out) | exact HB.out)))); have n2_ := Aside0.mk (blk_below (g := gb174) (o := .cells #[.slice A0_0 l0_0.length c0_0, .slice A0_1 l0_1.length c0_1] 25 (0, 0)) (by (with_reducible repeat (first | refine blk_drewN ?_ _ | refine blk_drew ?_ | refine blk_alloc ?_ _)); exact BK174.out) hb); have n3_ := Aside0.mk (blk_below (g := gb175) (o := .cells #[.int .u8 a2_0, .int .u8 a2_1, .string a2_2, .slice A2_3 l2_3.length c2_3] 36 (0, 0)) (by (with_reducible repeat (first | refine blk_drewN ?_ _ | refine blk_drew ?_ | refine blk_alloc ?_ _)); exact BK175.out) hb); have n4_ := Aside0.mk (below_step (by repeat (first | (with_reducible first | exact HB.out | apply below_alloc | apply pw_below_drewN | apply below_drew1 | refine below_set ?_ GE174.out | refine below_set ?_ GE175.out) | exact HB.out)) hb); clear HO180; clear BK174; clear BK175; clear HB; have HO180 := n0_; have HO185 := n1_; have BK174 := n2_; have BK175 := n3_; have HB := n4_; clear n0_ n1_ n2_ n3_ n4_; (try clear hb); (try clear hb2); (try clear hk); (try clear hi); (try clear ho0)))
        go_loopg [60] k2 (fun kq v60 w' => ∃ (x12_3 : List Int) (x60_3 : Int), v60 = .int .i64 x60_3 ∧ Aside0 (tariff_Postage.l1 kq l1 x12_3 t186 l3 (l3.length : Int) x60_3 a2_0 a2_1 a2_2 l2_3 = some (r1, r2)) ∧ Aside0 (kq ≤ k2) ∧ Aside0 (Kd.R (Kd.int .i64) 3 w' w.heap.size (fun _ => True) v179 x12_3) ∧ Aside0 (w'.heap[gb174]? = some (.cells #[(.slice A0_0 l0_0.length c0_0), (.slice A0_1 l0_1.length c0_1)] 25 (0, 0))) ∧ Aside0 (w'.heap[gb175]? = some (.cells #[.int .u8 a2_0, .int .u8 a2_1, .string a2_2, (.slice A2_3 l2_3.length c2_3)] 36 (0, 0))) ∧ Aside0 (Below w.heap.size w w'))
        case atStart => exact ⟨(t178), (0), (by first | rfl | (simp; done) | (simp [*]; done)), H', ⟨Nat.le_refl _⟩, ⟨by (with_reducible repeat (first | apply Kd.R_alloc | apply Kd.R_drewN | apply Kd.R_drew)); exact HO180.out⟩, ⟨by (with_reducible repeat (first | refine blk_drewN ?_ _ | refine blk_drew ?_ | refine blk_alloc ?_ _)); exact BK174.out⟩, ⟨by (with_reducible repeat (first | refine blk_drewN ?_ _ | refine blk_drew ?_ | refine blk_alloc ?_ _)); exact BK175.out⟩, ⟨by repeat (first | (with_reducible first | exact HB.out | apply below_alloc | apply pw_below_drewN | apply below_drew1 | refine below_set ?_ GE174.out | refine below_set ?_ GE175.out) | exact HB.out)⟩⟩
        case round =>
         clear H'
         try clear c1
         try clear p1
         try clear q1
         try clear hx1
         try clear c2
         try clear p2
         try clear c3
         try clear c4
         try clear p6
         try clear c8
         try clear c8b0
         try clear c8b1
         try clear c8b2
         try clear c10
         try clear c14
         try clear c16
         try clear c17
         try clear c17b0
         try clear p17
         try clear q17
         try clear hx17
         try clear c18
         try clear c18b0
         try clear c19
         try clear c19b0
         try clear c20
         try clear c20b0
         try clear c21
         try clear c21b0
         try clear c23
         try clear c23b0
         try clear c23b1
         try clear c25
         try clear hcz11_0
         try clear hcz11_1
         try clear hcz11_2
         try clear hcz11_3
         try clear hcz12_0
         try clear hcz12_1
         try clear hcz15_0
         try clear hcz15_1
         try clear hcz15_2
         try clear hcz15_3
         try clear hcz26_0
         try clear hcz26_1
         try clear hcz27_0
         try clear hcz27_1
         try clear hcz27_2
         try clear hcz27_3
         try clear hcz29_0
         try clear hcz29_1
         try clear hcz30_0
         try clear hcz30_1
         try clear hcz30_2
         try clear hcz30_3
         try clear hfz11_0
         try clear hfz11_1
         try clear hfz11_2
         try clear hfz11_3
         try clear hfz12_0
         try clear hfz12_1
         try clear hfz15_0
         try clear hfz15_1
         try clear hfz15_2
         try clear hfz15_3
         try clear hfz26_0
         try clear hfz26_1
         try clear hfz27_0
         try clear hfz27_1
         try clear hfz27_2
         try clear hfz27_3
         try clear hfz29_0
         try clear hfz29_1
         try clear hfz30_0
         try clear hfz30_1
         try clear hfz30_2
         try clear hfz30_3
         try clear hx177_0
         try clear p177
         try clear p2
         try clear q177
         obtain ⟨x12_3, x60_3, rfl, HA, HK3, HO_12, BK174, BK175, HB⟩ := hrel
         cases gk with
         | zero => exact absurd HA.out (by simp [tariff_Postage.l1])
         | succ k3 =>
          have H := HA.out
          clear HA
          simp only [tariff_Postage.l1] at H
          by_cases c32 : x60_3 < (l3.length : Int)
          ·rw [if_pos c32] at H
           have c32b0 : decide (x60_3 < (l3.length : Int)) = true := decide_eq_true c32
           clear c32
           by_cases c33 : 0 ≤ x60_3
           ·rw [if_pos c33] at H
            have c33b0 : decide (0 ≤ x60_3) = true := decide_eq_true c33
            clear c33
            by_cases c34 : x60_3 < (l3.length : Int)
            ·rw [if_pos c34] at H
             have c34b0 : decide (x60_3 < (l3.length : Int)) = true := decide_eq_true c34
             clear c34
             by_cases c35 : x60_3 < (x12_3.length : Int)
             ·rw [if_pos c35] at H
              have c35b0 : decide (x60_3 < (x12_3.length : Int)) = true := decide_eq_true c35
              clear c35
              by_cases c36 : 0 ≤ (rd l3 x60_3)
              ·rw [if_pos c36] at H
               have c36b0 : decide (0 ≤ (rd l3 x60_3)) = true := decide_eq_true c36
               clear c36
               by_cases c37 : (rd l3 x60_3) < (l1.length : Int)
               ·rw [if_pos c37] at H
                have c37b0 : decide ((rd l3 x60_3) < (l1.length : Int)) = true := decide_eq_true c37
                clear c37
                obtain ⟨y190, hy190⟩ : ∃ y_ : List Int, y_ = (x12_3.set (x60_3 : Int).toNat (wrap64 ((rd x12_3 x60_3) - ((rd_T54 l1 (rd l3 x60_3)).f4)))) := ⟨_, rfl⟩
                replace H : (if x60_3 < (l2_3.length : Int) then (if (rd_T48 l2_3 x60_3).f4 = true then (tariff_Postage.l1 k3 l1 (y190.set (x60_3 : Int).toNat (wrap64 ((wrap64 ((rd x12_3 x60_3) - ((rd_T54 l1 (rd l3 x60_3)).f4))) - t186))) t186 l3 (l3.length : Int) (wrap64 (x60_3 + 1)) a2_0 a2_1 a2_2 l2_3) else (tariff_Postage.l1 k3 l1 y190 t186 l3 (l3.length : Int) (wrap64 (x60_3 + 1)) a2_0 a2_1 a2_2 l2_3)) else (none)) = some (r1, r2) := by first | (rw [hy190]; with_reducible exact H) | (have H2_ := (Option.bind_some _ _).symm.trans H; rw [hy190]; with_reducible exact H2_) | (have H2_ := (Option.bind_some _ _).symm.trans H; with_reducible exact H2_) | with_reducible exact H | (rw [hy190]; exact H) | exact H
                have Ny190 := Aside0.mk hy190
                clear hy190
                by_cases c39 : x60_3 < (l2_3.length : Int)
                ·rw [if_pos c39] at H
                 have c39b0 : decide (x60_3 < (l2_3.length : Int)) = true := decide_eq_true c39
                 clear c39
                 obtain ⟨bq40, hbq40⟩ : ∃ b_ : Bool, b_ = ((rd_T48 l2_3 x60_3).f4) := ⟨_, rfl⟩
                 replace H : (if bq40 = true then (tariff_Postage.l1 k3 l1 (y190.set (x60_3 : Int).toNat (wrap64 ((wrap64 ((rd x12_3 x60_3) - ((rd_T54 l1 (rd l3 x60_3)).f4))) - t186))) t186 l3 (l3.length : Int) (wrap64 (x60_3 + 1)) a2_0 a2_1 a2_2 l2_3) else (tariff_Postage.l1 k3 l1 y190 t186 l3 (l3.length : Int) (wrap64 (x60_3 + 1)) a2_0 a2_1 a2_2 l2_3)) = some (r1, r2) := by rw [← hbq40] at H; exact H
                 have Nbq40 := Aside0.mk hbq40
                 clear hbq40
                 by_cases c41 : bq40 = true
                 ·subst c41
                  have H1 : (tariff_Postage.l1 k3 l1 (y190.set (x60_3 : Int).toNat (wrap64 ((wrap64 ((rd x12_3 x60_3) - ((rd_T54 l1 (rd l3 x60_3)).f4))) - t186))) t186 l3 (l3.length : Int) (wrap64 (x60_3 + 1)) a2_0 a2_1 a2_2 l2_3) = some (r1, r2) := by rw [if_pos rfl] at H; exact H
                  clear H
                  have H := H1
                  clear H1
                  obtain ⟨y193, hy193⟩ : ∃ y_ : List Int, y_ = (y190.set (x60_3 : Int).toNat (wrap64 ((wrap64 ((rd x12_3 x60_3) - ((rd_T54 l1 (rd l3 x60_3)).f4))) - t186))) := ⟨_, rfl⟩
                  replace H : (tariff_Postage.l1 k3 l1 y193 t186 l3 (l3.length : Int) (wrap64 (x60_3 + 1)) a2_0 a2_1 a2_2 l2_3) = some (r1, r2) := by first | (rw [hy193]; with_reducible exact H) | (have H2_ := (Option.bind_some _ _).symm.trans H; rw [hy193]; with_reducible exact H2_) | (have H2_ := (Option.bind_some _ _).symm.trans H; with_reducible exact H2_) | with_reducible exact H | (rw [hy193]; exact H) | exact H
                  have Ny193 := Aside0.mk hy193
                  clear hy193
                  have H' := Aside0.mk H
                  clear H
                  have p187 : 0 ≤ (x60_3 : Int) := of_decide_eq_true (by first | (with_reducible assumption) | assumption)
                  have q187 : x60_3 < (l3.length : Int) := of_decide_eq_true (by first | (with_reducible assumption) | assumption)
                  obtain ⟨ad187, e187, hx187_0⟩ := Kd.at_int HR3.out x60_3 p187 q187
                  cases e187
                  replace hx187_0 := (HB.out.cell (World.block_lt_of_cell? w _ hx187_0)).trans hx187_0
                  replace p187 := eq_true p187
                  replace q187 := eq_true q187
                  try go_wp2
                  have n0_ := Aside0.mk (Kd.R_drew HO_12.out)
                  have n1_ := Aside0.mk (blk_drew BK174.out)
                  have n2_ := Aside0.mk (blk_drew BK175.out)
                  have n3_ := Aside0.mk (below_drew1 HB.out)
                  clear HO_12
                  clear BK174
                  clear BK175
                  clear HB
                  have HO_12 := n0_
                  have BK174 := n1_
                  have BK175 := n2_
                  have HB := n3_
                  clear n0_ n1_ n2_ n3_
                  obtain ⟨Ao45, co45, eo45⟩ := Kd.R_slice HO_12.out
                  (first | subst eo45 | (injection eo45 with f1_ f2_ f3_; have f4_ := f1_.symm; have f5_ := f3_.symm; clear f1_ f2_ f3_; subst f4_; subst f5_))
                  have p188 : 0 ≤ (x60_3 : Int) := of_decide_eq_true (by first | (with_reducible assumption) | assumption)
                  have q188 : x60_3 < (x12_3.length : Int) := of_decide_eq_true (by first | (with_reducible assumption) | assumption)
                  obtain ⟨ad188, e188, hx188_0⟩ := Kd.at_int (Kd.R_reads' HO_12.out).2.2 x60_3 p188 q188
                  cases e188
                  replace p188 := eq_true p188
                  replace q188 := eq_true q188
                  have p189 : 0 ≤ ((rd l3 x60_3) : Int) := of_decide_eq_true (by first | (with_reducible assumption) | assumption)
                  have q189 : (rd l3 x60_3) < (l1.length : Int) := of_decide_eq_true (by first | (with_reducible assumption) | assumption)
                  obtain ⟨ad189, A189_2, c189_2, e189, hx189_0, hx189_1, hx189_2, hx189_3, hx189_4, hl189_2, hi189_2⟩ := at_T54 HR1.out (rd l3 x60_3) p189 q189
                  have hw189_4 := hx189_4
                  have hw189_3 := hx189_3
                  have hw189_2 := hx189_2
                  have hw189_1 := hx189_1
                  have hw189_0 := hx189_0
                  cases e189
                  replace hx189_0 := (HB.out.cell (World.block_lt_of_cell? w _ hx189_0)).trans hx189_0
                  replace hx189_1 := (HB.out.cell (World.block_lt_of_cell? w _ hx189_1)).trans hx189_1
                  replace hx189_2 := (HB.out.cell (World.block_lt_of_cell? w _ hx189_2)).trans hx189_2
                  replace hx189_3 := (HB.out.cell (World.block_lt_of_cell? w _ hx189_3)).trans hx189_3
                  replace hx189_4 := (HB.out.cell (World.block_lt_of_cell? w _ hx189_4)).trans hx189_4
                  have HR189_2 := Aside0.mk hi189_2
                  have HC189_2 := Aside0.mk hl189_2
                  clear hi189_2 hl189_2
                  replace p189 := eq_true p189
                  replace q189 := eq_true q189
                  have p38 : 0 ≤ (x60_3 : Int) := of_decide_eq_true (by first | (with_reducible assumption) | assumption)
                  have q38 : (x60_3 : Int) < ((x12_3.length : Int) : Int) := of_decide_eq_true (by first | (with_reducible assumption) | assumption)
                  obtain ⟨go38, co38, eo38, gb38, gl38, cl38, HG38⟩ := Kd.R_form HO_12.out (by omega)
                  (first | cases eo38 | (injection eo38 with ea_ en_ ec_; (first | subst ea_ | (injection ea_ with ea_; subst ea_)); subst ec_; clear en_))
                  have GB38 := Aside0.mk gb38
                  have GG38 := Aside0.mk HG38
                  clear gb38 gl38 HG38
                  (first | simp only [add_plain] at hx188_0 | skip)
                  obtain ⟨hx38_0, hf38_0⟩ := Kd.R_celln 0 HO_12.out (x60_3 : Int) p38 q38
                  replace p38 := eq_true p38
                  replace q38 := eq_true q38
                  have HP46 := Kd.R_putn HO_12.out (x60_3 : Int) (wrap64 ((rd x12_3 x60_3) - ((rd_T54 l1 (rd l3 x60_3)).f4)))
                  rw [← Ny190.out] at HP46
                  have HQ46 := Aside0.mk HP46
                  clear HP46
                  refine start_ (n := 12) (S := fun w' => w'.cell? ⟨go38, (x60_3).toNat, none⟩ = some (.int .i64 (rd x12_3 x60_3)) ∧ w'.cell? (ad189.add (((rd l3 x60_3)).toNat * 5)) = some (.string ((rd_T54 l1 (rd l3 x60_3)).f0)) ∧ w'.cell? ⟨(ad189.add (((rd l3 x60_3)).toNat * 5)).block, (ad189.add (((rd l3 x60_3)).toNat * 5)).off + 1, none⟩ = some (.int .i64 ((rd_T54 l1 (rd l3 x60_3)).f1)) ∧ w'.cell? ⟨(ad189.add (((rd l3 x60_3)).toNat * 5)).block, (ad189.add (((rd l3 x60_3)).toNat * 5)).off + 2, none⟩ = some (.slice A189_2 ((rd_T54 l1 (rd l3 x60_3)).f2).length c189_2) ∧ w'.cell? ⟨(ad189.add (((rd l3 x60_3)).toNat * 5)).block, (ad189.add (((rd l3 x60_3)).toNat * 5)).off + 3, none⟩ = some (.int .i64 ((rd_T54 l1 (rd l3 x60_3)).f3)) ∧ w'.cell? ⟨(ad189.add (((rd l3 x60_3)).toNat * 5)).block, (ad189.add (((rd l3 x60_3)).toNat * 5)).off + 4, none⟩ = some (.int .i64 ((rd_T54 l1 (rd l3 x60_3)).f4))) (ds := [11]) #[false, false, false, false, false, false, false, false, false, false, false, false] (by kernel_rfl) rfl rfl ⟨hx188_0, ((HB.out.cell (World.block_lt_of_cell? w _ hw189_0)).trans hw189_0), ((HB.out.cell (World.block_lt_of_cell? w _ hw189_1)).trans hw189_1), ((HB.out.cell (World.block_lt_of_cell? w _ hw189_2)).trans hw189_2), ((HB.out.cell (World.block_lt_of_cell? w _ hw189_3)).trans hw189_3), ((HB.out.cell (World.block_lt_of_cell? w _ hw189_4)).trans hw189_4)⟩ (fun hHeld => ?_); refine with_tabW tariff_Postage.tab16 tariff_Postage.bits16 (fun HT_ HW_ => ?_)
                  generalize wr.drew = w44 at HO_12 BK174 BK175 HB GG38 HQ46 HR189_2 hf38_0 hx188_0 hx189_0 hx189_1 hx189_2 hx189_3 hx189_4 hx38_0 hHeld ⊢
                  refine pure_ (i := 0) (N := some 65) (v := ?_) (a' := ?_) #[true, false, false, false, false, false, false, false, false, false, false, false] rfl rfl (any_of HT_.out (by kernel_rfl)) (fun _ _ _ h => h) (Or.inl ⟨by rfl, ?_⟩) ?_ ?_
                  rotate_left
                  ·intro w'
                   go_simp
                   with_reducible rfl
                  rotate_left
                  ·simp only [Act.put, sl1, sl2, sl3, i64_w, i32_w]
                   rfl
                  refine pure_ (i := 1) (N := some 66) (v := ?_) (a' := ?_) #[true, true, false, false, false, false, false, false, false, false, false, false] rfl rfl (any_of HT_.out (by kernel_rfl)) (fun _ _ _ h => h) (Or.inl ⟨by rfl, ?_⟩) ?_ ?_
                  rotate_left
                  ·intro w'
                   go_simp
                   with_reducible rfl
                  rotate_left
                  ·simp only [Act.put, sl1, sl2, sl3, i64_w, i32_w]
                   rfl
                  refine pure_ (i := 2) (N := some 67) (v := ?_) (a' := ?_) #[true, true, true, false, false, false, false, false, false, false, false, false] rfl rfl (any_of HT_.out (by kernel_rfl)) (fun _ _ _ h => h) (Or.inl ⟨by rfl, ?_⟩) ?_ ?_
                  rotate_left
                  ·intro w'
                   go_simp
                   with_reducible rfl
                  rotate_left
                  ·simp only [Act.put, sl1, sl2, sl3, i64_w, i32_w]
                   rfl
                  refine pure_ (i := 4) (N := some 69) (v := ?_) (a' := ?_) #[true, true, true, false, true, false, false, false, false, false, false, false] rfl rfl (any_of HT_.out (by kernel_rfl)) (fun _ _ _ h => h) (Or.inl ⟨by rfl, ?_⟩) ?_ ?_
                  rotate_left
                  ·intro w'
                   go_simp
                   with_reducible rfl
                  rotate_left
                  ·simp only [Act.put, sl1, sl2, sl3, i64_w, i32_w]
                   rfl
                  refine pure_ (i := 5) (N := some 70) (v := ?_) (a' := ?_) #[true, true, true, false, true, true, false, false, false, false, false, false] rfl rfl (any_of HT_.out (by kernel_rfl)) (fun _ _ _ h => h) (Or.inl ⟨by rfl, ?_⟩) ?_ ?_
                  rotate_left
                  ·intro w'
                   go_simp
                   with_reducible rfl
                  rotate_left
                  ·simp only [Act.put, sl1, sl2, sl3, i64_w, i32_w]
                   rfl
                  refine pure_ (i := 6) (N := some 71) (v := ?_) (a' := ?_) #[true, true, true, false, true, true, true, false, false, false, false, false] rfl rfl (any_of HT_.out (by kernel_rfl)) (fun _ _ _ h => h) (Or.inl ⟨by rfl, ?_⟩) ?_ ?_
                  rotate_left
                  ·intro w'
                   go_simp
                   with_reducible rfl
                  rotate_left
                  ·simp only [Act.put, sl1, sl2, sl3, i64_w, i32_w]
                   rfl
                  refine pure_ (i := 7) (N := some 72) (v := ?_) (a' := ?_) #[true, true, true, false, true, true, true, true, false, false, false, false] rfl rfl (any_of HT_.out (by kernel_rfl)) (fun _ _ _ h => h) (Or.inl ⟨by rfl, ?_⟩) ?_ ?_
                  rotate_left
                  ·intro w'
                   go_simp
                   with_reducible rfl
                  rotate_left
                  ·simp only [Act.put, sl1, sl2, sl3, i64_w, i32_w]
                   rfl
                  refine take_ (i := 3) (N := some 68) (v := ?_) (a' := ?_) #[true, true, true, true, true, true, true, true, false, false, false, false] rfl rfl (take_ofW HT_.out HW_.out (by kernel_rfl)) (fun _ _ _ h => h) (Or.inl ⟨by rfl, ?_⟩) hHeld ?_ ?_
                  rotate_left
                  ·rintro w' ⟨s0, s1, s2, s3, s4, s5⟩
                   go_simp
                   with_reducible rfl
                  rotate_left
                  ·simp only [Act.put, sl1, sl2, sl3, i64_w, i32_w]
                   rfl
                  refine take_ (i := 8) (N := some 73) (v := ?_) (a' := ?_) #[true, true, true, true, true, true, true, true, true, false, false, false] rfl rfl (take_ofW HT_.out HW_.out (by kernel_rfl)) (fun _ _ _ h => h) (Or.inl ⟨by rfl, ?_⟩) hHeld ?_ ?_
                  rotate_left
                  ·rintro w' ⟨s0, s1, s2, s3, s4, s5⟩
                   go_simp
                   with_reducible rfl
                  rotate_left
                  ·simp only [Act.put, sl1, sl2, sl3, i64_w, i32_w]
                   rfl
                  refine pure_ (i := 9) (N := some 74) (v := ?_) (a' := ?_) #[true, true, true, true, true, true, true, true, true, true, false, false] rfl rfl (any_of HT_.out (by kernel_rfl)) (fun _ _ _ h => h) (Or.inl ⟨by rfl, ?_⟩) ?_ ?_
                  rotate_left
                  ·intro w'
                   go_simp
                   with_reducible rfl
                  rotate_left
                  ·simp only [Act.put, sl1, sl2, sl3, i64_w, i32_w]
                   rfl
                  refine pure_ (i := 10) (N := some 75) (v := ?_) (a' := ?_) #[true, true, true, true, true, true, true, true, true, true, true, false] rfl rfl (any_of HT_.out (by kernel_rfl)) (fun _ _ _ h => h) (Or.inl ⟨by rfl, ?_⟩) ?_ ?_
                  rotate_left
                  ·intro w'
                   go_simp
                   with_reducible rfl
                  rotate_left
                  ·simp only [Act.put, sl1, sl2, sl3, i64_w, i32_w]
                   rfl
                  refine last_ (i := 11) (N := none) #[true, true, true, true, true, true, true, true, true, true, true, true] rfl rfl (one_of HT_.out (by kernel_rfl)) (by decide) (fun K hK => ?_)
                  refine skip_ (w1 := ?_) (by rfl) rfl ?_ ?_
                  rotate_left
                  ·go_simp
                   rfl
                  refine hK.out _ _ ?_
                  clear hK K
                  refine done_ (done_of HT_.out (by kernel_rfl)) ?_
                  have n0_ : Aside0 (Kd.R (Kd.int .i64) 3 (w44.setCell ⟨go38, (x60_3 : Int).toNat, none⟩ (.int .i64 (wrap64 ((rd x12_3 x60_3) - ((rd_T54 l1 (rd l3 x60_3)).f4))))) w.heap.size (fun _ => True) (.slice (some ⟨go38, 0, none⟩) x12_3.length co45) y190) := ⟨by (with_reducible repeat (first | apply Kd.R_alloc | apply Kd.R_drewN | apply Kd.R_drew)); exact HQ46.out⟩
                  have n1_ : Aside0 ((w44.setCell ⟨go38, (x60_3 : Int).toNat, none⟩ (.int .i64 (wrap64 ((rd x12_3 x60_3) - ((rd_T54 l1 (rd l3 x60_3)).f4))))).heap[gb174]? = some (.cells #[.slice A0_0 l0_0.length c0_0, .slice A0_1 l0_1.length c0_1] 25 (0, 0))) := ⟨by (with_reducible repeat (first | refine blk_drewN ?_ _ | refine blk_drew ?_ | refine blk_alloc ?_ _)); refine blk_far ?_ (by have h_ := Kd.R_ne HO_12.out BK174.out (by decide); intro e_; exact h_ (by rw [e_]; rfl)) _; (with_reducible repeat (first | refine blk_drewN ?_ _ | refine blk_drew ?_ | refine blk_alloc ?_ _)); exact BK174.out⟩
                  have n2_ : Aside0 ((w44.setCell ⟨go38, (x60_3 : Int).toNat, none⟩ (.int .i64 (wrap64 ((rd x12_3 x60_3) - ((rd_T54 l1 (rd l3 x60_3)).f4))))).heap[gb175]? = some (.cells #[.int .u8 a2_0, .int .u8 a2_1, .string a2_2, .slice A2_3 l2_3.length c2_3] 36 (0, 0))) := ⟨by (with_reducible repeat (first | refine blk_drewN ?_ _ | refine blk_drew ?_ | refine blk_alloc ?_ _)); refine blk_far ?_ (by have h_ := Kd.R_ne HO_12.out BK175.out (by decide); intro e_; exact h_ (by rw [e_]; rfl)) _; (with_reducible repeat (first | refine blk_drewN ?_ _ | refine blk_drew ?_ | refine blk_alloc ?_ _)); exact BK175.out⟩
                  have n3_ : Aside0 (Below w.heap.size w (w44.setCell ⟨go38, (x60_3 : Int).toNat, none⟩ (.int .i64 (wrap64 ((rd x12_3 x60_3) - ((rd_T54 l1 (rd l3 x60_3)).f4)))))) := ⟨by repeat (first | (with_reducible first | exact HB.out | apply below_alloc | apply pw_below_drewN | apply below_drew1 | refine below_set ?_ GB38.out | refine below_set ?_ GE174.out | refine below_set ?_ GE175.out) | exact HB.out)⟩
                  (try clear HO_12)
                  (try clear BK174)
                  (try clear BK175)
                  (try clear HB)
                  generalize (w44.setCell ⟨go38, (x60_3 : Int).toNat, none⟩ (.int .i64 (wrap64 ((rd x12_3 x60_3) - ((rd_T54 l1 (rd l3 x60_3)).f4))))) = w47 at n0_ n1_ n2_ n3_ ⊢
                  have HO_12 := n0_
                  have BK174 := n1_
                  have BK175 := n2_
                  have HB := n3_
                  clear n0_ n1_ n2_ n3_
                  have hnb48 := NB175_174.out
                  have hnc48 := NB174_175.out
                  have hcz49_0 : w47.cell? ⟨gb175, 0, none⟩ = some (.int .u8 a2_0) := (blk_cell BK175.out 0).trans rfl
                  have hcz49_1 : w47.cell? ⟨gb175, 1, none⟩ = some (.int .u8 a2_1) := (blk_cell BK175.out 1).trans rfl
                  have hcz49_2 : w47.cell? ⟨gb175, 2, none⟩ = some (.string a2_2) := (blk_cell BK175.out 2).trans rfl
                  have hcz49_3 : w47.cell? ⟨gb175, 3, none⟩ = some (.slice A2_3 l2_3.length c2_3) := (blk_cell BK175.out 3).trans rfl
                  have hfz49_0 := blk_frozen BK175.out 0
                  have hfz49_1 := blk_frozen BK175.out 1
                  have hfz49_2 := blk_frozen BK175.out 2
                  have hfz49_3 := blk_frozen BK175.out 3
                  have p191 : 0 ≤ (x60_3 : Int) := of_decide_eq_true (by first | (with_reducible assumption) | assumption)
                  have q191 : x60_3 < (l2_3.length : Int) := of_decide_eq_true (by first | (with_reducible assumption) | assumption)
                  obtain ⟨ad191, e191, hx191_0, hx191_1, hx191_2, hx191_3, hx191_4⟩ := at_T48 HR2_3.out x60_3 p191 q191
                  (try rw [← Nbq40.out] at hx191_4)
                  cases e191
                  replace hx191_0 := (HB.out.cell (World.block_lt_of_cell? w _ hx191_0)).trans hx191_0
                  replace hx191_1 := (HB.out.cell (World.block_lt_of_cell? w _ hx191_1)).trans hx191_1
                  replace hx191_2 := (HB.out.cell (World.block_lt_of_cell? w _ hx191_2)).trans hx191_2
                  replace hx191_3 := (HB.out.cell (World.block_lt_of_cell? w _ hx191_3)).trans hx191_3
                  replace hx191_4 := (HB.out.cell (World.block_lt_of_cell? w _ hx191_4)).trans hx191_4
                  replace p191 := eq_true p191
                  replace q191 := eq_true q191
                  have p42 : 0 ≤ (x60_3 : Int) := of_decide_eq_true (by first | (with_reducible assumption) | assumption)
                  have q42 : (x60_3 : Int) < ((x12_3.length : Int) : Int) := of_decide_eq_true (by first | (with_reducible assumption) | assumption)
                  replace p42 := eq_true p42
                  replace q42 := eq_true q42
                  have p43 : 0 ≤ (x60_3 : Int) := of_decide_eq_true (by first | (with_reducible assumption) | assumption)
                  have q43 : (x60_3 : Int) < ((x12_3.length : Int) : Int) := of_decide_eq_true (by first | (with_reducible assumption) | assumption)
                  replace p43 := eq_true p43
                  replace q43 := eq_true q43
                  obtain ⟨hy50_, hz50_⟩ := Kd.R_celln 0 HO_12.out (x60_3 : Int) (of_decide_eq_true (by first | (with_reducible assumption) | assumption)) (of_decide_eq_true (by first | (with_reducible assumption) | assumption))
                  have hset_ := Ny190.out
                  have hrd_ : rdOf 0 y190 (x60_3 : Int) = (wrap64 ((rd x12_3 x60_3) - ((rd_T54 l1 (rd l3 x60_3)).f4))) := by have a_ := of_eq_true (show (0 ≤ (x60_3 : Int)) = True by assumption); have b_ := (Kd.C_len (Kd.R_reads' HO_12.out).2.2); have c_ := (Kd.R_reads' HO_12.out).1; have d_ : (x60_3 : Int) < y190.length := (by rw [← c_]; exact of_eq_true (by assumption)); rw [hset_, List.length_set] at d_; rw [hset_]; unfold rdOf; rw [List.getD_eq_getElem?_getD, List.getElem?_set_self (by omega)]; rfl
                  rw [hrd_] at hy50_
                  clear hset_ hrd_
                  have HP50 := Kd.R_putg HO_12.out (x60_3 : Int) (wrap64 ((wrap64 ((rd x12_3 x60_3) - ((rd_T54 l1 (rd l3 x60_3)).f4))) - t186))
                  try go_wp2_with (first | ((with_reducible refine gate_store (t := 3) (p := 88) rfl ?_); refine store_event (t := 3) (p := 88) (v := ?vo_w51) (w1 := (w47.setCell ⟨go38, (x60_3 : Int).toNat, none⟩ (.int .i64 (wrap64 ((wrap64 ((rd x12_3 x60_3) - ((rd_T54 l1 (rd l3 x60_3)).f4))) - t186))))) ?hg ?ho ?hn ?hr ?_; (case ho => rfl); (case hg => rfl); (case hn => rfl); (case hr => first | (go_simp; done) | (go_simp; rfl)); intro w51 hw; have hg : w47.grownBy w51 (some go38) := (by rw [hw]; exact HP50.2); have hp_ : Kd.R (Kd.int .i64) 3 w51 w.heap.size (fun _ => True) (.slice (some ⟨go38, 0, none⟩) x12_3.length co45) y193 := (by rw [hw, Ny193.out]; exact HP50.1); clear HP50; have n0_ := Aside0.mk (hp_); have n1_ := Aside0.mk (blk_grown (g := gb174) (o := .cells #[.slice A0_0 l0_0.length c0_0, .slice A0_1 l0_1.length c0_1] 25 (0, 0)) (by (with_reducible repeat (first | refine blk_drewN ?_ _ | refine blk_drew ?_ | refine blk_alloc ?_ _)); exact BK174.out) hg (Kd.R_ne HO_12.out BK174.out (by decide))); have n2_ := Aside0.mk (blk_grown (g := gb175) (o := .cells #[.int .u8 a2_0, .int .u8 a2_1, .string a2_2, .slice (some ad191) l2_3.length c2_3] 36 (0, 0)) (by (with_reducible repeat (first | refine blk_drewN ?_ _ | refine blk_drew ?_ | refine blk_alloc ?_ _)); exact BK175.out) hg (Kd.R_ne HO_12.out BK175.out (by decide))); have n3_ := Aside0.mk ((by rw [hw]; exact below_set (HB.out) GB38.out : Below w.heap.size w w51)); clear HO_12; clear BK174; clear BK175; clear HB; have HO_12 := n0_; have BK174 := n1_; have BK175 := n2_; have HB := n3_; clear n0_ n1_ n2_ n3_; clear hg hw hp_))
                  go_roundg k3
                  case measure => have := HJ4.out; have := HK2.out; have := HK3.out; omega
                  case rel => exact ⟨(y193), (wrap64 (x60_3 + 1)), (by first | rfl | (simp; done) | (simp [*]; done)), H', ⟨by have := HJ4.out; have := HK2.out; have := HK3.out; omega⟩, ⟨by (with_reducible repeat (first | apply Kd.R_alloc | apply Kd.R_drewN | apply Kd.R_drew)); exact HO_12.out⟩, ⟨by (with_reducible repeat (first | refine blk_drewN ?_ _ | refine blk_drew ?_ | refine blk_alloc ?_ _)); exact BK174.out⟩, ⟨by (with_reducible repeat (first | refine blk_drewN ?_ _ | refine blk_drew ?_ | refine blk_alloc ?_ _)); exact BK175.out⟩, ⟨by repeat (first | (with_reducible first | exact HB.out | apply below_alloc | apply pw_below_drewN | apply below_drew1 | refine below_set ?_ GE174.out | refine below_set ?_ GE175.out) | exact HB.out)⟩⟩
                 ·replace c41 := Bool.eq_false_iff.mpr c41
                  subst c41
                  have H1 : (tariff_Postage.l1 k3 l1 y190 t186 l3 (l3.length : Int) (wrap64 (x60_3 + 1)) a2_0 a2_1 a2_2 l2_3) = some (r1, r2) := by rw [if_neg (show ¬ (false = true) by decide)] at H; exact H
                  clear H
                  have H := H1
                  clear H1
                  have H' := Aside0.mk H
                  clear H
                  have p187 : 0 ≤ (x60_3 : Int) := of_decide_eq_true (by first | (with_reducible assumption) | assumption)
                  have q187 : x60_3 < (l3.length : Int) := of_decide_eq_true (by first | (with_reducible assumption) | assumption)
                  obtain ⟨ad187, e187, hx187_0⟩ := Kd.at_int HR3.out x60_3 p187 q187
                  cases e187
                  replace hx187_0 := (HB.out.cell (World.block_lt_of_cell? w _ hx187_0)).trans hx187_0
                  replace p187 := eq_true p187
                  replace q187 := eq_true q187
                  try go_wp2
                  have n0_ := Aside0.mk (Kd.R_drew HO_12.out)
                  have n1_ := Aside0.mk (blk_drew BK174.out)
                  have n2_ := Aside0.mk (blk_drew BK175.out)
                  have n3_ := Aside0.mk (below_drew1 HB.out)
                  clear HO_12
                  clear BK174
                  clear BK175
                  clear HB
                  have HO_12 := n0_
                  have BK174 := n1_
                  have BK175 := n2_
                  have HB := n3_
                  clear n0_ n1_ n2_ n3_
                  obtain ⟨Ao53, co53, eo53⟩ := Kd.R_slice HO_12.out
                  (first | subst eo53 | (injection eo53 with f1_ f2_ f3_; have f4_ := f1_.symm; have f5_ := f3_.symm; clear f1_ f2_ f3_; subst f4_; subst f5_))
                  have p188 : 0 ≤ (x60_3 : Int) := of_decide_eq_true (by first | (with_reducible assumption) | assumption)
                  have q188 : x60_3 < (x12_3.length : Int) := of_decide_eq_true (by first | (with_reducible assumption) | assumption)
                  obtain ⟨ad188, e188, hx188_0⟩ := Kd.at_int (Kd.R_reads' HO_12.out).2.2 x60_3 p188 q188
                  cases e188
                  replace p188 := eq_true p188
                  replace q188 := eq_true q188
                  have p189 : 0 ≤ ((rd l3 x60_3) : Int) := of_decide_eq_true (by first | (with_reducible assumption) | assumption)
                  have q189 : (rd l3 x60_3) < (l1.length : Int) := of_decide_eq_true (by first | (with_reducible assumption) | assumption)
                  obtain ⟨ad189, A189_2, c189_2, e189, hx189_0, hx189_1, hx189_2, hx189_3, hx189_4, hl189_2, hi189_2⟩ := at_T54 HR1.out (rd l3 x60_3) p189 q189
                  have hw189_4 := hx189_4
                  have hw189_3 := hx189_3
                  have hw189_2 := hx189_2
                  have hw189_1 := hx189_1
                  have hw189_0 := hx189_0
                  cases e189
                  replace hx189_0 := (HB.out.cell (World.block_lt_of_cell? w _ hx189_0)).trans hx189_0
                  replace hx189_1 := (HB.out.cell (World.block_lt_of_cell? w _ hx189_1)).trans hx189_1
                  replace hx189_2 := (HB.out.cell (World.block_lt_of_cell? w _ hx189_2)).trans hx189_2
                  replace hx189_3 := (HB.out.cell (World.block_lt_of_cell? w _ hx189_3)).trans hx189_3
                  replace hx189_4 := (HB.out.cell (World.block_lt_of_cell? w _ hx189_4)).trans hx189_4
                  have HR189_2 := Aside0.mk hi189_2
                  have HC189_2 := Aside0.mk hl189_2
                  clear hi189_2 hl189_2
                  replace p189 := eq_true p189
                  replace q189 := eq_true q189
                  have p38 : 0 ≤ (x60_3 : Int) := of_decide_eq_true (by first | (with_reducible assumption) | assumption)
                  have q38 : (x60_3 : Int) < ((x12_3.length : Int) : Int) := of_decide_eq_true (by first | (with_reducible assumption) | assumption)
                  obtain ⟨go38, co38, eo38, gb38, gl38, cl38, HG38⟩ := Kd.R_form HO_12.out (by omega)
                  (first | cases eo38 | (injection eo38 with ea_ en_ ec_; (first | subst ea_ | (injection ea_ with ea_; subst ea_)); subst ec_; clear en_))
                  have GB38 := Aside0.mk gb38
                  have GG38 := Aside0.mk HG38
                  clear gb38 gl38 HG38
                  (first | simp only [add_plain] at hx188_0 | skip)
                  obtain ⟨hx38_0, hf38_0⟩ := Kd.R_celln 0 HO_12.out (x60_3 : Int) p38 q38
                  replace p38 := eq_true p38
                  replace q38 := eq_true q38
                  have HP54 := Kd.R_putn HO_12.out (x60_3 : Int) (wrap64 ((rd x12_3 x60_3) - ((rd_T54 l1 (rd l3 x60_3)).f4)))
                  rw [← Ny190.out] at HP54
                  have HQ54 := Aside0.mk HP54
                  clear HP54
                  refine start_ (n := 12) (S := fun w' => w'.cell? ⟨go38, (x60_3).toNat, none⟩ = some (.int .i64 (rd x12_3 x60_3)) ∧ w'.cell? (ad189.add (((rd l3 x60_3)).toNat * 5)) = some (.string ((rd_T54 l1 (rd l3 x60_3)).f0)) ∧ w'.cell? ⟨(ad189.add (((rd l3 x60_3)).toNat * 5)).block, (ad189.add (((rd l3 x60_3)).toNat * 5)).off + 1, none⟩ = some (.int .i64 ((rd_T54 l1 (rd l3 x60_3)).f1)) ∧ w'.cell? ⟨(ad189.add (((rd l3 x60_3)).toNat * 5)).block, (ad189.add (((rd l3 x60_3)).toNat * 5)).off + 2, none⟩ = some (.slice A189_2 ((rd_T54 l1 (rd l3 x60_3)).f2).length c189_2) ∧ w'.cell? ⟨(ad189.add (((rd l3 x60_3)).toNat * 5)).block, (ad189.add (((rd l3 x60_3)).toNat * 5)).off + 3, none⟩ = some (.int .i64 ((rd_T54 l1 (rd l3 x60_3)).f3)) ∧ w'.cell? ⟨(ad189.add (((rd l3 x60_3)).toNat * 5)).block, (ad189.add (((rd l3 x60_3)).toNat * 5)).off + 4, none⟩ = some (.int .i64 ((rd_T54 l1 (rd l3 x60_3)).f4))) (ds := [11]) #[false, false, false, false, false, false, false, false, false, false, false, false] (by kernel_rfl) rfl rfl ⟨hx188_0, ((HB.out.cell (World.block_lt_of_cell? w _ hw189_0)).trans hw189_0), ((HB.out.cell (World.block_lt_of_cell? w _ hw189_1)).trans hw189_1), ((HB.out.cell (World.block_lt_of_cell? w _ hw189_2)).trans hw189_2), ((HB.out.cell (World.block_lt_of_cell? w _ hw189_3)).trans hw189_3), ((HB.out.cell (World.block_lt_of_cell? w _ hw189_4)).trans hw189_4)⟩ (fun hHeld => ?_); refine with_tabW tariff_Postage.tab16 tariff_Postage.bits16 (fun HT_ HW_ => ?_)
                  generalize wr.drew = w52 at HO_12 BK174 BK175 HB GG38 HQ54 HR189_2 hf38_0 hx188_0 hx189_0 hx189_1 hx189_2 hx189_3 hx189_4 hx38_0 hHeld ⊢
                  refine pure_ (i := 0) (N := some 65) (v := ?_) (a' := ?_) #[true, false, false, false, false, false, false, false, false, false, false, false] rfl rfl (any_of HT_.out (by kernel_rfl)) (fun _ _ _ h => h) (Or.inl ⟨by rfl, ?_⟩) ?_ ?_
                  rotate_left
                  ·intro w'
                   go_simp
                   with_reducible rfl
                  rotate_left
                  ·simp only [Act.put, sl1, sl2, sl3, i64_w, i32_w]
                   rfl
                  refine pure_ (i := 1) (N := some 66) (v := ?_) (a' := ?_) #[true, true, false, false, false, false, false, false, false, false, false, false] rfl rfl (any_of HT_.out (by kernel_rfl)) (fun _ _ _ h => h) (Or.inl ⟨by rfl, ?_⟩) ?_ ?_
                  rotate_left
                  ·intro w'
                   go_simp
                   with_reducible rfl
                  rotate_left
                  ·simp only [Act.put, sl1, sl2, sl3, i64_w, i32_w]
                   rfl
                  refine pure_ (i := 2) (N := some 67) (v := ?_) (a' := ?_) #[true, true, true, false, false, false, false, false, false, false, false, false] rfl rfl (any_of HT_.out (by kernel_rfl)) (fun _ _ _ h => h) (Or.inl ⟨by rfl, ?_⟩) ?_ ?_
                  rotate_left
                  ·intro w'
                   go_simp
                   with_reducible rfl
                  rotate_left
                  ·simp only [Act.put, sl1, sl2, sl3, i64_w, i32_w]
                   rfl
                  refine pure_ (i := 4) (N := some 69) (v := ?_) (a' := ?_) #[true, true, true, false, true, false, false, false, false, false, false, false] rfl rfl (any_of HT_.out (by kernel_rfl)) (fun _ _ _ h => h) (Or.inl ⟨by rfl, ?_⟩) ?_ ?_
                  rotate_left
                  ·intro w'
                   go_simp
                   with_reducible rfl
                  rotate_left
                  ·simp only [Act.put, sl1, sl2, sl3, i64_w, i32_w]
                   rfl
                  refine pure_ (i := 5) (N := some 70) (v := ?_) (a' := ?_) #[true, true, true, false, true, true, false, false, false, false, false, false] rfl rfl (any_of HT_.out (by kernel_rfl)) (fun _ _ _ h => h) (Or.inl ⟨by rfl, ?_⟩) ?_ ?_
                  rotate_left
                  ·intro w'
                   go_simp
                   with_reducible rfl
                  rotate_left
                  ·simp only [Act.put, sl1, sl2, sl3, i64_w, i32_w]
                   rfl
                  refine pure_ (i := 6) (N := some 71) (v := ?_) (a' := ?_) #[true, true, true, false, true, true, true, false, false, false, false, false] rfl rfl (any_of HT_.out (by kernel_rfl)) (fun _ _ _ h => h) (Or.inl ⟨by rfl, ?_⟩) ?_ ?_
                  rotate_left
                  ·intro w'
                   go_simp
                   with_reducible rfl
                  rotate_left
                  ·simp only [Act.put, sl1, sl2, sl3, i64_w, i32_w]
                   rfl
                  refine pure_ (i := 7) (N := some 72) (v := ?_) (a' := ?_) #[true, true, true, false, true, true, true, true, false, false, false, false] rfl rfl (any_of HT_.out (by kernel_rfl)) (fun _ _ _ h => h) (Or.inl ⟨by rfl, ?_⟩) ?_ ?_
                  rotate_left
                  ·intro w'
                   go_simp
                   with_reducible rfl
                  rotate_left
                  ·simp only [Act.put, sl1, sl2, sl3, i64_w, i32_w]
                   rfl
                  refine take_ (i := 3) (N := some 68) (v := ?_) (a' := ?_) #[true, true, true, true, true, true, true, true, false, false, false, false] rfl rfl (take_ofW HT_.out HW_.out (by kernel_rfl)) (fun _ _ _ h => h) (Or.inl ⟨by rfl, ?_⟩) hHeld ?_ ?_
                  rotate_left
                  ·rintro w' ⟨s0, s1, s2, s3, s4, s5⟩
                   go_simp
                   with_reducible rfl
                  rotate_left
                  ·simp only [Act.put, sl1, sl2, sl3, i64_w, i32_w]
                   rfl
                  refine take_ (i := 8) (N := some 73) (v := ?_) (a' := ?_) #[true, true, true, true, true, true, true, true, true, false, false, false] rfl rfl (take_ofW HT_.out HW_.out (by kernel_rfl)) (fun _ _ _ h => h) (Or.inl ⟨by rfl, ?_⟩) hHeld ?_ ?_
                  rotate_left
                  ·rintro w' ⟨s0, s1, s2, s3, s4, s5⟩
                   go_simp
                   with_reducible rfl
                  rotate_left
                  ·simp only [Act.put, sl1, sl2, sl3, i64_w, i32_w]
                   rfl
                  refine pure_ (i := 9) (N := some 74) (v := ?_) (a' := ?_) #[true, true, true, true, true, true, true, true, true, true, false, false] rfl rfl (any_of HT_.out (by kernel_rfl)) (fun _ _ _ h => h) (Or.inl ⟨by rfl, ?_⟩) ?_ ?_
                  rotate_left
                  ·intro w'
                   go_simp
                   with_reducible rfl
                  rotate_left
                  ·simp only [Act.put, sl1, sl2, sl3, i64_w, i32_w]
                   rfl
                  refine pure_ (i := 10) (N := some 75) (v := ?_) (a' := ?_) #[true, true, true, true, true, true, true, true, true, true, true, false] rfl rfl (any_of HT_.out (by kernel_rfl)) (fun _ _ _ h => h) (Or.inl ⟨by rfl, ?_⟩) ?_ ?_
                  rotate_left
                  ·intro w'
                   go_simp
                   with_reducible rfl
                  rotate_left
                  ·simp only [Act.put, sl1, sl2, sl3, i64_w, i32_w]
                   rfl
                  refine last_ (i := 11) (N := none) #[true, true, true, true, true, true, true, true, true, true, true, true] rfl rfl (one_of HT_.out (by kernel_rfl)) (by decide) (fun K hK => ?_)
                  refine skip_ (w1 := ?_) (by rfl) rfl ?_ ?_
                  rotate_left
                  ·go_simp
                   rfl
                  refine hK.out _ _ ?_
                  clear hK K
                  refine done_ (done_of HT_.out (by kernel_rfl)) ?_
                  have n1_ : Aside0 ((w52.setCell ⟨go38, (x60_3 : Int).toNat, none⟩ (.int .i64 (wrap64 ((rd x12_3 x60_3) - ((rd_T54 l1 (rd l3 x60_3)).f4))))).heap[gb174]? = some (.cells #[.slice A0_0 l0_0.length c0_0, .slice A0_1 l0_1.length c0_1] 25 (0, 0))) := ⟨by (with_reducible repeat (first | refine blk_drewN ?_ _ | refine blk_drew ?_ | refine blk_alloc ?_ _)); refine blk_far ?_ (by have h_ := Kd.R_ne HO_12.out BK174.out (by decide); intro e_; exact h_ (by rw [e_]; rfl)) _; (with_reducible repeat (first | refine blk_drewN ?_ _ | refine blk_drew ?_ | refine blk_alloc ?_ _)); exact BK174.out⟩
                  have n2_ : Aside0 ((w52.setCell ⟨go38, (x60_3 : Int).toNat, none⟩ (.int .i64 (wrap64 ((rd x12_3 x60_3) - ((rd_T54 l1 (rd l3 x60_3)).f4))))).heap[gb175]? = some (.cells #[.int .u8 a2_0, .int .u8 a2_1, .string a2_2, .slice A2_3 l2_3.length c2_3] 36 (0, 0))) := ⟨by (with_reducible repeat (first | refine blk_drewN ?_ _ | refine blk_drew ?_ | refine blk_alloc ?_ _)); refine blk_far ?_ (by have h_ := Kd.R_ne HO_12.out BK175.out (by decide); intro e_; exact h_ (by rw [e_]; rfl)) _; (with_reducible repeat (first | refine blk_drewN ?_ _ | refine blk_drew ?_ | refine blk_alloc ?_ _)); exact BK175.out⟩
                  have hnb55 := NB175_174.out
                  have hnc55 := NB174_175.out
                  have hcz56_0 : (w52.setCell ⟨go38, (x60_3 : Int).toNat, none⟩ (.int .i64 (wrap64 ((rd x12_3 x60_3) - ((rd_T54 l1 (rd l3 x60_3)).f4))))).cell? ⟨gb175, 0, none⟩ = some (.int .u8 a2_0) := (blk_cell n2_.out 0).trans rfl
                  have hcz56_1 : (w52.setCell ⟨go38, (x60_3 : Int).toNat, none⟩ (.int .i64 (wrap64 ((rd x12_3 x60_3) - ((rd_T54 l1 (rd l3 x60_3)).f4))))).cell? ⟨gb175, 1, none⟩ = some (.int .u8 a2_1) := (blk_cell n2_.out 1).trans rfl
                  have hcz56_2 : (w52.setCell ⟨go38, (x60_3 : Int).toNat, none⟩ (.int .i64 (wrap64 ((rd x12_3 x60_3) - ((rd_T54 l1 (rd l3 x60_3)).f4))))).cell? ⟨gb175, 2, none⟩ = some (.string a2_2) := (blk_cell n2_.out 2).trans rfl
                  have hcz56_3 : (w52.setCell ⟨go38, (x60_3 : Int).toNat, none⟩ (.int .i64 (wrap64 ((rd x12_3 x60_3) - ((rd_T54 l1 (rd l3 x60_3)).f4))))).cell? ⟨gb175, 3, none⟩ = some (.slice A2_3 l2_3.length c2_3) := (blk_cell n2_.out 3).trans rfl
                  have hfz56_0 := blk_frozen n2_.out 0
                  have hfz56_1 := blk_frozen n2_.out 1
                  have hfz56_2 := blk_frozen n2_.out 2
                  have hfz56_3 := blk_frozen n2_.out 3
                  have p191 : 0 ≤ (x60_3 : Int) := of_decide_eq_true (by first | (with_reducible assumption) | assumption)
                  have q191 : x60_3 < (l2_3.length : Int) := of_decide_eq_true (by first | (with_reducible assumption) | assumption)
                  obtain ⟨ad191, e191, hx191_0, hx191_1, hx191_2, hx191_3, hx191_4⟩ := at_T48 HR2_3.out x60_3 p191 q191
                  (try rw [← Nbq40.out] at hx191_4)
                  cases e191
                  have hn191_0 : ad191.block ≠ go38 := Nat.ne_of_lt (Nat.lt_of_lt_of_le (by have := World.block_lt_of_cell? _ _ hx191_0; first | rwa [add_block] at this | exact this) GB38.out)
                  replace hx191_0 := (HB.out.cell (World.block_lt_of_cell? w _ hx191_0)).trans hx191_0
                  replace hx191_1 := (HB.out.cell (World.block_lt_of_cell? w _ hx191_1)).trans hx191_1
                  replace hx191_2 := (HB.out.cell (World.block_lt_of_cell? w _ hx191_2)).trans hx191_2
                  replace hx191_3 := (HB.out.cell (World.block_lt_of_cell? w _ hx191_3)).trans hx191_3
                  replace hx191_4 := (HB.out.cell (World.block_lt_of_cell? w _ hx191_4)).trans hx191_4
                  replace hx191_0 := (cell_far (p := ⟨go38, (x60_3 : Int).toNat, none⟩) (by first | (rw [add_block]; exact hn191_0) | (show (Addr.add _ _).block ≠ _; rw [add_block]; exact hn191_0) | exact hn191_0) (.int .i64 (wrap64 ((rd x12_3 x60_3) - ((rd_T54 l1 (rd l3 x60_3)).f4))))).trans hx191_0
                  replace hx191_1 := (cell_far (p := ⟨go38, (x60_3 : Int).toNat, none⟩) (by first | (rw [add_block]; exact hn191_0) | (show (Addr.add _ _).block ≠ _; rw [add_block]; exact hn191_0) | exact hn191_0) (.int .i64 (wrap64 ((rd x12_3 x60_3) - ((rd_T54 l1 (rd l3 x60_3)).f4))))).trans hx191_1
                  replace hx191_2 := (cell_far (p := ⟨go38, (x60_3 : Int).toNat, none⟩) (by first | (rw [add_block]; exact hn191_0) | (show (Addr.add _ _).block ≠ _; rw [add_block]; exact hn191_0) | exact hn191_0) (.int .i64 (wrap64 ((rd x12_3 x60_3) - ((rd_T54 l1 (rd l3 x60_3)).f4))))).trans hx191_2
                  replace hx191_3 := (cell_far (p := ⟨go38, (x60_3 : Int).toNat, none⟩) (by first | (rw [add_block]; exact hn191_0) | (show (Addr.add _ _).block ≠ _; rw [add_block]; exact hn191_0) | exact hn191_0) (.int .i64 (wrap64 ((rd x12_3 x60_3) - ((rd_T54 l1 (rd l3 x60_3)).f4))))).trans hx191_3
                  replace hx191_4 := (cell_far (p := ⟨go38, (x60_3 : Int).toNat, none⟩) (by first | (rw [add_block]; exact hn191_0) | (show (Addr.add _ _).block ≠ _; rw [add_block]; exact hn191_0) | exact hn191_0) (.int .i64 (wrap64 ((rd x12_3 x60_3) - ((rd_T54 l1 (rd l3 x60_3)).f4))))).trans hx191_4
                  clear hn191_0
                  replace p191 := eq_true p191
                  replace q191 := eq_true q191
                  try go_wp2
                  go_roundg k3
                  case measure => have := HJ4.out; have := HK2.out; have := HK3.out; omega
                  case rel => exact ⟨(y190), (wrap64 (x60_3 + 1)), (by first | rfl | (simp; done) | (simp [*]; done)), H', ⟨by have := HJ4.out; have := HK2.out; have := HK3.out; omega⟩, ⟨by (with_reducible repeat (first | apply Kd.R_alloc | apply Kd.R_drewN | apply Kd.R_drew)); exact HQ54.out⟩, ⟨by (with_reducible repeat (first | refine blk_drewN ?_ _ | refine blk_drew ?_ | refine blk_alloc ?_ _)); refine blk_far ?_ (by have h_ := Kd.R_ne HO_12.out BK174.out (by decide); intro e_; exact h_ (by rw [e_]; rfl)) _; (with_reducible repeat (first | refine blk_drewN ?_ _ | refine blk_drew ?_ | refine blk_alloc ?_ _)); exact BK174.out⟩, ⟨by (with_reducible repeat (first | refine blk_drewN ?_ _ | refine blk_drew ?_ | refine blk_alloc ?_ _)); refine blk_far ?_ (by have h_ := Kd.R_ne HO_12.out BK175.out (by decide); intro e_; exact h_ (by rw [e_]; rfl)) _; (with_reducible repeat (first | refine blk_drewN ?_ _ | refine blk_drew ?_ | refine blk_alloc ?_ _)); exact BK175.out⟩, ⟨by repeat (first | (with_reducible first | exact HB.out | apply below_alloc | apply pw_below_drewN | apply below_drew1 | refine below_set ?_ GB38.out | refine below_set ?_ GE174.out | refine below_set ?_ GE175.out) | exact HB.out)⟩⟩
                ·rw [if_neg c39] at H
                 exact absurd H (by simp)
               ·rw [if_neg c37] at H
                exact absurd H (by simp)
              ·rw [if_neg c36] at H
               exact absurd H (by simp)
             ·rw [if_neg c35] at H
              exact absurd H (by simp)
            ·rw [if_neg c34] at H
             exact absurd H (by simp)
           ·rw [if_neg c33] at H
            exact absurd H (by simp)
          ·rw [if_neg c32] at H
           have c32b0 : decide (x60_3 < (l3.length : Int)) = false := decide_eq_false c32
           clear c32
           simp only [Option.some.injEq, Prod.mk.injEq] at H
           obtain ⟨rfl, rfl⟩ := H
           go_wp2
           go_ret2
           exact ⟨_, by first | rfl | (simp [errW_none, errW_some] <;> rfl) | (simp [*, errW_none, errW_some] <;> rfl), by (with_reducible repeat (first | apply Kd.R_alloc | apply Kd.R_drewN | apply Kd.R_drew)); exact HO_12.out, by repeat (first | (with_reducible first | exact HB.out | apply below_alloc | apply pw_below_drewN | apply below_drew1 | refine below_set ?_ GE174.out | refine below_set ?_ GE175.out) | exact HB.out)⟩
       ·rw [if_neg c23] at H
        have c23b0 : (t181 == 0) = false := beq_eq_false_iff_ne.mpr c23
        have c23b1 : (t181 != 0) = true := bne_iff_ne.mpr c23
        simp only [Option.some.injEq, Prod.mk.injEq] at H
        obtain ⟨rfl, rfl⟩ := H
        have hnb57 := NB174_175.out
        have hnc57 := NB175_174.out
        have hcz58_0 : wr.cell? ⟨gb174, 0, none⟩ = some (.slice A0_0 l0_0.length c0_0) := (blk_cell BK174.out 0).trans rfl
        have hcz58_1 : wr.cell? ⟨gb174, 1, none⟩ = some (.slice A0_1 l0_1.length c0_1) := (blk_cell BK174.out 1).trans rfl
        have hfz58_0 := blk_frozen BK174.out 0
        have hfz58_1 := blk_frozen BK174.out 1
        have hcz59_0 : wr.cell? ⟨gb175, 0, none⟩ = some (.int .u8 a2_0) := (blk_cell BK175.out 0).trans rfl
        have hcz59_1 : wr.cell? ⟨gb175, 1, none⟩ = some (.int .u8 a2_1) := (blk_cell BK175.out 1).trans rfl
        have hcz59_2 : wr.cell? ⟨gb175, 2, none⟩ = some (.string a2_2) := (blk_cell BK175.out 2).trans rfl
        have hcz59_3 : wr.cell? ⟨gb175, 3, none⟩ = some (.slice A2_3 l2_3.length c2_3) := (blk_cell BK175.out 3).trans rfl
        have hfz59_0 := blk_frozen BK175.out 0
        have hfz59_1 := blk_frozen BK175.out 1
        have hfz59_2 := blk_frozen BK175.out 2
        have hfz59_3 := blk_frozen BK175.out 3
        go_wp2_with (first | ((with_reducible refine gate_callee (f := 16) rfl ?_); refine goesL_ (some 47) rfl rfl Tryd.func16 (by kernel_rfl) rfl #[.agg #[.slice A0_0 l0_0.length c0_0, .slice A0_1 l0_1.length c0_1], .agg #[.int .u8 a2_0, .int .u8 a2_1, .string a2_2, .slice A2_3 l2_3.length c2_3]] rfl (by (try simp only [List.map_toArray, List.map_cons, List.map_nil]); first | done | rfl | (simp only [List.length_drop, List.length_take]; rfl)) ?_; (with_reducible refine (tariff_Bases.calls k2 _ _ l0_0 _ _ l0_1 a2_0 a2_1 a2_2 _ _ l2_3 t178 t181 _ ?side1 ?side2 ?side3 ?side4 ?side5 ?side6 A22.out).mono ?_); (case side1 => repeat (first | exact (Kd.C_below HR0_0.out HB.out) | (with_reducible refine Kd.C_alloc ?_ _) | (with_reducible refine Kd.C_drewN ?_ _) | (with_reducible refine Kd.C_drew ?_))); (case side2 => exact HC0_0.out); (case side3 => repeat (first | exact (Kd.C_below HR0_1.out HB.out) | (with_reducible refine Kd.C_alloc ?_ _) | (with_reducible refine Kd.C_drewN ?_ _) | (with_reducible refine Kd.C_drew ?_))); (case side4 => exact HC0_1.out); (case side5 => repeat (first | exact (Kd.C_below HR2_3.out HB.out) | (with_reducible refine Kd.C_alloc ?_ _) | (with_reducible refine Kd.C_drewN ?_ _) | (with_reducible refine Kd.C_drew ?_))); (case side6 => exact HC2_3.out); rintro e w60 ⟨v179, rfl, ho0, hb⟩; refine ⟨_, rfl, ?_⟩; have n0_ := Aside0.mk (Kd.R_lower ho0 (below_size (by repeat (first | (with_reducible first | exact HB.out | apply below_alloc | apply pw_below_drewN | apply below_drew1 | refine below_set ?_ GE174.out | refine below_set ?_ GE175.out) | exact HB.out)))); have n1_ := Aside0.mk (blk_below (g := gb174) (o := .cells #[.slice A0_0 l0_0.length c0_0, .slice A0_1 l0_1.length c0_1] 25 (0, 0)) (by (with_reducible repeat (first | refine blk_drewN ?_ _ | refine blk_drew ?_ | refine blk_alloc ?_ _)); exact BK174.out) hb); have n2_ := Aside0.mk (blk_below (g := gb175) (o := .cells #[.int .u8 a2_0, .int .u8 a2_1, .string a2_2, .slice A2_3 l2_3.length c2_3] 36 (0, 0)) (by (with_reducible repeat (first | refine blk_drewN ?_ _ | refine blk_drew ?_ | refine blk_alloc ?_ _)); exact BK175.out) hb); have n3_ := Aside0.mk (below_step (by repeat (first | (with_reducible first | exact HB.out | apply below_alloc | apply pw_below_drewN | apply below_drew1 | refine below_set ?_ GE174.out | refine below_set ?_ GE175.out) | exact HB.out)) hb); clear BK174; clear BK175; clear HB; have HO180 := n0_; have BK174 := n1_; have BK175 := n2_; have HB := n3_; clear n0_ n1_ n2_ n3_; (try clear hb); (try clear hb2); (try clear hk); (try clear hi); (try clear ho0)))
        go_ret2
        exact ⟨_, by first | rfl | (simp [errW_none, errW_some] <;> rfl) | (simp [*, errW_none, errW_some] <;> rfl), by first | exact Kd.R_nil _ _ _ _ _ | exact Kd.N_nil _ _ _ _ _ | exact Kd.V_nil _ _ _ _ _ | exact Kd.Q_nil _ _ _ _ _ | exact Kd.S_nil _ _ _ _ _, by repeat (first | (with_reducible first | exact HB.out | apply below_alloc | apply pw_below_drewN | apply below_drew1 | refine below_set ?_ GE174.out | refine below_set ?_ GE175.out) | exact HB.out)⟩
end Go.Proofs.YtfglcfbcdhjcdaaDoor.Q

namespace Go.Proofs.YtfglcfbcdhjcdaaDoor.Q
open Go.RowKit Go.Proofs.YtfglcfbcdhjcdaaDoorW.PrintWords Go.Proofs.YtfglcfbcdhjcdaaDoorW.PrintLast Go.Proofs.YtfglcfbcdhjcdaaDoorW.PrintMore
set_option linter.unusedVariables false
def exR : List Rt := [⟨1, [⟨20, [100, 150]⟩, ⟨50, [120, 200]⟩], 10⟩]
def exZ : List Zn := [⟨⟨#[]⟩, ⟨#[]⟩, 2⟩, ⟨⟨#[49]⟩, ⟨#[49]⟩, 1⟩]
def exL : List Lv := [⟨⟨#[53]⟩, 5, [], 10, 9⟩, ⟨⟨#[51]⟩, 3, [⟨⟨#[49, 48, 48]⟩, ⟨#[67, 73, 84, 89]⟩⟩, ⟨⟨#[49, 48, 49]⟩, ⟨#[67, 73, 84, 89]⟩⟩], 10, 5⟩, ⟨⟨#[97, 108, 108]⟩, 0, [], 0, 0⟩]
def exFrom : ByteArray := ⟨#[49, 48, 48, 50, 51]⟩
def exNear : ByteArray := ⟨#[49, 57, 57, 57, 57]⟩
def exFar : ByteArray := ⟨#[50, 48, 48, 48, 49]⟩
def exP : List (S48) := [⟨1, 0, exFar, 20, true⟩]
theorem ex_t : letterbaglaw24_Example.f = some (exR, exZ) := rfl
theorem ex_x : letterbaglaw23_Example.f = some exL := rfl
theorem ex_m : letterbaglaw24_Piece.f exFar 20 true = some (1, 1, exFrom, exP) := rfl
set_option maxRecDepth 100000
theorem ex_a : tariff_Zone.f 100 exR exZ exFrom exNear = some (1, 0) := by decide +kernel
theorem ex_b : tariff_Zone.f 100 exR exZ exFrom exFar = some (2, 0) := by decide +kernel
theorem ex_c : tariff_Price.f 100 exR exZ 1 2 21 = some (200, 0) := by decide +kernel
theorem ex_h : tariff_Price.f 100 exR exZ 1 2 51 = some (0, 3) := by decide +kernel
theorem ex_i : tariff_Price.f 100 exR exZ 2 2 51 = some (0, 6) := by decide +kernel
theorem ex_fits : tariff_Fits.f 100 exR exZ exL = some true := by decide +kernel
theorem ex_bases : tariff_Bases.f 100 exR exZ 1 1 exFrom exP = some ([150], 0) := by decide +kernel
theorem ex_post : tariff_Postage.f 100 exR exZ exL 1 1 exFrom exP [1] = some ([135], 0) := by decide +kernel
theorem ex_mail : tariff_Mailing.f 100 1 1 exFrom exP = some true := by decide +kernel
theorem ex_right : tariff_Right.f exR exZ = some true := by decide +kernel
theorem ex_s1 : letterbagkit_SameInts.f 100 [150] [150] = some true := by decide +kernel
theorem ex_s2 : letterbagkit_SameInts.f 100 [135] [135] = some true := by decide +kernel
end Go.Proofs.YtfglcfbcdhjcdaaDoor.Q

namespace Go.Proofs.YtfglcfbcdhjcdaaDoor.Q
open Go.RowKit Go.Proofs.YtfglcfbcdhjcdaaDoorW.PrintWords Go.Proofs.YtfglcfbcdhjcdaaDoorW.PrintLast Go.Proofs.YtfglcfbcdhjcdaaDoorW.PrintMore
attribute [local go_sem] max2_int min2_int max_two min_two max_three min_three max_four min_four
set_option linter.unusedVariables false
set_option linter.unusedSimpArgs false
def letterbaglaw24_Mail.l0 : Nat → List Int → Int → Int → Int → Int → ByteArray → List (S48) → Option (Int × Int × ByteArray × (List (S48)))
 | 0, _, _, _, _, _, _, _ => none
 | k + 1, x1, x6, x7, x231000, x231001, x231002, x231003 => if x7 < (x1.length : Int) then (if x7 < 2000 then (if 0 ≤ x7 then ((letterbaglaw23_Codes.f k (([((wrap64 (rd x1 x7)) / 256) % 256] : List Int))).bind fun t235 => (if 0 < (t235.length : Int) then (if x231003.length < 2932031007402 then (letterbaglaw24_Mail.l0 k x1 (wrap64 (x6 + (wrap64 (1 + (Int.tmod (wrap64 (rd x1 x7)) 3))))) (wrap64 (x7 + 1)) x231000 x231001 x231002 (x231003 ++ [(⟨wrap64 (x6 + (wrap64 (1 + (Int.tmod (wrap64 (rd x1 x7)) 3)))), 0, rdOf ByteArray.empty t235 0, wrap64 (1 + (Int.tmod ((wrap64 (rd x1 x7)) / 4) 20)), decide ((Go.bits .and .i64 (wrap64 (rd x1 x7)) 1) > 0)⟩ : S48)])) else (none)) else (none))) else (none)) else (some (x231000, x231001, x231002, x231003))) else (some (x231000, x231001, x231002, x231003))
def letterbaglaw24_Mail.f (k : Nat) (a0 : Int) (l1 : List Int) : Option (Int × Int × ByteArray × (List (S48))) := letterbaglaw24_Mail.l0 k l1 0 0 ((1 + (Int.tmod a0 3)) % 256) 1 (⟨#[49, 48, 48, 50, 51]⟩ : ByteArray) ([] : List (S48))
def letterbaglaw24_Mail.T8 : Bool × List (List Nat × List Nat) := (true, [([], []), ([0], [0]), ([], []), ([], []), ([3], [3]), ([4], [4]), ([5], [5]), ([6], [6]), ([7], [7]), ([8], [8]), ([], []), ([10], [10]), ([11], [11]), ([12], [12]), ([], []), ([14], [14]), ([15], [15]), ([2, 9, 13, 16], [2, 9, 13, 16]), ([17], [17]), ([1, 18, 7], [1, 18]), ([0, 1, 2, 3, 4, 5, 6, 7, 8, 9, 10, 11, 12, 13, 14, 15, 16, 17, 18, 19], []), ([20, 19, 19, 0, 1, 2, 3, 4, 5, 6, 7, 8, 9, 10, 11, 12, 13, 14, 15, 16, 17, 18, 19], [19, 20])])
def letterbaglaw24_Mail.B8 : List Nat := [0, 1, 0, 0, 8, 24, 56, 120, 248, 504, 0, 1024, 3072, 7168, 0, 16384, 49152, 131068, 262140, 524287, 1048575, 2097151]
theorem letterbaglaw24_Mail.tab8 : rtab .any (opsOf Tryd.f14 8) = letterbaglaw24_Mail.T8 := by kernel_rfl
theorem letterbaglaw24_Mail.bits8 : waitsOk letterbaglaw24_Mail.T8.2 letterbaglaw24_Mail.B8 = true := by kernel_rfl
set_option maxHeartbeats 8000000 in
set_option maxRecDepth 100000 in
theorem letterbaglaw24_Mail.calls (k : Nat) (a0 : Int) (A1 : Option Addr) (c1 : Nat) (l1 : List Int) (r1 : Int) (r2 : Int) (r3 : ByteArray) (r4 : List (S48)) (w : World) (hr1 : Kd.C (Kd.int .u16) w A1 l1.length l1) (hc1 : l1.length ≤ c1) (h : letterbaglaw24_Mail.f k a0 l1 = some (r1, r2, r3, r4)) :
  Calls Tryd.prog 14 #[.int .u8 a0, .slice A1 l1.length c1] w fun e w' => ∃ v3_ : Value, e = .returned (.agg #[.int .u8 r1, .int .u8 r2, .string r3, v3_]) ∧ Kd.R k48 48 w' w.heap.size (fun _ => True) v3_ r4 ∧ Below w.heap.size w w' := by
 have hu36 := Tryd.underlying36
 have hu48 := Tryd.underlying48
 have HR1 := Aside0.mk hr1
 have HC1 := Aside0.mk hc1
 clear hr1 hc1
 have HB := Aside0.mk (Below.refl w.heap.size w)
 have H : (letterbaglaw24_Mail.l0 k l1 0 0 ((1 + (Int.tmod a0 3)) % 256) 1 (⟨#[49, 48, 48, 50, 51]⟩ : ByteArray) ([] : List (S48))) = some (r1, r2, r3, r4) := h
 clear h
 have H' := Aside0.mk H
 clear H
 go_enter Tryd.func14, Tryd.ntmps14
 go_wp2_with (first | ((with_reducible refine gate_dst (N := 4) rfl ?_); refine box_event ?hg (N := 4) ?hd (cs := #[.int .u8 0, .int .u8 0, .string (⟨#[]⟩ : ByteArray), .slice none 0 0]) (t := 36) ?hr ?_; (case hd => rfl); (case hg => rfl); (case hr => first | (go_simp; done) | (go_simp; rfl)); intro gb229 hg w3 hbox hb; have n0_ := Aside0.mk (below_step (by repeat (first | (with_reducible first | exact HB.out | apply below_alloc | apply pw_below_drewN | apply below_drew1) | exact HB.out)) hb); have n1_ := Aside0.mk (hbox); have n2_ := Aside0.mk ((by rw [hg]; exact (below_size (by repeat (first | (with_reducible first | exact HB.out | apply below_alloc | apply pw_below_drewN | apply below_drew1) | exact HB.out))) : w.heap.size ≤ gb229)); have n3_ := Aside0.mk ((by rw [hg]; exact (below_size (by repeat (first | (with_reducible first | exact HB.out | apply below_alloc | apply pw_below_drewN | apply below_drew1) | exact HB.out))) : w.heap.size ≤ gb229)); clear HB; have HB := n0_; have BK229 := n1_; have GW229 := n2_; have GE229 := n3_; clear n0_ n1_ n2_ n3_; clear hb hbox hg) | ((with_reducible refine gate_dst (N := 5) rfl ?_); refine box_event ?hg (N := 5) ?hd (cs := #[.int .u8 0, .int .u8 0, .string (⟨#[]⟩ : ByteArray), .slice none 0 0]) (t := 36) ?hr ?_; (case hd => rfl); (case hg => rfl); (case hr => first | (go_simp; done) | (go_simp; rfl)); intro gb230 hg w4 hbox hb; have n0_ := Aside0.mk (blk_below (g := gb229) (o := .cells #[.int .u8 0, .int .u8 0, .string (⟨#[]⟩ : ByteArray), .slice none 0 0] 36 (0, 0)) (by (with_reducible repeat (first | refine blk_drewN ?_ _ | refine blk_drew ?_ | refine blk_alloc ?_ _)); exact BK229.out) hb); have n1_ := Aside0.mk (below_step (by repeat (first | (with_reducible first | exact HB.out | apply below_alloc | apply pw_below_drewN | apply below_drew1 | refine below_set ?_ GE229.out) | exact HB.out)) hb); have n2_ := Aside0.mk (hbox); have n3_ := Aside0.mk ((by rw [hg]; exact (below_size (by repeat (first | (with_reducible first | exact HB.out | apply below_alloc | apply pw_below_drewN | apply below_drew1 | refine below_set ?_ GE229.out) | exact HB.out))) : w.heap.size ≤ gb230)); have n4_ := Aside0.mk ((by rw [hg]; exact (below_size (by repeat (first | (with_reducible first | exact HB.out | apply below_alloc | apply pw_below_drewN | apply below_drew1 | refine below_set ?_ GE229.out) | exact HB.out))) : w.heap.size ≤ gb230)); have n5_ := Aside0.mk ((by rw [hg]; exact Nat.ne_of_lt (blk_lt (g := gb229) (o := .cells #[.int .u8 0, .int .u8 0, .string (⟨#[]⟩ : ByteArray), .slice none 0 0] 36 (0, 0)) (by (with_reducible repeat (first | refine blk_drewN ?_ _ | refine blk_drew ?_ | refine blk_alloc ?_ _)); exact BK229.out)) : gb229 ≠ gb230)); have n6_ := Aside0.mk ((by rw [hg]; exact Nat.ne_of_gt (blk_lt (g := gb229) (o := .cells #[.int .u8 0, .int .u8 0, .string (⟨#[]⟩ : ByteArray), .slice none 0 0] 36 (0, 0)) (by (with_reducible repeat (first | refine blk_drewN ?_ _ | refine blk_drew ?_ | refine blk_alloc ?_ _)); exact BK229.out)) : gb230 ≠ gb229)); clear BK229; clear HB; have BK229 := n0_; have HB := n1_; have BK230 := n2_; have GW230 := n3_; have GE230 := n4_; have NB229_230 := n5_; have NB230_229 := n6_; clear n0_ n1_ n2_ n3_ n4_ n5_ n6_; clear hb hbox hg; have hnb5 := NB230_229.out; have hnc5 := NB229_230.out; have hcz6_0 : w4.cell? ⟨gb230, 0, none⟩ = some (.int .u8 0) := (blk_cell BK230.out 0).trans rfl; have hcz6_1 : w4.cell? ⟨gb230, 1, none⟩ = some (.int .u8 0) := (blk_cell BK230.out 1).trans rfl; have hcz6_2 : w4.cell? ⟨gb230, 2, none⟩ = some (.string (⟨#[]⟩ : ByteArray)) := (blk_cell BK230.out 2).trans rfl; have hcz6_3 : w4.cell? ⟨gb230, 3, none⟩ = some (.slice none 0 0) := (blk_cell BK230.out 3).trans rfl; have hfz6_0 := blk_frozen BK230.out 0; have hfz6_1 := blk_frozen BK230.out 1; have hfz6_2 := blk_frozen BK230.out 2; have hfz6_3 := blk_frozen BK230.out 3))
 go_loopg [6, 7] k (fun kq v6 v7 w' => ∃ (x6_1 : Int) (x7_1 : Int) (x231003_1 : List (S48)) (u231003 : Value), v6 = .int .i64 x6_1 ∧ v7 = .int .i64 x7_1 ∧ Aside0 (letterbaglaw24_Mail.l0 kq l1 x6_1 x7_1 ((1 + (Int.tmod a0 3)) % 256) 1 (⟨#[49, 48, 48, 50, 51]⟩ : ByteArray) x231003_1 = some (r1, r2, r3, r4)) ∧ Aside0 (kq ≤ k) ∧ Aside0 (Kd.R k48 48 w' w.heap.size (fun _ => True) u231003 x231003_1) ∧ Aside0 (w'.heap[gb229]? = some (.cells #[.int .u8 0, .int .u8 0, .string (⟨#[]⟩ : ByteArray), (.slice none 0 0)] 36 (0, 0))) ∧ Aside0 (w'.heap[gb230]? = some (.cells #[.int .u8 ((1 + (Int.tmod a0 3)) % 256), .int .u8 1, .string (⟨#[49, 48, 48, 50, 51]⟩ : ByteArray), u231003] 36 (0, 0))) ∧ Aside0 (Below w.heap.size w w'))
 case atStart => exact ⟨(0), (0), (([] : List (S48))), (.slice none 0 0), (by first | rfl | (simp; done) | (simp [*]; done)), (by first | rfl | (simp; done) | (simp [*]; done)), H', ⟨Nat.le_refl _⟩, ⟨by first | exact Kd.R_nil _ _ _ _ _ | exact Kd.N_nil _ _ _ _ _ | exact Kd.V_nil _ _ _ _ _ | exact Kd.Q_nil _ _ _ _ _ | exact Kd.S_nil _ _ _ _ _⟩, ⟨by (with_reducible repeat (first | refine blk_drewN ?_ _ | refine blk_drew ?_ | refine blk_alloc ?_ _)); refine blk_far ?_ NB229_230.out _; (with_reducible repeat (first | refine blk_drewN ?_ _ | refine blk_drew ?_ | refine blk_alloc ?_ _)); refine blk_far ?_ NB229_230.out _; (with_reducible repeat (first | refine blk_drewN ?_ _ | refine blk_drew ?_ | refine blk_alloc ?_ _)); refine blk_far ?_ NB229_230.out _; (with_reducible repeat (first | refine blk_drewN ?_ _ | refine blk_drew ?_ | refine blk_alloc ?_ _)); refine blk_far ?_ NB229_230.out _; (with_reducible repeat (first | refine blk_drewN ?_ _ | refine blk_drew ?_ | refine blk_alloc ?_ _)); exact BK229.out⟩, ⟨by (with_reducible repeat (first | refine blk_drewN ?_ _ | refine blk_drew ?_ | refine blk_alloc ?_ _)); refine blk_put (cs := #[.int .u8 ((1 + (Int.tmod a0 3)) % 256), .int .u8 1, .string (⟨#[49, 48, 48, 50, 51]⟩ : ByteArray), .slice none 0 0]) ?_ 3 _ rfl; (with_reducible repeat (first | refine blk_drewN ?_ _ | refine blk_drew ?_ | refine blk_alloc ?_ _)); refine blk_put (cs := #[.int .u8 ((1 + (Int.tmod a0 3)) % 256), .int .u8 1, .string (⟨#[]⟩ : ByteArray), .slice none 0 0]) ?_ 2 _ rfl; (with_reducible repeat (first | refine blk_drewN ?_ _ | refine blk_drew ?_ | refine blk_alloc ?_ _)); refine blk_put (cs := #[.int .u8 ((1 + (Int.tmod a0 3)) % 256), .int .u8 0, .string (⟨#[]⟩ : ByteArray), .slice none 0 0]) ?_ 1 _ rfl; (with_reducible repeat (first | refine blk_drewN ?_ _ | refine blk_drew ?_ | refine blk_alloc ?_ _)); refine blk_put (cs := #[.int .u8 0, .int .u8 0, .string (⟨#[]⟩ : ByteArray), .slice none 0 0]) ?_ 0 _ rfl; (with_reducible repeat (first | refine blk_drewN ?_ _ | refine blk_drew ?_ | refine blk_alloc ?_ _)); exact BK230.out⟩, ⟨by repeat (first | (with_reducible first | exact HB.out | apply below_alloc | apply pw_below_drewN | apply below_drew1 | refine below_set ?_ GE229.out | refine below_set ?_ GE230.out) | exact HB.out)⟩⟩
 case round =>
  clear H'
  try clear c1
  try clear p2
  try clear c5
  try clear hcz6_0
  try clear hcz6_1
  try clear hcz6_2
  try clear hcz6_3
  try clear hfz6_0
  try clear hfz6_1
  try clear hfz6_2
  try clear hfz6_3
  obtain ⟨x6_1, x7_1, x231003_1, u231003, rfl, rfl, HA, HK1, HO_231003, BK229, BK230, HB⟩ := hrel
  cases gk with
  | zero => exact absurd HA.out (by simp [letterbaglaw24_Mail.l0])
  | succ k1 =>
   have H := HA.out
   clear HA
   simp only [letterbaglaw24_Mail.l0] at H
   by_cases c7 : x7_1 < (l1.length : Int)
   ·rw [if_pos c7] at H
    have c7b0 : decide (x7_1 < (l1.length : Int)) = true := decide_eq_true c7
    clear c7
    by_cases c8 : x7_1 < 2000
    ·rw [if_pos c8] at H
     have c8b0 : decide (x7_1 < 2000) = true := decide_eq_true c8
     clear c8
     by_cases c9 : 0 ≤ x7_1
     ·rw [if_pos c9] at H
      have c9b0 : decide (0 ≤ x7_1) = true := decide_eq_true c9
      clear c9
      obtain ⟨y232, hy232⟩ : ∃ y_ : List Int, y_ = (([((wrap64 (rd l1 x7_1)) / 256) % 256] : List Int)) := ⟨_, rfl⟩
      replace H : ((letterbaglaw23_Codes.f k1 y232).bind fun t235 => (if 0 < (t235.length : Int) then (if x231003_1.length < 2932031007402 then (letterbaglaw24_Mail.l0 k1 l1 (wrap64 (x6_1 + (wrap64 (1 + (Int.tmod (wrap64 (rd l1 x7_1)) 3))))) (wrap64 (x7_1 + 1)) ((1 + (Int.tmod a0 3)) % 256) 1 (⟨#[49, 48, 48, 50, 51]⟩ : ByteArray) (x231003_1 ++ [(⟨wrap64 (x6_1 + (wrap64 (1 + (Int.tmod (wrap64 (rd l1 x7_1)) 3)))), 0, rdOf ByteArray.empty t235 0, wrap64 (1 + (Int.tmod ((wrap64 (rd l1 x7_1)) / 4) 20)), decide ((Go.bits .and .i64 (wrap64 (rd l1 x7_1)) 1) > 0)⟩ : S48)])) else (none)) else (none))) = some (r1, r2, r3, r4) := by first | (rw [hy232]; with_reducible exact H) | (have H2_ := (Option.bind_some _ _).symm.trans H; rw [hy232]; with_reducible exact H2_) | (have H2_ := (Option.bind_some _ _).symm.trans H; with_reducible exact H2_) | with_reducible exact H | (rw [hy232]; exact H) | exact H
      have Ny232 := Aside0.mk hy232
      clear hy232
      replace H := Option.bind_eq_some_iff.mp H
      obtain ⟨t235, A100, H⟩ := H
      replace H : (if 0 < (t235.length : Int) then (if x231003_1.length < 2932031007402 then (letterbaglaw24_Mail.l0 k1 l1 (wrap64 (x6_1 + (wrap64 (1 + (Int.tmod (wrap64 (rd l1 x7_1)) 3))))) (wrap64 (x7_1 + 1)) ((1 + (Int.tmod a0 3)) % 256) 1 (⟨#[49, 48, 48, 50, 51]⟩ : ByteArray) (x231003_1 ++ [(⟨wrap64 (x6_1 + (wrap64 (1 + (Int.tmod (wrap64 (rd l1 x7_1)) 3)))), 0, rdOf ByteArray.empty t235 0, wrap64 (1 + (Int.tmod ((wrap64 (rd l1 x7_1)) / 4) 20)), decide ((Go.bits .and .i64 (wrap64 (rd l1 x7_1)) 1) > 0)⟩ : S48)])) else (none)) else (none)) = some (r1, r2, r3, r4) := H
      have A10 := Aside0.mk A100
      clear A100
      by_cases c11 : 0 < (t235.length : Int)
      ·rw [if_pos c11] at H
       have c11b0 : decide (0 < (t235.length : Int)) = true := decide_eq_true c11
       have c11b1 : decide (0 < t235.length) = true := decide_eq_true (by omega)
       clear c11
       by_cases c12 : x231003_1.length < 2932031007402
       ·rw [if_pos c12] at H
        have LMc12 := Aside0.mk c12
        clear c12
        obtain ⟨y239, hy239⟩ : ∃ y_ : List (S48), y_ = (x231003_1 ++ [(⟨wrap64 (x6_1 + (wrap64 (1 + (Int.tmod (wrap64 (rd l1 x7_1)) 3)))), 0, rdOf ByteArray.empty t235 0, wrap64 (1 + (Int.tmod ((wrap64 (rd l1 x7_1)) / 4) 20)), decide ((Go.bits .and .i64 (wrap64 (rd l1 x7_1)) 1) > 0)⟩ : S48)]) := ⟨_, rfl⟩
        replace H : (letterbaglaw24_Mail.l0 k1 l1 (wrap64 (x6_1 + (wrap64 (1 + (Int.tmod (wrap64 (rd l1 x7_1)) 3))))) (wrap64 (x7_1 + 1)) ((1 + (Int.tmod a0 3)) % 256) 1 (⟨#[49, 48, 48, 50, 51]⟩ : ByteArray) y239) = some (r1, r2, r3, r4) := by first | (rw [hy239]; with_reducible exact H) | (have H2_ := (Option.bind_some _ _).symm.trans H; rw [hy239]; with_reducible exact H2_) | (have H2_ := (Option.bind_some _ _).symm.trans H; with_reducible exact H2_) | with_reducible exact H | (rw [hy239]; exact H) | exact H
        have Ny239 := Aside0.mk hy239
        clear hy239
        have H' := Aside0.mk H
        clear H
        have p231 : 0 ≤ (x7_1 : Int) := of_decide_eq_true (by first | (with_reducible assumption) | assumption)
        have q231 : x7_1 < (l1.length : Int) := of_decide_eq_true (by first | (with_reducible assumption) | assumption)
        obtain ⟨ad231, e231, hx231_0⟩ := Kd.at_int HR1.out x7_1 p231 q231
        cases e231
        replace hx231_0 := (HB.out.cell (World.block_lt_of_cell? w _ hx231_0)).trans hx231_0
        replace p231 := eq_true p231
        replace q231 := eq_true q231
        try go_wp2
        have n0_ := Aside0.mk (Kd.R_drew HO_231003.out)
        have n1_ := Aside0.mk (blk_drew BK229.out)
        have n2_ := Aside0.mk (blk_drew BK230.out)
        have n3_ := Aside0.mk (below_drew1 HB.out)
        clear HO_231003
        clear BK229
        clear BK230
        clear HB
        have HO_231003 := n0_
        have BK229 := n1_
        have BK230 := n2_
        have HB := n3_
        clear n0_ n1_ n2_ n3_
        refine start_ (n := 22) (S := fun w' => w'.cell? ⟨gb230, 0, none⟩ = some (.int .u8 ((1 + (Int.tmod a0 3)) % 256)) ∧ w'.cell? ⟨gb230, 1, none⟩ = some (.int .u8 1) ∧ w'.cell? ⟨gb230, 2, none⟩ = some (.string (⟨#[49, 48, 48, 50, 51]⟩ : ByteArray)) ∧ w'.cell? ⟨gb230, 3, none⟩ = some (u231003)) (ds := [19, 21]) #[false, false, false, false, false, false, false, false, false, false, false, false, false, false, false, false, false, false, false, false, false, false] (by kernel_rfl) rfl rfl ⟨(blk_cell BK230.out 0).trans rfl, (blk_cell BK230.out 1).trans rfl, (blk_cell BK230.out 2).trans rfl, (blk_cell BK230.out 3).trans rfl⟩ (fun hHeld => ?_); refine with_tabW letterbaglaw24_Mail.tab8 letterbaglaw24_Mail.bits8 (fun HT_ HW_ => ?_)
        generalize wr.drew = w13 at HO_231003 BK229 BK230 HB hHeld ⊢
        refine pure_ (i := 0) (N := some 33) (v := ?_) (a' := ?_) #[true, false, false, false, false, false, false, false, false, false, false, false, false, false, false, false, false, false, false, false, false, false] rfl rfl (any_of HT_.out (by kernel_rfl)) (fun _ _ _ h => h) (Or.inl ⟨by rfl, ?_⟩) ?_ ?_
        rotate_left
        ·intro w'
         go_simp
         with_reducible rfl
        rotate_left
        ·simp only [Act.put, sl1, sl2, sl3, i64_w, i32_w]
         rfl
        refine pure_ (i := 2) (N := some 35) (v := ?_) (a' := ?_) #[true, false, true, false, false, false, false, false, false, false, false, false, false, false, false, false, false, false, false, false, false, false] rfl rfl (any_of HT_.out (by kernel_rfl)) (fun _ _ _ h => h) (Or.inl ⟨by rfl, ?_⟩) ?_ ?_
        rotate_left
        ·intro w'
         go_simp
         with_reducible rfl
        rotate_left
        ·simp only [Act.put, sl1, sl2, sl3, i64_w, i32_w]
         rfl
        refine pure_ (i := 3) (N := some 36) (v := ?_) (a' := ?_) #[true, false, true, true, false, false, false, false, false, false, false, false, false, false, false, false, false, false, false, false, false, false] rfl rfl (any_of HT_.out (by kernel_rfl)) (fun _ _ _ h => h) (Or.inl ⟨by rfl, ?_⟩) ?_ ?_
        rotate_left
        ·intro w'
         go_simp
         with_reducible rfl
        rotate_left
        ·simp only [Act.put, sl1, sl2, sl3, i64_w, i32_w]
         rfl
        refine pure_ (i := 4) (N := some 37) (v := ?_) (a' := ?_) #[true, false, true, true, true, false, false, false, false, false, false, false, false, false, false, false, false, false, false, false, false, false] rfl rfl (any_of HT_.out (by kernel_rfl)) (fun _ _ _ h => h) (Or.inl ⟨by rfl, ?_⟩) ?_ ?_
        rotate_left
        ·intro w'
         go_simp
         with_reducible rfl
        rotate_left
        ·simp only [Act.put, sl1, sl2, sl3, i64_w, i32_w]
         rfl
        refine pure_ (i := 5) (N := some 38) (v := ?_) (a' := ?_) #[true, false, true, true, true, true, false, false, false, false, false, false, false, false, false, false, false, false, false, false, false, false] rfl rfl (any_of HT_.out (by kernel_rfl)) (fun _ _ _ h => h) (Or.inl ⟨by rfl, ?_⟩) ?_ ?_
        rotate_left
        ·intro w'
         go_simp
         with_reducible rfl
        rotate_left
        ·simp only [Act.put, sl1, sl2, sl3, i64_w, i32_w]
         rfl
        refine pure_ (i := 10) (N := some 43) (v := ?_) (a' := ?_) #[true, false, true, true, true, true, false, false, false, false, true, false, false, false, false, false, false, false, false, false, false, false] rfl rfl (any_of HT_.out (by kernel_rfl)) (fun _ _ _ h => h) (Or.inl ⟨by rfl, ?_⟩) ?_ ?_
        rotate_left
        ·intro w'
         go_simp
         with_reducible rfl
        rotate_left
        ·simp only [Act.put, sl1, sl2, sl3, i64_w, i32_w]
         rfl
        refine pure_ (i := 11) (N := some 44) (v := ?_) (a' := ?_) #[true, false, true, true, true, true, false, false, false, false, true, true, false, false, false, false, false, false, false, false, false, false] rfl rfl (any_of HT_.out (by kernel_rfl)) (fun _ _ _ h => h) (Or.inl ⟨by rfl, ?_⟩) ?_ ?_
        rotate_left
        ·intro w'
         go_simp
         with_reducible rfl
        rotate_left
        ·simp only [Act.put, sl1, sl2, sl3, i64_w, i32_w]
         rfl
        refine pure_ (i := 12) (N := some 45) (v := ?_) (a' := ?_) #[true, false, true, true, true, true, false, false, false, false, true, true, true, false, false, false, false, false, false, false, false, false] rfl rfl (any_of HT_.out (by kernel_rfl)) (fun _ _ _ h => h) (Or.inl ⟨by rfl, ?_⟩) ?_ ?_
        rotate_left
        ·intro w'
         go_simp
         with_reducible rfl
        rotate_left
        ·simp only [Act.put, sl1, sl2, sl3, i64_w, i32_w]
         rfl
        refine pure_ (i := 13) (N := some 46) (v := ?_) (a' := ?_) #[true, false, true, true, true, true, false, false, false, false, true, true, true, true, false, false, false, false, false, false, false, false] rfl rfl (any_of HT_.out (by kernel_rfl)) (fun _ _ _ h => h) (Or.inl ⟨by rfl, ?_⟩) ?_ ?_
        rotate_left
        ·intro w'
         go_simp
         with_reducible rfl
        rotate_left
        ·simp only [Act.put, sl1, sl2, sl3, i64_w, i32_w]
         rfl
        refine pure_ (i := 14) (N := some 47) (v := ?_) (a' := ?_) #[true, false, true, true, true, true, false, false, false, false, true, true, true, true, true, false, false, false, false, false, false, false] rfl rfl (any_of HT_.out (by kernel_rfl)) (fun _ _ _ h => h) (Or.inl ⟨by rfl, ?_⟩) ?_ ?_
        rotate_left
        ·intro w'
         go_simp
         with_reducible rfl
        rotate_left
        ·simp only [Act.put, sl1, sl2, sl3, i64_w, i32_w]
         rfl
        refine pure_ (i := 15) (N := some 48) (v := ?_) (a' := ?_) #[true, false, true, true, true, true, false, false, false, false, true, true, true, true, true, true, false, false, false, false, false, false] rfl rfl (any_of HT_.out (by kernel_rfl)) (fun _ _ _ h => h) (Or.inl ⟨by rfl, ?_⟩) ?_ ?_
        rotate_left
        ·intro w'
         go_simp
         with_reducible rfl
        rotate_left
        ·simp only [Act.put, sl1, sl2, sl3, i64_w, i32_w]
         rfl
        refine pure_ (i := 16) (N := some 49) (v := ?_) (a' := ?_) #[true, false, true, true, true, true, false, false, false, false, true, true, true, true, true, true, true, false, false, false, false, false] rfl rfl (any_of HT_.out (by kernel_rfl)) (fun _ _ _ h => h) (Or.inl ⟨by rfl, ?_⟩) ?_ ?_
        rotate_left
        ·intro w'
         go_simp
         with_reducible rfl
        rotate_left
        ·simp only [Act.put, sl1, sl2, sl3, i64_w, i32_w]
         rfl
        refine take_ (i := 1) (N := some 34) (v := ?_) (a' := ?_) #[true, true, true, true, true, true, false, false, false, false, true, true, true, true, true, true, true, false, false, false, false, false] rfl rfl (take_ofW HT_.out HW_.out (by kernel_rfl)) (fun _ _ _ h => h) (Or.inl ⟨by rfl, ?_⟩) hHeld ?_ ?_
        rotate_left
        ·rintro w' ⟨s0, s1, s2, s3⟩
         go_simp
         with_reducible rfl
        rotate_left
        ·simp only [Act.put, sl1, sl2, sl3, i64_w, i32_w]
         rfl
        refine one_ (i := 6) (N := some 39) #[true, true, true, true, true, true, true, false, false, false, true, true, true, true, true, true, true, false, false, false, false, false] rfl rfl (one_of HT_.out (by kernel_rfl)) (by decide) (fun K hK => ?_)
        refine Kd.R_lit_step (Kd.int .u8) _ 5 ?hg (N := 39) ?hd (xs := ([((wrap64 (rd l1 x7_1)) / 256) % 256] : List Int)) (inner := [.int .u8 (((wrap64 (rd l1 x7_1)) / 256) % 256)]) (ok := fun _ => True) (okp := fun _ => True) ?hr ?hp (fun _ hk => hk) trivial (Below.refl _ _) (Nat.le_refl _) (by simp) ?_; (case hd => rfl); (case hg => rfl); (case hr => first | (go_simp; done) | (go_simp; rfl)); (case hp => exact (Reps.one (show Kd.M (Kd.int .u8) _ _ _ (((wrap64 (rd l1 x7_1)) / 256) % 256) [.int .u8 (((wrap64 (rd l1 x7_1)) / 256) % 256)] from rfl) (Reps.none _ _)))
        intro v233 w14 ho15 hb hg_ hnew_
        clear hg_ hnew_
        (first | rw [← Ny232.out] at ho15 | (simp only [Int.reduceToNat] at ho15; rw [← Ny232.out] at ho15))
        have n0_ := Aside0.mk (Kd.R_below (by (with_reducible repeat (first | apply Kd.R_alloc | apply Kd.R_drewN | apply Kd.R_drew)); exact HO_231003.out) hb)
        have n1_ := Aside0.mk (Kd.R_lower ho15 (below_size (by repeat (first | (with_reducible first | exact HB.out | apply below_alloc | apply pw_below_drewN | apply below_drew1 | refine below_set ?_ GE229.out | refine below_set ?_ GE230.out) | exact HB.out))))
        have n2_ := Aside0.mk (blk_below (g := gb229) (o := .cells #[.int .u8 0, .int .u8 0, .string (⟨#[]⟩ : ByteArray), .slice none 0 0] 36 (0, 0)) (by (with_reducible repeat (first | refine blk_drewN ?_ _ | refine blk_drew ?_ | refine blk_alloc ?_ _)); exact BK229.out) hb)
        have n3_ := Aside0.mk (blk_below (g := gb230) (o := .cells #[.int .u8 ((1 + (Int.tmod a0 3)) % 256), .int .u8 1, .string (⟨#[49, 48, 48, 50, 51]⟩ : ByteArray), u231003] 36 (0, 0)) (by (with_reducible repeat (first | refine blk_drewN ?_ _ | refine blk_drew ?_ | refine blk_alloc ?_ _)); exact BK230.out) hb)
        have n4_ := Aside0.mk (below_step (by repeat (first | (with_reducible first | exact HB.out | apply below_alloc | apply pw_below_drewN | apply below_drew1 | refine below_set ?_ GE229.out | refine below_set ?_ GE230.out) | exact HB.out)) hb)
        clear HO_231003
        clear BK229
        clear BK230
        clear HB
        have HO_231003 := n0_
        have HO234 := n1_
        have BK229 := n2_
        have BK230 := n3_
        have HB := n4_
        clear n0_ n1_ n2_ n3_ n4_
        clear hb ho15
        obtain ⟨Ao16, co16, eo16⟩ := Kd.R_slice HO234.out
        (first | subst eo16 | (injection eo16 with f1_ f2_ f3_; have f4_ := f1_.symm; have f5_ := f3_.symm; clear f1_ f2_ f3_; subst f4_; subst f5_))
        refine hK.out _ _ ⟨(blk_cell BK230.out 0).trans rfl, (blk_cell BK230.out 1).trans rfl, (blk_cell BK230.out 2).trans rfl, (blk_cell BK230.out 3).trans rfl⟩ (fun hHeld => ?_)
        clear hK K
        refine norm_ (a' := ?_) ?_ ?_
        rotate_left
        ·show Act.put _ (some 39) _ = _
         simp only [Act.put, sl1, sl2, sl3, i64_w, i32_w]
         rfl
        refine one_ (i := 7) (N := some 40) #[true, true, true, true, true, true, true, true, false, false, true, true, true, true, true, true, true, false, false, false, false, false] rfl rfl (one_of HT_.out (by kernel_rfl)) (by decide) (fun K hK => ?_)
        refine goes_ Tryd.func24 (by kernel_rfl) rfl #[.slice Ao16 y232.length co16] (by rfl) rfl rfl (by (try simp only [List.map_toArray, List.map_cons, List.map_nil]); first | done | rfl | (simp only [List.length_drop, List.length_take]; rfl)) ?_
        with_reducible refine (letterbaglaw23_Codes.calls k1 _ _ y232 t235 _ ?side1 ?side2 A10.out).mono ?_
        (case side1 => repeat (first | exact (Kd.R_reads' HO234.out).2.2 | (with_reducible refine Kd.C_alloc ?_ _) | (with_reducible refine Kd.C_drewN ?_ _) | (with_reducible refine Kd.C_drew ?_)))
        (case side2 => exact (Kd.R_reads' HO234.out).2.1)
        rintro e w17 ⟨v236, rfl, ho0, hb⟩
        refine ⟨_, rfl, ?_⟩
        have n0_ := Aside0.mk (Kd.R_below (by (with_reducible repeat (first | apply Kd.R_alloc | apply Kd.R_drewN | apply Kd.R_drew)); exact HO_231003.out) hb)
        have n1_ := Aside0.mk (Kd.R_below (by (with_reducible repeat (first | apply Kd.R_alloc | apply Kd.R_drewN | apply Kd.R_drew)); exact HO234.out) hb)
        have n2_ := Aside0.mk (Kd.R_lower ho0 (below_size (by repeat (first | (with_reducible first | exact HB.out | apply below_alloc | apply pw_below_drewN | apply below_drew1 | refine below_set ?_ GE229.out | refine below_set ?_ GE230.out) | exact HB.out))))
        have n3_ := Aside0.mk (blk_below (g := gb229) (o := .cells #[.int .u8 0, .int .u8 0, .string (⟨#[]⟩ : ByteArray), .slice none 0 0] 36 (0, 0)) (by (with_reducible repeat (first | refine blk_drewN ?_ _ | refine blk_drew ?_ | refine blk_alloc ?_ _)); exact BK229.out) hb)
        have n4_ := Aside0.mk (blk_below (g := gb230) (o := .cells #[.int .u8 ((1 + (Int.tmod a0 3)) % 256), .int .u8 1, .string (⟨#[49, 48, 48, 50, 51]⟩ : ByteArray), u231003] 36 (0, 0)) (by (with_reducible repeat (first | refine blk_drewN ?_ _ | refine blk_drew ?_ | refine blk_alloc ?_ _)); exact BK230.out) hb)
        have n5_ := Aside0.mk (below_step (by repeat (first | (with_reducible first | exact HB.out | apply below_alloc | apply pw_below_drewN | apply below_drew1 | refine below_set ?_ GE229.out | refine below_set ?_ GE230.out) | exact HB.out)) hb)
        clear HO_231003
        clear HO234
        clear BK229
        clear BK230
        clear HB
        have HO_231003 := n0_
        have HO234 := n1_
        have HO237 := n2_
        have BK229 := n3_
        have BK230 := n4_
        have HB := n5_
        clear n0_ n1_ n2_ n3_ n4_ n5_
        (try clear hb)
        (try clear hb2)
        (try clear hk)
        (try clear hi)
        (try clear ho0)
        obtain ⟨Ao18, co18, eo18⟩ := Kd.R_slice HO237.out
        (first | subst eo18 | (injection eo18 with f1_ f2_ f3_; have f4_ := f1_.symm; have f5_ := f3_.symm; clear f1_ f2_ f3_; subst f4_; subst f5_))
        have p238 : 0 ≤ (0 : Int) := (by omega)
        have q238 : 0 < (t235.length : Int) := of_decide_eq_true (by first | (with_reducible assumption) | assumption)
        obtain ⟨ad238, e238, hx238_0⟩ := Kd.at_string (Kd.R_reads' HO237.out).2.2 0 p238 q238
        cases e238
        have qi238 : (0 < t235.length) = True := eq_true (by omega)
        (try rw [show ((0 : Int)).toNat = 0 from rfl] at hx238_0)
        (try rw [Addr.add_zero'] at hx238_0)
        replace p238 := eq_true p238
        replace q238 := eq_true q238
        refine hK.out _ _ ⟨(blk_cell BK230.out 0).trans rfl, (blk_cell BK230.out 1).trans rfl, (blk_cell BK230.out 2).trans rfl, (blk_cell BK230.out 3).trans rfl⟩ (fun hHeld => ?_)
        clear hK K
        refine norm_ (a' := ?_) ?_ ?_
        rotate_left
        ·show Act.put _ (some 40) _ = _
         simp only [Act.put, sl1, sl2, sl3, i64_w, i32_w]
         rfl
        refine pure_ (i := 8) (N := some 41) (v := ?_) (a' := ?_) #[true, true, true, true, true, true, true, true, true, false, true, true, true, true, true, true, true, false, false, false, false, false] rfl rfl (any_of HT_.out (by kernel_rfl)) (fun _ _ _ h => h) (Or.inl ⟨by rfl, ?_⟩) ?_ ?_
        rotate_left
        ·intro w'
         go_simp
         with_reducible rfl
        rotate_left
        ·simp only [Act.put, sl1, sl2, sl3, i64_w, i32_w]
         rfl
        refine one_ (i := 9) (N := some 42) #[true, true, true, true, true, true, true, true, true, true, true, true, true, true, true, true, true, false, false, false, false, false] rfl rfl (one_of HT_.out (by kernel_rfl)) (by decide) (fun K hK => ?_)
        refine value_ (w1 := ?_) (v := ?_) (by rfl) rfl ?_ ?_
        rotate_left 2
        ·go_simp
         constructor
         ·rfl
         ·rfl
        refine hK.out _ _ ⟨(blk_cell BK230.out 0).trans rfl, (blk_cell BK230.out 1).trans rfl, (blk_cell BK230.out 2).trans rfl, (blk_cell BK230.out 3).trans rfl⟩ (fun hHeld => ?_)
        clear hK K
        refine norm_ (a' := ?_) ?_ ?_
        rotate_left
        ·show Act.put _ (some 42) _ = _
         simp only [Act.put, sl1, sl2, sl3, i64_w, i32_w]
         rfl
        refine pure_ (i := 17) (N := some 50) (v := ?_) (a' := ?_) #[true, true, true, true, true, true, true, true, true, true, true, true, true, true, true, true, true, true, false, false, false, false] rfl rfl (any_of HT_.out (by kernel_rfl)) (fun _ _ _ h => h) (Or.inl ⟨by rfl, ?_⟩) ?_ ?_
        rotate_left
        ·intro w'
         go_simp
         with_reducible rfl
        rotate_left
        ·simp only [Act.put, sl1, sl2, sl3, i64_w, i32_w]
         rfl
        refine one_ (i := 18) (N := some 51) #[true, true, true, true, true, true, true, true, true, true, true, true, true, true, true, true, true, true, true, false, false, false] rfl rfl (one_of HT_.out (by kernel_rfl)) (by decide) (fun K hK => ?_)
        refine value_ (w1 := ?_) (v := ?_) (by rfl) rfl ?_ ?_
        rotate_left 2
        ·go_simp
         constructor
         ·rfl
         ·rfl
        refine hK.out _ _ ⟨(blk_cell (blk_alloc BK230.out _) 0).trans rfl, (blk_cell (blk_alloc BK230.out _) 1).trans rfl, (blk_cell (blk_alloc BK230.out _) 2).trans rfl, (blk_cell (blk_alloc BK230.out _) 3).trans rfl⟩ (fun hHeld => ?_)
        clear hK K
        refine norm_ (a' := ?_) ?_ ?_
        rotate_left
        ·show Act.put _ (some 51) _ = _
         simp only [Act.put, sl1, sl2, sl3, i64_w, i32_w]
         rfl
        refine last_ (i := 19) (N := some 52) #[true, true, true, true, true, true, true, true, true, true, true, true, true, true, true, true, true, true, true, true, false, false] rfl rfl (one_of HT_.out (by kernel_rfl)) (by decide) (fun K hK => ?_)
        refine Kd.R_append_step k48 (w0 := w) w.heap.size (by rfl) (.tmp 34) (.tmp 51) 34 48 (.agg #[(.int .i64 0), (.int .i64 0), (.string ⟨#[]⟩), (.int .i64 0), (.bool false)]) 48 rfl Tryd.underlying34 info48 rfl (by decide) (by omega) u231003 x231003_1 (⟨wrap64 (x6_1 + (wrap64 (1 + (Int.tmod (wrap64 (rd l1 x7_1)) 3)))), 0, rdOf ByteArray.empty t235 0, wrap64 (1 + (Int.tmod ((wrap64 (rd l1 x7_1)) / 4) 20)), decide ((Go.bits .and .i64 (wrap64 (rd l1 x7_1)) 1) > 0)⟩ : S48) [.int .i64 (wrap64 (x6_1 + (wrap64 (1 + (Int.tmod (wrap64 (rd l1 x7_1)) 3))))), .int .i64 0, .string (rdOf ByteArray.empty t235 0), .int .i64 (wrap64 (1 + (Int.tmod ((wrap64 (rd l1 x7_1)) / 4) 20))), .bool (decide ((Go.bits .and .i64 (wrap64 (rd l1 x7_1)) 1) > 0))] (fun _ => True) (fun _ => False) rfl rfl ?aP (fun _ hk => hk.elim) ?aF ?aO ?aB ?aS ?aL ?_
        (case aP => exact k48_mkM _ _ _ (⟨wrap64 (x6_1 + (wrap64 (1 + (Int.tmod (wrap64 (rd l1 x7_1)) 3)))), 0, rdOf ByteArray.empty t235 0, wrap64 (1 + (Int.tmod ((wrap64 (rd l1 x7_1)) / 4) 20)), decide ((Go.bits .and .i64 (wrap64 (rd l1 x7_1)) 1) > 0)⟩ : S48))
        (case aB => exact (by repeat (first | (with_reducible first | exact HB.out | apply below_alloc | apply pw_below_drewN | apply below_drew1 | refine below_set ?_ GE229.out | refine below_set ?_ GE230.out) | exact HB.out)))
        (case aF => exact (fun _ _ => trivial))
        (case aO => exact (by (with_reducible repeat (first | apply Kd.R_alloc | apply Kd.R_drewN | apply Kd.R_drew)); exact HO_231003.out))
        (case aS => exact (below_size (by repeat (first | (with_reducible first | exact HB.out | apply below_alloc | apply pw_below_drewN | apply below_drew1 | refine below_set ?_ GE229.out | refine below_set ?_ GE230.out) | exact HB.out))))
        (case aL => have := LMc12.out; omega)
        intro v240 w19 ho hb hg hat
        rw [← Ny239.out] at ho
        have n0_ := Aside0.mk (blk_grown (g := gb229) (o := .cells #[.int .u8 0, .int .u8 0, .string (⟨#[]⟩ : ByteArray), .slice none 0 0] 36 (0, 0)) (by (with_reducible repeat (first | refine blk_drewN ?_ _ | refine blk_drew ?_ | refine blk_alloc ?_ _)); exact BK229.out) hg (Kd.R_ne HO_231003.out BK229.out (by decide)))
        have n1_ := Aside0.mk (blk_grown (g := gb230) (o := .cells #[.int .u8 ((1 + (Int.tmod a0 3)) % 256), .int .u8 1, .string (⟨#[49, 48, 48, 50, 51]⟩ : ByteArray), u231003] 36 (0, 0)) (by (with_reducible repeat (first | refine blk_drewN ?_ _ | refine blk_drew ?_ | refine blk_alloc ?_ _)); exact BK230.out) hg (Kd.R_ne HO_231003.out BK230.out (by decide)))
        have n2_ := Aside0.mk (Kd.R_over' (by (with_reducible repeat (first | apply Kd.R_alloc | apply Kd.R_drewN | apply Kd.R_drew)); exact HO234.out) (Kd.R_typed (by (with_reducible repeat (first | apply Kd.R_alloc | apply Kd.R_drewN | apply Kd.R_drew)); exact HO_231003.out)) (by decide) hg)
        have n3_ := Aside0.mk (Kd.R_over' (by (with_reducible repeat (first | apply Kd.R_alloc | apply Kd.R_drewN | apply Kd.R_drew)); exact HO237.out) (Kd.R_typed (by (with_reducible repeat (first | apply Kd.R_alloc | apply Kd.R_drewN | apply Kd.R_drew)); exact HO_231003.out)) (by decide) hg)
        have n4_ := Aside0.mk (hb)
        have n5_ := Aside0.mk (ho)
        clear BK229
        clear BK230
        clear HO234
        clear HO237
        clear HB
        clear HO_231003
        have BK229 := n0_
        have BK230 := n1_
        have HO234 := n2_
        have HO237 := n3_
        have HB := n4_
        have HO241 := n5_
        clear n0_ n1_ n2_ n3_ n4_ n5_
        clear ho hb hg hat
        obtain ⟨Ao20, co20, eo20⟩ := Kd.R_slice HO241.out
        (first | subst eo20 | (injection eo20 with f1_ f2_ f3_; have f4_ := f1_.symm; have f5_ := f3_.symm; clear f1_ f2_ f3_; subst f4_; subst f5_))
        refine hK.out _ _ ?_
        clear hK K
        refine norm_ (a' := ?_) ?_ ?_
        rotate_left
        ·show Act.put _ (some 52) _ = _
         simp only [Act.put, sl1, sl2, sl3, i64_w, i32_w]
         rfl
        refine pure_ (i := 20) (N := some 53) (v := ?_) (a' := ?_) #[true, true, true, true, true, true, true, true, true, true, true, true, true, true, true, true, true, true, true, true, true, false] rfl rfl (any_of HT_.out (by kernel_rfl)) (fun _ _ _ h => h) (Or.inl ⟨by rfl, ?_⟩) ?_ ?_
        rotate_left
        ·intro w'
         go_simp
         with_reducible rfl
        rotate_left
        ·simp only [Act.put, sl1, sl2, sl3, i64_w, i32_w]
         rfl
        refine last_ (i := 21) (N := none) #[true, true, true, true, true, true, true, true, true, true, true, true, true, true, true, true, true, true, true, true, true, true] rfl rfl (one_of HT_.out (by kernel_rfl)) (by decide) (fun K hK => ?_)
        have hs21 : w19.cell? ⟨gb230, 3, none⟩ = some (u231003) := (blk_cell BK230.out 3).trans rfl
        have hfs21 := blk_frozen BK230.out 3
        have hns21_0 := NB229_230.out
        have hms21_0 := NB230_229.out
        refine skip_ (w1 := ?_) (by rfl) rfl ?_ ?_
        rotate_left
        ·go_simp
         rfl
        refine hK.out _ _ ?_
        clear hK K
        refine done_ (done_of HT_.out (by kernel_rfl)) ?_
        try go_wp2
        go_roundg k1
        case measure => have := HK1.out; omega
        case rel => exact ⟨(wrap64 (x6_1 + (wrap64 (1 + (Int.tmod (wrap64 (rd l1 x7_1)) 3))))), (wrap64 (x7_1 + 1)), (y239), (.slice Ao20 y239.length co20), (by first | rfl | (simp; done) | (simp [*]; done)), (by first | rfl | (simp; done) | (simp [*]; done)), H', ⟨by have := HK1.out; omega⟩, ⟨by (with_reducible repeat (first | apply Kd.R_alloc | apply Kd.R_drewN | apply Kd.R_drew)); exact Kd.R_mono (Kd.R_far (p := ⟨gb230, 3, none⟩) (Kd.R_types HO241.out BK230.out (by decide)) (fun _ hk => hk.2) (.slice Ao20 y239.length co20)) (fun _ hk => trivial)⟩, ⟨by (with_reducible repeat (first | refine blk_drewN ?_ _ | refine blk_drew ?_ | refine blk_alloc ?_ _)); refine blk_far ?_ NB229_230.out _; (with_reducible repeat (first | refine blk_drewN ?_ _ | refine blk_drew ?_ | refine blk_alloc ?_ _)); exact BK229.out⟩, ⟨by (with_reducible repeat (first | refine blk_drewN ?_ _ | refine blk_drew ?_ | refine blk_alloc ?_ _)); refine blk_put (cs := #[.int .u8 ((1 + (Int.tmod a0 3)) % 256), .int .u8 1, .string (⟨#[49, 48, 48, 50, 51]⟩ : ByteArray), u231003]) ?_ 3 _ rfl; (with_reducible repeat (first | refine blk_drewN ?_ _ | refine blk_drew ?_ | refine blk_alloc ?_ _)); exact BK230.out⟩, ⟨by repeat (first | (with_reducible first | exact HB.out | apply below_alloc | apply pw_below_drewN | apply below_drew1 | refine below_set ?_ GE229.out | refine below_set ?_ GE230.out) | exact HB.out)⟩⟩
       ·rw [if_neg c12] at H
        exact absurd H (by simp)
      ·rw [if_neg c11] at H
       exact absurd H (by simp)
     ·rw [if_neg c9] at H
      exact absurd H (by simp)
    ·rw [if_neg c8] at H
     have c8b0 : decide (x7_1 < 2000) = false := decide_eq_false c8
     clear c8
     simp only [Option.some.injEq, Prod.mk.injEq] at H
     obtain ⟨rfl, rfl, rfl, rfl⟩ := H
     have hnb22 := NB230_229.out
     have hnc22 := NB229_230.out
     have hcz23_0 : wr.cell? ⟨gb230, 0, none⟩ = some (.int .u8 ((1 + (Int.tmod a0 3)) % 256)) := (blk_cell BK230.out 0).trans rfl
     have hcz23_1 : wr.cell? ⟨gb230, 1, none⟩ = some (.int .u8 1) := (blk_cell BK230.out 1).trans rfl
     have hcz23_2 : wr.cell? ⟨gb230, 2, none⟩ = some (.string (⟨#[49, 48, 48, 50, 51]⟩ : ByteArray)) := (blk_cell BK230.out 2).trans rfl
     have hcz23_3 : wr.cell? ⟨gb230, 3, none⟩ = some (u231003) := (blk_cell BK230.out 3).trans rfl
     have hfz23_0 := blk_frozen BK230.out 0
     have hfz23_1 := blk_frozen BK230.out 1
     have hfz23_2 := blk_frozen BK230.out 2
     have hfz23_3 := blk_frozen BK230.out 3
     have hcz24_0 : wr.cell? ⟨gb229, 0, none⟩ = some (.int .u8 0) := (blk_cell BK229.out 0).trans rfl
     have hcz24_1 : wr.cell? ⟨gb229, 1, none⟩ = some (.int .u8 0) := (blk_cell BK229.out 1).trans rfl
     have hcz24_2 : wr.cell? ⟨gb229, 2, none⟩ = some (.string (⟨#[]⟩ : ByteArray)) := (blk_cell BK229.out 2).trans rfl
     have hcz24_3 : wr.cell? ⟨gb229, 3, none⟩ = some (.slice none 0 0) := (blk_cell BK229.out 3).trans rfl
     have hfz24_0 := blk_frozen BK229.out 0
     have hfz24_1 := blk_frozen BK229.out 1
     have hfz24_2 := blk_frozen BK229.out 2
     have hfz24_3 := blk_frozen BK229.out 3
     obtain ⟨Ao25, co25, eo25⟩ := Kd.R_slice HO_231003.out
     subst eo25
     go_wp2
     refine bodyPost_ret (results_cell_row rfl _ _ gb229 36 #[.int .u8 ((1 + (Int.tmod a0 3)) % 256), .int .u8 1, .string (⟨#[49, 48, 48, 50, 51]⟩ : ByteArray), .slice Ao25 x231003_1.length co25] (0, 0) _ rfl (by (with_reducible repeat (first | refine blk_drewN ?_ _ | refine blk_drew ?_ | refine blk_alloc ?_ _)); refine blk_put (cs := #[.int .u8 ((1 + (Int.tmod a0 3)) % 256), .int .u8 1, .string (⟨#[49, 48, 48, 50, 51]⟩ : ByteArray), .slice none 0 0]) ?_ 3 _ rfl; (with_reducible repeat (first | refine blk_drewN ?_ _ | refine blk_drew ?_ | refine blk_alloc ?_ _)); refine blk_put (cs := #[.int .u8 ((1 + (Int.tmod a0 3)) % 256), .int .u8 1, .string (⟨#[]⟩ : ByteArray), .slice none 0 0]) ?_ 2 _ rfl; (with_reducible repeat (first | refine blk_drewN ?_ _ | refine blk_drew ?_ | refine blk_alloc ?_ _)); refine blk_put (cs := #[.int .u8 ((1 + (Int.tmod a0 3)) % 256), .int .u8 0, .string (⟨#[]⟩ : ByteArray), .slice none 0 0]) ?_ 1 _ rfl; (with_reducible repeat (first | refine blk_drewN ?_ _ | refine blk_drew ?_ | refine blk_alloc ?_ _)); refine blk_put (cs := #[.int .u8 0, .int .u8 0, .string (⟨#[]⟩ : ByteArray), .slice none 0 0]) ?_ 0 _ rfl; (with_reducible repeat (first | refine blk_drewN ?_ _ | refine blk_drew ?_ | refine blk_alloc ?_ _)); exact BK229.out) Tryd.underlying36 rfl (by kernel_rfl)) rfl ?_
     exact ⟨_, by first | rfl | (simp [errW_none, errW_some] <;> rfl) | (simp [*, errW_none, errW_some] <;> rfl), by (with_reducible repeat (first | apply Kd.R_alloc | apply Kd.R_drewN | apply Kd.R_drew)); exact Kd.R_mono (Kd.R_far (p := ⟨gb229, 3, none⟩) (Kd.R_far (p := ⟨gb229, 2, none⟩) (Kd.R_far (p := ⟨gb229, 1, none⟩) (Kd.R_far (p := ⟨gb229, 0, none⟩) (Kd.R_types HO_231003.out BK229.out (by decide)) (fun _ hk => hk.2) (.int .u8 ((1 + (Int.tmod a0 3)) % 256))) (fun _ hk => hk.2) (.int .u8 1)) (fun _ hk => hk.2) (.string (⟨#[49, 48, 48, 50, 51]⟩ : ByteArray))) (fun _ hk => hk.2) (.slice Ao25 x231003_1.length co25)) (fun _ hk => trivial), by repeat (first | (with_reducible first | exact HB.out | apply below_alloc | apply pw_below_drewN | apply below_drew1 | refine below_set ?_ GE229.out | refine below_set ?_ GE230.out) | exact HB.out)⟩
   ·rw [if_neg c7] at H
    have c7b0 : decide (x7_1 < (l1.length : Int)) = false := decide_eq_false c7
    clear c7
    simp only [Option.some.injEq, Prod.mk.injEq] at H
    obtain ⟨rfl, rfl, rfl, rfl⟩ := H
    have hnb26 := NB230_229.out
    have hnc26 := NB229_230.out
    have hcz27_0 : wr.cell? ⟨gb230, 0, none⟩ = some (.int .u8 ((1 + (Int.tmod a0 3)) % 256)) := (blk_cell BK230.out 0).trans rfl
    have hcz27_1 : wr.cell? ⟨gb230, 1, none⟩ = some (.int .u8 1) := (blk_cell BK230.out 1).trans rfl
    have hcz27_2 : wr.cell? ⟨gb230, 2, none⟩ = some (.string (⟨#[49, 48, 48, 50, 51]⟩ : ByteArray)) := (blk_cell BK230.out 2).trans rfl
    have hcz27_3 : wr.cell? ⟨gb230, 3, none⟩ = some (u231003) := (blk_cell BK230.out 3).trans rfl
    have hfz27_0 := blk_frozen BK230.out 0
    have hfz27_1 := blk_frozen BK230.out 1
    have hfz27_2 := blk_frozen BK230.out 2
    have hfz27_3 := blk_frozen BK230.out 3
    have hcz28_0 : wr.cell? ⟨gb229, 0, none⟩ = some (.int .u8 0) := (blk_cell BK229.out 0).trans rfl
    have hcz28_1 : wr.cell? ⟨gb229, 1, none⟩ = some (.int .u8 0) := (blk_cell BK229.out 1).trans rfl
    have hcz28_2 : wr.cell? ⟨gb229, 2, none⟩ = some (.string (⟨#[]⟩ : ByteArray)) := (blk_cell BK229.out 2).trans rfl
    have hcz28_3 : wr.cell? ⟨gb229, 3, none⟩ = some (.slice none 0 0) := (blk_cell BK229.out 3).trans rfl
    have hfz28_0 := blk_frozen BK229.out 0
    have hfz28_1 := blk_frozen BK229.out 1
    have hfz28_2 := blk_frozen BK229.out 2
    have hfz28_3 := blk_frozen BK229.out 3
    obtain ⟨Ao29, co29, eo29⟩ := Kd.R_slice HO_231003.out
    subst eo29
    go_wp2
    refine bodyPost_ret (results_cell_row rfl _ _ gb229 36 #[.int .u8 ((1 + (Int.tmod a0 3)) % 256), .int .u8 1, .string (⟨#[49, 48, 48, 50, 51]⟩ : ByteArray), .slice Ao29 x231003_1.length co29] (0, 0) _ rfl (by (with_reducible repeat (first | refine blk_drewN ?_ _ | refine blk_drew ?_ | refine blk_alloc ?_ _)); refine blk_put (cs := #[.int .u8 ((1 + (Int.tmod a0 3)) % 256), .int .u8 1, .string (⟨#[49, 48, 48, 50, 51]⟩ : ByteArray), .slice none 0 0]) ?_ 3 _ rfl; (with_reducible repeat (first | refine blk_drewN ?_ _ | refine blk_drew ?_ | refine blk_alloc ?_ _)); refine blk_put (cs := #[.int .u8 ((1 + (Int.tmod a0 3)) % 256), .int .u8 1, .string (⟨#[]⟩ : ByteArray), .slice none 0 0]) ?_ 2 _ rfl; (with_reducible repeat (first | refine blk_drewN ?_ _ | refine blk_drew ?_ | refine blk_alloc ?_ _)); refine blk_put (cs := #[.int .u8 ((1 + (Int.tmod a0 3)) % 256), .int .u8 0, .string (⟨#[]⟩ : ByteArray), .slice none 0 0]) ?_ 1 _ rfl; (with_reducible repeat (first | refine blk_drewN ?_ _ | refine blk_drew ?_ | refine blk_alloc ?_ _)); refine blk_put (cs := #[.int .u8 0, .int .u8 0, .string (⟨#[]⟩ : ByteArray), .slice none 0 0]) ?_ 0 _ rfl; (with_reducible repeat (first | refine blk_drewN ?_ _ | refine blk_drew ?_ | refine blk_alloc ?_ _)); exact BK229.out) Tryd.underlying36 rfl (by kernel_rfl)) rfl ?_
    exact ⟨_, by first | rfl | (simp [errW_none, errW_some] <;> rfl) | (simp [*, errW_none, errW_some] <;> rfl), by (with_reducible repeat (first | apply Kd.R_alloc | apply Kd.R_drewN | apply Kd.R_drew)); exact Kd.R_mono (Kd.R_far (p := ⟨gb229, 3, none⟩) (Kd.R_far (p := ⟨gb229, 2, none⟩) (Kd.R_far (p := ⟨gb229, 1, none⟩) (Kd.R_far (p := ⟨gb229, 0, none⟩) (Kd.R_types HO_231003.out BK229.out (by decide)) (fun _ hk => hk.2) (.int .u8 ((1 + (Int.tmod a0 3)) % 256))) (fun _ hk => hk.2) (.int .u8 1)) (fun _ hk => hk.2) (.string (⟨#[49, 48, 48, 50, 51]⟩ : ByteArray))) (fun _ hk => hk.2) (.slice Ao29 x231003_1.length co29)) (fun _ hk => trivial), by repeat (first | (with_reducible first | exact HB.out | apply below_alloc | apply pw_below_drewN | apply below_drew1 | refine below_set ?_ GE229.out | refine below_set ?_ GE230.out) | exact HB.out)⟩
end Go.Proofs.YtfglcfbcdhjcdaaDoor.Q

namespace Go.Proofs.YtfglcfbcdhjcdaaDoor.Q
open Go.RowKit Go.Proofs.YtfglcfbcdhjcdaaDoorW.PrintWords Go.Proofs.YtfglcfbcdhjcdaaDoorW.PrintLast Go.Proofs.YtfglcfbcdhjcdaaDoorW.PrintMore
set_option linter.unusedVariables false
set_option linter.unusedSimpArgs false
abbrev Pc := S48
theorem i64_and1 (x : Int) (h0 : 0 ≤ x) (h1 : x < 65536) : bits .and .i64 x 1 = x % 2 :=
 bits_mask .i64 16 (by decide) (fun n h0 h1 => wrap_i64_int (by omega) (by omega)) 1 (by decide) x h0 h1
def mlFits (l : List Int) : Bool := l.all fun x => decide (0 ≤ x) && decide (x ≤ 65535)
def mlX (l : List Int) (i : Nat) : Nat := (l.getD i 0).toNat
def mlId (l : List Int) : Nat → Nat
 | 0 => 0
 | i + 1 => mlId l i + (1 + mlX l i % 3)
def mlPiece (l : List Int) (i : Nat) : Pc := ⟨(mlId l (i + 1) : Int), 0, code5 (mlX l i / 256), 1 + ((mlX l i / 4 % 20 : Nat) : Int), decide (mlX l i % 2 = 1)⟩
def mlPieces (l : List Int) (k : Nat) : List Pc := (List.range k).map (mlPiece l)
def mlN (l : List Int) : Nat := min l.length 2000
theorem mlX_is {l : List Int} (h : mlFits l = true) (i : Nat) : (mlX l i : Int) = l.getD i 0 ∧ mlX l i < 65536 := by
 have hi : 0 ≤ l.getD i 0 ∧ l.getD i 0 ≤ 65535 := by
  unfold mlFits at h
  simp only [List.all_eq_true, Bool.and_eq_true, decide_eq_true_eq] at h
  rw [List.getD_eq_getElem?_getD]
  by_cases hi : i < l.length
  ·rw [List.getElem?_eq_getElem hi]
   exact h _ (List.getElem_mem hi)
  ·rw [List.getElem?_eq_none (by omega)]
   exact ⟨by decide, by decide⟩
 unfold mlX
 omega
theorem mlId_le (l : List Int) : ∀ i, mlId l i ≤ 3 * i
 | 0 => Nat.le_refl _
 | i + 1 => by
  have := mlId_le l i
  unfold mlId
  omega
theorem mlId_lt (l : List Int) (i : Nat) : mlId l i < mlId l (i + 1) := by
 show mlId l i < mlId l i + (1 + mlX l i % 3)
 omega
theorem mlPieces_next (l : List Int) (k : Nat) : mlPieces l k ++ [mlPiece l k] = mlPieces l (k + 1) := by
 unfold mlPieces
 rw [List.range_succ, List.map_append]
 rfl
theorem mlPieces_len (l : List Int) (k : Nat) : (mlPieces l k).length = k := by unfold mlPieces; rw [List.length_map, List.length_range]
theorem mlPieces_get (l : List Int) (k i : Nat) (h : i < k) : rd_T48 (mlPieces l k) (i : Int) = mlPiece l i := by
 unfold rd_T48 mlPieces
 rw [Int.toNat_natCast, List.getD_eq_getElem?_getD, List.getElem?_map, List.getElem?_range h]
 rfl
theorem mail_go (l : List Int) (hf : mlFits l = true) (c : Int) (o : ByteArray) : ∀ d i : Nat, i + d = mlN l → ∀ k : Nat, d + 3 < k → letterbaglaw24_Mail.l0 k l (mlId l i : Int) (i : Int) c 1 o (mlPieces l i) = some (c, 1, o, mlPieces l (mlN l)) := by
 have hn : mlN l ≤ l.length ∧ mlN l ≤ 2000 := by unfold mlN; omega
 intro d
 induction d with
 | zero =>
  intro i hi k hk
  obtain ⟨k, rfl⟩ : ∃ m, k = m + 1 := ⟨k - 1, by omega⟩
  simp only [letterbaglaw24_Mail.l0]
  obtain rfl : i = mlN l := by omega
  by_cases h : (mlN l : Int) < (l.length : Int)
  ·rw [if_pos h, if_neg (by unfold mlN at *; omega)]
  ·rw [if_neg h]
 | succ d ih =>
  intro i hi k hk
  obtain ⟨k, rfl⟩ : ∃ m, k = m + 1 := ⟨k - 1, by omega⟩
  obtain ⟨hx, hx2⟩ := mlX_is hf i
  have hid := mlId_le l i
  have hrd : rd l (i : Int) = (mlX l i : Int) := by
   unfold rd
   rw [Int.toNat_natCast]
   exact hx.symm
  simp only [letterbaglaw24_Mail.l0]
  rw [if_pos (by omega), if_pos (by omega), if_pos (by omega), hrd, wrap64_id (mlX l i : Int) (by omega) (by omega)]
  have hid2 : mlId l (i + 1) = mlId l i + (1 + mlX l i % 3) := rfl
  have hp : mlPieces l (i + 1) = mlPieces l i ++ [mlPiece l i] := (mlPieces_next l i).symm
  have hpi : mlPiece l i = ⟨(mlId l (i + 1) : Int), 0, code5 (mlX l i / 256), 1 + ((mlX l i / 4 % 20 : Nat) : Int), decide (mlX l i % 2 = 1)⟩ := rfl
  have hlen := mlPieces_len l i
  generalize mlX l i = x at *
  have hc : (((x : Int) / 256) % 256) = ((x / 256 : Nat) : Int) := by omega
  rw [hc, codes_is _ (by intro y hy; simp only [List.mem_singleton] at hy; subst hy; omega) (by simp) k (by simp; omega)]
  simp only [Option.bind_some, List.map_cons, List.map_nil, List.length_cons, List.length_nil]
  rw [if_pos (by omega), if_pos (by omega)]
  have e1 : Int.tmod (x : Int) 3 = ((x % 3 : Nat) : Int) := (Int.ofNat_tmod x 3).symm
  have e2 : Int.tmod ((x : Int) / 4) 20 = ((x / 4 % 20 : Nat) : Int) := (Int.ofNat_tmod (x / 4) 20).symm
  have e3 : (((x / 256 : Nat) : Int)).toNat = x / 256 := Int.toNat_natCast _
  have e4 : decide (Go.bits .and .i64 (x : Int) 1 > 0) = decide (x % 2 = 1) := by
   rw [i64_and1 _ (by omega) (by omega), decide_eq_decide]
   omega
  rw [e1, e2, e3, e4, wrap64_id (1 + ((x % 3 : Nat) : Int)) (by omega) (by omega), wrap64_id (1 + ((x / 4 % 20 : Nat) : Int)) (by omega) (by omega), wrap64_id ((mlId l i : Int) + (1 + ((x % 3 : Nat) : Int))) (by omega) (by omega), wrap64_id ((i : Int) + 1) (by omega) (by omega)]
  have e5 : (mlId l i : Int) + (1 + ((x % 3 : Nat) : Int)) = (mlId l (i + 1) : Int) := by omega
  have e6 : (i : Int) + 1 = ((i + 1 : Nat) : Int) := by omega
  have e7 : rdOf ByteArray.empty [code5 (x / 256)] 0 = code5 (x / 256) := rfl
  rw [e5, e6, e7, ← hpi, ← hp]
  exact ih (i + 1) (by omega) k (by omega)
theorem mail_is (cl : Int) (h0 : 0 ≤ cl) (h1 : cl ≤ 255) (l : List Int) (hf : mlFits l = true) (k : Nat) (hk : mlN l + 3 < k) : letterbaglaw24_Mail.f k cl l = some (1 + cl % 3, 1, exFrom, mlPieces l (mlN l)) := by
 have h := mail_go l hf (1 + cl % 3) exFrom (mlN l) 0 (by omega) k hk
 unfold letterbaglaw24_Mail.f
 have e : (1 + Int.tmod cl 3) % 256 = 1 + cl % 3 := by
  rw [Int.tmod_eq_emod_of_nonneg h0]
  omega
 rw [e]
 exact h
end Go.Proofs.YtfglcfbcdhjcdaaDoor.Q

namespace Go.Proofs.YtfglcfbcdhjcdaaDoor.Q
open Go.RowKit Go.Proofs.YtfglcfbcdhjcdaaDoorW.PrintWords Go.Proofs.YtfglcfbcdhjcdaaDoorW.PrintLast Go.Proofs.YtfglcfbcdhjcdaaDoorW.PrintMore
set_option linter.unusedVariables false
set_option linter.unusedSimpArgs false
def m3Pick (f : Nat → Lb) (x : Nat) : Nat → List Lb
 | 0 => []
 | k + 1 => m3Pick f x k ++ (if x.testBit k then [f k] else [])
def m3Five : Nat → Lb
 | 0 => ⟨mdText [49, 48, 48, 48, 48], mdText [72, 49, 48, 48]⟩
 | 1 => ⟨mdText [49, 48, 48, 48, 49], mdText [72, 49, 48, 48]⟩
 | 2 => ⟨mdText [49, 48, 48, 49, 48], mdText [72, 49, 48, 48]⟩
 | 3 => ⟨mdText [49, 49, 48, 48, 48], mdText [72, 49, 49, 48]⟩
 | _ => ⟨mdText [50, 48, 48, 48, 48], mdText [72, 50, 48, 48]⟩
def m3Three : Nat → Lb
 | 0 => ⟨mdText [49, 48, 48], mdText [71, 49]⟩
 | 1 => ⟨mdText [49, 48, 49], mdText [71, 49]⟩
 | 2 => ⟨mdText [49, 49, 48], mdText [71, 49]⟩
 | 3 => ⟨mdText [50, 48, 48], mdText [71, 50]⟩
 | 4 => ⟨mdText [50, 48, 49], mdText [71, 50]⟩
 | _ => ⟨mdText [51, 48, 48], mdText [71, 51]⟩
def m3One : Nat → Lb
 | 0 => ⟨mdText [49], mdText [90]⟩
 | 1 => ⟨mdText [50], mdText [90]⟩
 | _ => ⟨mdText [51], mdText [90]⟩
def txFive : ByteArray := mdText [102, 105, 118, 101]
def txThree : ByteArray := mdText [116, 104, 114, 101, 101]
def txOne : ByteArray := mdText [111, 110, 101]
def txAll : ByteArray := mdText [97, 108, 108]
def m3L5 (n : Nat) : List Lb := m3Pick m3Five (n / 8 % 32) 5
def m3L3 (n : Nat) : List Lb := m3Pick m3Three (n / 256 % 64) 6
def m3L1 (n : Nat) : List Lb := m3Pick m3One (n / 16384 % 8) 3
def m3Lv (le ce : List Int) (k : Nat) (nm : ByteArray) (p : Int) (labs : List Lb) : Lv := ⟨nm, p, labs, 1 + le.getD k 0, ce.getD k 0⟩
def m3Add (le ce : List Int) (b : Bool) (out : List Lv) (nm : ByteArray) (p : Int) (labs : List Lb) : List Lv := if b = true then out ++ [m3Lv le ce out.length nm p labs] else out
def m3A (n : Nat) (le ce : List Int) : List Lv := m3Add le ce (n.testBit 0) [] txFive 5 (m3L5 n)
def m3B (n : Nat) (le ce : List Int) : List Lv := m3Add le ce (n.testBit 1) (m3A n le ce) txThree 3 (m3L3 n)
def m3C (n : Nat) (le ce : List Int) : List Lv := m3Add le ce (n.testBit 2) (m3B n le ce) txOne 1 (m3L1 n)
def made23 (n : Nat) (le ce : List Int) : List Lv := m3C n le ce ++ [⟨txAll, 0, [], 0, ce.getD (m3C n le ce).length 0⟩]
theorem getD_range {l : List Int} (h : mdFits l = true) (i : Nat) : 0 ≤ l.getD i 0 ∧ l.getD i 0 ≤ 255 := by
 unfold mdFits at h
 simp only [List.all_eq_true, Bool.and_eq_true, decide_eq_true_eq] at h
 rw [List.getD_eq_getElem?_getD]
 by_cases hi : i < l.length
 ·rw [List.getElem?_eq_getElem hi]
  exact h _ (List.getElem_mem hi)
 ·rw [List.getElem?_eq_none (by omega)]
  exact ⟨by decide, by decide⟩
theorem labelsGo_same (l : Lv) : ∀ (xs : List Lb) (k : Nat), labelsGo l k xs = labelsGo ⟨noText, l.f1, l.f2, 0, 0⟩ k xs
 | [], _ => rfl
 | x :: xs, k => by
  unfold labelsGo
  rw [labelsGo_same l xs (k + 1)]
  rfl
theorem nestGo_same (l nx : Lv) : ∀ (xs : List Lb) (all : List ByteArray), nestGo l nx xs all = nestGo ⟨noText, l.f1, l.f2, 0, 0⟩ ⟨noText, nx.f1, nx.f2, 0, 0⟩ xs all
 | [], _ => rfl
 | x :: xs, all => by
  unfold nestGo
  rw [nestGo_same l nx xs, nestGo_same l nx xs]
  rfl
theorem nestedB_same (l nx : Lv) : nestedB l nx = nestedB ⟨noText, l.f1, l.f2, 0, 0⟩ ⟨noText, nx.f1, nx.f2, 0, 0⟩ := nestGo_same l nx l.f2 []
set_option maxRecDepth 100000 in
theorem m3_five : ∀ x ∈ List.range 32, (labelsGo ⟨noText, 5, m3Pick m3Five x 5, 0, 0⟩ 0 (m3Pick m3Five x 5) && (decide ((m3Pick m3Five x 5).length ≤ 5) && nestedB ⟨noText, 5, m3Pick m3Five x 5, 0, 0⟩ ⟨noText, 0, [], 0, 0⟩)) = true := by decide +kernel
set_option maxRecDepth 100000 in
theorem m3_three : ∀ x ∈ List.range 64, (labelsGo ⟨noText, 3, m3Pick m3Three x 6, 0, 0⟩ 0 (m3Pick m3Three x 6) && (decide ((m3Pick m3Three x 6).length ≤ 6) && nestedB ⟨noText, 3, m3Pick m3Three x 6, 0, 0⟩ ⟨noText, 0, [], 0, 0⟩)) = true := by decide +kernel
set_option maxRecDepth 100000 in
theorem m3_one : ∀ x ∈ List.range 8, (labelsGo ⟨noText, 1, m3Pick m3One x 3, 0, 0⟩ 0 (m3Pick m3One x 3) && (decide ((m3Pick m3One x 3).length ≤ 3) && nestedB ⟨noText, 1, m3Pick m3One x 3, 0, 0⟩ ⟨noText, 0, [], 0, 0⟩)) = true := by decide +kernel
set_option maxRecDepth 100000 in
theorem m3_53 : ∀ x ∈ List.range 32, ∀ y ∈ List.range 64, nestedB ⟨noText, 5, m3Pick m3Five x 5, 0, 0⟩ ⟨noText, 3, m3Pick m3Three y 6, 0, 0⟩ = true := by decide +kernel
set_option maxRecDepth 100000 in
theorem m3_51 : ∀ x ∈ List.range 32, ∀ y ∈ List.range 8, nestedB ⟨noText, 5, m3Pick m3Five x 5, 0, 0⟩ ⟨noText, 1, m3Pick m3One y 3, 0, 0⟩ = true := by decide +kernel
set_option maxRecDepth 100000 in
theorem m3_31 : ∀ x ∈ List.range 64, ∀ y ∈ List.range 8, nestedB ⟨noText, 3, m3Pick m3Three x 6, 0, 0⟩ ⟨noText, 1, m3Pick m3One y 3, 0, 0⟩ = true := by decide +kernel
theorem alone_not (nm : ByteArray) (p : Int) (labs : List Lb) (m c : Int) (hn : namedB nm = true) (h0 : 0 ≤ p) (h1 : p ≤ 10) (hl : labelsGo ⟨noText, p, labs, 0, 0⟩ 0 labs = true) (hm : 1 ≤ m ∧ m ≤ 2000) (hc : 0 ≤ c ∧ c ≤ 1000000) :
  aloneB ⟨nm, p, labs, m, c⟩ false = true := by
 unfold aloneB
 rw [labelsGo_same]
 simp only [hn, hl, hm.1, hm.2, hc.1, hc.2, h0, h1, decide_true, Bool.true_and, Bool.and_true, Bool.and_self, if_true, Bool.false_eq_true, if_false]
theorem alone_last (c : Int) (hc : 0 ≤ c ∧ c ≤ 1000000) : aloneB ⟨txAll, 0, [], 0, c⟩ true = true := by
 have hn : namedB txAll = true := by decide +kernel
 unfold aloneB
 simp [hn, hc.1, hc.2]
theorem made23_length (n : Nat) (le ce : List Int) : 1 ≤ (made23 n le ce).length ∧ (made23 n le ce).length ≤ 4 := by
 unfold made23 m3C m3B m3A m3Add
 repeat' split
 all_goals simp
set_option maxHeartbeats 1000000 in
theorem made23_right (n : Nat) (le ce : List Int) (hle : mdFits le = true) (hce : mdFits ce = true) : rightB (made23 n le ce) = true := by
 have hL := getD_range hle
 have hC := getD_range hce
 have q1 : (txThree = txFive) = False := eq_false (by decide)
 have q2 : (txOne = txFive) = False := eq_false (by decide)
 have q3 : (txAll = txFive) = False := eq_false (by decide)
 have q4 : (txOne = txThree) = False := eq_false (by decide)
 have q5 : (txAll = txThree) = False := eq_false (by decide)
 have q6 : (txAll = txOne) = False := eq_false (by decide)
 have q1' : (txFive = txThree) = False := eq_false (by decide)
 have q2' : (txFive = txOne) = False := eq_false (by decide)
 have q3' : (txFive = txAll) = False := eq_false (by decide)
 have q4' : (txThree = txOne) = False := eq_false (by decide)
 have q5' : (txThree = txAll) = False := eq_false (by decide)
 have q6' : (txOne = txAll) = False := eq_false (by decide)
 have x5 : n / 8 % 32 < 32 := by omega
 have x3 : n / 256 % 64 < 64 := by omega
 have x1 : n / 16384 % 8 < 8 := by omega
 have a5 := m3_five _ (List.mem_range.2 x5)
 have a3 := m3_three _ (List.mem_range.2 x3)
 have a1 := m3_one _ (List.mem_range.2 x1)
 have a53 := m3_53 _ (List.mem_range.2 x5) _ (List.mem_range.2 x3)
 have a51 := m3_51 _ (List.mem_range.2 x5) _ (List.mem_range.2 x1)
 have a31 := m3_31 _ (List.mem_range.2 x3) _ (List.mem_range.2 x1)
 simp only [Bool.and_eq_true, decide_eq_true_eq] at a5 a3 a1
 obtain ⟨b5, c5, d5⟩ := a5
 obtain ⟨b3, c3, d3⟩ := a3
 obtain ⟨b1, c1, d1⟩ := a1
 have e5 : ∀ m c : Int, (1 ≤ m ∧ m ≤ 2000) → (0 ≤ c ∧ c ≤ 1000000) → aloneB ⟨txFive, 5, m3L5 n, m, c⟩ false = true := fun m c hm hc => alone_not txFive 5 (m3L5 n) m c (by decide +kernel) (by decide) (by decide) b5 hm hc
 have e3 : ∀ m c : Int, (1 ≤ m ∧ m ≤ 2000) → (0 ≤ c ∧ c ≤ 1000000) → aloneB ⟨txThree, 3, m3L3 n, m, c⟩ false = true := fun m c hm hc => alone_not txThree 3 (m3L3 n) m c (by decide +kernel) (by decide) (by decide) b3 hm hc
 have e1 : ∀ m c : Int, (1 ≤ m ∧ m ≤ 2000) → (0 ≤ c ∧ c ≤ 1000000) → aloneB ⟨txOne, 1, m3L1 n, m, c⟩ false = true := fun m c hm hc => alone_not txOne 1 (m3L1 n) m c (by decide +kernel) (by decide) (by decide) b1 hm hc
 have f53 : ∀ m c m' c' : Int, nestedB ⟨txFive, 5, m3L5 n, m, c⟩ ⟨txThree, 3, m3L3 n, m', c'⟩ = true := fun m c m' c' => (nestedB_same _ _).trans a53
 have f51 : ∀ m c m' c' : Int, nestedB ⟨txFive, 5, m3L5 n, m, c⟩ ⟨txOne, 1, m3L1 n, m', c'⟩ = true := fun m c m' c' => (nestedB_same _ _).trans a51
 have f31 : ∀ m c m' c' : Int, nestedB ⟨txThree, 3, m3L3 n, m, c⟩ ⟨txOne, 1, m3L1 n, m', c'⟩ = true := fun m c m' c' => (nestedB_same _ _).trans a31
 have f50 : ∀ m c m' c' : Int, nestedB ⟨txFive, 5, m3L5 n, m, c⟩ ⟨txAll, 0, [], m', c'⟩ = true := fun m c m' c' => (nestedB_same _ _).trans d5
 have f30 : ∀ m c m' c' : Int, nestedB ⟨txThree, 3, m3L3 n, m, c⟩ ⟨txAll, 0, [], m', c'⟩ = true := fun m c m' c' => (nestedB_same _ _).trans d3
 have f10 : ∀ m c m' c' : Int, nestedB ⟨txOne, 1, m3L1 n, m, c⟩ ⟨txAll, 0, [], m', c'⟩ = true := fun m c m' c' => (nestedB_same _ _).trans d1
 have g5 : (m3L5 n).length ≤ 5 := c5
 have g3 : (m3L3 n).length ≤ 6 := c3
 have g1 : (m3L1 n).length ≤ 3 := c1
 have hLa : ∀ k, 1 ≤ 1 + le.getD k 0 ∧ 1 + le.getD k 0 ≤ 2000 := fun k => by have := hL k; omega
 have hCa : ∀ k, 0 ≤ ce.getD k 0 ∧ ce.getD k 0 ≤ 1000000 := fun k => by have := hC k; omega
 have e0 := fun k => alone_last _ (hCa k)
 have e5 := fun j k => e5 _ _ (hLa j) (hCa k)
 have e3 := fun j k => e3 _ _ (hLa j) (hCa k)
 have e1 := fun j k => e1 _ _ (hLa j) (hCa k)
 clear a53 a51 a31 b5 b3 b1 c5 c3 c1 d5 d3 d1 x5 x3 x1 hL hC hle hce hLa hCa
 unfold made23 m3C m3B m3A m3Add
 generalize m3L5 n = l5 at *
 generalize m3L3 n = l3 at *
 generalize m3L1 n = l1 at *
 repeat' split
 all_goals (try simp only [List.nil_append, List.cons_append, List.length_cons, List.length_nil, List.length_append, Nat.zero_add, Nat.reduceAdd, m3Lv])
 all_goals (simp [rightB, rightGo, nestsB, nestsGo, nameCnt, -List.getD_eq_getElem?_getD, q1, q2, q3, q4, q5, q6, q1', q2', q3', q4', q5', q6', e5, e3, e1, e0, f53, f51, f31, f50, f30, f10])
 all_goals (try omega)
end Go.Proofs.YtfglcfbcdhjcdaaDoor.Q
