/- For every input letterbaglaw24's law returns true and leaves its arguments as they were; the card of this row. Conditions: none but those of the statement. -/
import Derived.Test.YtfglcfbcdhjcdaaDoorCards
import Derived.Test.YtfglcfbcdhjcdaaDoorTie
import Derived.WalkKit
import Derived.ProofKit
import Derived.OpenShut
import Derived.ShutString
import Derived.ChangeOld
import Derived.Below
import Derived.SizedLaws
import Derived.Deep.DeepHandedRow
import Derived.Lib.LaidTab
import Derived.Test.YtfglcfbcdhjcdaaDoorU0
import Derived.Test.YtfglcfbcdhjcdaaDoorU1
import Derived.Test.YtfglcfbcdhjcdaaDoorU2
import Derived.Test.YtfglcfbcdhjcdaaDoorU3
import Derived.Test.YtfglcfbcdhjcdaaDoorU4
import Derived.Test.YtfglcfbcdhjcdaaDoorU5
namespace Go.Proofs.YtfglcfbcdhjcdaaDoor.Q
open Go.RowKit Go.Proofs.YtfglcfbcdhjcdaaDoorW.PrintWords Go.Proofs.YtfglcfbcdhjcdaaDoorW.PrintLast Go.Proofs.YtfglcfbcdhjcdaaDoorW.PrintMore
attribute [local go_sem] max2_int min2_int max_two min_two max_three min_three max_four min_four
set_option linter.unusedVariables false
set_option linter.unusedSimpArgs false
mutual
def tariff_Postage.j0 : Nat → List (S54) → List Int → Bool → List (S57) → List (S67) → Int → Int → ByteArray → List (S48) → Option (List Int × Int)
  | 0, _, _, _, _, _, _, _, _, _ => none
  | k + 1, x1, x3, x28, x175000, x175001, x176000, x176001, x176002, x176003 => if x28 = true then (some (([] : List Int), 2)) else (tariff_Postage.l0 k x1 x3 x3 (x3.length : Int) 0 x175000 x175001 x176000 x176001 x176002 x176003)
def tariff_Postage.l0 : Nat → List (S54) → List Int → List Int → Int → Int → List (S57) → List (S67) → Int → Int → ByteArray → List (S48) → Option (List Int × Int)
  | 0, _, _, _, _, _, _, _, _, _, _, _ => none
  | k + 1, x1, x3, x29, x30, x31, x175000, x175001, x176000, x176001, x176002, x176003 => if x31 < x30 then (if 0 ≤ x31 then (if x31 < (x29.length : Int) then (if (rd x29 x31) < 0 then (some (([] : List Int), 2)) else (if (rd x29 x31) ≥ (x1.length : Int) then (some (([] : List Int), 2)) else (tariff_Postage.l0 k x1 x3 x29 x30 (wrap64 (x31 + 1)) x175000 x175001 x176000 x176001 x176002 x176003))) else (none)) else (none)) else ((tariff_Bases.f k x175000 x175001 x176000 x176001 x176002 x176003).bind fun bt178 => (if bt178.2 = 0 then ((tariff_rate.f k x175000 x175001 x176000).bind fun bt182 => (tariff_Postage.l1 k x1 bt178.1 bt182.2.2 x3 (x3.length : Int) 0 x176000 x176001 x176002 x176003)) else (some (([] : List Int), bt178.2))))
def tariff_Postage.l1 : Nat → List (S54) → List Int → Int → List Int → Int → Int → Int → Int → ByteArray → List (S48) → Option (List Int × Int)
  | 0, _, _, _, _, _, _, _, _, _, _ => none
  | k + 1, x1, x12, x14, x58, x59, x60, x176000, x176001, x176002, x176003 => if x60 < x59 then (if 0 ≤ x60 then (if x60 < (x58.length : Int) then (if x60 < (x12.length : Int) then (if 0 ≤ (rd x58 x60) then (if (rd x58 x60) < (x1.length : Int) then ((some (x12.set (x60 : Int).toNat (wrap64 ((rd x12 x60) - ((rd_T54 x1 (rd x58 x60)).f4))) : List Int)).bind fun y190 => (if x60 < (x176003.length : Int) then (if (rd_T48 x176003 x60).f4 = true then (tariff_Postage.l1 k x1 (y190.set (x60 : Int).toNat (wrap64 ((wrap64 ((rd x12 x60) - ((rd_T54 x1 (rd x58 x60)).f4))) - x14))) x14 x58 x59 (wrap64 (x60 + 1)) x176000 x176001 x176002 x176003) else (tariff_Postage.l1 k x1 y190 x14 x58 x59 (wrap64 (x60 + 1)) x176000 x176001 x176002 x176003)) else (none))) else (none)) else (none)) else (none)) else (none)) else (none)) else (some (x12, 0))
end
def tariff_Postage.f (k : Nat) (l0_0 : List (S57)) (l0_1 : List (S67)) (l1 : List (S54)) (a2_0 : Int) (a2_1 : Int) (a2_2 : ByteArray) (l2_3 : List (S48)) (l3 : List Int) : Option (List Int × Int) := if (l3.length : Int) = (l2_3.length : Int) then ((tariff_Fits.f k l0_0 l0_1 l1).bind fun t176 => (tariff_Postage.j0 k l1 l3 (!t176) l0_0 l0_1 a2_0 a2_1 a2_2 l2_3)) else (tariff_Postage.j0 k l1 l3 true l0_0 l0_1 a2_0 a2_1 a2_2 l2_3)
def tariff_Postage.T16 : Bool × List (List Nat × List Nat) := (true, [([], []), ([], []), ([0, 1], [0, 1]), ([2], [2]), ([], []), ([], []), ([4, 5], [4, 5]), ([6], [6]), ([7], [7]), ([3, 8], [3, 8]), ([0, 1, 0, 1, 2, 3, 4, 5, 6, 7, 8, 9], [0, 1]), ([10, 9, 0, 1, 2, 3, 4, 5, 6, 7, 8, 9], [9, 10])])
def tariff_Postage.B16 : List Nat := [0, 0, 3, 7, 0, 0, 48, 112, 240, 511, 1023, 2047]
theorem tariff_Postage.tab16 : rtab .any (opsOf Tryd.f17 16) = tariff_Postage.T16 := by kernel_rfl
theorem tariff_Postage.bits16 : waitsOk tariff_Postage.T16.2 tariff_Postage.B16 = true := by kernel_rfl
set_option maxHeartbeats 8000000 in
set_option maxRecDepth 100000 in
theorem tariff_Postage.calls (k : Nat) (A0_0 : Option Addr) (c0_0 : Nat) (l0_0 : List (S57)) (A0_1 : Option Addr) (c0_1 : Nat) (l0_1 : List (S67)) (A1 : Option Addr) (c1 : Nat) (l1 : List (S54)) (a2_0 : Int) (a2_1 : Int) (a2_2 : ByteArray) (A2_3 : Option Addr) (c2_3 : Nat) (l2_3 : List (S48)) (A3 : Option Addr) (c3 : Nat) (l3 : List Int) (r1 : List Int) (r2 : Int) (w : World) (hr0_0 : Kd.C k57 w A0_0 l0_0.length l0_0) (hc0_0 : l0_0.length ≤ c0_0) (hr0_1 : Kd.C k67 w A0_1 l0_1.length l0_1) (hc0_1 : l0_1.length ≤ c0_1) (hr1 : Kd.C k54 w A1 l1.length l1) (hc1 : l1.length ≤ c1) (hr2_3 : Kd.C k48 w A2_3 l2_3.length l2_3) (hc2_3 : l2_3.length ≤ c2_3) (hr3 : Kd.C (Kd.int .i64) w A3 l3.length l3) (hc3 : l3.length ≤ c3) (h : tariff_Postage.f k l0_0 l0_1 l1 a2_0 a2_1 a2_2 l2_3 l3 = some (r1, r2)) :
    Calls Tryd.prog 17 #[.agg #[.slice A0_0 l0_0.length c0_0, .slice A0_1 l0_1.length c0_1], .slice A1 l1.length c1, .agg #[.int .u8 a2_0, .int .u8 a2_1, .string a2_2, .slice A2_3 l2_3.length c2_3], .slice A3 l3.length c3] w fun e w' => ∃ v0_ : Value, e = .returned (.tuple #[v0_, .int .i64 r2]) ∧ Kd.R (Kd.int .i64) 3 w' w.heap.size (fun _ => True) v0_ r1 ∧ Below w.heap.size w w' := by
  have hufl := Tryd.underlying57
  have hfl : ∀ (x : Int) (A : Option Addr) (n c : Nat) (z : Int) (W : World), Sem.run Tryd.prog (Instr.field 57 (.agg #[.int .u8 x, .slice A n c, .int .i64 z]) 2) W = .ok (.int .i64 z) W := by intro x A n c z W; simp [Instr.field, run_underlying hufl, part, Result.andThen, asAgg]
  clear hufl
  have hu25 := Tryd.underlying25
  have hu36 := Tryd.underlying36
  have HR0_0 := Aside0.mk hr0_0
  have HC0_0 := Aside0.mk hc0_0
  clear hr0_0 hc0_0
  have HR0_1 := Aside0.mk hr0_1
  have HC0_1 := Aside0.mk hc0_1
  clear hr0_1 hc0_1
  have HR1 := Aside0.mk hr1
  have HC1 := Aside0.mk hc1
  clear hr1 hc1
  have HR2_3 := Aside0.mk hr2_3
  have HC2_3 := Aside0.mk hc2_3
  clear hr2_3 hc2_3
  have HR3 := Aside0.mk hr3
  have HC3 := Aside0.mk hc3
  clear hr3 hc3
  have HB := Aside0.mk (Below.refl w.heap.size w)
  have H : (if (l3.length : Int) = (l2_3.length : Int) then ((tariff_Fits.f k l0_0 l0_1 l1).bind fun t176 => (tariff_Postage.j0 k l1 l3 (!t176) l0_0 l0_1 a2_0 a2_1 a2_2 l2_3)) else (tariff_Postage.j0 k l1 l3 true l0_0 l0_1 a2_0 a2_1 a2_2 l2_3)) = some (r1, r2) := h
  clear h
  have HC5 := Aside0.mk H
  clear H
  go_enter Tryd.func17, Tryd.ntmps17
  go_upto_region 1 with (first | ((with_reducible refine gate_dst (N := 4) rfl ?_); (try (refine gate_guard (by rfl) ?_; dsimp only)); refine box_event ?hg (N := 4) ?hd (cs := #[.slice A0_0 l0_0.length c0_0, .slice A0_1 l0_1.length c0_1]) (t := 25) ?hr ?_; (case hd => rfl); (case hg => rfl); (case hr => first | (go_simp; done) | (go_simp; rfl)); intro gb174 hg w6 hbox hb; have n0_ := Aside0.mk (below_step (by repeat (first | (with_reducible first | exact HB.out | apply below_alloc | apply pw_below_drewN | apply below_drew1) | exact HB.out)) hb); have n1_ := Aside0.mk (hbox); have n2_ := Aside0.mk ((by rw [hg]; exact (below_size (by repeat (first | (with_reducible first | exact HB.out | apply below_alloc | apply pw_below_drewN | apply below_drew1) | exact HB.out))) : w.heap.size ≤ gb174)); have n3_ := Aside0.mk ((by rw [hg]; exact (below_size (by repeat (first | (with_reducible first | exact HB.out | apply below_alloc | apply pw_below_drewN | apply below_drew1) | exact HB.out))) : w.heap.size ≤ gb174)); clear HB; have HB := n0_; have BK174 := n1_; have GW174 := n2_; have GE174 := n3_; clear n0_ n1_ n2_ n3_; clear hb hbox hg) | ((with_reducible refine gate_dst (N := 6) rfl ?_); (try (refine gate_guard (by rfl) ?_; dsimp only)); refine box_event ?hg (N := 6) ?hd (cs := #[.int .u8 a2_0, .int .u8 a2_1, .string a2_2, .slice A2_3 l2_3.length c2_3]) (t := 36) ?hr ?_; (case hd => rfl); (case hg => rfl); (case hr => first | (go_simp; done) | (go_simp; rfl)); intro gb175 hg w7 hbox hb; have n0_ := Aside0.mk (blk_below (g := gb174) (o := .cells #[.slice A0_0 l0_0.length c0_0, .slice A0_1 l0_1.length c0_1] 25 (0, 0)) (by (with_reducible repeat (first | refine blk_drewN ?_ _ | refine blk_drew ?_ | refine blk_alloc ?_ _)); exact BK174.out) hb); have n1_ := Aside0.mk (below_step (by repeat (first | (with_reducible first | exact HB.out | apply below_alloc | apply pw_below_drewN | apply below_drew1 | refine below_set ?_ GE174.out) | exact HB.out)) hb); have n2_ := Aside0.mk (hbox); have n3_ := Aside0.mk ((by rw [hg]; exact (below_size (by repeat (first | (with_reducible first | exact HB.out | apply below_alloc | apply pw_below_drewN | apply below_drew1 | refine below_set ?_ GE174.out) | exact HB.out))) : w.heap.size ≤ gb175)); have n4_ := Aside0.mk ((by rw [hg]; exact (below_size (by repeat (first | (with_reducible first | exact HB.out | apply below_alloc | apply pw_below_drewN | apply below_drew1 | refine below_set ?_ GE174.out) | exact HB.out))) : w.heap.size ≤ gb175)); have n5_ := Aside0.mk ((by rw [hg]; exact Nat.ne_of_lt (blk_lt (g := gb174) (o := .cells #[.slice A0_0 l0_0.length c0_0, .slice A0_1 l0_1.length c0_1] 25 (0, 0)) (by (with_reducible repeat (first | refine blk_drewN ?_ _ | refine blk_drew ?_ | refine blk_alloc ?_ _)); exact BK174.out)) : gb174 ≠ gb175)); have n6_ := Aside0.mk ((by rw [hg]; exact Nat.ne_of_gt (blk_lt (g := gb174) (o := .cells #[.slice A0_0 l0_0.length c0_0, .slice A0_1 l0_1.length c0_1] 25 (0, 0)) (by (with_reducible repeat (first | refine blk_drewN ?_ _ | refine blk_drew ?_ | refine blk_alloc ?_ _)); exact BK174.out)) : gb175 ≠ gb174)); clear BK174; clear HB; have BK174 := n0_; have HB := n1_; have BK175 := n2_; have GW175 := n3_; have GE175 := n4_; have NB174_175 := n5_; have NB175_174 := n6_; clear n0_ n1_ n2_ n3_ n4_ n5_ n6_; clear hb hbox hg))
  (try simp only [Act.put, List.setIfInBounds_toArray, List.set_cons_zero, List.set_cons_succ])
  go_cut [28] (fun v28 wc => ∃ (kq : Nat) (x28_4 : Bool), v28 = .bool x28_4 ∧ Aside0 (tariff_Postage.j0 kq l1 l3 x28_4 l0_0 l0_1 a2_0 a2_1 a2_2 l2_3 = some (r1, r2)) ∧ Aside0 (kq ≤ k) ∧ Aside0 (wc.heap[gb174]? = some (.cells #[(.slice A0_0 l0_0.length c0_0), (.slice A0_1 l0_1.length c0_1)] 25 (0, 0))) ∧ Aside0 (wc.heap[gb175]? = some (.cells #[.int .u8 a2_0, .int .u8 a2_1, .string a2_2, (.slice A2_3 l2_3.length c2_3)] 36 (0, 0))) ∧ Aside0 (Below w.heap.size w wc))
  case first =>
    have H := HC5.out
    clear HC5
    by_cases c8 : (l3.length : Int) = (l2_3.length : Int)
    · rw [if_pos c8] at H
      have c8b0 : ((l3.length : Int) == (l2_3.length : Int)) = true := beq_iff_eq.mpr c8
      have c8b1 : ((l3.length : Int) != (l2_3.length : Int)) = false := bne_eq_false_iff_eq.mpr c8
      have c8b2 : (l3.length == l2_3.length) = true := by first | simpa using c8 | (simp at c8 ⊢; omega)
      clear c8
      (first | rw [c8b0] | (simp only [i64_w, i32_w]; rw [c8b0]) | skip)
      replace H := Option.bind_eq_some_iff.mp H
      obtain ⟨t176, A90, H⟩ := H
      replace H : (tariff_Postage.j0 k l1 l3 (!t176) l0_0 l0_1 a2_0 a2_1 a2_2 l2_3) = some (r1, r2) := H
      have A9 := Aside0.mk A90
      clear A90
      have H' := Aside0.mk H
      clear H
      have hnb10 := NB175_174.out
      have hnc10 := NB174_175.out
      have hcz11_0 : w7.cell? ⟨gb175, 0, none⟩ = some (.int .u8 a2_0) := (blk_cell BK175.out 0).trans rfl
      have hcz11_1 : w7.cell? ⟨gb175, 1, none⟩ = some (.int .u8 a2_1) := (blk_cell BK175.out 1).trans rfl
      have hcz11_2 : w7.cell? ⟨gb175, 2, none⟩ = some (.string a2_2) := (blk_cell BK175.out 2).trans rfl
      have hcz11_3 : w7.cell? ⟨gb175, 3, none⟩ = some (.slice A2_3 l2_3.length c2_3) := (blk_cell BK175.out 3).trans rfl
      have hfz11_0 := blk_frozen BK175.out 0
      have hfz11_1 := blk_frozen BK175.out 1
      have hfz11_2 := blk_frozen BK175.out 2
      have hfz11_3 := blk_frozen BK175.out 3
      have hcz12_0 : w7.cell? ⟨gb174, 0, none⟩ = some (.slice A0_0 l0_0.length c0_0) := (blk_cell BK174.out 0).trans rfl
      have hcz12_1 : w7.cell? ⟨gb174, 1, none⟩ = some (.slice A0_1 l0_1.length c0_1) := (blk_cell BK174.out 1).trans rfl
      have hfz12_0 := blk_frozen BK174.out 0
      have hfz12_1 := blk_frozen BK174.out 1
      go_wp2_with (first | (go_at_call 20; (with_reducible refine (tariff_Fits.calls k _ _ l0_0 _ _ l0_1 _ _ l1 t176 _ ?side1 ?side2 ?side3 ?side4 ?side5 ?side6 A9.out).mono ?_); (case side1 => repeat (first | exact (Kd.C_below HR0_0.out HB.out) | (with_reducible refine Kd.C_alloc ?_ _) | (with_reducible refine Kd.C_drewN ?_ _) | (with_reducible refine Kd.C_drew ?_))); (case side2 => exact HC0_0.out); (case side3 => repeat (first | exact (Kd.C_below HR0_1.out HB.out) | (with_reducible refine Kd.C_alloc ?_ _) | (with_reducible refine Kd.C_drewN ?_ _) | (with_reducible refine Kd.C_drew ?_))); (case side4 => exact HC0_1.out); (case side5 => repeat (first | exact (Kd.C_below HR1.out HB.out) | (with_reducible refine Kd.C_alloc ?_ _) | (with_reducible refine Kd.C_drewN ?_ _) | (with_reducible refine Kd.C_drew ?_))); (case side6 => exact HC1.out); rintro e w13 ⟨rfl, hb⟩; have n0_ := Aside0.mk (blk_below (g := gb174) (o := .cells #[.slice A0_0 l0_0.length c0_0, .slice A0_1 l0_1.length c0_1] 25 (0, 0)) (by (with_reducible repeat (first | refine blk_drewN ?_ _ | refine blk_drew ?_ | refine blk_alloc ?_ _)); exact BK174.out) hb); have n1_ := Aside0.mk (blk_below (g := gb175) (o := .cells #[.int .u8 a2_0, .int .u8 a2_1, .string a2_2, .slice A2_3 l2_3.length c2_3] 36 (0, 0)) (by (with_reducible repeat (first | refine blk_drewN ?_ _ | refine blk_drew ?_ | refine blk_alloc ?_ _)); exact BK175.out) hb); have n2_ := Aside0.mk (below_step (by repeat (first | (with_reducible first | exact HB.out | apply below_alloc | apply pw_below_drewN | apply below_drew1 | refine below_set ?_ GE174.out | refine below_set ?_ GE175.out) | exact HB.out)) hb); clear BK174; clear BK175; clear HB; have BK174 := n0_; have BK175 := n1_; have HB := n2_; clear n0_ n1_ n2_; (try clear hb); (try clear hb2); (try clear hk); (try clear hi)))
      go_meet
      case rel => exact ⟨_, (!t176), (by first | rfl | (simp; done) | (simp [*]; done)), H', ⟨by first | omega | exact Nat.le_refl _⟩, ⟨by (with_reducible repeat (first | refine blk_drewN ?_ _ | refine blk_drew ?_ | refine blk_alloc ?_ _)); exact BK174.out⟩, ⟨by (with_reducible repeat (first | refine blk_drewN ?_ _ | refine blk_drew ?_ | refine blk_alloc ?_ _)); exact BK175.out⟩, ⟨by repeat (first | (with_reducible first | exact HB.out | apply below_alloc | apply pw_below_drewN | apply below_drew1 | refine below_set ?_ GE174.out | refine below_set ?_ GE175.out) | exact HB.out)⟩⟩
    · rw [if_neg c8] at H
      have c8b0 : ((l3.length : Int) == (l2_3.length : Int)) = false := beq_eq_false_iff_ne.mpr c8
      have c8b1 : ((l3.length : Int) != (l2_3.length : Int)) = true := bne_iff_ne.mpr c8
      have c8b2 : (l3.length == l2_3.length) = false := by first | simpa using c8 | (simp at c8 ⊢; omega)
      (first | rw [c8b0] | (simp only [i64_w, i32_w]; rw [c8b0]) | skip)
      have H' := Aside0.mk H
      clear H
      have hnb14 := NB175_174.out
      have hnc14 := NB174_175.out
      have hcz15_0 : w7.cell? ⟨gb175, 0, none⟩ = some (.int .u8 a2_0) := (blk_cell BK175.out 0).trans rfl
      have hcz15_1 : w7.cell? ⟨gb175, 1, none⟩ = some (.int .u8 a2_1) := (blk_cell BK175.out 1).trans rfl
      have hcz15_2 : w7.cell? ⟨gb175, 2, none⟩ = some (.string a2_2) := (blk_cell BK175.out 2).trans rfl
      have hcz15_3 : w7.cell? ⟨gb175, 3, none⟩ = some (.slice A2_3 l2_3.length c2_3) := (blk_cell BK175.out 3).trans rfl
      have hfz15_0 := blk_frozen BK175.out 0
      have hfz15_1 := blk_frozen BK175.out 1
      have hfz15_2 := blk_frozen BK175.out 2
      have hfz15_3 := blk_frozen BK175.out 3
      go_wp2
      go_meet
      case rel => exact ⟨_, (true), (by first | rfl | (simp; done) | (simp [*]; done)), H', ⟨by first | omega | exact Nat.le_refl _⟩, ⟨by (with_reducible repeat (first | refine blk_drewN ?_ _ | refine blk_drew ?_ | refine blk_alloc ?_ _)); exact BK174.out⟩, ⟨by (with_reducible repeat (first | refine blk_drewN ?_ _ | refine blk_drew ?_ | refine blk_alloc ?_ _)); exact BK175.out⟩, ⟨by repeat (first | (with_reducible first | exact HB.out | apply below_alloc | apply pw_below_drewN | apply below_drew1 | refine below_set ?_ GE174.out | refine below_set ?_ GE175.out) | exact HB.out)⟩⟩
  case rest =>
    clear HC5
    try clear c1
    try clear c2
    try clear p2
    try clear c3
    try clear c8
    try clear c8b0
    try clear c8b1
    try clear c8b2
    try clear c10
    try clear c14
    try clear hcz11_0
    try clear hcz11_1
    try clear hcz11_2
    try clear hcz11_3
    try clear hcz12_0
    try clear hcz12_1
    try clear hcz15_0
    try clear hcz15_1
    try clear hcz15_2
    try clear hcz15_3
    try clear hfz11_0
    try clear hfz11_1
    try clear hfz11_2
    try clear hfz11_3
    try clear hfz12_0
    try clear hfz12_1
    try clear hfz15_0
    try clear hfz15_1
    try clear hfz15_2
    try clear hfz15_3
    obtain ⟨kq, x28_4, rfl, HA, HJ4, BK174, BK175, HB⟩ := hcut
    cases kq with
    | zero => exact absurd HA.out (by simp [tariff_Postage.j0])
    | succ kj4 =>
      have H := HA.out
      clear HA
      simp only [tariff_Postage.j0] at H
      by_cases c16 : x28_4 = true
      · subst c16
        have H1 : (some (([] : List Int), 2)) = some (r1, r2) := by rw [if_pos rfl] at H; exact H
        clear H
        have H := H1
        clear H1
        simp only [Option.some.injEq, Prod.mk.injEq] at H
        obtain ⟨rfl, rfl⟩ := H
        go_wp2
        go_ret2
        exact ⟨_, by first | rfl | (simp [errW_none, errW_some] <;> rfl) | (simp [*, errW_none, errW_some] <;> rfl), by first | exact Kd.R_nil _ _ _ _ _ | exact Kd.N_nil _ _ _ _ _ | exact Kd.V_nil _ _ _ _ _ | exact Kd.Q_nil _ _ _ _ _ | exact Kd.S_nil _ _ _ _ _, by repeat (first | (with_reducible first | exact HB.out | apply below_alloc | apply pw_below_drewN | apply below_drew1 | refine below_set ?_ GE174.out | refine below_set ?_ GE175.out) | exact HB.out)⟩
      · replace c16 := Bool.eq_false_iff.mpr c16
        subst c16
        have H1 : (tariff_Postage.l0 kj4 l1 l3 l3 (l3.length : Int) 0 l0_0 l0_1 a2_0 a2_1 a2_2 l2_3) = some (r1, r2) := by rw [if_neg (show ¬ (false = true) by decide)] at H; exact H
        clear H
        have H := H1
        clear H1
        have H' := Aside0.mk H
        clear H
        go_wp2
        go_loopg [31] kj4 (fun kq v31 w' => ∃ (x31_2 : Int), v31 = .int .i64 x31_2 ∧ Aside0 (tariff_Postage.l0 kq l1 l3 l3 (l3.length : Int) x31_2 l0_0 l0_1 a2_0 a2_1 a2_2 l2_3 = some (r1, r2)) ∧ Aside0 (kq ≤ kj4) ∧ Aside0 (w'.heap[gb174]? = some (.cells #[(.slice A0_0 l0_0.length c0_0), (.slice A0_1 l0_1.length c0_1)] 25 (0, 0))) ∧ Aside0 (w'.heap[gb175]? = some (.cells #[.int .u8 a2_0, .int .u8 a2_1, .string a2_2, (.slice A2_3 l2_3.length c2_3)] 36 (0, 0))) ∧ Aside0 (Below w.heap.size w w'))
        case atStart => exact ⟨(0), (by first | rfl | (simp; done) | (simp [*]; done)), H', ⟨Nat.le_refl _⟩, ⟨by (with_reducible repeat (first | refine blk_drewN ?_ _ | refine blk_drew ?_ | refine blk_alloc ?_ _)); exact BK174.out⟩, ⟨by (with_reducible repeat (first | refine blk_drewN ?_ _ | refine blk_drew ?_ | refine blk_alloc ?_ _)); exact BK175.out⟩, ⟨by repeat (first | (with_reducible first | exact HB.out | apply below_alloc | apply pw_below_drewN | apply below_drew1 | refine below_set ?_ GE174.out | refine below_set ?_ GE175.out) | exact HB.out)⟩⟩
        case round =>
          clear H'
          try clear c1
          try clear c2
          try clear p2
          try clear c3
          try clear c8
          try clear c8b0
          try clear c8b1
          try clear c8b2
          try clear c10
          try clear c14
          try clear c16
          try clear hcz11_0
          try clear hcz11_1
          try clear hcz11_2
          try clear hcz11_3
          try clear hcz12_0
          try clear hcz12_1
          try clear hcz15_0
          try clear hcz15_1
          try clear hcz15_2
          try clear hcz15_3
          try clear hfz11_0
          try clear hfz11_1
          try clear hfz11_2
          try clear hfz11_3
          try clear hfz12_0
          try clear hfz12_1
          try clear hfz15_0
          try clear hfz15_1
          try clear hfz15_2
          try clear hfz15_3
          try clear p2
          obtain ⟨x31_2, rfl, HA, HK2, BK174, BK175, HB⟩ := hrel
          cases gk with
          | zero => exact absurd HA.out (by simp [tariff_Postage.l0])
          | succ k2 =>
            have H := HA.out
            clear HA
            simp only [tariff_Postage.l0] at H
            by_cases c17 : x31_2 < (l3.length : Int)
            · rw [if_pos c17] at H
              have c17b0 : decide (x31_2 < (l3.length : Int)) = true := decide_eq_true c17
              clear c17
              by_cases c18 : 0 ≤ x31_2
              · rw [if_pos c18] at H
                have c18b0 : decide (0 ≤ x31_2) = true := decide_eq_true c18
                clear c18
                by_cases c19 : x31_2 < (l3.length : Int)
                · rw [if_pos c19] at H
                  have c19b0 : decide (x31_2 < (l3.length : Int)) = true := decide_eq_true c19
                  clear c19
                  by_cases c20 : (rd l3 x31_2) < 0
                  · rw [if_pos c20] at H
                    have c20b0 : decide ((rd l3 x31_2) < 0) = true := decide_eq_true c20
                    clear c20
                    simp only [Option.some.injEq, Prod.mk.injEq] at H
                    obtain ⟨rfl, rfl⟩ := H
                    have p177 : 0 ≤ (x31_2 : Int) := of_decide_eq_true (by first | (with_reducible assumption) | assumption)
                    have q177 : x31_2 < (l3.length : Int) := of_decide_eq_true (by first | (with_reducible assumption) | assumption)
                    obtain ⟨ad177, e177, hx177_0⟩ := Kd.at_int HR3.out x31_2 p177 q177
                    cases e177
                    replace hx177_0 := (HB.out.cell (World.block_lt_of_cell? w _ hx177_0)).trans hx177_0
                    replace p177 := eq_true p177
                    replace q177 := eq_true q177
                    go_wp2
                    go_ret2
                    exact ⟨_, by first | rfl | (simp [errW_none, errW_some] <;> rfl) | (simp [*, errW_none, errW_some] <;> rfl), by first | exact Kd.R_nil _ _ _ _ _ | exact Kd.N_nil _ _ _ _ _ | exact Kd.V_nil _ _ _ _ _ | exact Kd.Q_nil _ _ _ _ _ | exact Kd.S_nil _ _ _ _ _, by repeat (first | (with_reducible first | exact HB.out | apply below_alloc | apply pw_below_drewN | apply below_drew1 | refine below_set ?_ GE174.out | refine below_set ?_ GE175.out) | exact HB.out)⟩
                  · rw [if_neg c20] at H
                    have c20b0 : decide ((rd l3 x31_2) < 0) = false := decide_eq_false c20
                    clear c20
                    by_cases c21 : (rd l3 x31_2) ≥ (l1.length : Int)
                    · rw [if_pos c21] at H
                      have c21b0 : decide ((l1.length : Int) ≤ (rd l3 x31_2)) = true := decide_eq_true c21
                      clear c21
                      simp only [Option.some.injEq, Prod.mk.injEq] at H
                      obtain ⟨rfl, rfl⟩ := H
                      have p177 : 0 ≤ (x31_2 : Int) := of_decide_eq_true (by first | (with_reducible assumption) | assumption)
                      have q177 : x31_2 < (l3.length : Int) := of_decide_eq_true (by first | (with_reducible assumption) | assumption)
                      obtain ⟨ad177, e177, hx177_0⟩ := Kd.at_int HR3.out x31_2 p177 q177
                      cases e177
                      replace hx177_0 := (HB.out.cell (World.block_lt_of_cell? w _ hx177_0)).trans hx177_0
                      replace p177 := eq_true p177
                      replace q177 := eq_true q177
                      go_wp2
                      go_ret2
                      exact ⟨_, by first | rfl | (simp [errW_none, errW_some] <;> rfl) | (simp [*, errW_none, errW_some] <;> rfl), by first | exact Kd.R_nil _ _ _ _ _ | exact Kd.N_nil _ _ _ _ _ | exact Kd.V_nil _ _ _ _ _ | exact Kd.Q_nil _ _ _ _ _ | exact Kd.S_nil _ _ _ _ _, by repeat (first | (with_reducible first | exact HB.out | apply below_alloc | apply pw_below_drewN | apply below_drew1 | refine below_set ?_ GE174.out | refine below_set ?_ GE175.out) | exact HB.out)⟩
                    · rw [if_neg c21] at H
                      have c21b0 : decide ((l1.length : Int) ≤ (rd l3 x31_2)) = false := decide_eq_false c21
                      clear c21
                      have H' := Aside0.mk H
                      clear H
                      have p177 : 0 ≤ (x31_2 : Int) := of_decide_eq_true (by first | (with_reducible assumption) | assumption)
                      have q177 : x31_2 < (l3.length : Int) := of_decide_eq_true (by first | (with_reducible assumption) | assumption)
                      obtain ⟨ad177, e177, hx177_0⟩ := Kd.at_int HR3.out x31_2 p177 q177
                      cases e177
                      replace hx177_0 := (HB.out.cell (World.block_lt_of_cell? w _ hx177_0)).trans hx177_0
                      replace p177 := eq_true p177
                      replace q177 := eq_true q177
                      go_wp2
                      go_roundg k2
                      case measure => have := HJ4.out; have := HK2.out; omega
                      case rel => exact ⟨(wrap64 (x31_2 + 1)), (by first | rfl | (simp; done) | (simp [*]; done)), H', ⟨by have := HJ4.out; have := HK2.out; omega⟩, ⟨by (with_reducible repeat (first | refine blk_drewN ?_ _ | refine blk_drew ?_ | refine blk_alloc ?_ _)); exact BK174.out⟩, ⟨by (with_reducible repeat (first | refine blk_drewN ?_ _ | refine blk_drew ?_ | refine blk_alloc ?_ _)); exact BK175.out⟩, ⟨by repeat (first | (with_reducible first | exact HB.out | apply below_alloc | apply pw_below_drewN | apply below_drew1 | refine below_set ?_ GE174.out | refine below_set ?_ GE175.out) | exact HB.out)⟩⟩
                · rw [if_neg c19] at H
                  exact absurd H (by simp)
              · rw [if_neg c18] at H
                exact absurd H (by simp)
            · rw [if_neg c17] at H
              have c17b0 : decide (x31_2 < (l3.length : Int)) = false := decide_eq_false c17
              clear c17
              replace H := Option.bind_eq_some_iff.mp H
              obtain ⟨⟨t178, t181⟩, A220, H⟩ := H
              replace H : (if t181 = 0 then ((tariff_rate.f k2 l0_0 l0_1 a2_0).bind fun bt182 => (tariff_Postage.l1 k2 l1 t178 bt182.2.2 l3 (l3.length : Int) 0 a2_0 a2_1 a2_2 l2_3)) else (some (([] : List Int), t181))) = some (r1, r2) := H
              have A22 := Aside0.mk A220
              clear A220
              by_cases c23 : t181 = 0
              · rw [if_pos c23] at H
                have c23b0 : (t181 == 0) = true := beq_iff_eq.mpr c23
                have c23b1 : (t181 != 0) = false := bne_eq_false_iff_eq.mpr c23
                clear c23
                replace H := Option.bind_eq_some_iff.mp H
                obtain ⟨⟨t182, t183, t186⟩, A240, H⟩ := H
                replace H : (tariff_Postage.l1 k2 l1 t178 t186 l3 (l3.length : Int) 0 a2_0 a2_1 a2_2 l2_3) = some (r1, r2) := H
                have A24 := Aside0.mk A240
                clear A240
                have H' := Aside0.mk H
                clear H
                have hnb25 := NB174_175.out
                have hnc25 := NB175_174.out
                have hcz26_0 : wr.cell? ⟨gb174, 0, none⟩ = some (.slice A0_0 l0_0.length c0_0) := (blk_cell BK174.out 0).trans rfl
                have hcz26_1 : wr.cell? ⟨gb174, 1, none⟩ = some (.slice A0_1 l0_1.length c0_1) := (blk_cell BK174.out 1).trans rfl
                have hfz26_0 := blk_frozen BK174.out 0
                have hfz26_1 := blk_frozen BK174.out 1
                have hcz27_0 : wr.cell? ⟨gb175, 0, none⟩ = some (.int .u8 a2_0) := (blk_cell BK175.out 0).trans rfl
                have hcz27_1 : wr.cell? ⟨gb175, 1, none⟩ = some (.int .u8 a2_1) := (blk_cell BK175.out 1).trans rfl
                have hcz27_2 : wr.cell? ⟨gb175, 2, none⟩ = some (.string a2_2) := (blk_cell BK175.out 2).trans rfl
                have hcz27_3 : wr.cell? ⟨gb175, 3, none⟩ = some (.slice A2_3 l2_3.length c2_3) := (blk_cell BK175.out 3).trans rfl
                have hfz27_0 := blk_frozen BK175.out 0
                have hfz27_1 := blk_frozen BK175.out 1
                have hfz27_2 := blk_frozen BK175.out 2
                have hfz27_3 := blk_frozen BK175.out 3
                go_wp2_with (first | ((with_reducible refine gate_callee (f := 16) rfl ?_); refine goesL_ (some 47) rfl rfl Tryd.func16 (by kernel_rfl) rfl #[.agg #[.slice A0_0 l0_0.length c0_0, .slice A0_1 l0_1.length c0_1], .agg #[.int .u8 a2_0, .int .u8 a2_1, .string a2_2, .slice A2_3 l2_3.length c2_3]] rfl (by (try simp only [List.map_toArray, List.map_cons, List.map_nil]); first | done | rfl | (simp only [List.length_drop, List.length_take]; rfl)) ?_; (with_reducible refine (tariff_Bases.calls k2 _ _ l0_0 _ _ l0_1 a2_0 a2_1 a2_2 _ _ l2_3 t178 t181 _ ?side1 ?side2 ?side3 ?side4 ?side5 ?side6 A22.out).mono ?_); (case side1 => repeat (first | exact (Kd.C_below HR0_0.out HB.out) | (with_reducible refine Kd.C_alloc ?_ _) | (with_reducible refine Kd.C_drewN ?_ _) | (with_reducible refine Kd.C_drew ?_))); (case side2 => exact HC0_0.out); (case side3 => repeat (first | exact (Kd.C_below HR0_1.out HB.out) | (with_reducible refine Kd.C_alloc ?_ _) | (with_reducible refine Kd.C_drewN ?_ _) | (with_reducible refine Kd.C_drew ?_))); (case side4 => exact HC0_1.out); (case side5 => repeat (first | exact (Kd.C_below HR2_3.out HB.out) | (with_reducible refine Kd.C_alloc ?_ _) | (with_reducible refine Kd.C_drewN ?_ _) | (with_reducible refine Kd.C_drew ?_))); (case side6 => exact HC2_3.out); rintro e w28 ⟨v179, rfl, ho0, hb⟩; refine ⟨_, rfl, ?_⟩; have n0_ := Aside0.mk (Kd.R_lower ho0 (below_size (by repeat (first | (with_reducible first | exact HB.out | apply below_alloc | apply pw_below_drewN | apply below_drew1 | refine below_set ?_ GE174.out | refine below_set ?_ GE175.out) | exact HB.out)))); have n1_ := Aside0.mk (blk_below (g := gb174) (o := .cells #[.slice A0_0 l0_0.length c0_0, .slice A0_1 l0_1.length c0_1] 25 (0, 0)) (by (with_reducible repeat (first | refine blk_drewN ?_ _ | refine blk_drew ?_ | refine blk_alloc ?_ _)); exact BK174.out) hb); have n2_ := Aside0.mk (blk_below (g := gb175) (o := .cells #[.int .u8 a2_0, .int .u8 a2_1, .string a2_2, .slice A2_3 l2_3.length c2_3] 36 (0, 0)) (by (with_reducible repeat (first | refine blk_drewN ?_ _ | refine blk_drew ?_ | refine blk_alloc ?_ _)); exact BK175.out) hb); have n3_ := Aside0.mk (below_step (by repeat (first | (with_reducible first | exact HB.out | apply below_alloc | apply pw_below_drewN | apply below_drew1 | refine below_set ?_ GE174.out | refine below_set ?_ GE175.out) | exact HB.out)) hb); clear BK174; clear BK175; clear HB; have HO180 := n0_; have BK174 := n1_; have BK175 := n2_; have HB := n3_; clear n0_ n1_ n2_ n3_; (try clear hb); (try clear hb2); (try clear hk); (try clear hi); (try clear ho0); have hcz29_0 : w28.cell? ⟨gb174, 0, none⟩ = some (.slice A0_0 l0_0.length c0_0) := (blk_cell BK174.out 0).trans rfl; have hcz29_1 : w28.cell? ⟨gb174, 1, none⟩ = some (.slice A0_1 l0_1.length c0_1) := (blk_cell BK174.out 1).trans rfl; have hfz29_0 := blk_frozen BK174.out 0; have hfz29_1 := blk_frozen BK174.out 1; have hcz30_0 : w28.cell? ⟨gb175, 0, none⟩ = some (.int .u8 a2_0) := (blk_cell BK175.out 0).trans rfl; have hcz30_1 : w28.cell? ⟨gb175, 1, none⟩ = some (.int .u8 a2_1) := (blk_cell BK175.out 1).trans rfl; have hcz30_2 : w28.cell? ⟨gb175, 2, none⟩ = some (.string a2_2) := (blk_cell BK175.out 2).trans rfl; have hcz30_3 : w28.cell? ⟨gb175, 3, none⟩ = some (.slice A2_3 l2_3.length c2_3) := (blk_cell BK175.out 3).trans rfl; have hfz30_0 := blk_frozen BK175.out 0; have hfz30_1 := blk_frozen BK175.out 1; have hfz30_2 := blk_frozen BK175.out 2; have hfz30_3 := blk_frozen BK175.out 3) | ((with_reducible refine gate_callee (f := 41) rfl ?_); refine goesL_ (some 56) rfl rfl Tryd.func41 (by kernel_rfl) rfl #[.agg #[.slice A0_0 l0_0.length c0_0, .slice A0_1 l0_1.length c0_1], .int .u8 a2_0] rfl (by (try simp only [List.map_toArray, List.map_cons, List.map_nil]); first | done | rfl | (simp only [List.length_drop, List.length_take]; rfl)) ?_; (with_reducible refine (tariff_rate.calls k2 (fun k_ => k_ < w.heap.size) _ _ l0_0 _ _ l0_1 a2_0 t182 t183 t186 _ ?side1 ?side2 ?side3 A24.out).mono ?_); (case side1 => exact Kd.V_mk HC0_0.out (Kd.F_below (Kd.C_F k57_heap HR0_0.out) (by repeat (first | (with_reducible first | exact HB.out | apply below_alloc | apply pw_below_drewN | apply below_drew1 | refine below_set ?_ GE174.out | refine below_set ?_ GE175.out) | exact HB.out)))); (case side2 => repeat (first | exact (Kd.C_below HR0_1.out HB.out) | (with_reducible refine Kd.C_alloc ?_ _) | (with_reducible refine Kd.C_drewN ?_ _) | (with_reducible refine Kd.C_drew ?_))); (case side3 => exact HC0_1.out); rintro e w31 ⟨v184, rfl, ho0, hb⟩; obtain ⟨_, _, rfl⟩ := Kd.V_slice ho0; refine ⟨_, rfl, ?_⟩; have n0_ := Aside0.mk (Kd.R_below (by (with_reducible repeat (first | apply Kd.R_alloc | apply Kd.R_drewN | apply Kd.R_drew)); exact HO180.out) hb); have n1_ := Aside0.mk (Kd.V_lower (Kd.V_mono (ok' := fun k_ => some k_ ≠ (v179 : Value).ownBlock ∧ k_ ≠ gb174 ∧ k_ ≠ gb175) ho0 (fun k_ hk_ => ⟨Or.elim hk_ (fun hs_ => fun e_ => Nat.not_le.2 hs_ (Kd.R_base HO180.out k_ e_.symm)) (fun hn_ => (Kd.fresh' (Kd.R_lt (by (with_reducible repeat (first | apply Kd.R_alloc | apply Kd.R_drewN | apply Kd.R_drew)); exact HO180.out)) k_ hn_)), Or.elim hk_ (fun hs_ => fun e_ => Nat.not_le.2 hs_ (by rw [e_]; exact GW174.out)) (fun hn_ => (Kd.freshB (g := gb174) (o := .cells #[.slice A0_0 l0_0.length c0_0, .slice A0_1 l0_1.length c0_1] 25 (0, 0)) (by (with_reducible repeat (first | refine blk_drewN ?_ _ | refine blk_drew ?_ | refine blk_alloc ?_ _)); exact BK174.out) k_ hn_)), Or.elim hk_ (fun hs_ => fun e_ => Nat.not_le.2 hs_ (by rw [e_]; exact GW175.out)) (fun hn_ => (Kd.freshB (g := gb175) (o := .cells #[.int .u8 a2_0, .int .u8 a2_1, .string a2_2, .slice A2_3 l2_3.length c2_3] 36 (0, 0)) (by (with_reducible repeat (first | refine blk_drewN ?_ _ | refine blk_drew ?_ | refine blk_alloc ?_ _)); exact BK175.out) k_ hn_))⟩)) (below_size (by repeat (first | (with_reducible first | exact HB.out | apply below_alloc | apply pw_below_drewN | apply below_drew1 | refine below_set ?_ GE174.out | refine below_set ?_ GE175.out) | exact HB.out)))); have n2_ := Aside0.mk (blk_below (g := gb174) (o := .cells #[.slice A0_0 l0_0.length c0_0, .slice A0_1 l0_1.length c0_1] 25 (0, 0)) (by (with_reducible repeat (first | refine blk_drewN ?_ _ | refine blk_drew ?_ | refine blk_alloc ?_ _)); exact BK174.out) hb); have n3_ := Aside0.mk (blk_below (g := gb175) (o := .cells #[.int .u8 a2_0, .int .u8 a2_1, .string a2_2, .slice A2_3 l2_3.length c2_3] 36 (0, 0)) (by (with_reducible repeat (first | refine blk_drewN ?_ _ | refine blk_drew ?_ | refine blk_alloc ?_ _)); exact BK175.out) hb); have n4_ := Aside0.mk (below_step (by repeat (first | (with_reducible first | exact HB.out | apply below_alloc | apply pw_below_drewN | apply below_drew1 | refine below_set ?_ GE174.out | refine below_set ?_ GE175.out) | exact HB.out)) hb); clear HO180; clear BK174; clear BK175; clear HB; have HO180 := n0_; have HO185 := n1_; have BK174 := n2_; have BK175 := n3_; have HB := n4_; clear n0_ n1_ n2_ n3_ n4_; (try clear hb); (try clear hb2); (try clear hk); (try clear hi); (try clear ho0)))
                go_loopg [60] k2 (fun kq v60 w' => ∃ (x12_3 : List Int) (x60_3 : Int), v60 = .int .i64 x60_3 ∧ Aside0 (tariff_Postage.l1 kq l1 x12_3 t186 l3 (l3.length : Int) x60_3 a2_0 a2_1 a2_2 l2_3 = some (r1, r2)) ∧ Aside0 (kq ≤ k2) ∧ Aside0 (Kd.R (Kd.int .i64) 3 w' w.heap.size (fun _ => True) v179 x12_3) ∧ Aside0 (w'.heap[gb174]? = some (.cells #[(.slice A0_0 l0_0.length c0_0), (.slice A0_1 l0_1.length c0_1)] 25 (0, 0))) ∧ Aside0 (w'.heap[gb175]? = some (.cells #[.int .u8 a2_0, .int .u8 a2_1, .string a2_2, (.slice A2_3 l2_3.length c2_3)] 36 (0, 0))) ∧ Aside0 (Below w.heap.size w w'))
                case atStart => exact ⟨(t178), (0), (by first | rfl | (simp; done) | (simp [*]; done)), H', ⟨Nat.le_refl _⟩, ⟨by (with_reducible repeat (first | apply Kd.R_alloc | apply Kd.R_drewN | apply Kd.R_drew)); exact HO180.out⟩, ⟨by (with_reducible repeat (first | refine blk_drewN ?_ _ | refine blk_drew ?_ | refine blk_alloc ?_ _)); exact BK174.out⟩, ⟨by (with_reducible repeat (first | refine blk_drewN ?_ _ | refine blk_drew ?_ | refine blk_alloc ?_ _)); exact BK175.out⟩, ⟨by repeat (first | (with_reducible first | exact HB.out | apply below_alloc | apply pw_below_drewN | apply below_drew1 | refine below_set ?_ GE174.out | refine below_set ?_ GE175.out) | exact HB.out)⟩⟩
                case round =>
                  clear H'
                  try clear c1
                  try clear p1
                  try clear q1
                  try clear hx1
                  try clear c2
                  try clear p2
                  try clear c3
                  try clear c4
                  try clear p6
                  try clear c8
                  try clear c8b0
                  try clear c8b1
                  try clear c8b2
                  try clear c10
                  try clear c14
                  try clear c16
                  try clear c17
                  try clear c17b0
                  try clear p17
                  try clear q17
                  try clear hx17
                  try clear c18
                  try clear c18b0
                  try clear c19
                  try clear c19b0
                  try clear c20
                  try clear c20b0
                  try clear c21
                  try clear c21b0
                  try clear c23
                  try clear c23b0
                  try clear c23b1
                  try clear c25
                  try clear hcz11_0
                  try clear hcz11_1
                  try clear hcz11_2
                  try clear hcz11_3
                  try clear hcz12_0
                  try clear hcz12_1
                  try clear hcz15_0
                  try clear hcz15_1
                  try clear hcz15_2
                  try clear hcz15_3
                  try clear hcz26_0
                  try clear hcz26_1
                  try clear hcz27_0
                  try clear hcz27_1
                  try clear hcz27_2
                  try clear hcz27_3
                  try clear hcz29_0
                  try clear hcz29_1
                  try clear hcz30_0
                  try clear hcz30_1
                  try clear hcz30_2
                  try clear hcz30_3
                  try clear hfz11_0
                  try clear hfz11_1
                  try clear hfz11_2
                  try clear hfz11_3
                  try clear hfz12_0
                  try clear hfz12_1
                  try clear hfz15_0
                  try clear hfz15_1
                  try clear hfz15_2
                  try clear hfz15_3
                  try clear hfz26_0
                  try clear hfz26_1
                  try clear hfz27_0
                  try clear hfz27_1
                  try clear hfz27_2
                  try clear hfz27_3
                  try clear hfz29_0
                  try clear hfz29_1
                  try clear hfz30_0
                  try clear hfz30_1
                  try clear hfz30_2
                  try clear hfz30_3
                  try clear hx177_0
                  try clear p177
                  try clear p2
                  try clear q177
                  obtain ⟨x12_3, x60_3, rfl, HA, HK3, HO_12, BK174, BK175, HB⟩ := hrel
                  cases gk with
                  | zero => exact absurd HA.out (by simp [tariff_Postage.l1])
                  | succ k3 =>
                    have H := HA.out
                    clear HA
                    simp only [tariff_Postage.l1] at H
                    by_cases c32 : x60_3 < (l3.length : Int)
                    · rw [if_pos c32] at H
                      have c32b0 : decide (x60_3 < (l3.length : Int)) = true := decide_eq_true c32
                      clear c32
                      by_cases c33 : 0 ≤ x60_3
                      · rw [if_pos c33] at H
                        have c33b0 : decide (0 ≤ x60_3) = true := decide_eq_true c33
                        clear c33
                        by_cases c34 : x60_3 < (l3.length : Int)
                        · rw [if_pos c34] at H
                          have c34b0 : decide (x60_3 < (l3.length : Int)) = true := decide_eq_true c34
                          clear c34
                          by_cases c35 : x60_3 < (x12_3.length : Int)
                          · rw [if_pos c35] at H
                            have c35b0 : decide (x60_3 < (x12_3.length : Int)) = true := decide_eq_true c35
                            clear c35
                            by_cases c36 : 0 ≤ (rd l3 x60_3)
                            · rw [if_pos c36] at H
                              have c36b0 : decide (0 ≤ (rd l3 x60_3)) = true := decide_eq_true c36
                              clear c36
                              by_cases c37 : (rd l3 x60_3) < (l1.length : Int)
                              · rw [if_pos c37] at H
                                have c37b0 : decide ((rd l3 x60_3) < (l1.length : Int)) = true := decide_eq_true c37
                                clear c37
                                obtain ⟨y190, hy190⟩ : ∃ y_ : List Int, y_ = (x12_3.set (x60_3 : Int).toNat (wrap64 ((rd x12_3 x60_3) - ((rd_T54 l1 (rd l3 x60_3)).f4)))) := ⟨_, rfl⟩
                                replace H : (if x60_3 < (l2_3.length : Int) then (if (rd_T48 l2_3 x60_3).f4 = true then (tariff_Postage.l1 k3 l1 (y190.set (x60_3 : Int).toNat (wrap64 ((wrap64 ((rd x12_3 x60_3) - ((rd_T54 l1 (rd l3 x60_3)).f4))) - t186))) t186 l3 (l3.length : Int) (wrap64 (x60_3 + 1)) a2_0 a2_1 a2_2 l2_3) else (tariff_Postage.l1 k3 l1 y190 t186 l3 (l3.length : Int) (wrap64 (x60_3 + 1)) a2_0 a2_1 a2_2 l2_3)) else (none)) = some (r1, r2) := by first | (rw [hy190]; with_reducible exact H) | (have H2_ := (Option.bind_some _ _).symm.trans H; rw [hy190]; with_reducible exact H2_) | (have H2_ := (Option.bind_some _ _).symm.trans H; with_reducible exact H2_) | with_reducible exact H | (rw [hy190]; exact H) | exact H
                                have Ny190 := Aside0.mk hy190
                                clear hy190
                                by_cases c39 : x60_3 < (l2_3.length : Int)
                                · rw [if_pos c39] at H
                                  have c39b0 : decide (x60_3 < (l2_3.length : Int)) = true := decide_eq_true c39
                                  clear c39
                                  obtain ⟨bq40, hbq40⟩ : ∃ b_ : Bool, b_ = ((rd_T48 l2_3 x60_3).f4) := ⟨_, rfl⟩
                                  replace H : (if bq40 = true then (tariff_Postage.l1 k3 l1 (y190.set (x60_3 : Int).toNat (wrap64 ((wrap64 ((rd x12_3 x60_3) - ((rd_T54 l1 (rd l3 x60_3)).f4))) - t186))) t186 l3 (l3.length : Int) (wrap64 (x60_3 + 1)) a2_0 a2_1 a2_2 l2_3) else (tariff_Postage.l1 k3 l1 y190 t186 l3 (l3.length : Int) (wrap64 (x60_3 + 1)) a2_0 a2_1 a2_2 l2_3)) = some (r1, r2) := by rw [← hbq40] at H; exact H
                                  have Nbq40 := Aside0.mk hbq40
                                  clear hbq40
                                  by_cases c41 : bq40 = true
                                  · subst c41
                                    have H1 : (tariff_Postage.l1 k3 l1 (y190.set (x60_3 : Int).toNat (wrap64 ((wrap64 ((rd x12_3 x60_3) - ((rd_T54 l1 (rd l3 x60_3)).f4))) - t186))) t186 l3 (l3.length : Int) (wrap64 (x60_3 + 1)) a2_0 a2_1 a2_2 l2_3) = some (r1, r2) := by rw [if_pos rfl] at H; exact H
                                    clear H
                                    have H := H1
                                    clear H1
                                    obtain ⟨y193, hy193⟩ : ∃ y_ : List Int, y_ = (y190.set (x60_3 : Int).toNat (wrap64 ((wrap64 ((rd x12_3 x60_3) - ((rd_T54 l1 (rd l3 x60_3)).f4))) - t186))) := ⟨_, rfl⟩
                                    replace H : (tariff_Postage.l1 k3 l1 y193 t186 l3 (l3.length : Int) (wrap64 (x60_3 + 1)) a2_0 a2_1 a2_2 l2_3) = some (r1, r2) := by first | (rw [hy193]; with_reducible exact H) | (have H2_ := (Option.bind_some _ _).symm.trans H; rw [hy193]; with_reducible exact H2_) | (have H2_ := (Option.bind_some _ _).symm.trans H; with_reducible exact H2_) | with_reducible exact H | (rw [hy193]; exact H) | exact H
                                    have Ny193 := Aside0.mk hy193
                                    clear hy193
                                    have H' := Aside0.mk H
                                    clear H
                                    have p187 : 0 ≤ (x60_3 : Int) := of_decide_eq_true (by first | (with_reducible assumption) | assumption)
                                    have q187 : x60_3 < (l3.length : Int) := of_decide_eq_true (by first | (with_reducible assumption) | assumption)
                                    obtain ⟨ad187, e187, hx187_0⟩ := Kd.at_int HR3.out x60_3 p187 q187
                                    cases e187
                                    replace hx187_0 := (HB.out.cell (World.block_lt_of_cell? w _ hx187_0)).trans hx187_0
                                    replace p187 := eq_true p187
                                    replace q187 := eq_true q187
                                    try go_wp2
                                    have n0_ := Aside0.mk (Kd.R_drew HO_12.out)
                                    have n1_ := Aside0.mk (blk_drew BK174.out)
                                    have n2_ := Aside0.mk (blk_drew BK175.out)
                                    have n3_ := Aside0.mk (below_drew1 HB.out)
                                    clear HO_12
                                    clear BK174
                                    clear BK175
                                    clear HB
                                    have HO_12 := n0_
                                    have BK174 := n1_
                                    have BK175 := n2_
                                    have HB := n3_
                                    clear n0_ n1_ n2_ n3_
                                    obtain ⟨Ao45, co45, eo45⟩ := Kd.R_slice HO_12.out
                                    (first | subst eo45 | (injection eo45 with f1_ f2_ f3_; have f4_ := f1_.symm; have f5_ := f3_.symm; clear f1_ f2_ f3_; subst f4_; subst f5_))
                                    have p188 : 0 ≤ (x60_3 : Int) := of_decide_eq_true (by first | (with_reducible assumption) | assumption)
                                    have q188 : x60_3 < (x12_3.length : Int) := of_decide_eq_true (by first | (with_reducible assumption) | assumption)
                                    obtain ⟨ad188, e188, hx188_0⟩ := Kd.at_int (Kd.R_reads' HO_12.out).2.2 x60_3 p188 q188
                                    cases e188
                                    replace p188 := eq_true p188
                                    replace q188 := eq_true q188
                                    have p189 : 0 ≤ ((rd l3 x60_3) : Int) := of_decide_eq_true (by first | (with_reducible assumption) | assumption)
                                    have q189 : (rd l3 x60_3) < (l1.length : Int) := of_decide_eq_true (by first | (with_reducible assumption) | assumption)
                                    obtain ⟨ad189, A189_2, c189_2, e189, hx189_0, hx189_1, hx189_2, hx189_3, hx189_4, hl189_2, hi189_2⟩ := at_T54 HR1.out (rd l3 x60_3) p189 q189
                                    have hw189_4 := hx189_4
                                    have hw189_3 := hx189_3
                                    have hw189_2 := hx189_2
                                    have hw189_1 := hx189_1
                                    have hw189_0 := hx189_0
                                    cases e189
                                    replace hx189_0 := (HB.out.cell (World.block_lt_of_cell? w _ hx189_0)).trans hx189_0
                                    replace hx189_1 := (HB.out.cell (World.block_lt_of_cell? w _ hx189_1)).trans hx189_1
                                    replace hx189_2 := (HB.out.cell (World.block_lt_of_cell? w _ hx189_2)).trans hx189_2
                                    replace hx189_3 := (HB.out.cell (World.block_lt_of_cell? w _ hx189_3)).trans hx189_3
                                    replace hx189_4 := (HB.out.cell (World.block_lt_of_cell? w _ hx189_4)).trans hx189_4
                                    have HR189_2 := Aside0.mk hi189_2
                                    have HC189_2 := Aside0.mk hl189_2
                                    clear hi189_2 hl189_2
                                    replace p189 := eq_true p189
                                    replace q189 := eq_true q189
                                    have p38 : 0 ≤ (x60_3 : Int) := of_decide_eq_true (by first | (with_reducible assumption) | assumption)
                                    have q38 : (x60_3 : Int) < ((x12_3.length : Int) : Int) := of_decide_eq_true (by first | (with_reducible assumption) | assumption)
                                    obtain ⟨go38, co38, eo38, gb38, gl38, cl38, HG38⟩ := Kd.R_form HO_12.out (by omega)
                                    (first | cases eo38 | (injection eo38 with ea_ en_ ec_; (first | subst ea_ | (injection ea_ with ea_; subst ea_)); subst ec_; clear en_))
                                    have GB38 := Aside0.mk gb38
                                    have GG38 := Aside0.mk HG38
                                    clear gb38 gl38 HG38
                                    (first | simp only [add_plain] at hx188_0 | skip)
                                    obtain ⟨hx38_0, hf38_0⟩ := Kd.R_celln 0 HO_12.out (x60_3 : Int) p38 q38
                                    replace p38 := eq_true p38
                                    replace q38 := eq_true q38
                                    have HP46 := Kd.R_putn HO_12.out (x60_3 : Int) (wrap64 ((rd x12_3 x60_3) - ((rd_T54 l1 (rd l3 x60_3)).f4)))
                                    rw [← Ny190.out] at HP46
                                    have HQ46 := Aside0.mk HP46
                                    clear HP46
                                    refine start_ (n := 12) (S := fun w' => w'.cell? ⟨go38, (x60_3).toNat, none⟩ = some (.int .i64 (rd x12_3 x60_3)) ∧ w'.cell? (ad189.add (((rd l3 x60_3)).toNat * 5)) = some (.string ((rd_T54 l1 (rd l3 x60_3)).f0)) ∧ w'.cell? ⟨(ad189.add (((rd l3 x60_3)).toNat * 5)).block, (ad189.add (((rd l3 x60_3)).toNat * 5)).off + 1, none⟩ = some (.int .i64 ((rd_T54 l1 (rd l3 x60_3)).f1)) ∧ w'.cell? ⟨(ad189.add (((rd l3 x60_3)).toNat * 5)).block, (ad189.add (((rd l3 x60_3)).toNat * 5)).off + 2, none⟩ = some (.slice A189_2 ((rd_T54 l1 (rd l3 x60_3)).f2).length c189_2) ∧ w'.cell? ⟨(ad189.add (((rd l3 x60_3)).toNat * 5)).block, (ad189.add (((rd l3 x60_3)).toNat * 5)).off + 3, none⟩ = some (.int .i64 ((rd_T54 l1 (rd l3 x60_3)).f3)) ∧ w'.cell? ⟨(ad189.add (((rd l3 x60_3)).toNat * 5)).block, (ad189.add (((rd l3 x60_3)).toNat * 5)).off + 4, none⟩ = some (.int .i64 ((rd_T54 l1 (rd l3 x60_3)).f4))) (ds := [11]) #[false, false, false, false, false, false, false, false, false, false, false, false] (by kernel_rfl) rfl rfl ⟨hx188_0, ((HB.out.cell (World.block_lt_of_cell? w _ hw189_0)).trans hw189_0), ((HB.out.cell (World.block_lt_of_cell? w _ hw189_1)).trans hw189_1), ((HB.out.cell (World.block_lt_of_cell? w _ hw189_2)).trans hw189_2), ((HB.out.cell (World.block_lt_of_cell? w _ hw189_3)).trans hw189_3), ((HB.out.cell (World.block_lt_of_cell? w _ hw189_4)).trans hw189_4)⟩ (fun hHeld => ?_); refine with_tabW tariff_Postage.tab16 tariff_Postage.bits16 (fun HT_ HW_ => ?_)
                                    generalize wr.drew = w44 at HO_12 BK174 BK175 HB GG38 HQ46 HR189_2 hf38_0 hx188_0 hx189_0 hx189_1 hx189_2 hx189_3 hx189_4 hx38_0 hHeld ⊢
                                    refine pure_ (i := 0) (N := some 65) (v := ?_) (a' := ?_) #[true, false, false, false, false, false, false, false, false, false, false, false] rfl rfl (any_of HT_.out (by kernel_rfl)) (fun _ _ _ h => h) (Or.inl ⟨by rfl, ?_⟩) ?_ ?_
                                    rotate_left
                                    · intro w'
                                      go_simp
                                      with_reducible rfl
                                    rotate_left
                                    · simp only [Act.put, List.setIfInBounds_toArray, List.set_cons_zero, List.set_cons_succ, i64_w, i32_w]
                                      rfl
                                    refine pure_ (i := 1) (N := some 66) (v := ?_) (a' := ?_) #[true, true, false, false, false, false, false, false, false, false, false, false] rfl rfl (any_of HT_.out (by kernel_rfl)) (fun _ _ _ h => h) (Or.inl ⟨by rfl, ?_⟩) ?_ ?_
                                    rotate_left
                                    · intro w'
                                      go_simp
                                      with_reducible rfl
                                    rotate_left
                                    · simp only [Act.put, List.setIfInBounds_toArray, List.set_cons_zero, List.set_cons_succ, i64_w, i32_w]
                                      rfl
                                    refine pure_ (i := 2) (N := some 67) (v := ?_) (a' := ?_) #[true, true, true, false, false, false, false, false, false, false, false, false] rfl rfl (any_of HT_.out (by kernel_rfl)) (fun _ _ _ h => h) (Or.inl ⟨by rfl, ?_⟩) ?_ ?_
                                    rotate_left
                                    · intro w'
                                      go_simp
                                      with_reducible rfl
                                    rotate_left
                                    · simp only [Act.put, List.setIfInBounds_toArray, List.set_cons_zero, List.set_cons_succ, i64_w, i32_w]
                                      rfl
                                    refine pure_ (i := 4) (N := some 69) (v := ?_) (a' := ?_) #[true, true, true, false, true, false, false, false, false, false, false, false] rfl rfl (any_of HT_.out (by kernel_rfl)) (fun _ _ _ h => h) (Or.inl ⟨by rfl, ?_⟩) ?_ ?_
                                    rotate_left
                                    · intro w'
                                      go_simp
                                      with_reducible rfl
                                    rotate_left
                                    · simp only [Act.put, List.setIfInBounds_toArray, List.set_cons_zero, List.set_cons_succ, i64_w, i32_w]
                                      rfl
                                    refine pure_ (i := 5) (N := some 70) (v := ?_) (a' := ?_) #[true, true, true, false, true, true, false, false, false, false, false, false] rfl rfl (any_of HT_.out (by kernel_rfl)) (fun _ _ _ h => h) (Or.inl ⟨by rfl, ?_⟩) ?_ ?_
                                    rotate_left
                                    · intro w'
                                      go_simp
                                      with_reducible rfl
                                    rotate_left
                                    · simp only [Act.put, List.setIfInBounds_toArray, List.set_cons_zero, List.set_cons_succ, i64_w, i32_w]
                                      rfl
                                    refine pure_ (i := 6) (N := some 71) (v := ?_) (a' := ?_) #[true, true, true, false, true, true, true, false, false, false, false, false] rfl rfl (any_of HT_.out (by kernel_rfl)) (fun _ _ _ h => h) (Or.inl ⟨by rfl, ?_⟩) ?_ ?_
                                    rotate_left
                                    · intro w'
                                      go_simp
                                      with_reducible rfl
                                    rotate_left
                                    · simp only [Act.put, List.setIfInBounds_toArray, List.set_cons_zero, List.set_cons_succ, i64_w, i32_w]
                                      rfl
                                    refine pure_ (i := 7) (N := some 72) (v := ?_) (a' := ?_) #[true, true, true, false, true, true, true, true, false, false, false, false] rfl rfl (any_of HT_.out (by kernel_rfl)) (fun _ _ _ h => h) (Or.inl ⟨by rfl, ?_⟩) ?_ ?_
                                    rotate_left
                                    · intro w'
                                      go_simp
                                      with_reducible rfl
                                    rotate_left
                                    · simp only [Act.put, List.setIfInBounds_toArray, List.set_cons_zero, List.set_cons_succ, i64_w, i32_w]
                                      rfl
                                    refine take_ (i := 3) (N := some 68) (v := ?_) (a' := ?_) #[true, true, true, true, true, true, true, true, false, false, false, false] rfl rfl (take_ofW HT_.out HW_.out (by kernel_rfl)) (fun _ _ _ h => h) (Or.inl ⟨by rfl, ?_⟩) hHeld ?_ ?_
                                    rotate_left
                                    · rintro w' ⟨s0, s1, s2, s3, s4, s5⟩
                                      go_simp
                                      with_reducible rfl
                                    rotate_left
                                    · simp only [Act.put, List.setIfInBounds_toArray, List.set_cons_zero, List.set_cons_succ, i64_w, i32_w]
                                      rfl
                                    refine take_ (i := 8) (N := some 73) (v := ?_) (a' := ?_) #[true, true, true, true, true, true, true, true, true, false, false, false] rfl rfl (take_ofW HT_.out HW_.out (by kernel_rfl)) (fun _ _ _ h => h) (Or.inl ⟨by rfl, ?_⟩) hHeld ?_ ?_
                                    rotate_left
                                    · rintro w' ⟨s0, s1, s2, s3, s4, s5⟩
                                      go_simp
                                      with_reducible rfl
                                    rotate_left
                                    · simp only [Act.put, List.setIfInBounds_toArray, List.set_cons_zero, List.set_cons_succ, i64_w, i32_w]
                                      rfl
                                    refine pure_ (i := 9) (N := some 74) (v := ?_) (a' := ?_) #[true, true, true, true, true, true, true, true, true, true, false, false] rfl rfl (any_of HT_.out (by kernel_rfl)) (fun _ _ _ h => h) (Or.inl ⟨by rfl, ?_⟩) ?_ ?_
                                    rotate_left
                                    · intro w'
                                      go_simp
                                      with_reducible rfl
                                    rotate_left
                                    · simp only [Act.put, List.setIfInBounds_toArray, List.set_cons_zero, List.set_cons_succ, i64_w, i32_w]
                                      rfl
                                    refine pure_ (i := 10) (N := some 75) (v := ?_) (a' := ?_) #[true, true, true, true, true, true, true, true, true, true, true, false] rfl rfl (any_of HT_.out (by kernel_rfl)) (fun _ _ _ h => h) (Or.inl ⟨by rfl, ?_⟩) ?_ ?_
                                    rotate_left
                                    · intro w'
                                      go_simp
                                      with_reducible rfl
                                    rotate_left
                                    · simp only [Act.put, List.setIfInBounds_toArray, List.set_cons_zero, List.set_cons_succ, i64_w, i32_w]
                                      rfl
                                    refine last_ (i := 11) (N := none) #[true, true, true, true, true, true, true, true, true, true, true, true] rfl rfl (one_of HT_.out (by kernel_rfl)) (by decide) (fun K hK => ?_)
                                    refine skip_ (w1 := ?_) (by rfl) rfl ?_ ?_
                                    rotate_left
                                    · go_simp
                                      rfl
                                    refine hK.out _ _ ?_
                                    clear hK K
                                    refine done_ (done_of HT_.out (by kernel_rfl)) ?_
                                    have n0_ : Aside0 (Kd.R (Kd.int .i64) 3 (w44.setCell ⟨go38, (x60_3 : Int).toNat, none⟩ (.int .i64 (wrap64 ((rd x12_3 x60_3) - ((rd_T54 l1 (rd l3 x60_3)).f4))))) w.heap.size (fun _ => True) (.slice (some ⟨go38, 0, none⟩) x12_3.length co45) y190) := ⟨by (with_reducible repeat (first | apply Kd.R_alloc | apply Kd.R_drewN | apply Kd.R_drew)); exact HQ46.out⟩
                                    have n1_ : Aside0 ((w44.setCell ⟨go38, (x60_3 : Int).toNat, none⟩ (.int .i64 (wrap64 ((rd x12_3 x60_3) - ((rd_T54 l1 (rd l3 x60_3)).f4))))).heap[gb174]? = some (.cells #[.slice A0_0 l0_0.length c0_0, .slice A0_1 l0_1.length c0_1] 25 (0, 0))) := ⟨by (with_reducible repeat (first | refine blk_drewN ?_ _ | refine blk_drew ?_ | refine blk_alloc ?_ _)); refine blk_far ?_ (by have h_ := Kd.R_ne HO_12.out BK174.out (by decide); intro e_; exact h_ (by rw [e_]; rfl)) _; (with_reducible repeat (first | refine blk_drewN ?_ _ | refine blk_drew ?_ | refine blk_alloc ?_ _)); exact BK174.out⟩
                                    have n2_ : Aside0 ((w44.setCell ⟨go38, (x60_3 : Int).toNat, none⟩ (.int .i64 (wrap64 ((rd x12_3 x60_3) - ((rd_T54 l1 (rd l3 x60_3)).f4))))).heap[gb175]? = some (.cells #[.int .u8 a2_0, .int .u8 a2_1, .string a2_2, .slice A2_3 l2_3.length c2_3] 36 (0, 0))) := ⟨by (with_reducible repeat (first | refine blk_drewN ?_ _ | refine blk_drew ?_ | refine blk_alloc ?_ _)); refine blk_far ?_ (by have h_ := Kd.R_ne HO_12.out BK175.out (by decide); intro e_; exact h_ (by rw [e_]; rfl)) _; (with_reducible repeat (first | refine blk_drewN ?_ _ | refine blk_drew ?_ | refine blk_alloc ?_ _)); exact BK175.out⟩
                                    have n3_ : Aside0 (Below w.heap.size w (w44.setCell ⟨go38, (x60_3 : Int).toNat, none⟩ (.int .i64 (wrap64 ((rd x12_3 x60_3) - ((rd_T54 l1 (rd l3 x60_3)).f4)))))) := ⟨by repeat (first | (with_reducible first | exact HB.out | apply below_alloc | apply pw_below_drewN | apply below_drew1 | refine below_set ?_ GB38.out | refine below_set ?_ GE174.out | refine below_set ?_ GE175.out) | exact HB.out)⟩
                                    (try clear HO_12)
                                    (try clear BK174)
                                    (try clear BK175)
                                    (try clear HB)
                                    generalize (w44.setCell ⟨go38, (x60_3 : Int).toNat, none⟩ (.int .i64 (wrap64 ((rd x12_3 x60_3) - ((rd_T54 l1 (rd l3 x60_3)).f4))))) = w47 at n0_ n1_ n2_ n3_ ⊢
                                    have HO_12 := n0_
                                    have BK174 := n1_
                                    have BK175 := n2_
                                    have HB := n3_
                                    clear n0_ n1_ n2_ n3_
                                    have hnb48 := NB175_174.out
                                    have hnc48 := NB174_175.out
                                    have hcz49_0 : w47.cell? ⟨gb175, 0, none⟩ = some (.int .u8 a2_0) := (blk_cell BK175.out 0).trans rfl
                                    have hcz49_1 : w47.cell? ⟨gb175, 1, none⟩ = some (.int .u8 a2_1) := (blk_cell BK175.out 1).trans rfl
                                    have hcz49_2 : w47.cell? ⟨gb175, 2, none⟩ = some (.string a2_2) := (blk_cell BK175.out 2).trans rfl
                                    have hcz49_3 : w47.cell? ⟨gb175, 3, none⟩ = some (.slice A2_3 l2_3.length c2_3) := (blk_cell BK175.out 3).trans rfl
                                    have hfz49_0 := blk_frozen BK175.out 0
                                    have hfz49_1 := blk_frozen BK175.out 1
                                    have hfz49_2 := blk_frozen BK175.out 2
                                    have hfz49_3 := blk_frozen BK175.out 3
                                    have p191 : 0 ≤ (x60_3 : Int) := of_decide_eq_true (by first | (with_reducible assumption) | assumption)
                                    have q191 : x60_3 < (l2_3.length : Int) := of_decide_eq_true (by first | (with_reducible assumption) | assumption)
                                    obtain ⟨ad191, e191, hx191_0, hx191_1, hx191_2, hx191_3, hx191_4⟩ := at_T48 HR2_3.out x60_3 p191 q191
                                    (try rw [← Nbq40.out] at hx191_4)
                                    cases e191
                                    replace hx191_0 := (HB.out.cell (World.block_lt_of_cell? w _ hx191_0)).trans hx191_0
                                    replace hx191_1 := (HB.out.cell (World.block_lt_of_cell? w _ hx191_1)).trans hx191_1
                                    replace hx191_2 := (HB.out.cell (World.block_lt_of_cell? w _ hx191_2)).trans hx191_2
                                    replace hx191_3 := (HB.out.cell (World.block_lt_of_cell? w _ hx191_3)).trans hx191_3
                                    replace hx191_4 := (HB.out.cell (World.block_lt_of_cell? w _ hx191_4)).trans hx191_4
                                    replace p191 := eq_true p191
                                    replace q191 := eq_true q191
                                    have p42 : 0 ≤ (x60_3 : Int) := of_decide_eq_true (by first | (with_reducible assumption) | assumption)
                                    have q42 : (x60_3 : Int) < ((x12_3.length : Int) : Int) := of_decide_eq_true (by first | (with_reducible assumption) | assumption)
                                    replace p42 := eq_true p42
                                    replace q42 := eq_true q42
                                    have p43 : 0 ≤ (x60_3 : Int) := of_decide_eq_true (by first | (with_reducible assumption) | assumption)
                                    have q43 : (x60_3 : Int) < ((x12_3.length : Int) : Int) := of_decide_eq_true (by first | (with_reducible assumption) | assumption)
                                    replace p43 := eq_true p43
                                    replace q43 := eq_true q43
                                    obtain ⟨hy50_, hz50_⟩ := Kd.R_celln 0 HO_12.out (x60_3 : Int) (of_decide_eq_true (by first | (with_reducible assumption) | assumption)) (of_decide_eq_true (by first | (with_reducible assumption) | assumption))
                                    have hset_ := Ny190.out
                                    have hrd_ : rdOf 0 y190 (x60_3 : Int) = (wrap64 ((rd x12_3 x60_3) - ((rd_T54 l1 (rd l3 x60_3)).f4))) := by have a_ := of_eq_true (show (0 ≤ (x60_3 : Int)) = True by assumption); have b_ := (Kd.C_len (Kd.R_reads' HO_12.out).2.2); have c_ := (Kd.R_reads' HO_12.out).1; have d_ : (x60_3 : Int) < y190.length := (by rw [← c_]; exact of_eq_true (by assumption)); rw [hset_, List.length_set] at d_; rw [hset_]; unfold rdOf; rw [List.getD_eq_getElem?_getD, List.getElem?_set_self (by omega)]; rfl
                                    rw [hrd_] at hy50_
                                    clear hset_ hrd_
                                    have HP50 := Kd.R_putg HO_12.out (x60_3 : Int) (wrap64 ((wrap64 ((rd x12_3 x60_3) - ((rd_T54 l1 (rd l3 x60_3)).f4))) - t186))
                                    try go_wp2_with (first | ((with_reducible refine gate_store (t := 3) (p := 88) rfl ?_); refine store_event (t := 3) (p := 88) (v := ?vo_w51) (w1 := (w47.setCell ⟨go38, (x60_3 : Int).toNat, none⟩ (.int .i64 (wrap64 ((wrap64 ((rd x12_3 x60_3) - ((rd_T54 l1 (rd l3 x60_3)).f4))) - t186))))) ?hg ?ho ?hn ?hr ?_; (case ho => rfl); (case hg => rfl); (case hn => rfl); (case hr => first | (go_simp; done) | (go_simp; rfl)); intro w51 hw; have hg : w47.grownBy w51 (some go38) := (by rw [hw]; exact HP50.2); have hp_ : Kd.R (Kd.int .i64) 3 w51 w.heap.size (fun _ => True) (.slice (some ⟨go38, 0, none⟩) x12_3.length co45) y193 := (by rw [hw, Ny193.out]; exact HP50.1); clear HP50; have n0_ := Aside0.mk (hp_); have n1_ := Aside0.mk (blk_grown (g := gb174) (o := .cells #[.slice A0_0 l0_0.length c0_0, .slice A0_1 l0_1.length c0_1] 25 (0, 0)) (by (with_reducible repeat (first | refine blk_drewN ?_ _ | refine blk_drew ?_ | refine blk_alloc ?_ _)); exact BK174.out) hg (Kd.R_ne HO_12.out BK174.out (by decide))); have n2_ := Aside0.mk (blk_grown (g := gb175) (o := .cells #[.int .u8 a2_0, .int .u8 a2_1, .string a2_2, .slice (some ad191) l2_3.length c2_3] 36 (0, 0)) (by (with_reducible repeat (first | refine blk_drewN ?_ _ | refine blk_drew ?_ | refine blk_alloc ?_ _)); exact BK175.out) hg (Kd.R_ne HO_12.out BK175.out (by decide))); have n3_ := Aside0.mk ((by rw [hw]; exact below_set (HB.out) GB38.out : Below w.heap.size w w51)); clear HO_12; clear BK174; clear BK175; clear HB; have HO_12 := n0_; have BK174 := n1_; have BK175 := n2_; have HB := n3_; clear n0_ n1_ n2_ n3_; clear hg hw hp_))
                                    go_roundg k3
                                    case measure => have := HJ4.out; have := HK2.out; have := HK3.out; omega
                                    case rel => exact ⟨(y193), (wrap64 (x60_3 + 1)), (by first | rfl | (simp; done) | (simp [*]; done)), H', ⟨by have := HJ4.out; have := HK2.out; have := HK3.out; omega⟩, ⟨by (with_reducible repeat (first | apply Kd.R_alloc | apply Kd.R_drewN | apply Kd.R_drew)); exact HO_12.out⟩, ⟨by (with_reducible repeat (first | refine blk_drewN ?_ _ | refine blk_drew ?_ | refine blk_alloc ?_ _)); exact BK174.out⟩, ⟨by (with_reducible repeat (first | refine blk_drewN ?_ _ | refine blk_drew ?_ | refine blk_alloc ?_ _)); exact BK175.out⟩, ⟨by repeat (first | (with_reducible first | exact HB.out | apply below_alloc | apply pw_below_drewN | apply below_drew1 | refine below_set ?_ GE174.out | refine below_set ?_ GE175.out) | exact HB.out)⟩⟩
                                  · replace c41 := Bool.eq_false_iff.mpr c41
                                    subst c41
                                    have H1 : (tariff_Postage.l1 k3 l1 y190 t186 l3 (l3.length : Int) (wrap64 (x60_3 + 1)) a2_0 a2_1 a2_2 l2_3) = some (r1, r2) := by rw [if_neg (show ¬ (false = true) by decide)] at H; exact H
                                    clear H
                                    have H := H1
                                    clear H1
                                    have H' := Aside0.mk H
                                    clear H
                                    have p187 : 0 ≤ (x60_3 : Int) := of_decide_eq_true (by first | (with_reducible assumption) | assumption)
                                    have q187 : x60_3 < (l3.length : Int) := of_decide_eq_true (by first | (with_reducible assumption) | assumption)
                                    obtain ⟨ad187, e187, hx187_0⟩ := Kd.at_int HR3.out x60_3 p187 q187
                                    cases e187
                                    replace hx187_0 := (HB.out.cell (World.block_lt_of_cell? w _ hx187_0)).trans hx187_0
                                    replace p187 := eq_true p187
                                    replace q187 := eq_true q187
                                    try go_wp2
                                    have n0_ := Aside0.mk (Kd.R_drew HO_12.out)
                                    have n1_ := Aside0.mk (blk_drew BK174.out)
                                    have n2_ := Aside0.mk (blk_drew BK175.out)
                                    have n3_ := Aside0.mk (below_drew1 HB.out)
                                    clear HO_12
                                    clear BK174
                                    clear BK175
                                    clear HB
                                    have HO_12 := n0_
                                    have BK174 := n1_
                                    have BK175 := n2_
                                    have HB := n3_
                                    clear n0_ n1_ n2_ n3_
                                    obtain ⟨Ao53, co53, eo53⟩ := Kd.R_slice HO_12.out
                                    (first | subst eo53 | (injection eo53 with f1_ f2_ f3_; have f4_ := f1_.symm; have f5_ := f3_.symm; clear f1_ f2_ f3_; subst f4_; subst f5_))
                                    have p188 : 0 ≤ (x60_3 : Int) := of_decide_eq_true (by first | (with_reducible assumption) | assumption)
                                    have q188 : x60_3 < (x12_3.length : Int) := of_decide_eq_true (by first | (with_reducible assumption) | assumption)
                                    obtain ⟨ad188, e188, hx188_0⟩ := Kd.at_int (Kd.R_reads' HO_12.out).2.2 x60_3 p188 q188
                                    cases e188
                                    replace p188 := eq_true p188
                                    replace q188 := eq_true q188
                                    have p189 : 0 ≤ ((rd l3 x60_3) : Int) := of_decide_eq_true (by first | (with_reducible assumption) | assumption)
                                    have q189 : (rd l3 x60_3) < (l1.length : Int) := of_decide_eq_true (by first | (with_reducible assumption) | assumption)
                                    obtain ⟨ad189, A189_2, c189_2, e189, hx189_0, hx189_1, hx189_2, hx189_3, hx189_4, hl189_2, hi189_2⟩ := at_T54 HR1.out (rd l3 x60_3) p189 q189
                                    have hw189_4 := hx189_4
                                    have hw189_3 := hx189_3
                                    have hw189_2 := hx189_2
                                    have hw189_1 := hx189_1
                                    have hw189_0 := hx189_0
                                    cases e189
                                    replace hx189_0 := (HB.out.cell (World.block_lt_of_cell? w _ hx189_0)).trans hx189_0
                                    replace hx189_1 := (HB.out.cell (World.block_lt_of_cell? w _ hx189_1)).trans hx189_1
                                    replace hx189_2 := (HB.out.cell (World.block_lt_of_cell? w _ hx189_2)).trans hx189_2
                                    replace hx189_3 := (HB.out.cell (World.block_lt_of_cell? w _ hx189_3)).trans hx189_3
                                    replace hx189_4 := (HB.out.cell (World.block_lt_of_cell? w _ hx189_4)).trans hx189_4
                                    have HR189_2 := Aside0.mk hi189_2
                                    have HC189_2 := Aside0.mk hl189_2
                                    clear hi189_2 hl189_2
                                    replace p189 := eq_true p189
                                    replace q189 := eq_true q189
                                    have p38 : 0 ≤ (x60_3 : Int) := of_decide_eq_true (by first | (with_reducible assumption) | assumption)
                                    have q38 : (x60_3 : Int) < ((x12_3.length : Int) : Int) := of_decide_eq_true (by first | (with_reducible assumption) | assumption)
                                    obtain ⟨go38, co38, eo38, gb38, gl38, cl38, HG38⟩ := Kd.R_form HO_12.out (by omega)
                                    (first | cases eo38 | (injection eo38 with ea_ en_ ec_; (first | subst ea_ | (injection ea_ with ea_; subst ea_)); subst ec_; clear en_))
                                    have GB38 := Aside0.mk gb38
                                    have GG38 := Aside0.mk HG38
                                    clear gb38 gl38 HG38
                                    (first | simp only [add_plain] at hx188_0 | skip)
                                    obtain ⟨hx38_0, hf38_0⟩ := Kd.R_celln 0 HO_12.out (x60_3 : Int) p38 q38
                                    replace p38 := eq_true p38
                                    replace q38 := eq_true q38
                                    have HP54 := Kd.R_putn HO_12.out (x60_3 : Int) (wrap64 ((rd x12_3 x60_3) - ((rd_T54 l1 (rd l3 x60_3)).f4)))
                                    rw [← Ny190.out] at HP54
                                    have HQ54 := Aside0.mk HP54
                                    clear HP54
                                    refine start_ (n := 12) (S := fun w' => w'.cell? ⟨go38, (x60_3).toNat, none⟩ = some (.int .i64 (rd x12_3 x60_3)) ∧ w'.cell? (ad189.add (((rd l3 x60_3)).toNat * 5)) = some (.string ((rd_T54 l1 (rd l3 x60_3)).f0)) ∧ w'.cell? ⟨(ad189.add (((rd l3 x60_3)).toNat * 5)).block, (ad189.add (((rd l3 x60_3)).toNat * 5)).off + 1, none⟩ = some (.int .i64 ((rd_T54 l1 (rd l3 x60_3)).f1)) ∧ w'.cell? ⟨(ad189.add (((rd l3 x60_3)).toNat * 5)).block, (ad189.add (((rd l3 x60_3)).toNat * 5)).off + 2, none⟩ = some (.slice A189_2 ((rd_T54 l1 (rd l3 x60_3)).f2).length c189_2) ∧ w'.cell? ⟨(ad189.add (((rd l3 x60_3)).toNat * 5)).block, (ad189.add (((rd l3 x60_3)).toNat * 5)).off + 3, none⟩ = some (.int .i64 ((rd_T54 l1 (rd l3 x60_3)).f3)) ∧ w'.cell? ⟨(ad189.add (((rd l3 x60_3)).toNat * 5)).block, (ad189.add (((rd l3 x60_3)).toNat * 5)).off + 4, none⟩ = some (.int .i64 ((rd_T54 l1 (rd l3 x60_3)).f4))) (ds := [11]) #[false, false, false, false, false, false, false, false, false, false, false, false] (by kernel_rfl) rfl rfl ⟨hx188_0, ((HB.out.cell (World.block_lt_of_cell? w _ hw189_0)).trans hw189_0), ((HB.out.cell (World.block_lt_of_cell? w _ hw189_1)).trans hw189_1), ((HB.out.cell (World.block_lt_of_cell? w _ hw189_2)).trans hw189_2), ((HB.out.cell (World.block_lt_of_cell? w _ hw189_3)).trans hw189_3), ((HB.out.cell (World.block_lt_of_cell? w _ hw189_4)).trans hw189_4)⟩ (fun hHeld => ?_); refine with_tabW tariff_Postage.tab16 tariff_Postage.bits16 (fun HT_ HW_ => ?_)
                                    generalize wr.drew = w52 at HO_12 BK174 BK175 HB GG38 HQ54 HR189_2 hf38_0 hx188_0 hx189_0 hx189_1 hx189_2 hx189_3 hx189_4 hx38_0 hHeld ⊢
                                    refine pure_ (i := 0) (N := some 65) (v := ?_) (a' := ?_) #[true, false, false, false, false, false, false, false, false, false, false, false] rfl rfl (any_of HT_.out (by kernel_rfl)) (fun _ _ _ h => h) (Or.inl ⟨by rfl, ?_⟩) ?_ ?_
                                    rotate_left
                                    · intro w'
                                      go_simp
                                      with_reducible rfl
                                    rotate_left
                                    · simp only [Act.put, List.setIfInBounds_toArray, List.set_cons_zero, List.set_cons_succ, i64_w, i32_w]
                                      rfl
                                    refine pure_ (i := 1) (N := some 66) (v := ?_) (a' := ?_) #[true, true, false, false, false, false, false, false, false, false, false, false] rfl rfl (any_of HT_.out (by kernel_rfl)) (fun _ _ _ h => h) (Or.inl ⟨by rfl, ?_⟩) ?_ ?_
                                    rotate_left
                                    · intro w'
                                      go_simp
                                      with_reducible rfl
                                    rotate_left
                                    · simp only [Act.put, List.setIfInBounds_toArray, List.set_cons_zero, List.set_cons_succ, i64_w, i32_w]
                                      rfl
                                    refine pure_ (i := 2) (N := some 67) (v := ?_) (a' := ?_) #[true, true, true, false, false, false, false, false, false, false, false, false] rfl rfl (any_of HT_.out (by kernel_rfl)) (fun _ _ _ h => h) (Or.inl ⟨by rfl, ?_⟩) ?_ ?_
                                    rotate_left
                                    · intro w'
                                      go_simp
                                      with_reducible rfl
                                    rotate_left
                                    · simp only [Act.put, List.setIfInBounds_toArray, List.set_cons_zero, List.set_cons_succ, i64_w, i32_w]
                                      rfl
                                    refine pure_ (i := 4) (N := some 69) (v := ?_) (a' := ?_) #[true, true, true, false, true, false, false, false, false, false, false, false] rfl rfl (any_of HT_.out (by kernel_rfl)) (fun _ _ _ h => h) (Or.inl ⟨by rfl, ?_⟩) ?_ ?_
                                    rotate_left
                                    · intro w'
                                      go_simp
                                      with_reducible rfl
                                    rotate_left
                                    · simp only [Act.put, List.setIfInBounds_toArray, List.set_cons_zero, List.set_cons_succ, i64_w, i32_w]
                                      rfl
                                    refine pure_ (i := 5) (N := some 70) (v := ?_) (a' := ?_) #[true, true, true, false, true, true, false, false, false, false, false, false] rfl rfl (any_of HT_.out (by kernel_rfl)) (fun _ _ _ h => h) (Or.inl ⟨by rfl, ?_⟩) ?_ ?_
                                    rotate_left
                                    · intro w'
                                      go_simp
                                      with_reducible rfl
                                    rotate_left
                                    · simp only [Act.put, List.setIfInBounds_toArray, List.set_cons_zero, List.set_cons_succ, i64_w, i32_w]
                                      rfl
                                    refine pure_ (i := 6) (N := some 71) (v := ?_) (a' := ?_) #[true, true, true, false, true, true, true, false, false, false, false, false] rfl rfl (any_of HT_.out (by kernel_rfl)) (fun _ _ _ h => h) (Or.inl ⟨by rfl, ?_⟩) ?_ ?_
                                    rotate_left
                                    · intro w'
                                      go_simp
                                      with_reducible rfl
                                    rotate_left
                                    · simp only [Act.put, List.setIfInBounds_toArray, List.set_cons_zero, List.set_cons_succ, i64_w, i32_w]
                                      rfl
                                    refine pure_ (i := 7) (N := some 72) (v := ?_) (a' := ?_) #[true, true, true, false, true, true, true, true, false, false, false, false] rfl rfl (any_of HT_.out (by kernel_rfl)) (fun _ _ _ h => h) (Or.inl ⟨by rfl, ?_⟩) ?_ ?_
                                    rotate_left
                                    · intro w'
                                      go_simp
                                      with_reducible rfl
                                    rotate_left
                                    · simp only [Act.put, List.setIfInBounds_toArray, List.set_cons_zero, List.set_cons_succ, i64_w, i32_w]
                                      rfl
                                    refine take_ (i := 3) (N := some 68) (v := ?_) (a' := ?_) #[true, true, true, true, true, true, true, true, false, false, false, false] rfl rfl (take_ofW HT_.out HW_.out (by kernel_rfl)) (fun _ _ _ h => h) (Or.inl ⟨by rfl, ?_⟩) hHeld ?_ ?_
                                    rotate_left
                                    · rintro w' ⟨s0, s1, s2, s3, s4, s5⟩
                                      go_simp
                                      with_reducible rfl
                                    rotate_left
                                    · simp only [Act.put, List.setIfInBounds_toArray, List.set_cons_zero, List.set_cons_succ, i64_w, i32_w]
                                      rfl
                                    refine take_ (i := 8) (N := some 73) (v := ?_) (a' := ?_) #[true, true, true, true, true, true, true, true, true, false, false, false] rfl rfl (take_ofW HT_.out HW_.out (by kernel_rfl)) (fun _ _ _ h => h) (Or.inl ⟨by rfl, ?_⟩) hHeld ?_ ?_
                                    rotate_left
                                    · rintro w' ⟨s0, s1, s2, s3, s4, s5⟩
                                      go_simp
                                      with_reducible rfl
                                    rotate_left
                                    · simp only [Act.put, List.setIfInBounds_toArray, List.set_cons_zero, List.set_cons_succ, i64_w, i32_w]
                                      rfl
                                    refine pure_ (i := 9) (N := some 74) (v := ?_) (a' := ?_) #[true, true, true, true, true, true, true, true, true, true, false, false] rfl rfl (any_of HT_.out (by kernel_rfl)) (fun _ _ _ h => h) (Or.inl ⟨by rfl, ?_⟩) ?_ ?_
                                    rotate_left
                                    · intro w'
                                      go_simp
                                      with_reducible rfl
                                    rotate_left
                                    · simp only [Act.put, List.setIfInBounds_toArray, List.set_cons_zero, List.set_cons_succ, i64_w, i32_w]
                                      rfl
                                    refine pure_ (i := 10) (N := some 75) (v := ?_) (a' := ?_) #[true, true, true, true, true, true, true, true, true, true, true, false] rfl rfl (any_of HT_.out (by kernel_rfl)) (fun _ _ _ h => h) (Or.inl ⟨by rfl, ?_⟩) ?_ ?_
                                    rotate_left
                                    · intro w'
                                      go_simp
                                      with_reducible rfl
                                    rotate_left
                                    · simp only [Act.put, List.setIfInBounds_toArray, List.set_cons_zero, List.set_cons_succ, i64_w, i32_w]
                                      rfl
                                    refine last_ (i := 11) (N := none) #[true, true, true, true, true, true, true, true, true, true, true, true] rfl rfl (one_of HT_.out (by kernel_rfl)) (by decide) (fun K hK => ?_)
                                    refine skip_ (w1 := ?_) (by rfl) rfl ?_ ?_
                                    rotate_left
                                    · go_simp
                                      rfl
                                    refine hK.out _ _ ?_
                                    clear hK K
                                    refine done_ (done_of HT_.out (by kernel_rfl)) ?_
                                    have n1_ : Aside0 ((w52.setCell ⟨go38, (x60_3 : Int).toNat, none⟩ (.int .i64 (wrap64 ((rd x12_3 x60_3) - ((rd_T54 l1 (rd l3 x60_3)).f4))))).heap[gb174]? = some (.cells #[.slice A0_0 l0_0.length c0_0, .slice A0_1 l0_1.length c0_1] 25 (0, 0))) := ⟨by (with_reducible repeat (first | refine blk_drewN ?_ _ | refine blk_drew ?_ | refine blk_alloc ?_ _)); refine blk_far ?_ (by have h_ := Kd.R_ne HO_12.out BK174.out (by decide); intro e_; exact h_ (by rw [e_]; rfl)) _; (with_reducible repeat (first | refine blk_drewN ?_ _ | refine blk_drew ?_ | refine blk_alloc ?_ _)); exact BK174.out⟩
                                    have n2_ : Aside0 ((w52.setCell ⟨go38, (x60_3 : Int).toNat, none⟩ (.int .i64 (wrap64 ((rd x12_3 x60_3) - ((rd_T54 l1 (rd l3 x60_3)).f4))))).heap[gb175]? = some (.cells #[.int .u8 a2_0, .int .u8 a2_1, .string a2_2, .slice A2_3 l2_3.length c2_3] 36 (0, 0))) := ⟨by (with_reducible repeat (first | refine blk_drewN ?_ _ | refine blk_drew ?_ | refine blk_alloc ?_ _)); refine blk_far ?_ (by have h_ := Kd.R_ne HO_12.out BK175.out (by decide); intro e_; exact h_ (by rw [e_]; rfl)) _; (with_reducible repeat (first | refine blk_drewN ?_ _ | refine blk_drew ?_ | refine blk_alloc ?_ _)); exact BK175.out⟩
                                    have hnb55 := NB175_174.out
                                    have hnc55 := NB174_175.out
                                    have hcz56_0 : (w52.setCell ⟨go38, (x60_3 : Int).toNat, none⟩ (.int .i64 (wrap64 ((rd x12_3 x60_3) - ((rd_T54 l1 (rd l3 x60_3)).f4))))).cell? ⟨gb175, 0, none⟩ = some (.int .u8 a2_0) := (blk_cell n2_.out 0).trans rfl
                                    have hcz56_1 : (w52.setCell ⟨go38, (x60_3 : Int).toNat, none⟩ (.int .i64 (wrap64 ((rd x12_3 x60_3) - ((rd_T54 l1 (rd l3 x60_3)).f4))))).cell? ⟨gb175, 1, none⟩ = some (.int .u8 a2_1) := (blk_cell n2_.out 1).trans rfl
                                    have hcz56_2 : (w52.setCell ⟨go38, (x60_3 : Int).toNat, none⟩ (.int .i64 (wrap64 ((rd x12_3 x60_3) - ((rd_T54 l1 (rd l3 x60_3)).f4))))).cell? ⟨gb175, 2, none⟩ = some (.string a2_2) := (blk_cell n2_.out 2).trans rfl
                                    have hcz56_3 : (w52.setCell ⟨go38, (x60_3 : Int).toNat, none⟩ (.int .i64 (wrap64 ((rd x12_3 x60_3) - ((rd_T54 l1 (rd l3 x60_3)).f4))))).cell? ⟨gb175, 3, none⟩ = some (.slice A2_3 l2_3.length c2_3) := (blk_cell n2_.out 3).trans rfl
                                    have hfz56_0 := blk_frozen n2_.out 0
                                    have hfz56_1 := blk_frozen n2_.out 1
                                    have hfz56_2 := blk_frozen n2_.out 2
                                    have hfz56_3 := blk_frozen n2_.out 3
                                    have p191 : 0 ≤ (x60_3 : Int) := of_decide_eq_true (by first | (with_reducible assumption) | assumption)
                                    have q191 : x60_3 < (l2_3.length : Int) := of_decide_eq_true (by first | (with_reducible assumption) | assumption)
                                    obtain ⟨ad191, e191, hx191_0, hx191_1, hx191_2, hx191_3, hx191_4⟩ := at_T48 HR2_3.out x60_3 p191 q191
                                    (try rw [← Nbq40.out] at hx191_4)
                                    cases e191
                                    have hn191_0 : ad191.block ≠ go38 := Nat.ne_of_lt (Nat.lt_of_lt_of_le (by have := World.block_lt_of_cell? _ _ hx191_0; first | rwa [add_block] at this | exact this) GB38.out)
                                    replace hx191_0 := (HB.out.cell (World.block_lt_of_cell? w _ hx191_0)).trans hx191_0
                                    replace hx191_1 := (HB.out.cell (World.block_lt_of_cell? w _ hx191_1)).trans hx191_1
                                    replace hx191_2 := (HB.out.cell (World.block_lt_of_cell? w _ hx191_2)).trans hx191_2
                                    replace hx191_3 := (HB.out.cell (World.block_lt_of_cell? w _ hx191_3)).trans hx191_3
                                    replace hx191_4 := (HB.out.cell (World.block_lt_of_cell? w _ hx191_4)).trans hx191_4
                                    replace hx191_0 := (cell_far (p := ⟨go38, (x60_3 : Int).toNat, none⟩) (by first | (rw [add_block]; exact hn191_0) | (show (Addr.add _ _).block ≠ _; rw [add_block]; exact hn191_0) | exact hn191_0) (.int .i64 (wrap64 ((rd x12_3 x60_3) - ((rd_T54 l1 (rd l3 x60_3)).f4))))).trans hx191_0
                                    replace hx191_1 := (cell_far (p := ⟨go38, (x60_3 : Int).toNat, none⟩) (by first | (rw [add_block]; exact hn191_0) | (show (Addr.add _ _).block ≠ _; rw [add_block]; exact hn191_0) | exact hn191_0) (.int .i64 (wrap64 ((rd x12_3 x60_3) - ((rd_T54 l1 (rd l3 x60_3)).f4))))).trans hx191_1
                                    replace hx191_2 := (cell_far (p := ⟨go38, (x60_3 : Int).toNat, none⟩) (by first | (rw [add_block]; exact hn191_0) | (show (Addr.add _ _).block ≠ _; rw [add_block]; exact hn191_0) | exact hn191_0) (.int .i64 (wrap64 ((rd x12_3 x60_3) - ((rd_T54 l1 (rd l3 x60_3)).f4))))).trans hx191_2
                                    replace hx191_3 := (cell_far (p := ⟨go38, (x60_3 : Int).toNat, none⟩) (by first | (rw [add_block]; exact hn191_0) | (show (Addr.add _ _).block ≠ _; rw [add_block]; exact hn191_0) | exact hn191_0) (.int .i64 (wrap64 ((rd x12_3 x60_3) - ((rd_T54 l1 (rd l3 x60_3)).f4))))).trans hx191_3
                                    replace hx191_4 := (cell_far (p := ⟨go38, (x60_3 : Int).toNat, none⟩) (by first | (rw [add_block]; exact hn191_0) | (show (Addr.add _ _).block ≠ _; rw [add_block]; exact hn191_0) | exact hn191_0) (.int .i64 (wrap64 ((rd x12_3 x60_3) - ((rd_T54 l1 (rd l3 x60_3)).f4))))).trans hx191_4
                                    clear hn191_0
                                    replace p191 := eq_true p191
                                    replace q191 := eq_true q191
                                    try go_wp2
                                    go_roundg k3
                                    case measure => have := HJ4.out; have := HK2.out; have := HK3.out; omega
                                    case rel => exact ⟨(y190), (wrap64 (x60_3 + 1)), (by first | rfl | (simp; done) | (simp [*]; done)), H', ⟨by have := HJ4.out; have := HK2.out; have := HK3.out; omega⟩, ⟨by (with_reducible repeat (first | apply Kd.R_alloc | apply Kd.R_drewN | apply Kd.R_drew)); exact HQ54.out⟩, ⟨by (with_reducible repeat (first | refine blk_drewN ?_ _ | refine blk_drew ?_ | refine blk_alloc ?_ _)); refine blk_far ?_ (by have h_ := Kd.R_ne HO_12.out BK174.out (by decide); intro e_; exact h_ (by rw [e_]; rfl)) _; (with_reducible repeat (first | refine blk_drewN ?_ _ | refine blk_drew ?_ | refine blk_alloc ?_ _)); exact BK174.out⟩, ⟨by (with_reducible repeat (first | refine blk_drewN ?_ _ | refine blk_drew ?_ | refine blk_alloc ?_ _)); refine blk_far ?_ (by have h_ := Kd.R_ne HO_12.out BK175.out (by decide); intro e_; exact h_ (by rw [e_]; rfl)) _; (with_reducible repeat (first | refine blk_drewN ?_ _ | refine blk_drew ?_ | refine blk_alloc ?_ _)); exact BK175.out⟩, ⟨by repeat (first | (with_reducible first | exact HB.out | apply below_alloc | apply pw_below_drewN | apply below_drew1 | refine below_set ?_ GB38.out | refine below_set ?_ GE174.out | refine below_set ?_ GE175.out) | exact HB.out)⟩⟩
                                · rw [if_neg c39] at H
                                  exact absurd H (by simp)
                              · rw [if_neg c37] at H
                                exact absurd H (by simp)
                            · rw [if_neg c36] at H
                              exact absurd H (by simp)
                          · rw [if_neg c35] at H
                            exact absurd H (by simp)
                        · rw [if_neg c34] at H
                          exact absurd H (by simp)
                      · rw [if_neg c33] at H
                        exact absurd H (by simp)
                    · rw [if_neg c32] at H
                      have c32b0 : decide (x60_3 < (l3.length : Int)) = false := decide_eq_false c32
                      clear c32
                      simp only [Option.some.injEq, Prod.mk.injEq] at H
                      obtain ⟨rfl, rfl⟩ := H
                      go_wp2
                      go_ret2
                      exact ⟨_, by first | rfl | (simp [errW_none, errW_some] <;> rfl) | (simp [*, errW_none, errW_some] <;> rfl), by (with_reducible repeat (first | apply Kd.R_alloc | apply Kd.R_drewN | apply Kd.R_drew)); exact HO_12.out, by repeat (first | (with_reducible first | exact HB.out | apply below_alloc | apply pw_below_drewN | apply below_drew1 | refine below_set ?_ GE174.out | refine below_set ?_ GE175.out) | exact HB.out)⟩
              · rw [if_neg c23] at H
                have c23b0 : (t181 == 0) = false := beq_eq_false_iff_ne.mpr c23
                have c23b1 : (t181 != 0) = true := bne_iff_ne.mpr c23
                simp only [Option.some.injEq, Prod.mk.injEq] at H
                obtain ⟨rfl, rfl⟩ := H
                have hnb57 := NB174_175.out
                have hnc57 := NB175_174.out
                have hcz58_0 : wr.cell? ⟨gb174, 0, none⟩ = some (.slice A0_0 l0_0.length c0_0) := (blk_cell BK174.out 0).trans rfl
                have hcz58_1 : wr.cell? ⟨gb174, 1, none⟩ = some (.slice A0_1 l0_1.length c0_1) := (blk_cell BK174.out 1).trans rfl
                have hfz58_0 := blk_frozen BK174.out 0
                have hfz58_1 := blk_frozen BK174.out 1
                have hcz59_0 : wr.cell? ⟨gb175, 0, none⟩ = some (.int .u8 a2_0) := (blk_cell BK175.out 0).trans rfl
                have hcz59_1 : wr.cell? ⟨gb175, 1, none⟩ = some (.int .u8 a2_1) := (blk_cell BK175.out 1).trans rfl
                have hcz59_2 : wr.cell? ⟨gb175, 2, none⟩ = some (.string a2_2) := (blk_cell BK175.out 2).trans rfl
                have hcz59_3 : wr.cell? ⟨gb175, 3, none⟩ = some (.slice A2_3 l2_3.length c2_3) := (blk_cell BK175.out 3).trans rfl
                have hfz59_0 := blk_frozen BK175.out 0
                have hfz59_1 := blk_frozen BK175.out 1
                have hfz59_2 := blk_frozen BK175.out 2
                have hfz59_3 := blk_frozen BK175.out 3
                go_wp2_with (first | ((with_reducible refine gate_callee (f := 16) rfl ?_); refine goesL_ (some 47) rfl rfl Tryd.func16 (by kernel_rfl) rfl #[.agg #[.slice A0_0 l0_0.length c0_0, .slice A0_1 l0_1.length c0_1], .agg #[.int .u8 a2_0, .int .u8 a2_1, .string a2_2, .slice A2_3 l2_3.length c2_3]] rfl (by (try simp only [List.map_toArray, List.map_cons, List.map_nil]); first | done | rfl | (simp only [List.length_drop, List.length_take]; rfl)) ?_; (with_reducible refine (tariff_Bases.calls k2 _ _ l0_0 _ _ l0_1 a2_0 a2_1 a2_2 _ _ l2_3 t178 t181 _ ?side1 ?side2 ?side3 ?side4 ?side5 ?side6 A22.out).mono ?_); (case side1 => repeat (first | exact (Kd.C_below HR0_0.out HB.out) | (with_reducible refine Kd.C_alloc ?_ _) | (with_reducible refine Kd.C_drewN ?_ _) | (with_reducible refine Kd.C_drew ?_))); (case side2 => exact HC0_0.out); (case side3 => repeat (first | exact (Kd.C_below HR0_1.out HB.out) | (with_reducible refine Kd.C_alloc ?_ _) | (with_reducible refine Kd.C_drewN ?_ _) | (with_reducible refine Kd.C_drew ?_))); (case side4 => exact HC0_1.out); (case side5 => repeat (first | exact (Kd.C_below HR2_3.out HB.out) | (with_reducible refine Kd.C_alloc ?_ _) | (with_reducible refine Kd.C_drewN ?_ _) | (with_reducible refine Kd.C_drew ?_))); (case side6 => exact HC2_3.out); rintro e w60 ⟨v179, rfl, ho0, hb⟩; refine ⟨_, rfl, ?_⟩; have n0_ := Aside0.mk (Kd.R_lower ho0 (below_size (by repeat (first | (with_reducible first | exact HB.out | apply below_alloc | apply pw_below_drewN | apply below_drew1 | refine below_set ?_ GE174.out | refine below_set ?_ GE175.out) | exact HB.out)))); have n1_ := Aside0.mk (blk_below (g := gb174) (o := .cells #[.slice A0_0 l0_0.length c0_0, .slice A0_1 l0_1.length c0_1] 25 (0, 0)) (by (with_reducible repeat (first | refine blk_drewN ?_ _ | refine blk_drew ?_ | refine blk_alloc ?_ _)); exact BK174.out) hb); have n2_ := Aside0.mk (blk_below (g := gb175) (o := .cells #[.int .u8 a2_0, .int .u8 a2_1, .string a2_2, .slice A2_3 l2_3.length c2_3] 36 (0, 0)) (by (with_reducible repeat (first | refine blk_drewN ?_ _ | refine blk_drew ?_ | refine blk_alloc ?_ _)); exact BK175.out) hb); have n3_ := Aside0.mk (below_step (by repeat (first | (with_reducible first | exact HB.out | apply below_alloc | apply pw_below_drewN | apply below_drew1 | refine below_set ?_ GE174.out | refine below_set ?_ GE175.out) | exact HB.out)) hb); clear BK174; clear BK175; clear HB; have HO180 := n0_; have BK174 := n1_; have BK175 := n2_; have HB := n3_; clear n0_ n1_ n2_ n3_; (try clear hb); (try clear hb2); (try clear hk); (try clear hi); (try clear ho0)))
                go_ret2
                exact ⟨_, by first | rfl | (simp [errW_none, errW_some] <;> rfl) | (simp [*, errW_none, errW_some] <;> rfl), by first | exact Kd.R_nil _ _ _ _ _ | exact Kd.N_nil _ _ _ _ _ | exact Kd.V_nil _ _ _ _ _ | exact Kd.Q_nil _ _ _ _ _ | exact Kd.S_nil _ _ _ _ _, by repeat (first | (with_reducible first | exact HB.out | apply below_alloc | apply pw_below_drewN | apply below_drew1 | refine below_set ?_ GE174.out | refine below_set ?_ GE175.out) | exact HB.out)⟩
end Go.Proofs.YtfglcfbcdhjcdaaDoor.Q

namespace Go.Proofs.YtfglcfbcdhjcdaaDoor.Q
open Go.RowKit Go.Proofs.YtfglcfbcdhjcdaaDoorW.PrintWords Go.Proofs.YtfglcfbcdhjcdaaDoorW.PrintLast Go.Proofs.YtfglcfbcdhjcdaaDoorW.PrintMore
set_option linter.unusedVariables false
def exR : List Rt := [⟨1, [⟨20, [100, 150]⟩, ⟨50, [120, 200]⟩], 10⟩]
def exZ : List Zn := [⟨⟨#[]⟩, ⟨#[]⟩, 2⟩, ⟨⟨#[49]⟩, ⟨#[49]⟩, 1⟩]
def exL : List Lv := [⟨⟨#[53]⟩, 5, [], 10, 9⟩, ⟨⟨#[51]⟩, 3, [⟨⟨#[49, 48, 48]⟩, ⟨#[67, 73, 84, 89]⟩⟩, ⟨⟨#[49, 48, 49]⟩, ⟨#[67, 73, 84, 89]⟩⟩], 10, 5⟩, ⟨⟨#[97, 108, 108]⟩, 0, [], 0, 0⟩]
def exFrom : ByteArray := ⟨#[49, 48, 48, 50, 51]⟩
def exNear : ByteArray := ⟨#[49, 57, 57, 57, 57]⟩
def exFar : ByteArray := ⟨#[50, 48, 48, 48, 49]⟩
def exP : List (S48) := [⟨1, 0, exFar, 20, true⟩]
theorem ex_t : letterbaglaw24_Example.f = some (exR, exZ) := rfl
theorem ex_x : letterbaglaw23_Example.f = some exL := rfl
theorem ex_m : letterbaglaw24_Piece.f exFar 20 true = some (1, 1, exFrom, exP) := rfl
set_option maxRecDepth 100000
theorem ex_a : tariff_Zone.f 100 exR exZ exFrom exNear = some (1, 0) := by decide +kernel
theorem ex_b : tariff_Zone.f 100 exR exZ exFrom exFar = some (2, 0) := by decide +kernel
theorem ex_c : tariff_Price.f 100 exR exZ 1 2 21 = some (200, 0) := by decide +kernel
theorem ex_h : tariff_Price.f 100 exR exZ 1 2 51 = some (0, 3) := by decide +kernel
theorem ex_i : tariff_Price.f 100 exR exZ 2 2 51 = some (0, 6) := by decide +kernel
theorem ex_fits : tariff_Fits.f 100 exR exZ exL = some true := by decide +kernel
theorem ex_bases : tariff_Bases.f 100 exR exZ 1 1 exFrom exP = some ([150], 0) := by decide +kernel
theorem ex_post : tariff_Postage.f 100 exR exZ exL 1 1 exFrom exP [1] = some ([135], 0) := by decide +kernel
theorem ex_mail : tariff_Mailing.f 100 1 1 exFrom exP = some true := by decide +kernel
theorem ex_right : tariff_Right.f exR exZ = some true := by decide +kernel
theorem ex_s1 : letterbagkit_SameInts.f 100 [150] [150] = some true := by decide +kernel
theorem ex_s2 : letterbagkit_SameInts.f 100 [135] [135] = some true := by decide +kernel
end Go.Proofs.YtfglcfbcdhjcdaaDoor.Q

namespace Go.Proofs.YtfglcfbcdhjcdaaDoor.Q
open Go.RowKit Go.Proofs.YtfglcfbcdhjcdaaDoorW.PrintWords Go.Proofs.YtfglcfbcdhjcdaaDoorW.PrintLast Go.Proofs.YtfglcfbcdhjcdaaDoorW.PrintMore
set_option linter.unusedVariables false
set_option linter.unusedSimpArgs false
theorem plan_C (w : World) (x : Int) : Kd.C (Kd.int .i64) (w.alloc (.cells #[.int .i64 x] 3 (0, 0))) (some ⟨w.heap.size, 0, none⟩) 1 [x] :=
  (Kd.R_reads' (R_one (d := Kd.int .i64) (cs := [.int .i64 x]) (ok := fun _ => True) (okp := fun _ => False) (p := x) (base := 0) (heap_alloc_new w (.cells #[.int .i64 x] 3 (0, 0))) (Nat.zero_le _) rfl (fun _ hk => hk.elim) trivial)).2.2
set_option maxHeartbeats 8000000 in
set_option maxRecDepth 100000 in
theorem awake.calls0 (w : World) : Calls Tryd.prog 10 #[] w fun e w' => e = .returned (.bool true) ∧ Below w.heap.size w w' := by
  go_enter Tryd.func10, Tryd.ntmps10
  go_wp2_with fail
  refine (letterbaglaw24_Example.calls _ _ w ex_t).mono ?_
  rintro e w1 ⟨v0, v1, rfl, hn0, hn1, hb1⟩
  obtain ⟨A0, c0, rfl, hc0, hr0⟩ := Kd.N_reads hn0
  obtain ⟨A1, c1, rfl, hc1, hr1⟩ := Kd.R_reads hn1
  have HC0 := Aside0.mk hc0
  have HC1 := Aside0.mk hc1
  have hba := below_alloc (Below.refl w1.heap.size w1) (.cells #[.slice A0 exR.length c0, .slice A1 exZ.length c1] 25 (0, 0))
  have HT := Aside0.mk (heap_alloc_new w1 (.cells #[.slice A0 exR.length c0, .slice A1 exZ.length c1] 25 (0, 0)))
  have HR0 := Aside0.mk (Kd.C_below hr0 hba)
  have HR1 := Aside0.mk (Kd.C_below hr1 hba)
  have HW := Aside0.mk (hb1.trans (hba.mono hb1.size))
  have t0 := (blk_cell HT.out 0).trans rfl
  have t1 := (blk_cell HT.out 1).trans rfl
  clear hn0 hn1 hb1 hr0 hr1 hba hc0 hc1
  have hlt := blk_lt HT.out
  have HB := Aside0.mk (Below.refl (w1.alloc (.cells #[.slice A0 exR.length c0, .slice A1 exZ.length c1] 25 (0, 0))).heap.size (w1.alloc (.cells #[.slice A0 exR.length c0, .slice A1 exZ.length c1] 25 (0, 0))))
  go_wp2_with fail
  generalize w1.alloc (.cells #[.slice A0 exR.length c0, .slice A1 exZ.length c1] 25 (0, 0)) = W1 at *
  generalize w1.heap.size = tb at *
  refine (tariff_Zone.calls 100 A0 c0 exR A1 c1 exZ exFrom exNear 1 0 _ (Kd.C_below HR0.out HB.out) HC0.out (Kd.C_below HR1.out HB.out) HC1.out ex_a).mono ?_
  rintro e wA ⟨rfl, hbA⟩
  have HB := Aside0.mk (HB.out.trans (hbA.mono HB.out.size))
  have t0 : wA.cell? ⟨tb, 0, none⟩ = some (.slice A0 exR.length c0) := (blk_cell ((HB.out.block tb hlt).trans HT.out) 0).trans rfl
  have t1 : wA.cell? ⟨tb, 1, none⟩ = some (.slice A1 exZ.length c1) := (blk_cell ((HB.out.block tb hlt).trans HT.out) 1).trans rfl
  clear hbA
  go_wp2_with fail
  refine (tariff_Zone.calls 100 A0 c0 exR A1 c1 exZ exFrom exFar 2 0 _ (Kd.C_below HR0.out HB.out) HC0.out (Kd.C_below HR1.out HB.out) HC1.out ex_b).mono ?_
  rintro e wB ⟨rfl, hbA⟩
  have HB := Aside0.mk (HB.out.trans (hbA.mono HB.out.size))
  have t0 : wB.cell? ⟨tb, 0, none⟩ = some (.slice A0 exR.length c0) := (blk_cell ((HB.out.block tb hlt).trans HT.out) 0).trans rfl
  have t1 : wB.cell? ⟨tb, 1, none⟩ = some (.slice A1 exZ.length c1) := (blk_cell ((HB.out.block tb hlt).trans HT.out) 1).trans rfl
  clear hbA
  go_wp2_with fail
  refine (tariff_Price.calls 100 A0 c0 exR A1 c1 exZ 1 2 21 200 0 _ (Kd.C_below HR0.out HB.out) HC0.out (Kd.C_below HR1.out HB.out) HC1.out ex_c).mono ?_
  rintro e wC ⟨rfl, hbA⟩
  have HB := Aside0.mk (HB.out.trans (hbA.mono HB.out.size))
  have t0 : wC.cell? ⟨tb, 0, none⟩ = some (.slice A0 exR.length c0) := (blk_cell ((HB.out.block tb hlt).trans HT.out) 0).trans rfl
  have t1 : wC.cell? ⟨tb, 1, none⟩ = some (.slice A1 exZ.length c1) := (blk_cell ((HB.out.block tb hlt).trans HT.out) 1).trans rfl
  clear hbA
  go_wp2_with fail
  refine (tariff_Price.calls 100 A0 c0 exR A1 c1 exZ 1 2 51 0 3 _ (Kd.C_below HR0.out HB.out) HC0.out (Kd.C_below HR1.out HB.out) HC1.out ex_h).mono ?_
  rintro e wD ⟨rfl, hbA⟩
  have HB := Aside0.mk (HB.out.trans (hbA.mono HB.out.size))
  have t0 : wD.cell? ⟨tb, 0, none⟩ = some (.slice A0 exR.length c0) := (blk_cell ((HB.out.block tb hlt).trans HT.out) 0).trans rfl
  have t1 : wD.cell? ⟨tb, 1, none⟩ = some (.slice A1 exZ.length c1) := (blk_cell ((HB.out.block tb hlt).trans HT.out) 1).trans rfl
  clear hbA
  go_wp2_with fail
  refine (tariff_Price.calls 100 A0 c0 exR A1 c1 exZ 2 2 51 0 6 _ (Kd.C_below HR0.out HB.out) HC0.out (Kd.C_below HR1.out HB.out) HC1.out ex_i).mono ?_
  rintro e wE ⟨rfl, hbA⟩
  have HB := Aside0.mk (HB.out.trans (hbA.mono HB.out.size))
  have t0 : wE.cell? ⟨tb, 0, none⟩ = some (.slice A0 exR.length c0) := (blk_cell ((HB.out.block tb hlt).trans HT.out) 0).trans rfl
  have t1 : wE.cell? ⟨tb, 1, none⟩ = some (.slice A1 exZ.length c1) := (blk_cell ((HB.out.block tb hlt).trans HT.out) 1).trans rfl
  clear hbA
  go_wp2_with fail
  have HB := Aside0.mk HB.out.drew
  refine wp_region_held_drew (S := (fun w' => w'.cell? ⟨tb, 0, none⟩ = some (.slice A0 exR.length c0) ∧ w'.cell? ⟨tb, 1, none⟩ = some (.slice A1 exZ.length c1))) (by kernel_rfl) ?_ (fun hHeld => ?_)
  · ((try dsimp only); exact ⟨t0, t1⟩)
  refine takeT 0 ?_ rfl (by kernel_rfl) (by kernel_rfl) (by kernel_rfl) (fun _ _ _ h => h) (by rfl) ?_ (by assumption) ?_
  rotate_left
  · (intro w hSw; (try dsimp only at hSw); go_simp; (try with_reducible rfl))
  try simp only [Act.put, List.setIfInBounds_toArray, List.set_cons_zero, List.set_cons_succ]
  refine takeT 1 ?_ rfl (by kernel_rfl) (by kernel_rfl) (by kernel_rfl) (fun _ _ _ h => h) (by rfl) ?_ (by assumption) ?_
  rotate_left
  · (intro w hSw; (try dsimp only at hSw); go_simp; (try with_reducible rfl))
  try simp only [Act.put, List.setIfInBounds_toArray, List.set_cons_zero, List.set_cons_succ]
  refine takeT 2 ?_ rfl (by kernel_rfl) (by kernel_rfl) (by kernel_rfl) (fun _ _ _ h => h) (by rfl) ?_ (by assumption) ?_
  rotate_left
  · (intro w hSw; (try dsimp only at hSw); go_simp; (try with_reducible rfl))
  try simp only [Act.put, List.setIfInBounds_toArray, List.set_cons_zero, List.set_cons_succ]
  refine takeT 3 ?_ rfl (by kernel_rfl) (by kernel_rfl) (by kernel_rfl) (fun _ _ _ h => h) (by rfl) ?_ (by assumption) ?_
  rotate_left
  · (intro w hSw; (try dsimp only at hSw); go_simp; (try with_reducible rfl))
  try simp only [Act.put, List.setIfInBounds_toArray, List.set_cons_zero, List.set_cons_succ]
  refine takeT 4 ?_ rfl (by kernel_rfl) (by kernel_rfl) (by kernel_rfl) (fun _ _ _ h => h) (by rfl) ?_ (by assumption) ?_
  rotate_left
  · (intro w hSw; (try dsimp only at hSw); go_simp; (try with_reducible rfl))
  try simp only [Act.put, List.setIfInBounds_toArray, List.set_cons_zero, List.set_cons_succ]
  refine takeT 5 ?_ rfl (by kernel_rfl) (by kernel_rfl) (by kernel_rfl) (fun _ _ _ h => h) (by rfl) ?_ (by assumption) ?_
  rotate_left
  · (intro w hSw; (try dsimp only at hSw); go_simp; (try with_reducible rfl))
  try simp only [Act.put, List.setIfInBounds_toArray, List.set_cons_zero, List.set_cons_succ]
  refine takeT 6 ?_ rfl (by kernel_rfl) (by kernel_rfl) (by kernel_rfl) (fun _ _ _ h => h) (by rfl) ?_ (by assumption) ?_
  rotate_left
  · (intro w hSw; (try dsimp only at hSw); go_simp; (try with_reducible rfl))
  try simp only [Act.put, List.setIfInBounds_toArray, List.set_cons_zero, List.set_cons_succ]
  refine takeT 7 ?_ rfl (by kernel_rfl) (by kernel_rfl) (by kernel_rfl) (fun _ _ _ h => h) (by rfl) ?_ (by assumption) ?_
  rotate_left
  · (intro w hSw; (try dsimp only at hSw); go_simp; (try with_reducible rfl))
  try simp only [Act.put, List.setIfInBounds_toArray, List.set_cons_zero, List.set_cons_succ]
  refine takeT 8 ?_ rfl (by kernel_rfl) (by kernel_rfl) (by kernel_rfl) (fun _ _ _ h => h) (by rfl) ?_ (by assumption) ?_
  rotate_left
  · (intro w hSw; (try dsimp only at hSw); go_simp; (try with_reducible rfl))
  try simp only [Act.put, List.setIfInBounds_toArray, List.set_cons_zero, List.set_cons_succ]
  refine takeT 9 ?_ rfl (by kernel_rfl) (by kernel_rfl) (by kernel_rfl) (fun _ _ _ h => h) (by rfl) ?_ (by assumption) ?_
  rotate_left
  · (intro w hSw; (try dsimp only at hSw); go_simp; (try with_reducible rfl))
  try simp only [Act.put, List.setIfInBounds_toArray, List.set_cons_zero, List.set_cons_succ]
  refine takeT 10 ?_ rfl (by kernel_rfl) (by kernel_rfl) (by kernel_rfl) (fun _ _ _ h => h) (by rfl) ?_ (by assumption) ?_
  rotate_left
  · (intro w hSw; (try dsimp only at hSw); go_simp; (try with_reducible rfl))
  try simp only [Act.put, List.setIfInBounds_toArray, List.set_cons_zero, List.set_cons_succ]
  refine takeT 11 ?_ rfl (by kernel_rfl) (by kernel_rfl) (by kernel_rfl) (fun _ _ _ h => h) (by rfl) ?_ (by assumption) ?_
  rotate_left
  · (intro w hSw; (try dsimp only at hSw); go_simp; (try with_reducible rfl))
  try simp only [Act.put, List.setIfInBounds_toArray, List.set_cons_zero, List.set_cons_succ]
  refine takeT 12 ?_ rfl (by kernel_rfl) (by kernel_rfl) (by kernel_rfl) (fun _ _ _ h => h) (by rfl) ?_ (by assumption) ?_
  rotate_left
  · (intro w hSw; (try dsimp only at hSw); go_simp; (try with_reducible rfl))
  try simp only [Act.put, List.setIfInBounds_toArray, List.set_cons_zero, List.set_cons_succ]
  refine takeT 13 ?_ rfl (by kernel_rfl) (by kernel_rfl) (by kernel_rfl) (fun _ _ _ h => h) (by rfl) ?_ (by assumption) ?_
  rotate_left
  · (intro w hSw; (try dsimp only at hSw); go_simp; (try with_reducible rfl))
  try simp only [Act.put, List.setIfInBounds_toArray, List.set_cons_zero, List.set_cons_succ]
  refine takeT 14 ?_ rfl (by kernel_rfl) (by kernel_rfl) (by kernel_rfl) (fun _ _ _ h => h) (by rfl) ?_ (by assumption) ?_
  rotate_left
  · (intro w hSw; (try dsimp only at hSw); go_simp; (try with_reducible rfl))
  try simp only [Act.put, List.setIfInBounds_toArray, List.set_cons_zero, List.set_cons_succ]
  refine takeT 15 ?_ rfl (by kernel_rfl) (by kernel_rfl) (by kernel_rfl) (fun _ _ _ h => h) (by rfl) ?_ (by assumption) ?_
  rotate_left
  · (intro w hSw; (try dsimp only at hSw); go_simp; (try with_reducible rfl))
  try simp only [Act.put, List.setIfInBounds_toArray, List.set_cons_zero, List.set_cons_succ]
  refine takeT 16 ?_ rfl (by kernel_rfl) (by kernel_rfl) (by kernel_rfl) (fun _ _ _ h => h) (by rfl) ?_ (by assumption) ?_
  rotate_left
  · (intro w hSw; (try dsimp only at hSw); go_simp; (try with_reducible rfl))
  try simp only [Act.put, List.setIfInBounds_toArray, List.set_cons_zero, List.set_cons_succ]
  refine takeT 17 ?_ rfl (by kernel_rfl) (by kernel_rfl) (by kernel_rfl) (fun _ _ _ h => h) (by rfl) ?_ (by assumption) ?_
  rotate_left
  · (intro w hSw; (try dsimp only at hSw); go_simp; (try with_reducible rfl))
  try simp only [Act.put, List.setIfInBounds_toArray, List.set_cons_zero, List.set_cons_succ]
  refine takeT 18 ?_ rfl (by kernel_rfl) (by kernel_rfl) (by kernel_rfl) (fun _ _ _ h => h) (by rfl) ?_ (by assumption) ?_
  rotate_left
  · (intro w hSw; (try dsimp only at hSw); go_simp; (try with_reducible rfl))
  try simp only [Act.put, List.setIfInBounds_toArray, List.set_cons_zero, List.set_cons_succ]
  refine takeT 19 ?_ rfl (by kernel_rfl) (by kernel_rfl) (by kernel_rfl) (fun _ _ _ h => h) (by rfl) ?_ (by assumption) ?_
  rotate_left
  · (intro w hSw; (try dsimp only at hSw); go_simp; (try with_reducible rfl))
  try simp only [Act.put, List.setIfInBounds_toArray, List.set_cons_zero, List.set_cons_succ]
  refine takeT 20 ?_ rfl (by kernel_rfl) (by kernel_rfl) (by kernel_rfl) (fun _ _ _ h => h) (by rfl) ?_ (by assumption) ?_
  rotate_left
  · (intro w hSw; (try dsimp only at hSw); go_simp; (try with_reducible rfl))
  try simp only [Act.put, List.setIfInBounds_toArray, List.set_cons_zero, List.set_cons_succ]
  refine takeT 21 ?_ rfl (by kernel_rfl) (by kernel_rfl) (by kernel_rfl) (fun _ _ _ h => h) (by rfl) ?_ (by assumption) ?_
  rotate_left
  · (intro w hSw; (try dsimp only at hSw); go_simp; (try with_reducible rfl))
  try simp only [Act.put, List.setIfInBounds_toArray, List.set_cons_zero, List.set_cons_succ]
  refine takeT 22 ?_ rfl (by kernel_rfl) (by kernel_rfl) (by kernel_rfl) (fun _ _ _ h => h) (by rfl) ?_ (by assumption) ?_
  rotate_left
  · (intro w hSw; (try dsimp only at hSw); go_simp; (try with_reducible rfl))
  try simp only [Act.put, List.setIfInBounds_toArray, List.set_cons_zero, List.set_cons_succ]
  refine takeT 23 ?_ rfl (by kernel_rfl) (by kernel_rfl) (by kernel_rfl) (fun _ _ _ h => h) (by rfl) ?_ (by assumption) ?_
  rotate_left
  · (intro w hSw; (try dsimp only at hSw); go_simp; (try with_reducible rfl))
  try simp only [Act.put, List.setIfInBounds_toArray, List.set_cons_zero, List.set_cons_succ]
  refine takeT 24 ?_ rfl (by kernel_rfl) (by kernel_rfl) (by kernel_rfl) (fun _ _ _ h => h) (by rfl) ?_ (by assumption) ?_
  rotate_left
  · (intro w hSw; (try dsimp only at hSw); go_simp; (try with_reducible rfl))
  try simp only [Act.put, List.setIfInBounds_toArray, List.set_cons_zero, List.set_cons_succ]
  refine takeT 25 ?_ rfl (by kernel_rfl) (by kernel_rfl) (by kernel_rfl) (fun _ _ _ h => h) (by rfl) ?_ (by assumption) ?_
  rotate_left
  · (intro w hSw; (try dsimp only at hSw); go_simp; (try with_reducible rfl))
  try simp only [Act.put, List.setIfInBounds_toArray, List.set_cons_zero, List.set_cons_succ]
  refine takeT 26 ?_ rfl (by kernel_rfl) (by kernel_rfl) (by kernel_rfl) (fun _ _ _ h => h) (by rfl) ?_ (by assumption) ?_
  rotate_left
  · (intro w hSw; (try dsimp only at hSw); go_simp; (try with_reducible rfl))
  try simp only [Act.put, List.setIfInBounds_toArray, List.set_cons_zero, List.set_cons_succ]
  refine takeT 27 ?_ rfl (by kernel_rfl) (by kernel_rfl) (by kernel_rfl) (fun _ _ _ h => h) (by rfl) ?_ (by assumption) ?_
  rotate_left
  · (intro w hSw; (try dsimp only at hSw); go_simp; (try with_reducible rfl))
  try simp only [Act.put, List.setIfInBounds_toArray, List.set_cons_zero, List.set_cons_succ]
  refine takeC 28 rfl (by kernel_rfl) (by rfl) (fun K hK => ?_)
  go_simp
  (refine (letterbaglaw23_Example.calls _ _ ex_x).mono ?_; rintro e wF ⟨v2, rfl, hn2, hbA⟩; obtain ⟨A2, c2, rfl, hc2, hr2⟩ := Kd.N_reads hn2; have HC2 := Aside0.mk hc2; have HR2 := Aside0.mk hr2; have HB := Aside0.mk (HB.out.trans (hbA.mono HB.out.size)); have t0 : wF.cell? ⟨tb, 0, none⟩ = some (.slice A0 exR.length c0) := (blk_cell ((HB.out.block tb hlt).trans HT.out) 0).trans rfl; have t1 : wF.cell? ⟨tb, 1, none⟩ = some (.slice A1 exZ.length c1) := (blk_cell ((HB.out.block tb hlt).trans HT.out) 1).trans rfl; clear hbA hn2 hc2 hr2)
  (try go_wp2_with fail)
  refine hK.out _ _ ?_ (fun hHeld => ?_)
  · ((try dsimp only); exact ⟨t0, t1⟩)
  clear hK K
  try simp only [Act.put, List.setIfInBounds_toArray, List.set_cons_zero, List.set_cons_succ]
  refine takeC 29 rfl (by kernel_rfl) (by rfl) (fun K hK => ?_)
  go_simp
  (refine (tariff_Fits.calls 100 A0 c0 exR A1 c1 exZ A2 c2 exL true _ (Kd.C_below HR0.out HB.out) HC0.out (Kd.C_below HR1.out HB.out) HC1.out HR2.out HC2.out ex_fits).mono ?_; rintro e wG ⟨rfl, hbA⟩; have HB := Aside0.mk (HB.out.trans (hbA.mono HB.out.size)); have t0 : wG.cell? ⟨tb, 0, none⟩ = some (.slice A0 exR.length c0) := (blk_cell ((HB.out.block tb hlt).trans HT.out) 0).trans rfl; have t1 : wG.cell? ⟨tb, 1, none⟩ = some (.slice A1 exZ.length c1) := (blk_cell ((HB.out.block tb hlt).trans HT.out) 1).trans rfl; clear hbA)
  (try go_wp2_with fail)
  refine hK.out _ _ ?_ (fun hHeld => ?_)
  · ((try dsimp only); exact ⟨t0, t1⟩)
  clear hK K
  try simp only [Act.put, List.setIfInBounds_toArray, List.set_cons_zero, List.set_cons_succ]
  refine takeT 30 ?_ rfl (by kernel_rfl) (by kernel_rfl) (by kernel_rfl) (fun _ _ _ h => h) (by rfl) ?_ (by assumption) ?_
  rotate_left
  · (intro w hSw; (try dsimp only at hSw); go_simp; (try with_reducible rfl))
  try simp only [Act.put, List.setIfInBounds_toArray, List.set_cons_zero, List.set_cons_succ]
  refine takeT 31 ?_ rfl (by kernel_rfl) (by kernel_rfl) (by kernel_rfl) (fun _ _ _ h => h) (by rfl) ?_ (by assumption) ?_
  rotate_left
  · (intro w hSw; (try dsimp only at hSw); go_simp; (try with_reducible rfl))
  try simp only [Act.put, List.setIfInBounds_toArray, List.set_cons_zero, List.set_cons_succ]
  refine wpAnyH_done (by kernel_rfl) ?_ _
  clear HR2 HC2
  go_wp2_with fail
  refine (letterbaglaw24_Piece.calls exFar 20 true 1 1 exFrom exP _ ex_m).mono ?_
  rintro e wH ⟨v3, rfl, hn3, hbA⟩
  obtain ⟨A3, c3, rfl, hc3, hr3⟩ := Kd.R_reads hn3
  have HC3 := Aside0.mk hc3
  have HB := Aside0.mk (HB.out.trans (hbA.mono HB.out.size))
  have t0 : wH.cell? ⟨tb, 0, none⟩ = some (.slice A0 exR.length c0) := (blk_cell ((HB.out.block tb hlt).trans HT.out) 0).trans rfl
  have t1 : wH.cell? ⟨tb, 1, none⟩ = some (.slice A1 exZ.length c1) := (blk_cell ((HB.out.block tb hlt).trans HT.out) 1).trans rfl
  clear hbA
  have hba := below_alloc (Below.refl wH.heap.size wH) (.cells #[.int .u8 1, .int .u8 1, .string exFrom, .slice A3 exP.length c3] 36 (0, 0))
  have HMB := Aside0.mk (heap_alloc_new wH (.cells #[.int .u8 1, .int .u8 1, .string exFrom, .slice A3 exP.length c3] 36 (0, 0)))
  have HR3 := Aside0.mk (Kd.C_below hr3 hba)
  have HB := Aside0.mk (HB.out.trans (hba.mono HB.out.size))
  have t0 : (wH.alloc (.cells #[.int .u8 1, .int .u8 1, .string exFrom, .slice A3 exP.length c3] 36 (0, 0))).cell? ⟨tb, 0, none⟩ = some (.slice A0 exR.length c0) := (blk_cell ((HB.out.block tb hlt).trans HT.out) 0).trans rfl
  have t1 : (wH.alloc (.cells #[.int .u8 1, .int .u8 1, .string exFrom, .slice A3 exP.length c3] 36 (0, 0))).cell? ⟨tb, 1, none⟩ = some (.slice A1 exZ.length c1) := (blk_cell ((HB.out.block tb hlt).trans HT.out) 1).trans rfl
  have hlm := blk_lt HMB.out
  have HM := Aside0.mk (Below.refl (wH.alloc (.cells #[.int .u8 1, .int .u8 1, .string exFrom, .slice A3 exP.length c3] 36 (0, 0))).heap.size (wH.alloc (.cells #[.int .u8 1, .int .u8 1, .string exFrom, .slice A3 exP.length c3] 36 (0, 0))))
  have m0 : (wH.alloc (.cells #[.int .u8 1, .int .u8 1, .string exFrom, .slice A3 exP.length c3] 36 (0, 0))).cell? ⟨wH.heap.size, 0, none⟩ = some (.int .u8 1) := (blk_cell HMB.out 0).trans rfl
  have m1 : (wH.alloc (.cells #[.int .u8 1, .int .u8 1, .string exFrom, .slice A3 exP.length c3] 36 (0, 0))).cell? ⟨wH.heap.size, 1, none⟩ = some (.int .u8 1) := (blk_cell HMB.out 1).trans rfl
  have m2 : (wH.alloc (.cells #[.int .u8 1, .int .u8 1, .string exFrom, .slice A3 exP.length c3] 36 (0, 0))).cell? ⟨wH.heap.size, 2, none⟩ = some (.string exFrom) := (blk_cell HMB.out 2).trans rfl
  have m3 : (wH.alloc (.cells #[.int .u8 1, .int .u8 1, .string exFrom, .slice A3 exP.length c3] 36 (0, 0))).cell? ⟨wH.heap.size, 3, none⟩ = some (.slice A3 exP.length c3) := (blk_cell HMB.out 3).trans rfl
  clear hn3 hc3 hr3 hba
  go_wp2_with fail
  generalize (wH.alloc (.cells #[.int .u8 1, .int .u8 1, .string exFrom, .slice A3 exP.length c3] 36 (0, 0))) = WM at *
  generalize wH.heap.size = mb at *
  refine (tariff_Bases.calls 100 A0 c0 exR A1 c1 exZ 1 1 exFrom A3 c3 exP [150] 0 _ (Kd.C_below HR0.out HB.out) HC0.out (Kd.C_below HR1.out HB.out) HC1.out (Kd.C_below HR3.out HM.out) HC3.out ex_bases).mono ?_
  rintro e wI ⟨v4, rfl, hn4, hbA⟩
  obtain ⟨A4, c4, rfl, hc4, hr4⟩ := Kd.R_reads hn4
  have HC4 := Aside0.mk hc4
  have HR4 := Aside0.mk hr4
  have HB := Aside0.mk (HB.out.trans (hbA.mono HB.out.size))
  have t0 : wI.cell? ⟨tb, 0, none⟩ = some (.slice A0 exR.length c0) := (blk_cell ((HB.out.block tb hlt).trans HT.out) 0).trans rfl
  have t1 : wI.cell? ⟨tb, 1, none⟩ = some (.slice A1 exZ.length c1) := (blk_cell ((HB.out.block tb hlt).trans HT.out) 1).trans rfl
  have HM := Aside0.mk (HM.out.trans (hbA.mono HM.out.size))
  have m0 : wI.cell? ⟨mb, 0, none⟩ = some (.int .u8 1) := (blk_cell ((HM.out.block mb hlm).trans HMB.out) 0).trans rfl
  have m1 : wI.cell? ⟨mb, 1, none⟩ = some (.int .u8 1) := (blk_cell ((HM.out.block mb hlm).trans HMB.out) 1).trans rfl
  have m2 : wI.cell? ⟨mb, 2, none⟩ = some (.string exFrom) := (blk_cell ((HM.out.block mb hlm).trans HMB.out) 2).trans rfl
  have m3 : wI.cell? ⟨mb, 3, none⟩ = some (.slice A3 exP.length c3) := (blk_cell ((HM.out.block mb hlm).trans HMB.out) 3).trans rfl
  have HX := Aside0.mk (Below.refl wI.heap.size wI)
  clear hbA hn4 hc4 hr4
  go_wp2_with fail
  replace HB := Aside0.mk HB.out.drew
  replace HM := Aside0.mk HM.out.drew
  replace HX := Aside0.mk HX.out.drew
  refine wp_region_held_drew (S := (fun w' => w'.cell? ⟨tb, 0, none⟩ = some (.slice A0 exR.length c0) ∧ w'.cell? ⟨tb, 1, none⟩ = some (.slice A1 exZ.length c1) ∧ w'.cell? ⟨mb, 0, none⟩ = some (.int .u8 1) ∧ w'.cell? ⟨mb, 1, none⟩ = some (.int .u8 1) ∧ w'.cell? ⟨mb, 2, none⟩ = some (.string exFrom) ∧ w'.cell? ⟨mb, 3, none⟩ = some (.slice A3 exP.length c3))) (by kernel_rfl) ?_ (fun hHeld => ?_)
  · ((try dsimp only); exact ⟨t0, t1, m0, m1, m2, m3⟩)
  refine takeT 0 ?_ rfl (by kernel_rfl) (by kernel_rfl) (by kernel_rfl) (fun _ _ _ h => h) (by rfl) ?_ (by assumption) ?_
  rotate_left
  · (intro w hSw; (try dsimp only at hSw); go_simp; (try with_reducible rfl))
  try simp only [Act.put, List.setIfInBounds_toArray, List.set_cons_zero, List.set_cons_succ]
  refine takeT 2 ?_ rfl (by kernel_rfl) (by kernel_rfl) (by kernel_rfl) (fun _ _ _ h => h) (by rfl) ?_ (by assumption) ?_
  rotate_left
  · (intro w hSw; (try dsimp only at hSw); go_simp; (try with_reducible rfl))
  try simp only [Act.put, List.setIfInBounds_toArray, List.set_cons_zero, List.set_cons_succ]
  apply bothWays
  intro hrest
  refine takeC2 1 3 rfl rfl (by kernel_rfl) (by rfl) (by rfl) (fun K hK => ?_) (fun K hK => ?_)
  · go_simp
    (refine (letterbaglaw23_Example.calls _ _ ex_x).mono ?_; rintro e wJ ⟨v5, rfl, hn5, hbA⟩; obtain ⟨A5, c5, rfl, hc5, hr5⟩ := Kd.N_reads hn5; have HC5 := Aside0.mk hc5; have HR5 := Aside0.mk hr5; have HB := Aside0.mk (HB.out.trans (hbA.mono HB.out.size)); have t0 : wJ.cell? ⟨tb, 0, none⟩ = some (.slice A0 exR.length c0) := (blk_cell ((HB.out.block tb hlt).trans HT.out) 0).trans rfl; have t1 : wJ.cell? ⟨tb, 1, none⟩ = some (.slice A1 exZ.length c1) := (blk_cell ((HB.out.block tb hlt).trans HT.out) 1).trans rfl; have HM := Aside0.mk (HM.out.trans (hbA.mono HM.out.size)); have m0 : wJ.cell? ⟨mb, 0, none⟩ = some (.int .u8 1) := (blk_cell ((HM.out.block mb hlm).trans HMB.out) 0).trans rfl; have m1 : wJ.cell? ⟨mb, 1, none⟩ = some (.int .u8 1) := (blk_cell ((HM.out.block mb hlm).trans HMB.out) 1).trans rfl; have m2 : wJ.cell? ⟨mb, 2, none⟩ = some (.string exFrom) := (blk_cell ((HM.out.block mb hlm).trans HMB.out) 2).trans rfl; have m3 : wJ.cell? ⟨mb, 3, none⟩ = some (.slice A3 exP.length c3) := (blk_cell ((HM.out.block mb hlm).trans HMB.out) 3).trans rfl; have HX := Aside0.mk (HX.out.trans (hbA.mono HX.out.size)); clear hbA hn5 hc5 hr5)
    (try go_wp2_with fail)
    refine hK.out _ _ ?_ (fun hHeld => ?_)
    · ((try dsimp only); exact ⟨t0, t1, m0, m1, m2, m3⟩)
    clear hK K
    try simp only [Act.put, List.setIfInBounds_toArray, List.set_cons_zero, List.set_cons_succ]
    refine takeC 3 rfl (by kernel_rfl) (by rfl) (fun K hK => ?_)
    go_simp
    (have hba := below_alloc (Below.refl wJ.heap.size wJ) (.cells #[.int .i64 1] 3 (0, 0)); replace HR5 := Aside0.mk (Kd.C_below HR5.out hba); have HPL := Aside0.mk (plan_C wJ 1); have HB := Aside0.mk (HB.out.trans (hba.mono HB.out.size)); have t0 : (wJ.alloc (.cells #[.int .i64 1] 3 (0, 0))).cell? ⟨tb, 0, none⟩ = some (.slice A0 exR.length c0) := (blk_cell ((HB.out.block tb hlt).trans HT.out) 0).trans rfl; have t1 : (wJ.alloc (.cells #[.int .i64 1] 3 (0, 0))).cell? ⟨tb, 1, none⟩ = some (.slice A1 exZ.length c1) := (blk_cell ((HB.out.block tb hlt).trans HT.out) 1).trans rfl; have HM := Aside0.mk (HM.out.trans (hba.mono HM.out.size)); have m0 : (wJ.alloc (.cells #[.int .i64 1] 3 (0, 0))).cell? ⟨mb, 0, none⟩ = some (.int .u8 1) := (blk_cell ((HM.out.block mb hlm).trans HMB.out) 0).trans rfl; have m1 : (wJ.alloc (.cells #[.int .i64 1] 3 (0, 0))).cell? ⟨mb, 1, none⟩ = some (.int .u8 1) := (blk_cell ((HM.out.block mb hlm).trans HMB.out) 1).trans rfl; have m2 : (wJ.alloc (.cells #[.int .i64 1] 3 (0, 0))).cell? ⟨mb, 2, none⟩ = some (.string exFrom) := (blk_cell ((HM.out.block mb hlm).trans HMB.out) 2).trans rfl; have m3 : (wJ.alloc (.cells #[.int .i64 1] 3 (0, 0))).cell? ⟨mb, 3, none⟩ = some (.slice A3 exP.length c3) := (blk_cell ((HM.out.block mb hlm).trans HMB.out) 3).trans rfl; have HX := Aside0.mk (HX.out.trans (hba.mono HX.out.size)); clear hba)
    (try go_wp2_with fail)
    refine hK.out _ _ ?_ (fun hHeld => ?_)
    · ((try dsimp only); exact ⟨t0, t1, m0, m1, m2, m3⟩)
    clear hK K
    try simp only [Act.put, List.setIfInBounds_toArray, List.set_cons_zero, List.set_cons_succ]
    refine takeC 4 rfl (by kernel_rfl) (by rfl) (fun K hK => ?_)
    go_simp
    (refine (tariff_Postage.calls 100 A0 c0 exR A1 c1 exZ A5 c5 exL 1 1 exFrom A3 c3 exP (some ⟨wJ.heap.size, 0, none⟩) 1 [1] [135] 0 _ (Kd.C_below HR0.out HB.out) HC0.out (Kd.C_below HR1.out HB.out) HC1.out HR5.out HC5.out (Kd.C_below HR3.out HM.out) HC3.out HPL.out (by decide) ex_post).mono ?_; rintro e wK ⟨v6, rfl, hn6, hbA⟩; obtain ⟨A6, c6, rfl, hc6, hr6⟩ := Kd.R_reads hn6; have HC6 := Aside0.mk hc6; have HR6 := Aside0.mk hr6; have HB := Aside0.mk (HB.out.trans (hbA.mono HB.out.size)); have t0 : wK.cell? ⟨tb, 0, none⟩ = some (.slice A0 exR.length c0) := (blk_cell ((HB.out.block tb hlt).trans HT.out) 0).trans rfl; have t1 : wK.cell? ⟨tb, 1, none⟩ = some (.slice A1 exZ.length c1) := (blk_cell ((HB.out.block tb hlt).trans HT.out) 1).trans rfl; have HM := Aside0.mk (HM.out.trans (hbA.mono HM.out.size)); have m0 : wK.cell? ⟨mb, 0, none⟩ = some (.int .u8 1) := (blk_cell ((HM.out.block mb hlm).trans HMB.out) 0).trans rfl; have m1 : wK.cell? ⟨mb, 1, none⟩ = some (.int .u8 1) := (blk_cell ((HM.out.block mb hlm).trans HMB.out) 1).trans rfl; have m2 : wK.cell? ⟨mb, 2, none⟩ = some (.string exFrom) := (blk_cell ((HM.out.block mb hlm).trans HMB.out) 2).trans rfl; have m3 : wK.cell? ⟨mb, 3, none⟩ = some (.slice A3 exP.length c3) := (blk_cell ((HM.out.block mb hlm).trans HMB.out) 3).trans rfl; have HX := Aside0.mk (HX.out.trans (hbA.mono HX.out.size)); clear hbA hn6 hc6 hr6)
    (try go_wp2_with fail)
    refine hK.out _ _ ?_ (fun hHeld => ?_)
    · ((try dsimp only); exact ⟨t0, t1, m0, m1, m2, m3⟩)
    clear hK K
    try simp only [Act.put, List.setIfInBounds_toArray, List.set_cons_zero, List.set_cons_succ]
    refine takeT 5 ?_ rfl (by kernel_rfl) (by kernel_rfl) (by kernel_rfl) (fun _ _ _ h => h) (by rfl) ?_ (by assumption) ?_
    rotate_left
    · (intro w hSw; (try dsimp only at hSw); go_simp; (try with_reducible rfl))
    try simp only [Act.put, List.setIfInBounds_toArray, List.set_cons_zero, List.set_cons_succ]
    refine takeT 6 ?_ rfl (by kernel_rfl) (by kernel_rfl) (by kernel_rfl) (fun _ _ _ h => h) (by rfl) ?_ (by assumption) ?_
    rotate_left
    · (intro w hSw; (try dsimp only at hSw); go_simp; (try with_reducible rfl))
    try simp only [Act.put, List.setIfInBounds_toArray, List.set_cons_zero, List.set_cons_succ]
    refine takeT 7 ?_ rfl (by kernel_rfl) (by kernel_rfl) (by kernel_rfl) (fun _ _ _ h => h) (by rfl) ?_ (by assumption) ?_
    rotate_left
    · (intro w hSw; (try dsimp only at hSw); go_simp; (try with_reducible rfl))
    try simp only [Act.put, List.setIfInBounds_toArray, List.set_cons_zero, List.set_cons_succ]
    refine takeT 8 ?_ rfl (by kernel_rfl) (by kernel_rfl) (by kernel_rfl) (fun _ _ _ h => h) (by rfl) ?_ (by assumption) ?_
    rotate_left
    · (intro w hSw; (try dsimp only at hSw); go_simp; (try with_reducible rfl))
    try simp only [Act.put, List.setIfInBounds_toArray, List.set_cons_zero, List.set_cons_succ]
    refine takeT 9 ?_ rfl (by kernel_rfl) (by kernel_rfl) (by kernel_rfl) (fun _ _ _ h => h) (by rfl) ?_ (by assumption) ?_
    rotate_left
    · (intro w hSw; (try dsimp only at hSw); go_simp; (try with_reducible rfl))
    try simp only [Act.put, List.setIfInBounds_toArray, List.set_cons_zero, List.set_cons_succ]
    refine wpAnyH_done (by kernel_rfl) ?_ _
    have HF : Aside0 (Below W1.heap.size W1 wK ∧ Below WM.heap.size WM wK ∧ Below wI.heap.size wI wK ∧ Kd.C (Kd.int .i64) wK A6 [(135 : Int)].length [135] ∧ [(135 : Int)].length ≤ c6) := ⟨⟨HB.out, HM.out, HX.out, HR6.out, HC6.out⟩⟩
    clear t0 t1 m0 m1 m2 m3 HB HM HX HR6 HC6 HR5 HC5 HPL hHeld
    generalize wJ.heap.size = nb
    revert HF c6 A6 c5 A5 nb wK
    exact hrest.out
  · go_simp
    (have hba : Below wI.drew.heap.size wI.drew ((wI.alloc (.cells #[.int .i64 1] 3 (0, 0))).drew) := below_alloc (Below.refl wI.drew.heap.size wI.drew) (.cells #[.int .i64 1] 3 (0, 0)); have HPL := Aside0.mk (Kd.C_below (plan_C wI 1) (below_drew (Below.refl _ _))); have HB := Aside0.mk (HB.out.trans (hba.mono HB.out.size)); have t0 : ((wI.alloc (.cells #[.int .i64 1] 3 (0, 0))).drew).cell? ⟨tb, 0, none⟩ = some (.slice A0 exR.length c0) := (blk_cell ((HB.out.block tb hlt).trans HT.out) 0).trans rfl; have t1 : ((wI.alloc (.cells #[.int .i64 1] 3 (0, 0))).drew).cell? ⟨tb, 1, none⟩ = some (.slice A1 exZ.length c1) := (blk_cell ((HB.out.block tb hlt).trans HT.out) 1).trans rfl; have HM := Aside0.mk (HM.out.trans (hba.mono HM.out.size)); have m0 : ((wI.alloc (.cells #[.int .i64 1] 3 (0, 0))).drew).cell? ⟨mb, 0, none⟩ = some (.int .u8 1) := (blk_cell ((HM.out.block mb hlm).trans HMB.out) 0).trans rfl; have m1 : ((wI.alloc (.cells #[.int .i64 1] 3 (0, 0))).drew).cell? ⟨mb, 1, none⟩ = some (.int .u8 1) := (blk_cell ((HM.out.block mb hlm).trans HMB.out) 1).trans rfl; have m2 : ((wI.alloc (.cells #[.int .i64 1] 3 (0, 0))).drew).cell? ⟨mb, 2, none⟩ = some (.string exFrom) := (blk_cell ((HM.out.block mb hlm).trans HMB.out) 2).trans rfl; have m3 : ((wI.alloc (.cells #[.int .i64 1] 3 (0, 0))).drew).cell? ⟨mb, 3, none⟩ = some (.slice A3 exP.length c3) := (blk_cell ((HM.out.block mb hlm).trans HMB.out) 3).trans rfl; have HX := Aside0.mk (HX.out.trans (hba.mono HX.out.size)); clear hba)
    (try go_wp2_with fail)
    refine hK.out _ _ ?_ (fun hHeld => ?_)
    · ((try dsimp only); exact ⟨t0, t1, m0, m1, m2, m3⟩)
    clear hK K
    try simp only [Act.put, List.setIfInBounds_toArray, List.set_cons_zero, List.set_cons_succ]
    refine takeC 1 rfl (by kernel_rfl) (by rfl) (fun K hK => ?_)
    go_simp
    (refine (letterbaglaw23_Example.calls _ _ ex_x).mono ?_; rintro e wJ ⟨v5, rfl, hn5, hbA⟩; obtain ⟨A5, c5, rfl, hc5, hr5⟩ := Kd.N_reads hn5; have HC5 := Aside0.mk hc5; have HR5 := Aside0.mk hr5; replace HPL := Aside0.mk (Kd.C_below HPL.out hbA); have HB := Aside0.mk (HB.out.trans (hbA.mono HB.out.size)); have t0 : wJ.cell? ⟨tb, 0, none⟩ = some (.slice A0 exR.length c0) := (blk_cell ((HB.out.block tb hlt).trans HT.out) 0).trans rfl; have t1 : wJ.cell? ⟨tb, 1, none⟩ = some (.slice A1 exZ.length c1) := (blk_cell ((HB.out.block tb hlt).trans HT.out) 1).trans rfl; have HM := Aside0.mk (HM.out.trans (hbA.mono HM.out.size)); have m0 : wJ.cell? ⟨mb, 0, none⟩ = some (.int .u8 1) := (blk_cell ((HM.out.block mb hlm).trans HMB.out) 0).trans rfl; have m1 : wJ.cell? ⟨mb, 1, none⟩ = some (.int .u8 1) := (blk_cell ((HM.out.block mb hlm).trans HMB.out) 1).trans rfl; have m2 : wJ.cell? ⟨mb, 2, none⟩ = some (.string exFrom) := (blk_cell ((HM.out.block mb hlm).trans HMB.out) 2).trans rfl; have m3 : wJ.cell? ⟨mb, 3, none⟩ = some (.slice A3 exP.length c3) := (blk_cell ((HM.out.block mb hlm).trans HMB.out) 3).trans rfl; have HX := Aside0.mk (HX.out.trans (hbA.mono HX.out.size)); clear hbA hn5 hc5 hr5)
    (try go_wp2_with fail)
    refine hK.out _ _ ?_ (fun hHeld => ?_)
    · ((try dsimp only); exact ⟨t0, t1, m0, m1, m2, m3⟩)
    clear hK K
    try simp only [Act.put, List.setIfInBounds_toArray, List.set_cons_zero, List.set_cons_succ]
    refine takeC 4 rfl (by kernel_rfl) (by rfl) (fun K hK => ?_)
    go_simp
    (refine (tariff_Postage.calls 100 A0 c0 exR A1 c1 exZ A5 c5 exL 1 1 exFrom A3 c3 exP (some ⟨wI.heap.size, 0, none⟩) 1 [1] [135] 0 _ (Kd.C_below HR0.out HB.out) HC0.out (Kd.C_below HR1.out HB.out) HC1.out HR5.out HC5.out (Kd.C_below HR3.out HM.out) HC3.out HPL.out (by decide) ex_post).mono ?_; rintro e wK ⟨v6, rfl, hn6, hbA⟩; obtain ⟨A6, c6, rfl, hc6, hr6⟩ := Kd.R_reads hn6; have HC6 := Aside0.mk hc6; have HR6 := Aside0.mk hr6; have HB := Aside0.mk (HB.out.trans (hbA.mono HB.out.size)); have t0 : wK.cell? ⟨tb, 0, none⟩ = some (.slice A0 exR.length c0) := (blk_cell ((HB.out.block tb hlt).trans HT.out) 0).trans rfl; have t1 : wK.cell? ⟨tb, 1, none⟩ = some (.slice A1 exZ.length c1) := (blk_cell ((HB.out.block tb hlt).trans HT.out) 1).trans rfl; have HM := Aside0.mk (HM.out.trans (hbA.mono HM.out.size)); have m0 : wK.cell? ⟨mb, 0, none⟩ = some (.int .u8 1) := (blk_cell ((HM.out.block mb hlm).trans HMB.out) 0).trans rfl; have m1 : wK.cell? ⟨mb, 1, none⟩ = some (.int .u8 1) := (blk_cell ((HM.out.block mb hlm).trans HMB.out) 1).trans rfl; have m2 : wK.cell? ⟨mb, 2, none⟩ = some (.string exFrom) := (blk_cell ((HM.out.block mb hlm).trans HMB.out) 2).trans rfl; have m3 : wK.cell? ⟨mb, 3, none⟩ = some (.slice A3 exP.length c3) := (blk_cell ((HM.out.block mb hlm).trans HMB.out) 3).trans rfl; have HX := Aside0.mk (HX.out.trans (hbA.mono HX.out.size)); clear hbA hn6 hc6 hr6)
    (try go_wp2_with fail)
    refine hK.out _ _ ?_ (fun hHeld => ?_)
    · ((try dsimp only); exact ⟨t0, t1, m0, m1, m2, m3⟩)
    clear hK K
    try simp only [Act.put, List.setIfInBounds_toArray, List.set_cons_zero, List.set_cons_succ]
    refine takeT 5 ?_ rfl (by kernel_rfl) (by kernel_rfl) (by kernel_rfl) (fun _ _ _ h => h) (by rfl) ?_ (by assumption) ?_
    rotate_left
    · (intro w hSw; (try dsimp only at hSw); go_simp; (try with_reducible rfl))
    try simp only [Act.put, List.setIfInBounds_toArray, List.set_cons_zero, List.set_cons_succ]
    refine takeT 6 ?_ rfl (by kernel_rfl) (by kernel_rfl) (by kernel_rfl) (fun _ _ _ h => h) (by rfl) ?_ (by assumption) ?_
    rotate_left
    · (intro w hSw; (try dsimp only at hSw); go_simp; (try with_reducible rfl))
    try simp only [Act.put, List.setIfInBounds_toArray, List.set_cons_zero, List.set_cons_succ]
    refine takeT 7 ?_ rfl (by kernel_rfl) (by kernel_rfl) (by kernel_rfl) (fun _ _ _ h => h) (by rfl) ?_ (by assumption) ?_
    rotate_left
    · (intro w hSw; (try dsimp only at hSw); go_simp; (try with_reducible rfl))
    try simp only [Act.put, List.setIfInBounds_toArray, List.set_cons_zero, List.set_cons_succ]
    refine takeT 8 ?_ rfl (by kernel_rfl) (by kernel_rfl) (by kernel_rfl) (fun _ _ _ h => h) (by rfl) ?_ (by assumption) ?_
    rotate_left
    · (intro w hSw; (try dsimp only at hSw); go_simp; (try with_reducible rfl))
    try simp only [Act.put, List.setIfInBounds_toArray, List.set_cons_zero, List.set_cons_succ]
    refine takeT 9 ?_ rfl (by kernel_rfl) (by kernel_rfl) (by kernel_rfl) (fun _ _ _ h => h) (by rfl) ?_ (by assumption) ?_
    rotate_left
    · (intro w hSw; (try dsimp only at hSw); go_simp; (try with_reducible rfl))
    try simp only [Act.put, List.setIfInBounds_toArray, List.set_cons_zero, List.set_cons_succ]
    refine wpAnyH_done (by kernel_rfl) ?_ _
    have HF : Aside0 (Below W1.heap.size W1 wK ∧ Below WM.heap.size WM wK ∧ Below wI.heap.size wI wK ∧ Kd.C (Kd.int .i64) wK A6 [(135 : Int)].length [135] ∧ [(135 : Int)].length ≤ c6) := ⟨⟨HB.out, HM.out, HX.out, HR6.out, HC6.out⟩⟩
    clear t0 t1 m0 m1 m2 m3 HB HM HX HR6 HC6 HR5 HC5 HPL hHeld
    generalize wI.heap.size = nb
    revert HF c6 A6 c5 A5 nb wK
    exact hrest.out
  intro A5 c5 wK A6 c6 HF nb
  obtain ⟨q1, q2, q3, q4, q5⟩ := HF.out
  replace HB := Aside0.mk q1
  replace HM := Aside0.mk q2
  replace HX := Aside0.mk q3
  have HR6 := Aside0.mk q4
  have HC6 := Aside0.mk q5
  have HY := Aside0.mk (Below.refl wK.heap.size wK)
  clear HF q1 q2 q3 q4 q5
  go_wp2_with fail
  have hba := below_alloc (Below.refl wK.heap.size wK) (.cells #[.int .i64 150] 3 (0, 0))
  have HPL := Aside0.mk (plan_C wK 150)
  have HB := Aside0.mk (HB.out.trans (hba.mono HB.out.size))
  have t0 : (wK.alloc (.cells #[.int .i64 150] 3 (0, 0))).cell? ⟨tb, 0, none⟩ = some (.slice A0 exR.length c0) := (blk_cell ((HB.out.block tb hlt).trans HT.out) 0).trans rfl
  have t1 : (wK.alloc (.cells #[.int .i64 150] 3 (0, 0))).cell? ⟨tb, 1, none⟩ = some (.slice A1 exZ.length c1) := (blk_cell ((HB.out.block tb hlt).trans HT.out) 1).trans rfl
  have HM := Aside0.mk (HM.out.trans (hba.mono HM.out.size))
  have m0 : (wK.alloc (.cells #[.int .i64 150] 3 (0, 0))).cell? ⟨mb, 0, none⟩ = some (.int .u8 1) := (blk_cell ((HM.out.block mb hlm).trans HMB.out) 0).trans rfl
  have m1 : (wK.alloc (.cells #[.int .i64 150] 3 (0, 0))).cell? ⟨mb, 1, none⟩ = some (.int .u8 1) := (blk_cell ((HM.out.block mb hlm).trans HMB.out) 1).trans rfl
  have m2 : (wK.alloc (.cells #[.int .i64 150] 3 (0, 0))).cell? ⟨mb, 2, none⟩ = some (.string exFrom) := (blk_cell ((HM.out.block mb hlm).trans HMB.out) 2).trans rfl
  have m3 : (wK.alloc (.cells #[.int .i64 150] 3 (0, 0))).cell? ⟨mb, 3, none⟩ = some (.slice A3 exP.length c3) := (blk_cell ((HM.out.block mb hlm).trans HMB.out) 3).trans rfl
  have HX := Aside0.mk (HX.out.trans (hba.mono HX.out.size))
  replace HY := Aside0.mk (HY.out.trans (hba.mono HY.out.size))
  clear hba
  refine (letterbagkit_SameInts.calls 100 A4 c4 [150] (some ⟨wK.heap.size, 0, none⟩) 1 [150] true _ (Kd.C_below HR4.out HX.out) HC4.out HPL.out (by decide) ex_s1).mono ?_
  rintro e wL ⟨rfl, hdA⟩
  have hbA := hdA.below
  have HB := Aside0.mk (HB.out.trans (hbA.mono HB.out.size))
  have t0 : wL.cell? ⟨tb, 0, none⟩ = some (.slice A0 exR.length c0) := (blk_cell ((HB.out.block tb hlt).trans HT.out) 0).trans rfl
  have t1 : wL.cell? ⟨tb, 1, none⟩ = some (.slice A1 exZ.length c1) := (blk_cell ((HB.out.block tb hlt).trans HT.out) 1).trans rfl
  have HM := Aside0.mk (HM.out.trans (hbA.mono HM.out.size))
  have m0 : wL.cell? ⟨mb, 0, none⟩ = some (.int .u8 1) := (blk_cell ((HM.out.block mb hlm).trans HMB.out) 0).trans rfl
  have m1 : wL.cell? ⟨mb, 1, none⟩ = some (.int .u8 1) := (blk_cell ((HM.out.block mb hlm).trans HMB.out) 1).trans rfl
  have m2 : wL.cell? ⟨mb, 2, none⟩ = some (.string exFrom) := (blk_cell ((HM.out.block mb hlm).trans HMB.out) 2).trans rfl
  have m3 : wL.cell? ⟨mb, 3, none⟩ = some (.slice A3 exP.length c3) := (blk_cell ((HM.out.block mb hlm).trans HMB.out) 3).trans rfl
  have HX := Aside0.mk (HX.out.trans (hbA.mono HX.out.size))
  replace HY := Aside0.mk (HY.out.trans (hbA.mono HY.out.size))
  clear hbA hdA HPL
  go_wp2_with fail
  have hba := below_alloc (Below.refl wL.heap.size wL) (.cells #[.int .i64 135] 3 (0, 0))
  have HPL := Aside0.mk (plan_C wL 135)
  have HB := Aside0.mk (HB.out.trans (hba.mono HB.out.size))
  have t0 : (wL.alloc (.cells #[.int .i64 135] 3 (0, 0))).cell? ⟨tb, 0, none⟩ = some (.slice A0 exR.length c0) := (blk_cell ((HB.out.block tb hlt).trans HT.out) 0).trans rfl
  have t1 : (wL.alloc (.cells #[.int .i64 135] 3 (0, 0))).cell? ⟨tb, 1, none⟩ = some (.slice A1 exZ.length c1) := (blk_cell ((HB.out.block tb hlt).trans HT.out) 1).trans rfl
  have HM := Aside0.mk (HM.out.trans (hba.mono HM.out.size))
  have m0 : (wL.alloc (.cells #[.int .i64 135] 3 (0, 0))).cell? ⟨mb, 0, none⟩ = some (.int .u8 1) := (blk_cell ((HM.out.block mb hlm).trans HMB.out) 0).trans rfl
  have m1 : (wL.alloc (.cells #[.int .i64 135] 3 (0, 0))).cell? ⟨mb, 1, none⟩ = some (.int .u8 1) := (blk_cell ((HM.out.block mb hlm).trans HMB.out) 1).trans rfl
  have m2 : (wL.alloc (.cells #[.int .i64 135] 3 (0, 0))).cell? ⟨mb, 2, none⟩ = some (.string exFrom) := (blk_cell ((HM.out.block mb hlm).trans HMB.out) 2).trans rfl
  have m3 : (wL.alloc (.cells #[.int .i64 135] 3 (0, 0))).cell? ⟨mb, 3, none⟩ = some (.slice A3 exP.length c3) := (blk_cell ((HM.out.block mb hlm).trans HMB.out) 3).trans rfl
  have HX := Aside0.mk (HX.out.trans (hba.mono HX.out.size))
  replace HY := Aside0.mk (HY.out.trans (hba.mono HY.out.size))
  clear hba
  refine (letterbagkit_SameInts.calls 100 A6 c6 [135] (some ⟨wL.heap.size, 0, none⟩) 1 [135] true _ (Kd.C_below HR6.out HY.out) HC6.out HPL.out (by decide) ex_s2).mono ?_
  rintro e wN ⟨rfl, hdA⟩
  have hbA := hdA.below
  have HB := Aside0.mk (HB.out.trans (hbA.mono HB.out.size))
  have t0 : wN.cell? ⟨tb, 0, none⟩ = some (.slice A0 exR.length c0) := (blk_cell ((HB.out.block tb hlt).trans HT.out) 0).trans rfl
  have t1 : wN.cell? ⟨tb, 1, none⟩ = some (.slice A1 exZ.length c1) := (blk_cell ((HB.out.block tb hlt).trans HT.out) 1).trans rfl
  have HM := Aside0.mk (HM.out.trans (hbA.mono HM.out.size))
  have m0 : wN.cell? ⟨mb, 0, none⟩ = some (.int .u8 1) := (blk_cell ((HM.out.block mb hlm).trans HMB.out) 0).trans rfl
  have m1 : wN.cell? ⟨mb, 1, none⟩ = some (.int .u8 1) := (blk_cell ((HM.out.block mb hlm).trans HMB.out) 1).trans rfl
  have m2 : wN.cell? ⟨mb, 2, none⟩ = some (.string exFrom) := (blk_cell ((HM.out.block mb hlm).trans HMB.out) 2).trans rfl
  have m3 : wN.cell? ⟨mb, 3, none⟩ = some (.slice A3 exP.length c3) := (blk_cell ((HM.out.block mb hlm).trans HMB.out) 3).trans rfl
  have HX := Aside0.mk (HX.out.trans (hbA.mono HX.out.size))
  clear hbA hdA HPL HY
  go_wp2_with fail
  refine (tariff_Mailing.calls 100 1 1 exFrom A3 c3 exP true _ (Kd.C_below HR3.out HM.out) HC3.out ex_mail).mono ?_
  rintro e wO ⟨rfl, hbA⟩
  have HB := Aside0.mk (HB.out.trans (hbA.mono HB.out.size))
  have t0 : wO.cell? ⟨tb, 0, none⟩ = some (.slice A0 exR.length c0) := (blk_cell ((HB.out.block tb hlt).trans HT.out) 0).trans rfl
  have t1 : wO.cell? ⟨tb, 1, none⟩ = some (.slice A1 exZ.length c1) := (blk_cell ((HB.out.block tb hlt).trans HT.out) 1).trans rfl
  clear hbA
  go_wp2_with fail
  refine (tariff_Right.calls A0 c0 exR A1 c1 exZ true _ (Kd.C_below HR0.out HB.out) HC0.out (Kd.C_below HR1.out HB.out) HC1.out ex_right).mono ?_
  rintro e wP ⟨rfl, hbA⟩
  have HB := Aside0.mk (HB.out.trans (hbA.mono HB.out.size))
  have t0 : wP.cell? ⟨tb, 0, none⟩ = some (.slice A0 exR.length c0) := (blk_cell ((HB.out.block tb hlt).trans HT.out) 0).trans rfl
  have t1 : wP.cell? ⟨tb, 1, none⟩ = some (.slice A1 exZ.length c1) := (blk_cell ((HB.out.block tb hlt).trans HT.out) 1).trans rfl
  go_wp2_with fail
  go_ret
  exact ⟨rfl, HW.out.trans (HB.out.mono HW.out.size)⟩
def letterbaglaw24_awake.f : Option Bool := some true
end Go.Proofs.YtfglcfbcdhjcdaaDoor.Q

namespace Go.Proofs.YtfglcfbcdhjcdaaDoor.Q
open Go.RowKit Go.Proofs.YtfglcfbcdhjcdaaDoorW.PrintWords Go.Proofs.YtfglcfbcdhjcdaaDoorW.PrintLast Go.Proofs.YtfglcfbcdhjcdaaDoorW.PrintMore
set_option linter.unusedVariables false
set_option linter.unusedSimpArgs false
theorem made_f (N : Nat) (hN : N < 4294967296) (l : List Int) (hf : mdFits l = true) : letterbaglaw24_Made.f (N : Int) l = some (madeR N l, madeZ N) := by
  unfold letterbaglaw24_Made.f
  rw [if_pos (by rw [hf]; simp; omega), Int.toNat_natCast]
set_option maxHeartbeats 8000000 in
set_option maxRecDepth 100000 in
theorem steps.calls0 (N : Nat) (hN : N < 4294967296) (A : Option Addr) (c : Nat) (l : List Int) (hf : mdFits l = true) (cl z g : Int) (hcl : 0 ≤ cl ∧ cl ≤ 255) (w : World) (hr : Kd.C (Kd.int .u8) w A l.length l) (hc : l.length ≤ c) :
    Calls Tryd.prog 5 #[.int .u32 (N : Int), .slice A l.length c, .int .u8 cl, .int .i64 z, .int .i64 g] w fun e w' => e = .returned (.bool true) ∧ Below w.heap.size w w' := by
  have HMF := Aside0.mk (made_f N hN l hf)
  have hzr := mdZ_range N
  have hsr := mdS_range N
  have hcr := mdC_range N
  have HR := Aside0.mk hr
  clear hr
  go_enter Tryd.func5, Tryd.ntmps5
  go_wp2_with fail
  refine (awake.calls0 w).mono ?_
  rintro e wA ⟨rfl, hbA⟩
  have HBA := Aside0.mk hbA
  clear hbA
  go_wp2_with fail
  refine (letterbaglaw24_Made.calls (N : Int) A c l (madeR N l) (madeZ N) wA (Kd.C_below HR.out HBA.out) hc HMF.out).mono ?_
  rintro e w1 ⟨v0, v1, rfl, hn0, hn1, hb1⟩
  obtain ⟨A0, c0, rfl, hc0, hr0⟩ := Kd.R_reads hn0
  obtain ⟨A1, c1, rfl, hc1, hr1⟩ := Kd.R_reads hn1
  have HC0 := Aside0.mk hc0
  have HC1 := Aside0.mk hc1
  have hba := below_alloc (Below.refl w1.heap.size w1) (.cells #[.slice A0 (madeR N l).length c0, .slice A1 (madeZ N).length c1] 25 (0, 0))
  have HT := Aside0.mk (heap_alloc_new w1 (.cells #[.slice A0 (madeR N l).length c0, .slice A1 (madeZ N).length c1] 25 (0, 0)))
  have HR0 := Aside0.mk (Kd.C_below hr0 hba)
  have HR1 := Aside0.mk (Kd.C_below hr1 hba)
  have HW := Aside0.mk (HBA.out.trans ((hb1.mono HBA.out.size).trans (hba.mono (Nat.le_trans HBA.out.size hb1.size))))
  clear hn0 hn1 hb1 hr0 hr1 hba hc0 hc1 HR HMF
  go_wp2_with fail
  generalize w1.alloc (.cells #[.slice A0 (madeR N l).length c0, .slice A1 (madeZ N).length c1] 25 (0, 0)) = Wt at *
  generalize w1.heap.size = tb at *
  have hlt := blk_lt HT.out
  obtain ⟨ci, hp1, hci⟩ := pick_is cl (mdC N) (by omega) (by omega)
  have HP1 := Aside0.mk hp1
  have hlenR : (madeR N l).length = mdC N := madeR_length N l
  have hx : rd_T57 (madeR N l) (ci : Int) = mdRate l (mdZ N) (mdS N) (mdBar N) ci := rates_rd _ _ _ _ _ _ hci
  obtain ⟨ad, As, cs, rfl, e0, e1, e2, hls, hrs⟩ := at_T57 HR0.out (ci : Int) (by omega) (by rw [hlenR]; omega)
  rw [hx] at e0 e1 e2 hls hrs
  rw [Int.toNat_natCast] at e0 e1 e2
  have hlenS : (mdRate l (mdZ N) (mdS N) (mdBar N) ci).f1.length = mdS N := by simp [mdRate]
  have HRS := Aside0.mk hrs
  have HLS := Aside0.mk hls
  have HX := Aside0.mk (show (mdRate l (mdZ N) (mdS N) (mdBar N) ci).f1 = (List.range (mdS N)).map (mdStep l (mdZ N) ci) from rfl)
  have HPM := Aside0.mk (fun z g hz hg => price_made N l hf ci z g hci hz hg)
  rw [hlenS] at e1
  change Wt.cell? (ad.add (ci * 3)) = some (.int .u8 ((ci : Int) + 1)) at e0
  change Wt.cell? ⟨(ad.add (ci * 3)).block, (ad.add (ci * 3)).off + 2, none⟩ = some (.int .i64 (mdBar N : Int)) at e2
  have t0 : Wt.drew.cell? ⟨tb, 0, none⟩ = some (.slice (some ad) (madeR N l).length c0) := (blk_cell (w := Wt.drew) HT.out 0).trans rfl
  have e0d : Wt.drew.cell? (ad.add (ci * 3)) = some (.int .u8 ((ci : Int) + 1)) := e0
  have e1d : Wt.drew.cell? ⟨(ad.add (ci * 3)).block, (ad.add (ci * 3)).off + 1, none⟩ = some (.slice As (mdS N) cs) := e1
  have e2d : Wt.drew.cell? ⟨(ad.add (ci * 3)).block, (ad.add (ci * 3)).off + 2, none⟩ = some (.int .i64 (mdBar N : Int)) := e2
  clear hp1 hx hls hrs hlenS e0 e1 e2
  have hcw : IntKind.i64.wrap cl = cl := wrap_i64_int (by omega) (by omega)
  have hi0 : (0 : Int) ≤ (ci : Int) := by omega
  have hi1 : (ci : Int) < ((madeR N l).length : Int) := by rw [hlenR]; omega
  have HLR := Aside0.mk hlenR
  clear hlenR
  have hba := below_alloc (Below.refl Wt.heap.size Wt) (.cells #[.int .u8 0, .slice none 0 0, .int .i64 0] 57 (0, 0))
  have b0 := (hba.cell (p := ⟨tb, 0, none⟩) (World.block_lt_of_cell? Wt _ t0)).trans t0
  have b1 := (hba.cell (p := (ad.add (ci * 3))) (World.block_lt_of_cell? Wt _ e0d)).trans e0d
  have b2 := (hba.cell (p := ⟨(ad.add (ci * 3)).block, (ad.add (ci * 3)).off + 1, none⟩) (World.block_lt_of_cell? Wt _ e1d)).trans e1d
  have b3 := (hba.cell (p := ⟨(ad.add (ci * 3)).block, (ad.add (ci * 3)).off + 2, none⟩) (World.block_lt_of_cell? Wt _ e2d)).trans e2d
  refine wp_region_held_drew (S := (fun w' => w'.cell? ⟨tb, 0, none⟩ = some (.slice (some ad) (madeR N l).length c0) ∧ w'.cell? (ad.add (ci * 3)) = some (.int .u8 ((ci : Int) + 1)) ∧ w'.cell? ⟨(ad.add (ci * 3)).block, (ad.add (ci * 3)).off + 1, none⟩ = some (.slice As (mdS N) cs) ∧ w'.cell? ⟨(ad.add (ci * 3)).block, (ad.add (ci * 3)).off + 2, none⟩ = some (.int .i64 (mdBar N : Int)))) (by kernel_rfl) ?_ (fun hHeld => ?_)
  · ((try dsimp only); first | exact ⟨t0, e0d, e1d, e2d⟩ | exact ⟨g0, g1, g2, g3⟩ | exact ⟨b0, b1, b2, b3⟩ | go_keep)
  refine takeT 0 ?_ rfl (by kernel_rfl) (by kernel_rfl) (by kernel_rfl) (fun _ _ _ h => h) (by rfl) ?_ (by assumption) ?_
  rotate_left
  · (intro w hSw; (try dsimp only at hSw); go_simp; (try with_reducible rfl))
  try simp only [Act.put, List.setIfInBounds_toArray, List.set_cons_zero, List.set_cons_succ]
  refine takeT 1 ?_ rfl (by kernel_rfl) (by kernel_rfl) (by kernel_rfl) (fun _ _ _ h => h) (by rfl) ?_ (by assumption) ?_
  rotate_left
  · (intro w hSw; (try dsimp only at hSw); go_simp; (try with_reducible rfl))
  try simp only [Act.put, List.setIfInBounds_toArray, List.set_cons_zero, List.set_cons_succ]
  refine takeT 2 ?_ rfl (by kernel_rfl) (by kernel_rfl) (by kernel_rfl) (fun _ _ _ h => h) (by rfl) ?_ (by assumption) ?_
  rotate_left
  · (intro w hSw; (try dsimp only at hSw); go_simp; (try with_reducible rfl))
  try simp only [Act.put, List.setIfInBounds_toArray, List.set_cons_zero, List.set_cons_succ]
  refine takeT 3 ?_ rfl (by kernel_rfl) (by kernel_rfl) (by kernel_rfl) (fun _ _ _ h => h) (by rfl) ?_ (by assumption) ?_
  rotate_left
  · (intro w hSw; (try dsimp only at hSw); go_simp; (try with_reducible rfl))
  try simp only [Act.put, List.setIfInBounds_toArray, List.set_cons_zero, List.set_cons_succ]
  refine takeT 4 ?_ rfl (by kernel_rfl) (by kernel_rfl) (by kernel_rfl) (fun _ _ _ h => h) (by rfl) ?_ (by assumption) ?_
  rotate_left
  · (intro w hSw; (try dsimp only at hSw); go_simp; (try with_reducible rfl))
  try simp only [Act.put, List.setIfInBounds_toArray, List.set_cons_zero, List.set_cons_succ]
  refine takeT 5 ?_ rfl (by kernel_rfl) (by kernel_rfl) (by kernel_rfl) (fun _ _ _ h => h) (by rfl) ?_ (by assumption) ?_
  rotate_left
  · (intro w hSw; (try dsimp only at hSw); go_simp; (try with_reducible rfl))
  try simp only [Act.put, List.setIfInBounds_toArray, List.set_cons_zero, List.set_cons_succ]
  refine takeT 6 ?_ rfl (by kernel_rfl) (by kernel_rfl) (by kernel_rfl) (fun _ _ _ h => h) (by rfl) ?_ (by assumption) ?_
  rotate_left
  · (intro w hSw; (try dsimp only at hSw); go_simp; (try with_reducible rfl))
  try simp only [Act.put, List.setIfInBounds_toArray, List.set_cons_zero, List.set_cons_succ]
  apply bothWays
  intro hrest
  refine takeC2 7 10 rfl rfl (by kernel_rfl) (by rfl) (by rfl) (fun K hK => ?_) (fun K hK => ?_)
  · go_simp
    (refine (letterbagkit_Pick.calls cl ((madeR N l).length : Int) (ci : Int) _ (by rw [HLR.out]; exact HP1.out)).mono ?_; rintro e wP ⟨rfl, hdP⟩; obtain ⟨⟨m, rfl⟩⟩ := hdP)
    (try go_wp2_with fail)
    refine hK.out _ _ ?_ (fun hHeld => ?_)
    · ((try dsimp only); first | exact ⟨t0, e0d, e1d, e2d⟩ | exact ⟨g0, g1, g2, g3⟩ | exact ⟨b0, b1, b2, b3⟩ | go_keep)
    clear hK K
    try simp only [Act.put, List.setIfInBounds_toArray, List.set_cons_zero, List.set_cons_succ]
    refine takeT 8 ?_ rfl (by kernel_rfl) (by kernel_rfl) (by kernel_rfl) (fun _ _ _ h => h) (by rfl) ?_ (by assumption) ?_
    rotate_left
    · (intro w hSw; (try dsimp only at hSw); go_simp; (try with_reducible rfl))
    try simp only [Act.put, List.setIfInBounds_toArray, List.set_cons_zero, List.set_cons_succ]
    refine takeT 9 ?_ rfl (by kernel_rfl) (by kernel_rfl) (by kernel_rfl) (fun _ _ _ h => h) (by rfl) ?_ (by assumption) ?_
    rotate_left
    · (intro w hSw; (try dsimp only at hSw); go_simp; (try with_reducible rfl))
    try simp only [Act.put, List.setIfInBounds_toArray, List.set_cons_zero, List.set_cons_succ]
    refine takeC 10 rfl (by kernel_rfl) (by rfl) (fun K hK => ?_)
    go_simp
    (have z0 : ((Wt.drewN (1 + m)).alloc (.cells #[.int .u8 0, .slice none 0 0, .int .i64 0] 57 (0, 0))).cell? ⟨Wt.heap.size, 0, none⟩ = some (.int .u8 0) := (blk_cell (w := ((Wt.drewN (1 + m)).alloc (.cells #[.int .u8 0, .slice none 0 0, .int .i64 0] 57 (0, 0)))) (heap_alloc_new Wt (.cells #[.int .u8 0, .slice none 0 0, .int .i64 0] 57 (0, 0))) 0).trans rfl; have f0 : ((Wt.drewN (1 + m)).alloc (.cells #[.int .u8 0, .slice none 0 0, .int .i64 0] 57 (0, 0))).frozen? ⟨Wt.heap.size, 0, none⟩ = false := blk_frozen (w := ((Wt.drewN (1 + m)).alloc (.cells #[.int .u8 0, .slice none 0 0, .int .i64 0] 57 (0, 0)))) (heap_alloc_new Wt (.cells #[.int .u8 0, .slice none 0 0, .int .i64 0] 57 (0, 0))) 0; have z1 : ((Wt.drewN (1 + m)).alloc (.cells #[.int .u8 0, .slice none 0 0, .int .i64 0] 57 (0, 0))).cell? ⟨Wt.heap.size, 1, none⟩ = some (.slice none 0 0) := (blk_cell (w := ((Wt.drewN (1 + m)).alloc (.cells #[.int .u8 0, .slice none 0 0, .int .i64 0] 57 (0, 0)))) (heap_alloc_new Wt (.cells #[.int .u8 0, .slice none 0 0, .int .i64 0] 57 (0, 0))) 1).trans rfl; have f1 : ((Wt.drewN (1 + m)).alloc (.cells #[.int .u8 0, .slice none 0 0, .int .i64 0] 57 (0, 0))).frozen? ⟨Wt.heap.size, 1, none⟩ = false := blk_frozen (w := ((Wt.drewN (1 + m)).alloc (.cells #[.int .u8 0, .slice none 0 0, .int .i64 0] 57 (0, 0)))) (heap_alloc_new Wt (.cells #[.int .u8 0, .slice none 0 0, .int .i64 0] 57 (0, 0))) 1; have z2 : ((Wt.drewN (1 + m)).alloc (.cells #[.int .u8 0, .slice none 0 0, .int .i64 0] 57 (0, 0))).cell? ⟨Wt.heap.size, 2, none⟩ = some (.int .i64 0) := (blk_cell (w := ((Wt.drewN (1 + m)).alloc (.cells #[.int .u8 0, .slice none 0 0, .int .i64 0] 57 (0, 0)))) (heap_alloc_new Wt (.cells #[.int .u8 0, .slice none 0 0, .int .i64 0] 57 (0, 0))) 2).trans rfl; have f2 : ((Wt.drewN (1 + m)).alloc (.cells #[.int .u8 0, .slice none 0 0, .int .i64 0] 57 (0, 0))).frozen? ⟨Wt.heap.size, 2, none⟩ = false := blk_frozen (w := ((Wt.drewN (1 + m)).alloc (.cells #[.int .u8 0, .slice none 0 0, .int .i64 0] 57 (0, 0)))) (heap_alloc_new Wt (.cells #[.int .u8 0, .slice none 0 0, .int .i64 0] 57 (0, 0))) 2)
    (try go_wp2_with fail)
    refine hK.out _ _ ?_ (fun hHeld => ?_)
    · ((try dsimp only); first | exact ⟨t0, e0d, e1d, e2d⟩ | exact ⟨g0, g1, g2, g3⟩ | exact ⟨b0, b1, b2, b3⟩ | go_keep)
    clear hK K
    try simp only [Act.put, List.setIfInBounds_toArray, List.set_cons_zero, List.set_cons_succ]
    refine takeC 11 rfl (by kernel_rfl) (by rfl) (fun K hK => ?_)
    go_simp
    (have hbW : Below Wt.heap.size Wt (((((Wt.drewN (1 + m)).alloc (.cells #[.int .u8 0, .slice none 0 0, .int .i64 0] 57 (0, 0))).setCell ⟨Wt.heap.size, 0, none⟩ (.int .u8 ((ci : Int) + 1))).setCell ⟨Wt.heap.size, 1, none⟩ (.slice As (mdS N) cs)).setCell ⟨Wt.heap.size, 2, none⟩ (.int .i64 (mdBar N : Int))) := (((below_alloc (pw_below_drewN (Below.refl Wt.heap.size Wt) (1 + m)) (.cells #[.int .u8 0, .slice none 0 0, .int .i64 0] 57 (0, 0))).setCell (p := ⟨Wt.heap.size, 0, none⟩) (Nat.le_refl _) _).setCell (p := ⟨Wt.heap.size, 1, none⟩) (Nat.le_refl _) _).setCell (p := ⟨Wt.heap.size, 2, none⟩) (Nat.le_refl _) _; have hbk : (((((Wt.drewN (1 + m)).alloc (.cells #[.int .u8 0, .slice none 0 0, .int .i64 0] 57 (0, 0))).setCell ⟨Wt.heap.size, 0, none⟩ (.int .u8 ((ci : Int) + 1))).setCell ⟨Wt.heap.size, 1, none⟩ (.slice As (mdS N) cs)).setCell ⟨Wt.heap.size, 2, none⟩ (.int .i64 (mdBar N : Int))).heap[Wt.heap.size]? = some (.cells #[.int .u8 ((ci : Int) + 1), .slice As (mdS N) cs, .int .i64 (mdBar N : Int)] 57 (0, 0)) := blk_put (blk_put (blk_put (w := ((Wt.drewN (1 + m)).alloc (.cells #[.int .u8 0, .slice none 0 0, .int .i64 0] 57 (0, 0)))) (heap_alloc_new Wt (.cells #[.int .u8 0, .slice none 0 0, .int .i64 0] 57 (0, 0))) 0 _ rfl) 1 _ rfl) 2 _ rfl; have g0 := (hbW.cell (p := ⟨tb, 0, none⟩) (World.block_lt_of_cell? Wt _ t0)).trans t0; have g1 := (hbW.cell (p := (ad.add (ci * 3))) (World.block_lt_of_cell? Wt _ e0d)).trans e0d; have g2 := (hbW.cell (p := ⟨(ad.add (ci * 3)).block, (ad.add (ci * 3)).off + 1, none⟩) (World.block_lt_of_cell? Wt _ e1d)).trans e1d; have g3 := (hbW.cell (p := ⟨(ad.add (ci * 3)).block, (ad.add (ci * 3)).off + 2, none⟩) (World.block_lt_of_cell? Wt _ e2d)).trans e2d)
    (try go_wp2_with fail)
    refine hK.out _ _ ?_ (fun hHeld => ?_)
    · ((try dsimp only); first | exact ⟨t0, e0d, e1d, e2d⟩ | exact ⟨g0, g1, g2, g3⟩ | exact ⟨b0, b1, b2, b3⟩ | go_keep)
    clear hK K
    try simp only [Act.put, List.setIfInBounds_toArray, List.set_cons_zero, List.set_cons_succ]
    refine wpAnyH_done (by kernel_rfl) ?_ _
    have HF : Aside0 (Below Wt.heap.size Wt (((((Wt.drewN (1 + m)).alloc (.cells #[.int .u8 0, .slice none 0 0, .int .i64 0] 57 (0, 0))).setCell ⟨Wt.heap.size, 0, none⟩ (.int .u8 ((ci : Int) + 1))).setCell ⟨Wt.heap.size, 1, none⟩ (.slice As (mdS N) cs)).setCell ⟨Wt.heap.size, 2, none⟩ (.int .i64 (mdBar N : Int))) ∧ (((((Wt.drewN (1 + m)).alloc (.cells #[.int .u8 0, .slice none 0 0, .int .i64 0] 57 (0, 0))).setCell ⟨Wt.heap.size, 0, none⟩ (.int .u8 ((ci : Int) + 1))).setCell ⟨Wt.heap.size, 1, none⟩ (.slice As (mdS N) cs)).setCell ⟨Wt.heap.size, 2, none⟩ (.int .i64 (mdBar N : Int))).heap[Wt.heap.size]? = some (.cells #[.int .u8 ((ci : Int) + 1), .slice As (mdS N) cs, .int .i64 (mdBar N : Int)] 57 (0, 0))) := ⟨⟨hbW, hbk⟩⟩
    clear hbW hbk g0 g1 g2 g3 z0 z1 z2 f0 f1 f2 hHeld
    generalize (((((Wt.drewN (1 + m)).alloc (.cells #[.int .u8 0, .slice none 0 0, .int .i64 0] 57 (0, 0))).setCell ⟨Wt.heap.size, 0, none⟩ (.int .u8 ((ci : Int) + 1))).setCell ⟨Wt.heap.size, 1, none⟩ (.slice As (mdS N) cs)).setCell ⟨Wt.heap.size, 2, none⟩ (.int .i64 (mdBar N : Int))) = W2 at HF ⊢
    revert HF W2
    exact hrest.out
  · go_simp
    skip
    (try go_wp2_with fail)
    refine hK.out _ _ ?_ (fun hHeld => ?_)
    · ((try dsimp only); first | exact ⟨t0, e0d, e1d, e2d⟩ | exact ⟨g0, g1, g2, g3⟩ | exact ⟨b0, b1, b2, b3⟩ | go_keep)
    clear hK K
    try simp only [Act.put, List.setIfInBounds_toArray, List.set_cons_zero, List.set_cons_succ]
    refine takeC 7 rfl (by kernel_rfl) (by rfl) (fun K hK => ?_)
    go_simp
    (refine (letterbagkit_Pick.calls cl ((madeR N l).length : Int) (ci : Int) _ (by rw [HLR.out]; exact HP1.out)).mono ?_; rintro e wP ⟨rfl, hdP⟩; obtain ⟨⟨m, rfl⟩⟩ := hdP; have z0 : ((Wt.alloc (.cells #[.int .u8 0, .slice none 0 0, .int .i64 0] 57 (0, 0))).drewN (1 + m)).cell? ⟨Wt.heap.size, 0, none⟩ = some (.int .u8 0) := (blk_cell (w := ((Wt.alloc (.cells #[.int .u8 0, .slice none 0 0, .int .i64 0] 57 (0, 0))).drewN (1 + m))) (heap_alloc_new Wt (.cells #[.int .u8 0, .slice none 0 0, .int .i64 0] 57 (0, 0))) 0).trans rfl; have f0 : ((Wt.alloc (.cells #[.int .u8 0, .slice none 0 0, .int .i64 0] 57 (0, 0))).drewN (1 + m)).frozen? ⟨Wt.heap.size, 0, none⟩ = false := blk_frozen (w := ((Wt.alloc (.cells #[.int .u8 0, .slice none 0 0, .int .i64 0] 57 (0, 0))).drewN (1 + m))) (heap_alloc_new Wt (.cells #[.int .u8 0, .slice none 0 0, .int .i64 0] 57 (0, 0))) 0; have z1 : ((Wt.alloc (.cells #[.int .u8 0, .slice none 0 0, .int .i64 0] 57 (0, 0))).drewN (1 + m)).cell? ⟨Wt.heap.size, 1, none⟩ = some (.slice none 0 0) := (blk_cell (w := ((Wt.alloc (.cells #[.int .u8 0, .slice none 0 0, .int .i64 0] 57 (0, 0))).drewN (1 + m))) (heap_alloc_new Wt (.cells #[.int .u8 0, .slice none 0 0, .int .i64 0] 57 (0, 0))) 1).trans rfl; have f1 : ((Wt.alloc (.cells #[.int .u8 0, .slice none 0 0, .int .i64 0] 57 (0, 0))).drewN (1 + m)).frozen? ⟨Wt.heap.size, 1, none⟩ = false := blk_frozen (w := ((Wt.alloc (.cells #[.int .u8 0, .slice none 0 0, .int .i64 0] 57 (0, 0))).drewN (1 + m))) (heap_alloc_new Wt (.cells #[.int .u8 0, .slice none 0 0, .int .i64 0] 57 (0, 0))) 1; have z2 : ((Wt.alloc (.cells #[.int .u8 0, .slice none 0 0, .int .i64 0] 57 (0, 0))).drewN (1 + m)).cell? ⟨Wt.heap.size, 2, none⟩ = some (.int .i64 0) := (blk_cell (w := ((Wt.alloc (.cells #[.int .u8 0, .slice none 0 0, .int .i64 0] 57 (0, 0))).drewN (1 + m))) (heap_alloc_new Wt (.cells #[.int .u8 0, .slice none 0 0, .int .i64 0] 57 (0, 0))) 2).trans rfl; have f2 : ((Wt.alloc (.cells #[.int .u8 0, .slice none 0 0, .int .i64 0] 57 (0, 0))).drewN (1 + m)).frozen? ⟨Wt.heap.size, 2, none⟩ = false := blk_frozen (w := ((Wt.alloc (.cells #[.int .u8 0, .slice none 0 0, .int .i64 0] 57 (0, 0))).drewN (1 + m))) (heap_alloc_new Wt (.cells #[.int .u8 0, .slice none 0 0, .int .i64 0] 57 (0, 0))) 2)
    (try go_wp2_with fail)
    refine hK.out _ _ ?_ (fun hHeld => ?_)
    · ((try dsimp only); first | exact ⟨t0, e0d, e1d, e2d⟩ | exact ⟨g0, g1, g2, g3⟩ | exact ⟨b0, b1, b2, b3⟩ | go_keep)
    clear hK K
    try simp only [Act.put, List.setIfInBounds_toArray, List.set_cons_zero, List.set_cons_succ]
    refine takeT 8 ?_ rfl (by kernel_rfl) (by kernel_rfl) (by kernel_rfl) (fun _ _ _ h => h) (by rfl) ?_ (by assumption) ?_
    rotate_left
    · (intro w hSw; (try dsimp only at hSw); go_simp; (try with_reducible rfl))
    try simp only [Act.put, List.setIfInBounds_toArray, List.set_cons_zero, List.set_cons_succ]
    refine takeT 9 ?_ rfl (by kernel_rfl) (by kernel_rfl) (by kernel_rfl) (fun _ _ _ h => h) (by rfl) ?_ (by assumption) ?_
    rotate_left
    · (intro w hSw; (try dsimp only at hSw); go_simp; (try with_reducible rfl))
    try simp only [Act.put, List.setIfInBounds_toArray, List.set_cons_zero, List.set_cons_succ]
    refine takeC 11 rfl (by kernel_rfl) (by rfl) (fun K hK => ?_)
    go_simp
    (have hbW : Below Wt.heap.size Wt (((((Wt.alloc (.cells #[.int .u8 0, .slice none 0 0, .int .i64 0] 57 (0, 0))).drewN (1 + m)).setCell ⟨Wt.heap.size, 0, none⟩ (.int .u8 ((ci : Int) + 1))).setCell ⟨Wt.heap.size, 1, none⟩ (.slice As (mdS N) cs)).setCell ⟨Wt.heap.size, 2, none⟩ (.int .i64 (mdBar N : Int))) := (((pw_below_drewN (below_alloc (Below.refl Wt.heap.size Wt) (.cells #[.int .u8 0, .slice none 0 0, .int .i64 0] 57 (0, 0))) (1 + m)).setCell (p := ⟨Wt.heap.size, 0, none⟩) (Nat.le_refl _) _).setCell (p := ⟨Wt.heap.size, 1, none⟩) (Nat.le_refl _) _).setCell (p := ⟨Wt.heap.size, 2, none⟩) (Nat.le_refl _) _; have hbk : (((((Wt.alloc (.cells #[.int .u8 0, .slice none 0 0, .int .i64 0] 57 (0, 0))).drewN (1 + m)).setCell ⟨Wt.heap.size, 0, none⟩ (.int .u8 ((ci : Int) + 1))).setCell ⟨Wt.heap.size, 1, none⟩ (.slice As (mdS N) cs)).setCell ⟨Wt.heap.size, 2, none⟩ (.int .i64 (mdBar N : Int))).heap[Wt.heap.size]? = some (.cells #[.int .u8 ((ci : Int) + 1), .slice As (mdS N) cs, .int .i64 (mdBar N : Int)] 57 (0, 0)) := blk_put (blk_put (blk_put (w := ((Wt.alloc (.cells #[.int .u8 0, .slice none 0 0, .int .i64 0] 57 (0, 0))).drewN (1 + m))) (heap_alloc_new Wt (.cells #[.int .u8 0, .slice none 0 0, .int .i64 0] 57 (0, 0))) 0 _ rfl) 1 _ rfl) 2 _ rfl; have g0 := (hbW.cell (p := ⟨tb, 0, none⟩) (World.block_lt_of_cell? Wt _ t0)).trans t0; have g1 := (hbW.cell (p := (ad.add (ci * 3))) (World.block_lt_of_cell? Wt _ e0d)).trans e0d; have g2 := (hbW.cell (p := ⟨(ad.add (ci * 3)).block, (ad.add (ci * 3)).off + 1, none⟩) (World.block_lt_of_cell? Wt _ e1d)).trans e1d; have g3 := (hbW.cell (p := ⟨(ad.add (ci * 3)).block, (ad.add (ci * 3)).off + 2, none⟩) (World.block_lt_of_cell? Wt _ e2d)).trans e2d)
    (try go_wp2_with fail)
    refine hK.out _ _ ?_ (fun hHeld => ?_)
    · ((try dsimp only); first | exact ⟨t0, e0d, e1d, e2d⟩ | exact ⟨g0, g1, g2, g3⟩ | exact ⟨b0, b1, b2, b3⟩ | go_keep)
    clear hK K
    try simp only [Act.put, List.setIfInBounds_toArray, List.set_cons_zero, List.set_cons_succ]
    refine wpAnyH_done (by kernel_rfl) ?_ _
    have HF : Aside0 (Below Wt.heap.size Wt (((((Wt.alloc (.cells #[.int .u8 0, .slice none 0 0, .int .i64 0] 57 (0, 0))).drewN (1 + m)).setCell ⟨Wt.heap.size, 0, none⟩ (.int .u8 ((ci : Int) + 1))).setCell ⟨Wt.heap.size, 1, none⟩ (.slice As (mdS N) cs)).setCell ⟨Wt.heap.size, 2, none⟩ (.int .i64 (mdBar N : Int))) ∧ (((((Wt.alloc (.cells #[.int .u8 0, .slice none 0 0, .int .i64 0] 57 (0, 0))).drewN (1 + m)).setCell ⟨Wt.heap.size, 0, none⟩ (.int .u8 ((ci : Int) + 1))).setCell ⟨Wt.heap.size, 1, none⟩ (.slice As (mdS N) cs)).setCell ⟨Wt.heap.size, 2, none⟩ (.int .i64 (mdBar N : Int))).heap[Wt.heap.size]? = some (.cells #[.int .u8 ((ci : Int) + 1), .slice As (mdS N) cs, .int .i64 (mdBar N : Int)] 57 (0, 0))) := ⟨⟨hbW, hbk⟩⟩
    clear hbW hbk g0 g1 g2 g3 z0 z1 z2 f0 f1 f2 hHeld
    generalize (((((Wt.alloc (.cells #[.int .u8 0, .slice none 0 0, .int .i64 0] 57 (0, 0))).drewN (1 + m)).setCell ⟨Wt.heap.size, 0, none⟩ (.int .u8 ((ci : Int) + 1))).setCell ⟨Wt.heap.size, 1, none⟩ (.slice As (mdS N) cs)).setCell ⟨Wt.heap.size, 2, none⟩ (.int .i64 (mdBar N : Int))) = W2 at HF ⊢
    revert HF W2
    exact hrest.out
  intro W2 HF
  obtain ⟨hb2, hk2⟩ := HF.out
  have HB := Aside0.mk hb2
  have HK := Aside0.mk hk2
  clear HF hb2 hk2 hba b0 b1 b2 b3 t0 e0d e1d e2d hcw hi0 hi1 HP1

  generalize hrb : Wt.heap.size = rb at *
  have r0 : W2.cell? ⟨rb, 0, none⟩ = some (.int .u8 ((ci : Int) + 1)) := (blk_cell HK.out 0).trans rfl
  have r1 : W2.cell? ⟨rb, 1, none⟩ = some (.slice As (mdS N) cs) := (blk_cell HK.out 1).trans rfl
  have HCS := Aside0.mk (Kd.C_below HRS.out (by rw [hrb]; exact HB.out))
  have hlenS : (mdRate l (mdZ N) (mdS N) (mdBar N) ci).f1.length = mdS N := by simp [mdRate]
  obtain ⟨ad2, A2, c2, rfl, s0, s1, hl2, hr2⟩ := at_T61 HCS.out (0 : Int) (by omega) (by rw [hlenS]; omega)
  have hx0 : rd_T61 (mdRate l (mdZ N) (mdS N) (mdBar N) ci).f1 (0 : Int) = mdStep l (mdZ N) ci 0 := by rw [HX.out]; exact steps_rd l (mdZ N) ci (mdS N) 0 (by omega)
  rw [hx0, mdStep_len] at s1
  have s1 : W2.cell? ⟨ad2.block, ad2.off + 1, none⟩ = some (.slice A2 (mdZ N) c2) := by simpa [Addr.add] using s1
  obtain ⟨zi, hp2, hzi⟩ := pick_is z (mdZ N) (by omega) (by omega)
  obtain ⟨gi, hp3, hgi⟩ := pick_is g 120 (by omega) (by omega)
  have HP2 := Aside0.mk hp2
  have HP3 := Aside0.mk hp3
  have HLN := Aside0.mk hlenS
  clear hl2 hr2 hx0 s0 hp2 hp3 hlenS
  have hsn : 0 < mdS N := by omega
  have hsn2 : (0 : Int) < (mdS N : Int) := by omega
  go_wp2_with fail
  refine (letterbagkit_Pick.calls z ((mdZ N : Nat) : Int) (zi : Int) W2 HP2.out).mono ?_
  rintro e wQ ⟨rfl, hdQ⟩
  have HB2 := Aside0.mk hdQ.below
  clear hdQ s1 hsn hsn2
  go_wp2_with fail
  refine (letterbagkit_Pick.calls g 120 (gi : Int) wQ HP3.out).mono ?_
  rintro e wS ⟨rfl, hdS⟩
  have HB3 := Aside0.mk (HB2.out.trans (hdS.below.mono HB2.out.size))
  clear hdS HB2 HP2 HP3
  have HBT : Aside0 (Below Wt.heap.size Wt wS) := ⟨by rw [hrb]; exact HB.out.trans (HB3.out.mono (by have := HB.out.size; omega))⟩
  have t0 : wS.cell? ⟨tb, 0, none⟩ = some (.slice (some ad) (madeR N l).length c0) := (blk_cell ((HBT.out.block tb (by rw [hrb]; exact hlt)).trans HT.out) 0).trans rfl
  have t1 : wS.cell? ⟨tb, 1, none⟩ = some (.slice A1 (madeZ N).length c1) := (blk_cell ((HBT.out.block tb (by rw [hrb]; exact hlt)).trans HT.out) 1).trans rfl
  have HK3 := Aside0.mk ((HB3.out.block rb (blk_lt HK.out)).trans HK.out)
  have r0 : wS.cell? ⟨rb, 0, none⟩ = some (.int .u8 ((ci : Int) + 1)) := (blk_cell HK3.out 0).trans rfl
  have r1 : wS.cell? ⟨rb, 1, none⟩ = some (.slice (some ad2) (mdS N) cs) := (blk_cell HK3.out 1).trans rfl
  go_wp2_with fail
  have hpm := HPM.out zi (1 + (gi : Int)) hzi (by omega)
  rw [Int.add_comm (zi : Int) 1] at hpm
  obtain ⟨pr1, pr2, hpa⟩ : ∃ a b, stAns l (mdS N) ci zi (1 + (gi : Int)) = (a, b) := ⟨_, _, rfl⟩
  rw [hpa] at hpm
  have HPA := Aside0.mk hpa
  have HCU := Aside0.mk (Kd.C_below HCS.out HB3.out)
  refine (tariff_Price.calls 10 (some ad) c0 (madeR N l) A1 c1 (madeZ N) ((ci : Int) + 1) (1 + (zi : Int)) (1 + (gi : Int)) pr1 pr2 wS (Kd.C_below HR0.out HBT.out) HC0.out (Kd.C_below HR1.out HBT.out) HC1.out hpm).mono ?_
  rintro e wU ⟨rfl, hbU⟩
  replace HCU := Aside0.mk (Kd.C_below HCU.out hbU)
  have HKU := Aside0.mk ((hbU.block rb (blk_lt HK3.out)).trans HK3.out)
  have HWU := Aside0.mk ((HW.out.trans (HBT.out.mono HW.out.size)).trans (hbU.mono (Nat.le_trans HW.out.size HBT.out.size)))
  have r1 : wU.cell? ⟨rb, 1, none⟩ = some (.slice (some ad2) (mdS N) cs) := (blk_cell HKU.out 1).trans rfl
  clear hpm hpa t0 t1 r0 hbU
  go_wp2_with fail
  go_loopg [17, 59] (mdS N) (fun gg s17 s59 W => ∃ i : Nat, i ≤ mdS N ∧ mdS N - i ≤ gg ∧ s59 = .int .i64 i ∧ s17 = .int .i64 (bfI i) ∧ bfI i < 1 + (gi : Int) ∧ Aside0 (Below wU.heap.size wU W))
  case atStart => exact ⟨0, Nat.zero_le _, by omega, rfl, rfl, by show (0 : Int) < _; omega, ⟨Below.refl _ _⟩⟩
  case round =>
    obtain ⟨i, hi, hgi2, rfl, rfl, hbf, HBI⟩ := hrel
    by_cases hlti : i < mdS N
    · have hki : (i : Int) < (mdS N : Int) := by omega
      have hi0 : (0 : Int) ≤ (i : Int) := by omega
      obtain ⟨ad3, A3, c3, he3, s0, s1, hl3, hr3⟩ := at_T61 (Kd.C_below HCU.out HBI.out) (i : Int) (by omega) (by rw [HLN.out]; exact hki)
      cases he3
      have hxi : rd_T61 (mdRate l (mdZ N) (mdS N) (mdBar N) ci).f1 (i : Int) = mdStep l (mdZ N) ci i := by rw [HX.out]; exact steps_rd l (mdZ N) ci (mdS N) i hlti
      rw [hxi] at s0 s1 hr3
      rw [mdStep_len] at s1 hr3
      rw [Int.toNat_natCast] at s0 s1
      change wr.cell? (ad2.add (i * 2)) = some (.int .i64 (20 + 30 * (i : Int))) at s0
      have hba := below_alloc (Below.refl wr.heap.size wr) (.cells #[.int .i64 (20 + 30 * (i : Int)), .slice A3 (mdZ N) c3] 61 (0, 0))
      have hyb := heap_alloc_new wr (.cells #[.int .i64 (20 + 30 * (i : Int)), .slice A3 (mdZ N) c3] 61 (0, 0))
      have y0 := (blk_cell hyb 0).trans rfl
      have y1 := (blk_cell hyb 1).trans rfl
      obtain ⟨ad4, cs4, rfl, -, hk4, hcell4⟩ := Kd.C_get (Kd.C_below hr3 hba) 0 (zi : Int) (by omega) (by exact_mod_cast hzi)
      rw [Int.toNat_natCast] at hk4 hcell4
      have hcs4 : cs4 = [.int .i64 ((mdStep l (mdZ N) ci i).f1.getD zi 0)] := hk4
      subst hcs4
      have hy4 := hcell4 0 _ rfl
      have hsz : (Kd.int .i64).sz = 1 := rfl
      rw [hsz, Nat.mul_one, Nat.add_zero, show (mdStep l (mdZ N) ci i).f1.getD zi 0 = mdPrice l (17 * ci + 5 * i + zi) from by have h := cents_rd l (mdZ N) ci i zi hzi; unfold rd at h; rw [Int.toNat_natCast] at h; exact h] at hy4
      have HBN := Aside0.mk (HBI.out.trans (hba.mono HBI.out.size))
      clear hxi hl3 hr3 hba hyb hcell4 hk4 hsz
      by_cases hle : 1 + (gi : Int) ≤ 20 + 30 * (i : Int)
      · have hans := stAns_hit l (mdS N) ci zi i (1 + (gi : Int)) hlti (by omega) hbf hle
        rw [HPA.out] at hans
        injection hans with e1 e2
        subst e1 e2
        generalize mdPrice l (17 * ci + 5 * i + zi) = pp at *
        go_wp2_with fail
        go_ret
        exact ⟨rfl, HWU.out.trans (HBN.out.mono HWU.out.size)⟩
      · go_wp2_with fail
        go_roundg (mdS N - (i + 1))
        case measure => omega
        case rel => exact ⟨i + 1, by omega, Nat.le_refl _, by go_num, by rw [bfI_next], by rw [bfI_next]; omega, HBN⟩
    · have hki : ¬ (i : Int) < (mdS N : Int) := by omega
      have ei : i = mdS N := by omega
      rw [ei] at hbf
      have hans := stAns_none l (mdS N) ci zi (1 + (gi : Int)) (by omega) (by omega) hbf
      rw [HPA.out] at hans
      injection hans with e1 e2
      subst e1 e2
      rw [ei]
      go_wp2_with fail
      go_ret
      exact ⟨rfl, HWU.out.trans (HBI.out.mono HWU.out.size)⟩
end Go.Proofs.YtfglcfbcdhjcdaaDoor.Q

namespace Go.Proofs.YtfglcfbcdhjcdaaDoor.Q
open Go.RowKit Go.Proofs.YtfglcfbcdhjcdaaDoorW.PrintWords Go.Proofs.YtfglcfbcdhjcdaaDoorW.PrintLast Go.Proofs.YtfglcfbcdhjcdaaDoorW.PrintMore
theorem wf_u8 {x : Int} (h : (Lit.int .u8 x).wf = true) : 0 ≤ x ∧ x ≤ 255 := by
  simp [Lit.wf, IntKind.min, IntKind.max, IntKind.bits, IntKind.signed] at h
  omega
theorem wf_u32 {x : Int} (h : (Lit.int .u32 x).wf = true) : 0 ≤ x ∧ x < 4294967296 := by
  simp [Lit.wf, IntKind.min, IntKind.max, IntKind.bits, IntKind.signed] at h
  omega
theorem fits_wf {l : List Int} (h : ∀ x ∈ l, (Lit.int .u8 x).wf = true) : mdFits l = true := by
  unfold mdFits
  rw [List.all_eq_true]
  intro x hx
  have := wf_u8 (h x hx)
  simp only [Bool.and_eq_true, decide_eq_true_eq]
  exact this
theorem tariffSteps.walk (n : Int) (hn : (Lit.int .u32 n).wf = true) (a1 : Option Addr) (len1 cap1 : Nat) (z1 : List Int) (cl z g : Int) (hcl : (Lit.int .u8 cl).wf = true) (w : World)
    (w1 : (a1 = none ∧ len1 = 0 ∧ cap1 = 0 ∧ z1 = []) ∨ ∃ x, a1 = some x ∧ len1 ≤ cap1 ∧ cap1 ≤ maxLen ∧ z1.length = cap1 ∧ (∀ i, i < z1.length → w.cell? (x.add i) = some (.int .u8 (z1.getD i 0))) ∧ ∀ n ∈ z1, (Lit.int .u8 n).wf = true) :
    Calls Tryd.prog 5 #[.int .u32 n, .slice a1 len1 cap1, .int .u8 cl, .int .i64 z, .int .i64 g] w fun e w' => e = .returned (.bool true) ∧ Below w.heap.size w w' := by
  obtain ⟨l1, rfl, hr1, hm1, hw1, hc1⟩ := ReadsInt.ofRowC w1
  have h := wf_u32 hn
  have hN : (n.toNat : Int) = n := by omega
  have hh := steps.calls0 n.toNat (by omega) a1 cap1 l1 (fits_wf hw1) cl z g (wf_u8 hcl) w (Kd.C_of_reads (d := (0 : Int)) (h1 := fun _ => rfl) hr1) hc1
  rw [hN] at hh
  exact hh
end Go.Proofs.YtfglcfbcdhjcdaaDoor.Q
namespace Go.Proofs.YtfglcfbcdhjcdaaDoor.tariffSteps
open Go.ChangeShapes Go.WideShapes Go.ChangeAt Go.RowKit
set_option linter.unusedVariables false
theorem own : ownKnob Tryd.prog.godebug = none := by kernel_rfl
theorem laidOut : laidOutB Tryd.prog = true := by kernel_rfl
def IsRow (k : IntKind) (w : World) (a : Option Addr) (len cap : Nat) (zs : List Int) : Prop :=
  (a = none ∧ len = 0 ∧ cap = 0 ∧ zs = []) ∨
  ∃ x, a = some x ∧ len ≤ cap ∧ cap ≤ maxLen ∧ zs.length = cap ∧ (∀ i, i < zs.length → w.cell? (x.add i) = some (.int k (zs.getD i 0))) ∧ ∀ n ∈ zs, (Lit.int k n).wf = true
set_option maxRecDepth 100000 in
theorem contract (H : Type) (enc : TypeId × Value → H) (W : World) (base : Nat) (args : Array Value) (ds gs : List (DataW H)) (before : List MemPlace)
    (hval0 : ∀ (j : Nat) t v, Tryd.f5.params[j]? = some t → args[j]? = some v → Value.okWide Tryd.prog W .any base t v)
    (hW : DataW.Whole enc Tryd.prog Tryd.f5.params.toList Rows.tariffStepsSpec.vars false W args.toList ds gs before) :
    Calls Tryd.prog 5 args W fun e W' => ∃ v, e = .returned v ∧ Rows.tariffStepsSpec.post enc Tryd.prog Tryd.f5 false true false false W args v W' := by
  have hval : ∀ (j : Nat) t v, Tryd.f5.params[j]? = some t → args[j]? = some v → Value.okWide Tryd.prog W .any base t v := hval0
  have hW' := hW
  obtain ⟨p, q, hA0, hV, rfl, hfz, hnd⟩ := hW
  have hA : DataW.TrodAll enc Tryd.prog W 0 (fun _ => true) true Tryd.f5.params.toList args.toList ds p := hA0
  rw [Tryd.params5] at hA hval
  obtain ⟨v0, vs0, d0, ds0, p0, q0, hargs, rfl, rfl, h0, r0⟩ := trodAll_cons hA
  obtain ⟨v1, vs1, d1, ds1, p1, q1, rfl, rfl, rfl, h1, r1⟩ := trodAll_cons r0
  obtain ⟨v2, vs2, d2, ds2, p2, q2, rfl, rfl, rfl, h2, r2⟩ := trodAll_cons r1
  obtain ⟨v3, vs3, d3, ds3, p3, q3, rfl, rfl, rfl, h3, r3⟩ := trodAll_cons r2
  obtain ⟨v4, vs4, d4, ds4, p4, q4, rfl, rfl, rfl, h4, r4⟩ := trodAll_cons r3
  obtain ⟨rfl, rfl, rfl⟩ := trodAll_nil r4
  obtain rfl : args = #[v0, v1, v2, v3, v4] := by cases args; simp_all
  obtain ⟨rfl, rfl⟩ := trodVars_none hV
  have k0 := h0
  have k1 := h1
  have k2 := h2
  have k3 := h3
  have k4 := h4
  have lt1 : ∀ x ∈ p1, x.block < W.heap.size := by obtain ⟨m, hm⟩ := k1; exact DataW.trod_lt m _ _ _ hm
  obtain ⟨n0, rfl, rfl, rfl, hw0⟩ := open_int Tryd.underlying28 (hval 0 28 v0 rfl rfl) h0
  obtain ⟨a1, len1, cap1, rfl⟩ := okWide_slice Tryd.underlying29 (hval 1 29 v1 rfl rfl)
  obtain ⟨n2, rfl, rfl, rfl, hw2⟩ := open_int Tryd.underlying5 (hval 2 5 v2 rfl rfl) h2
  obtain ⟨n3, rfl, rfl, rfl, hw3⟩ := open_int Tryd.underlying3 (hval 3 3 v3 rfl rfl) h3
  obtain ⟨n4, rfl, rfl, rfl, hw4⟩ := open_int Tryd.underlying3 (hval 4 3 v4 rfl rfl) h4
  obtain ⟨z1, w1⟩ : ∃ zs, IsRow .u8 W a1 len1 cap1 zs := by
    obtain ⟨fuel, hf⟩ := h1
    rcases open_ints Tryd.underlying29 Tryd.underlying5 (by kernel_rfl) hf with ⟨hcs, _⟩ | ⟨x, l, c, zs, hcs, _, hl, hm, hz, _, hcell, hwz⟩
    · simp [Value.cells] at hcs
      obtain ⟨rfl, rfl, rfl⟩ := hcs
      exact ⟨[], .inl ⟨rfl, rfl, rfl, rfl⟩⟩
    · simp [Value.cells] at hcs
      obtain ⟨rfl, rfl, rfl⟩ := hcs
      exact ⟨zs, .inr ⟨_, rfl, hl, hm, by simpa using hz, hcell, hwz⟩⟩
  clear hA0 hval0
  refine (Q.tariffSteps.walk n0 hw0 a1 len1 cap1 z1 n2 n3 n4 hw2 W w1).mono fun e W' ⟨he, bel⟩ => ?_
  subst he
  exact ⟨_, rfl, _, _, _, [], _, [], hW', trodAll_mk1 (shut_bool Tryd.underlying4 _), (trodAll_cons_mk (shut_int Tryd.underlying28 hw0) (trodAll_cons_mk (Below.trod laidOut (by kernel_rfl) (of_decide_eq_true (by kernel_rfl)) k1 bel lt1) (trodAll_cons_mk (shut_int Tryd.underlying5 hw2) (trodAll_cons_mk (shut_int Tryd.underlying3 hw3) (trodAll_cons_mk (shut_int Tryd.underlying3 hw4) trodAll_mk0))))), rfl, bel.frame _, fun h => by cases h⟩
def putBytes (l : List Nat) : Obj → Obj
  | .cells _ t frozen => .cells (l.map fun (n : Nat) => Value.int .u8 n).toArray t frozen
  | o => o
noncomputable def laidWorld (os : Os) : World :=
  { World.holding Tryd.prog os ⟨#[], #[], []⟩ with heap := ((World.holding Tryd.prog os ⟨#[], #[], []⟩).heap.modify 0 (putBytes Go.Pinned.utf8FirstZ)).modify 1 (putBytes [128, 191, 160, 191, 128, 159, 144, 191, 128, 143, 0, 0, 0, 0, 0, 0, 0, 0, 0, 0, 0, 0, 0, 0, 0, 0, 0, 0, 0, 0, 0, 0]) }
noncomputable def wargs : Array Value := #[.int .u32 0, .slice none 0 0, .int .u8 0, .int .i64 0, .int .i64 0]
theorem laid_met (os : Os) : laidMet Tryd.prog Rows.tariffStepsRow.laid ((laidWorld os).forCall (fun _ _ => 0) ⟨#[], wargs, []⟩).memory :=
  laidMet_of_run' 8 (by kernel_rfl) (by kernel_rfl)
theorem reads (os : Os) {H : Type} (enc : TypeId × Value → H) : ∃ places, DataW.whole enc Tryd.prog ((laidWorld os).forCall (fun _ _ => 0) ⟨#[], wargs, []⟩).memory Tryd.f5.params.toList Rows.tariffStepsSpec.vars false wargs.toList 8 = some ([.lit (.int .u32 0), .nil, .lit (.int .u8 0), .lit (.int .i64 0), .lit (.int .i64 0)], [], places) :=
  ⟨[], by kernel_rfl⟩
set_option maxRecDepth 100000 in
theorem lifted (os : Os) (started : os.Started) (H : Type) (enc : TypeId × Value → H) (F : Stop.Interp) :
    ReturnsInHanded {} Tryd.checked os 5 .any ((OpenSpec.ofChange Rows.tariffStepsSpec).preRow enc Tryd.prog Tryd.f5 Rows.tariffStepsRow.domain false Rows.tariffStepsRow.laid) (((OpenSpec.ofChange Rows.tariffStepsSpec).at F).post enc Tryd.prog Tryd.f5 false true false false) := by
  obtain ⟨places, hx⟩ := reads os enc
  refine returnsInHanded_of_row (C := Tryd.checked) (s := OpenSpec.ofChange Rows.tariffStepsSpec) own started (by kernel_rfl) Tryd.func5
    (witness_row_at (enc := enc) (C := Tryd.checked) false (laidWorld os) wargs rfl (by kernel_rfl) (by kernel_rfl) (by kernel_rfl)
      (OpenSpec.preRow_of_cond 8 hx (by kernel_rfl) (fun k hk => by cases hk) (by kernel_rfl) (laid_met os))) ?_
  intro W base args ds gs before hval hW _ _ _ hL _ _
  exact contract H enc W base args ds gs before hval hW
theorem said : Rows.TariffStepsSaid :=
  OpenClaim.holds_of_cond 5 Tryd.f5 rfl rfl rfl rfl rfl rfl rfl ⟨rfl, rfl, rfl, rfl, rfl⟩ rfl rfl rfl rfl rfl (by kernel_rfl) Tryd.func5 (by kernel_rfl)
    (of_decide_eq_true (by kernel_rfl)) (by unfold Func.isWrapper; first | (rw [if_pos (by decide +kernel)]; kernel_rfl) | (rw [if_neg (by decide +kernel)]; exact ⟨rfl, rfl⟩))
    (fun os started H enc _ F => by rw [OpenClaim.pre_eq_preRow]; exact lifted os started H enc F)
theorem plain (f : FuncId) (fn : Func) (hf : Tryd.pinned.checked.prog.funcNamed "letterbag/letterbaglaw24.TariffSteps" = some f) (hfn : Tryd.pinned.checked.prog.funcs[f]? = some fn) :
    false = Tryd.pinned.checked.prog.looks [] ∧ ∀ (j : Nat) t, fn.params[j]? = some t → Tryd.pinned.checked.prog.wantsStandIn t = false := by
  obtain rfl : f = 5 := Option.some.inj ((show Tryd.prog.funcNamed "letterbag/letterbaglaw24.TariffSteps" = some 5 by kernel_rfl).symm.trans hf) |>.symm
  obtain rfl : fn = Tryd.f5 := (Option.some.inj (Tryd.func5.symm.trans hfn)).symm
  refine ⟨by kernel_rfl, fun j t ht => ?_⟩
  rw [Tryd.params5] at ht
  have hm : t ∈ [28, 29, 5, 3, 3] := by simpa using Array.mem_of_getElem? ht
  have hall : ([28, 29, 5, 3, 3].all fun u => !Tryd.prog.wantsStandIn u) = true := by kernel_rfl
  exact (show Tryd.prog.wantsStandIn t = false by simpa using List.all_eq_true.1 hall t hm)
theorem card : Rows.TariffStepsCardSaid :=
  Claim7.holds_tied_plain_at .later [] _ _ _ _ said (fun _ h => by cases h) (by kernel_rfl) (fun _ h => by cases h) tariffSteps_row_tie rfl ⟨rfl, rfl⟩ (by kernel_rfl) rfl plain (by kernel_rfl)
#print axioms card
end Go.Proofs.YtfglcfbcdhjcdaaDoor.tariffSteps
namespace Go.Proofs.YtfglcfbcdhjcdaaDoor
theorem tariffSteps_card : Rows.TariffStepsCardSaid := tariffSteps.card
end Go.Proofs.YtfglcfbcdhjcdaaDoor
