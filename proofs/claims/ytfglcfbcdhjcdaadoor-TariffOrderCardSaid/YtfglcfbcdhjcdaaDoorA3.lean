/- A part of the proof of a law of the chapter (lemmas and walks of functions). Conditions: none but those of the statement. -/
import Derived.Test.YtfglcfbcdhjcdaaDoorA0
import Derived.Test.YtfglcfbcdhjcdaaDoorA1
import Derived.Test.YtfglcfbcdhjcdaaDoorA2
namespace Go.Proofs.YtfglcfbcdhjcdaaDoor.Q
open Go.RowKit Go.Proofs.YtfglcfbcdhjcdaaDoorW.PrintWords Go.Proofs.YtfglcfbcdhjcdaaDoorW.PrintLast Go.Proofs.YtfglcfbcdhjcdaaDoorW.PrintMore
set_option linter.unusedVariables false
set_option linter.unusedSimpArgs false
set_option maxHeartbeats 8000000 in
set_option maxRecDepth 100000 in
theorem scheme_right.calls0 (L : List Lv) (A : Option Addr) (c : Nat) (w : World) (hr : Kd.C k54 w A L.length L) (hf : ∀ x ∈ L, LevelFits x) :
  Calls Tryd.prog 47 #[.slice A L.length c] w fun e w' => e = .returned (.bool (rightB L)) ∧ Below w.heap.size w w' := by
 have hmm := @run_makeMap Tryd.prog
 have HR := Aside0.mk hr
 have HF := Aside0.mk hf
 clear hr hf
 generalize hn : L.length = n at *
 have HN := Aside0.mk hn
 clear hn
 by_cases n1 : n < 1
 ·have HX : Aside0 (rightB L = false) := ⟨by unfold rightB; rw [HN.out, decide_eq_false (by omega)]; rfl⟩
  have n1i : (n : Int) < 1 := by omega
  go_enter Tryd.func47, Tryd.ntmps47
  go_wp2_with fail
  go_ret
  exact ⟨by rw [HX.out]; rfl, Below.refl _ _⟩
 by_cases n2 : 6 < n
 ·have HX : Aside0 (rightB L = false) := ⟨by unfold rightB; rw [HN.out, decide_eq_false (show ¬ n ≤ 6 by omega), Bool.false_and, Bool.and_false]⟩
  have n1i : ¬ (n : Int) < 1 := by omega
  have n2i : (6 : Int) < n := by omega
  go_enter Tryd.func47, Tryd.ntmps47
  go_wp2_with fail
  go_ret
  exact ⟨by rw [HX.out]; rfl, Below.refl _ _⟩
 have HX : Aside0 (rightB L = (rightGo L 0 0 L && nestsB L)) := ⟨by unfold rightB; rw [HN.out, decide_eq_true (show 1 ≤ n by omega), decide_eq_true (show n ≤ 6 by omega), Bool.true_and, Bool.true_and]⟩
 have n1i : ¬ (n : Int) < 1 := by omega
 have n2i : ¬ (6 : Int) < n := by omega
 go_enter Tryd.func47, Tryd.ntmps47
 go_wp2_with fail
 have hk6 : n ≤ 6 := by omega
 have h1n : 1 ≤ n := by omega
 clear n1i n2i n1 n2
 go_loopg [3, 19] n (fun gg s3 s19 wr => ∃ (k : Nat) (t : Int), k ≤ n ∧ n - k ≤ gg ∧ s3 = .int .i64 t ∧ s19 = .int .i64 k ∧ 0 ≤ t ∧ t ≤ 200 ∧ Aside0 (Below w.heap.size w wr) ∧ Aside0 (MapInt keyS 3 wr w.heap.size k (nameMap L k)) ∧ Aside0 (rightGo L k t (L.drop k) = rightGo L 0 0 L))
 case atStart => exact ⟨0, 0, Nat.zero_le _, by omega, rfl, rfl, by omega, by omega, ⟨(Below.refl _ _).alloc (Nat.le_refl _) _⟩, ⟨MapInt.made keyS 3 w⟩, ⟨rfl⟩⟩
 case round =>
  obtain ⟨k, t, hk, hg, rfl, rfl, ht0, ht1, BW, HM, HA⟩ := hrel
  by_cases hlt : k < n
  ·obtain ⟨hd, hx⟩ := rd_drop L k (by have := HN.out; omega)
   have hfx := HF.out _ hx
   have HNX := Aside0.mk (fun y (hy : (rd_T54 L (k : Int)).f0 = y) => nameMap_next L k (by have := HN.out; omega) y hy)
   have HS : Aside0 (rightGo L k t (L.drop k) = rightGo L k t (rd_T54 L (k : Int) :: L.drop (k + 1))) := ⟨by rw [← hd]⟩
   obtain ⟨ad, A2, c2, rfl, hc0, hc1, hc2, hc3, hc4, l2, g2⟩ := at_T54 HR.out (k : Int) (by omega) (by omega)
   simp only [Int.toNat_natCast] at hc0 hc1 hc2 hc3 hc4
   have lp := World.block_lt_of_cell? w _ hc0
   have hc0 := (BW.out.cell lp).trans hc0
   have hc1 := (BW.out.cell (p := ⟨(ad.add (k * 5)).block, (ad.add (k * 5)).off + 1, none⟩) lp).trans hc1
   have hc2 := (BW.out.cell (p := ⟨(ad.add (k * 5)).block, (ad.add (k * 5)).off + 2, none⟩) lp).trans hc2
   have hc3 := (BW.out.cell (p := ⟨(ad.add (k * 5)).block, (ad.add (k * 5)).off + 3, none⟩) lp).trans hc3
   have hc4 := (BW.out.cell (p := ⟨(ad.add (k * 5)).block, (ad.add (k * 5)).off + 4, none⟩) lp).trans hc4
   clear hd hx lp
   generalize hxe : rd_T54 L (k : Int) = x at *
   have HNX2 := Aside0.mk (HNX.out x.f0 rfl)
   clear hxe HNX
   have hs0 : x.f0.size ≤ 9223372036854775807 := hfx.nm
   have hl0 : x.f2.length ≤ 100000 := hfx.ll
   have HFX := Aside0.mk hfx
   have HG := Aside0.mk g2
   clear hfx g2
   generalize hn2 : x.f2.length = n2 at *
   have HN2 := Aside0.mk hn2
   clear hn2
   have hcl := nameCnt_le L k x.f0
   generalize hm : nameCnt L k x.f0 = m at *
   have HMC : Aside0 ((nameMap L k x.f0).getD 0 = (m : Int)) := ⟨by rw [nameMap_getD, hm]⟩
   have HA2 : Aside0 (rightGo L 0 0 L = (decide (t + n2 ≤ 200) && (decide (m = 0) && (aloneB x ((k : Int) == (n : Int) - 1) && rightGo L (k + 1) (t + n2) (L.drop (k + 1)))))) := ⟨by rw [← HA.out, HS.out]; show (decide (t + x.f2.length ≤ 200) && (decide (nameCnt L k x.f0 = 0) && (aloneB x ((k : Int) == (L.length : Int) - 1) && rightGo L (k + 1) (t + x.f2.length) (L.drop (k + 1))))) = _; rw [hm, HN2.out, HN.out]⟩
   have HMC2 : Aside0 ((nameMap L (k + 1) x.f0).getD 0 = (m : Int) + 1) := ⟨by rw [← HNX2.out]; simp⟩
   clear hm HS HA
   have y0 : (wr.alloc (.cells #[.string x.f0, .int .i64 x.f1, .slice A2 n2 c2, .int .i64 x.f3, .int .i64 x.f4] 54)).cell? ⟨wr.heap.size, 0, none⟩ = some (.string x.f0) := (blk_cell (heap_alloc_new _ _) 0).trans rfl
   have y2 : (wr.alloc (.cells #[.string x.f0, .int .i64 x.f1, .slice A2 n2 c2, .int .i64 x.f3, .int .i64 x.f4] 54)).cell? ⟨wr.heap.size, 2, none⟩ = some (.slice A2 n2 c2) := (blk_cell (heap_alloc_new _ _) 2).trans rfl
   have y1 : (wr.alloc (.cells #[.string x.f0, .int .i64 x.f1, .slice A2 n2 c2, .int .i64 x.f3, .int .i64 x.f4] 54)).cell? ⟨wr.heap.size, 1, none⟩ = some (.int .i64 x.f1) := (blk_cell (heap_alloc_new _ _) 1).trans rfl
   have y3 : (wr.alloc (.cells #[.string x.f0, .int .i64 x.f1, .slice A2 n2 c2, .int .i64 x.f3, .int .i64 x.f4] 54)).cell? ⟨wr.heap.size, 3, none⟩ = some (.int .i64 x.f3) := (blk_cell (heap_alloc_new _ _) 3).trans rfl
   have y4 : (wr.alloc (.cells #[.string x.f0, .int .i64 x.f1, .slice A2 n2 c2, .int .i64 x.f3, .int .i64 x.f4] 54)).cell? ⟨wr.heap.size, 4, none⟩ = some (.int .i64 x.f4) := (blk_cell (heap_alloc_new _ _) 4).trans rfl
   have HBK : Aside0 ((wr.alloc (.cells #[.string x.f0, .int .i64 x.f1, .slice A2 n2 c2, .int .i64 x.f3, .int .i64 x.f4] 54)).heap[wr.heap.size]? = some (.cells #[.string x.f0, .int .i64 x.f1, .slice A2 n2 c2, .int .i64 x.f3, .int .i64 x.f4] 54 (0, 0))) := ⟨heap_alloc_new _ _⟩
   have HY := Aside0.mk (below_alloc (Below.refl wr.heap.size wr) (.cells #[.string x.f0, .int .i64 x.f1, .slice A2 n2 c2, .int .i64 x.f3, .int .i64 x.f4] 54))
   have HMW := Aside0.mk (HM.out.below HY.out)
   have HBW := Aside0.mk (BW.out.trans (HY.out.mono BW.out.size))
   have lm := HM.out.lt
   by_cases q1 : 200 < t + (n2 : Int)
   ·have HE : Aside0 (rightB L = false) := ⟨by rw [HX.out, HA2.out, decide_eq_false (show ¬ t + (n2 : Int) ≤ 200 by omega)]; rfl⟩
    go_wp2_with (first | (at_lookup; refine wpList_lookup_int rfl _ _ 113 rfl Tryd.underlying113 Tryd.underlying3 zeroInt _ _ _ rfl HMW.out x.f0 (by show x.f0.size ≤ 9223372036854775807; omega) rfl ?_; simp only [HMC.out]) | (at_mapUpdate; go_loud (refine wpList_update_int rfl _ _ _ 113 rfl Tryd.underlying113 Tryd.underlying3 _ _ _ rfl HMW.out (by omega) x.f0 (by show x.f0.size ≤ 9223372036854775807; omega) ((m : Int) + 1) (by omega) (by omega) rfl rfl ?_); go_loud (intro w2 hmp2 hg2); go_loud (have z0 := hg2.cell y0 (by simp; omega)); go_loud (rw [HNX2.out] at hmp2); have HM2 := Aside0.mk hmp2; have HG2 := Aside0.mk hg2; clear hmp2 hg2))
    go_ret
    exact ⟨by rw [HE.out]; rfl, pw_below_grown HBW.out (some w.heap.size) (by have := HY.out.size; omega) HG2.out (fun k h => by injection h with h; omega)⟩
   have q1 : t + (n2 : Int) ≤ 200 := by omega
   by_cases q2 : m = 0
   case neg =>
    have HE : Aside0 (rightB L = false) := ⟨by rw [HX.out, HA2.out, decide_eq_false q2, Bool.false_and, Bool.and_false, Bool.false_and]⟩
    have q2i : (1 : Int) < (m : Int) + 1 := by omega
    go_wp2_with (first | (at_lookup; refine wpList_unguard (by rfl) ?_; refine wpList_lookup_int rfl _ _ 113 rfl Tryd.underlying113 Tryd.underlying3 zeroInt _ _ _ rfl HM2.out x.f0 (by show x.f0.size ≤ 9223372036854775807; omega) rfl ?_; simp only [HMC2.out]) | (at_lookup; refine wpList_lookup_int rfl _ _ 113 rfl Tryd.underlying113 Tryd.underlying3 zeroInt _ _ _ rfl HMW.out x.f0 (by show x.f0.size ≤ 9223372036854775807; omega) rfl ?_; simp only [HMC.out]) | (at_mapUpdate; go_loud (refine wpList_update_int rfl _ _ _ 113 rfl Tryd.underlying113 Tryd.underlying3 _ _ _ rfl HMW.out (by omega) x.f0 (by show x.f0.size ≤ 9223372036854775807; omega) ((m : Int) + 1) (by omega) (by omega) rfl rfl ?_); go_loud (intro w2 hmp2 hg2); go_loud (have z0 := hg2.cell y0 (by simp; omega)); go_loud (rw [HNX2.out] at hmp2); have HM2 := Aside0.mk hmp2; have HG2 := Aside0.mk hg2; clear hmp2 hg2))
    go_ret
    exact ⟨by rw [HE.out]; rfl, pw_below_grown HBW.out (some w.heap.size) (by have := HY.out.size; omega) HG2.out (fun k h => by injection h with h; omega)⟩
   case pos =>
    have q2i : ¬ (1 : Int) < (m : Int) + 1 := by omega
    have HQ2 := Aside0.mk q2
    have hal := fun W (hC : Kd.C k90 W A2 n2 x.f2) => scheme_alone.calls0 x A2 c2 ((k : Int) == (n : Int) - 1) W (by rw [HN2.out]; exact hC) HFX.out
    simp only [HN2.out] at hal
    have HE2 : Aside0 (rightGo L 0 0 L = (aloneB x ((k : Int) == (n : Int) - 1) && rightGo L (k + 1) (t + n2) (L.drop (k + 1)))) := ⟨by rw [HA2.out, decide_eq_true q1, decide_eq_true q2]; rfl⟩
    clear q2
    generalize aloneB x ((k : Int) == (n : Int) - 1) = b at *
    cases b with
    | false =>
     have HE : Aside0 (rightB L = false) := ⟨by rw [HX.out, HE2.out]; rfl⟩
     go_wp2_with (first | (go_at_call 69; go_loud (refine (hal w2 (Kd.C_below HG.out HB2.out)).mono ?_); rintro e w3 ⟨rfl, hb3⟩; have HB3 := Aside0.mk hb3; clear hb3) | (at_lookup; refine wpList_unguard (by rfl) ?_; refine wpList_lookup_int rfl _ _ 113 rfl Tryd.underlying113 Tryd.underlying3 zeroInt _ _ _ rfl HM2.out x.f0 (by show x.f0.size ≤ 9223372036854775807; omega) rfl ?_; simp only [HMC2.out]) | (at_lookup; refine wpList_lookup_int rfl _ _ 113 rfl Tryd.underlying113 Tryd.underlying3 zeroInt _ _ _ rfl HMW.out x.f0 (by show x.f0.size ≤ 9223372036854775807; omega) rfl ?_; simp only [HMC.out]) | (at_mapUpdate; go_loud (refine wpList_update_int rfl _ _ _ 113 rfl Tryd.underlying113 Tryd.underlying3 _ _ _ rfl HMW.out (by omega) x.f0 (by show x.f0.size ≤ 9223372036854775807; omega) ((m : Int) + 1) (by omega) (by omega) rfl rfl ?_); go_loud (intro w2 hmp2 hg2); go_loud (have z0 := hg2.cell y0 (by simp; omega)); go_loud (have z1 := hg2.cell y1 (by simp; omega)); go_loud (have z2 := hg2.cell y2 (by simp; omega)); go_loud (have z3 := hg2.cell y3 (by simp; omega)); go_loud (have z4 := hg2.cell y4 (by simp; omega)); have HB2 := Aside0.mk (pw_below_grown HBW.out (some w.heap.size) (by have := HY.out.size; omega) hg2 (fun k h => by injection h with h; omega)); go_loud (rw [HNX2.out] at hmp2); have HM2 := Aside0.mk hmp2; have HG2 := Aside0.mk hg2; clear hmp2 hg2))
     go_ret
     exact ⟨by rw [HE.out]; rfl, HB2.out.trans (HB3.out.mono HB2.out.size)⟩
    | true =>
     go_wp2_with (first | (go_at_call 69; go_loud (refine (hal w2 (Kd.C_below HG.out HB2.out)).mono ?_); rintro e w3 ⟨rfl, hb3⟩; have HB3 := Aside0.mk hb3; clear hb3) | (at_lookup; refine wpList_unguard (by rfl) ?_; refine wpList_lookup_int rfl _ _ 113 rfl Tryd.underlying113 Tryd.underlying3 zeroInt _ _ _ rfl HM2.out x.f0 (by show x.f0.size ≤ 9223372036854775807; omega) rfl ?_; simp only [HMC2.out]) | (at_lookup; refine wpList_lookup_int rfl _ _ 113 rfl Tryd.underlying113 Tryd.underlying3 zeroInt _ _ _ rfl HMW.out x.f0 (by show x.f0.size ≤ 9223372036854775807; omega) rfl ?_; simp only [HMC.out]) | (at_mapUpdate; go_loud (refine wpList_update_int rfl _ _ _ 113 rfl Tryd.underlying113 Tryd.underlying3 _ _ _ rfl HMW.out (by omega) x.f0 (by show x.f0.size ≤ 9223372036854775807; omega) ((m : Int) + 1) (by omega) (by omega) rfl rfl ?_); go_loud (intro w2 hmp2 hg2); go_loud (have z0 := hg2.cell y0 (by simp; omega)); go_loud (have z1 := hg2.cell y1 (by simp; omega)); go_loud (have z2 := hg2.cell y2 (by simp; omega)); go_loud (have z3 := hg2.cell y3 (by simp; omega)); go_loud (have z4 := hg2.cell y4 (by simp; omega)); have HB2 := Aside0.mk (pw_below_grown HBW.out (some w.heap.size) (by have := HY.out.size; omega) hg2 (fun k h => by injection h with h; omega)); go_loud (rw [HNX2.out] at hmp2); have HM2 := Aside0.mk hmp2; have HG2 := Aside0.mk hg2; clear hmp2 hg2))
     go_roundg (n - (k + 1))
     case measure => omega
     case rel => exact ⟨k + 1, t + n2, by omega, Nat.le_refl _, by go_num, by go_num, by omega, by omega, ⟨HB2.out.trans (HB3.out.mono HB2.out.size)⟩, ⟨HM2.out.below HB3.out⟩, ⟨HE2.out.symm⟩⟩
  ·obtain rfl : n = k := by omega
   have HR1 : Aside0 (rightGo L 0 0 L = true) := ⟨by rw [← HA.out, List.drop_of_length_le (by have := HN.out; omega)]; rfl⟩
   clear HA HM ht0 ht1
   go_wp2_with fail
   have HN1 : Aside0 (nestsGo (rd_T54 L 0) (L.drop 1) = nestsB L) := ⟨(nestsB_at L (by have := HN.out; omega)).symm⟩
   go_loopg [7] n (fun gg s7 wr => ∃ j : Nat, j + 1 ≤ n ∧ n - (j + 1) ≤ gg ∧ s7 = .int .i64 ((j : Int) + 1) ∧ Aside0 (Below w.heap.size w wr) ∧ Aside0 (nestsGo (rd_T54 L (j : Int)) (L.drop (j + 1)) = nestsB L))
   case atStart => exact ⟨0, h1n, by omega, rfl, BW, HN1⟩
   case round =>
    obtain ⟨j, hj, hg2, rfl, BV, HA⟩ := hrel
    by_cases hlt2 : j + 1 < n
    ·obtain ⟨hd, hx⟩ := rd_drop L (j + 1) (by have := HN.out; omega)
     have HOK := Aside0.mk (nestOk_of L HR1.out j (by have := HN.out; omega))
     have HS : Aside0 (nestsB L = (decide ((rd_T54 L ((j + 1 : Nat) : Int)).f1 ≤ (rd_T54 L (j : Int)).f1) && (nestedB (rd_T54 L (j : Int)) (rd_T54 L ((j + 1 : Nat) : Int)) && nestsGo (rd_T54 L ((j + 1 : Nat) : Int)) (L.drop (j + 1 + 1))))) := ⟨by rw [← HA.out, hd]; rfl⟩
     obtain ⟨ad, A2, c2, rfl, p0, p1, p2, p3, p4, l2, g2⟩ := at_T54 HR.out (j : Int) (by omega) (by omega)
     obtain ⟨ad', A3, c3, e', x0, x1, x2, x3, x4, l3, g3⟩ := at_T54 HR.out ((j + 1 : Nat) : Int) (by omega) (by omega)
     injection e' with e'
     subst e'
     simp only [Int.toNat_natCast] at p0 p1 p2 p3 p4 x0 x1 x2 x3 x4
     have lp := World.block_lt_of_cell? w _ p0
     have lx := World.block_lt_of_cell? w _ x0
     have p0 := (BV.out.cell (p := (ad.add (j * 5))) lp).trans p0
     have p1 := (BV.out.cell (p := ⟨(ad.add (j * 5)).block, (ad.add (j * 5)).off + 1, none⟩) lp).trans p1
     have p2 := (BV.out.cell (p := ⟨(ad.add (j * 5)).block, (ad.add (j * 5)).off + 2, none⟩) lp).trans p2
     have p3 := (BV.out.cell (p := ⟨(ad.add (j * 5)).block, (ad.add (j * 5)).off + 3, none⟩) lp).trans p3
     have p4 := (BV.out.cell (p := ⟨(ad.add (j * 5)).block, (ad.add (j * 5)).off + 4, none⟩) lp).trans p4
     have x0 := (BV.out.cell (p := (ad.add ((j + 1) * 5))) lx).trans x0
     have x1 := (BV.out.cell (p := ⟨(ad.add ((j + 1) * 5)).block, (ad.add ((j + 1) * 5)).off + 1, none⟩) lx).trans x1
     have x2 := (BV.out.cell (p := ⟨(ad.add ((j + 1) * 5)).block, (ad.add ((j + 1) * 5)).off + 2, none⟩) lx).trans x2
     have x3 := (BV.out.cell (p := ⟨(ad.add ((j + 1) * 5)).block, (ad.add ((j + 1) * 5)).off + 3, none⟩) lx).trans x3
     have x4 := (BV.out.cell (p := ⟨(ad.add ((j + 1) * 5)).block, (ad.add ((j + 1) * 5)).off + 4, none⟩) lx).trans x4
     have lp := World.block_lt_of_cell? wr _ p0
     have lx := World.block_lt_of_cell? wr _ x0
     have HG2 := Aside0.mk g2
     have HG3 := Aside0.mk g3
     clear hd hx g2 g3 HA
     generalize hxe : rd_T54 L ((j + 1 : Nat) : Int) = x at *
     have HXE := Aside0.mk hxe
     clear hxe
     generalize rd_T54 L (j : Int) = p at *
     have tn1 : ((j : Int) + 1).toNat = j + 1 := by omega
     have hw1 : IntKind.i64.wrap ((j : Int) + 1 - 1) = (j : Int) := by rw [show (j : Int) + 1 - 1 = (j : Int) by omega]; exact wrap_i64_int (by omega) (by omega)
     have hw2 : IntKind.i64.wrap (j : Int) = (j : Int) := wrap_i64_int (by omega) (by omega)
     have i0 : (0 : Int) ≤ (j : Int) := by omega
     have i1 : (j : Int) < (n : Int) := by omega
     have i2 : (0 : Int) ≤ (j : Int) + 1 := by omega
     have i3 : (j : Int) + 1 < (n : Int) := by omega
     by_cases q1 : x.f1 ≤ p.f1
     case neg =>
      have q1i : p.f1 < x.f1 := by omega
      have HE : Aside0 (rightB L = false) := ⟨by rw [HX.out, HS.out, decide_eq_false q1, Bool.false_and, Bool.and_false]⟩
      clear q1
      go_wp2_with fail
      refine wp_region_held_drew (S := (fun w' => w'.cell? ⟨(ad.add (j * 5)).block, (ad.add (j * 5)).off + 1, none⟩ = some (.int .i64 p.f1) ∧ w'.cell? ⟨(ad.add ((j + 1) * 5)).block, (ad.add ((j + 1) * 5)).off + 1, none⟩ = some (.int .i64 x.f1))) (by kernel_rfl) ?_ (fun hHeld => ?_)
      ·((try dsimp only); go_keep)
      refine takeT 0 ?_ rfl (by kernel_rfl) (by kernel_rfl) (by kernel_rfl) (fun _ _ _ h => h) (by rfl) ?_ (by assumption) ?_
      rotate_left
      ·(intro w hSw; (try dsimp only at hSw); go_simp; (try with_reducible rfl))
      try simp only [Act.put, sl1, sl2, sl3]
      refine takeT 1 ?_ rfl (by kernel_rfl) (by kernel_rfl) (by kernel_rfl) (fun _ _ _ h => h) (by rfl) ?_ (by assumption) ?_
      rotate_left
      ·(intro w hSw; (try dsimp only at hSw); go_simp; (try with_reducible rfl))
      try simp only [Act.put, sl1, sl2, sl3]
      refine takeT 2 ?_ rfl (by kernel_rfl) (by kernel_rfl) (by kernel_rfl) (fun _ _ _ h => h) (by rfl) ?_ (by assumption) ?_
      rotate_left
      ·(intro w hSw; (try dsimp only at hSw); go_simp; (try with_reducible rfl))
      try simp only [Act.put, sl1, sl2, sl3]
      refine takeT 3 ?_ rfl (by kernel_rfl) (by kernel_rfl) (by kernel_rfl) (fun _ _ _ h => h) (by rfl) ?_ (by assumption) ?_
      rotate_left
      ·(intro w hSw; (try dsimp only at hSw); go_simp; (try with_reducible rfl))
      try simp only [Act.put, sl1, sl2, sl3]
      refine takeT 4 ?_ rfl (by kernel_rfl) (by kernel_rfl) (by kernel_rfl) (fun _ _ _ h => h) (by rfl) ?_ (by assumption) ?_
      rotate_left
      ·(intro w hSw; (try dsimp only at hSw); go_simp; (try with_reducible rfl))
      try simp only [Act.put, sl1, sl2, sl3]
      refine takeT 5 ?_ rfl (by kernel_rfl) (by kernel_rfl) (by kernel_rfl) (fun _ _ _ h => h) (by rfl) ?_ (by assumption) ?_
      rotate_left
      ·(intro w hSw; (try dsimp only at hSw); go_simp; (try with_reducible rfl))
      try simp only [Act.put, sl1, sl2, sl3]
      refine takeT 6 ?_ rfl (by kernel_rfl) (by kernel_rfl) (by kernel_rfl) (fun _ _ _ h => h) (by rfl) ?_ (by assumption) ?_
      rotate_left
      ·(intro w hSw; (try dsimp only at hSw); go_simp; (try with_reducible rfl))
      try simp only [Act.put, sl1, sl2, sl3]
      refine takeT 7 ?_ rfl (by kernel_rfl) (by kernel_rfl) (by kernel_rfl) (fun _ _ _ h => h) (by rfl) ?_ (by assumption) ?_
      rotate_left
      ·(intro w hSw; (try dsimp only at hSw); go_simp; (try with_reducible rfl))
      try simp only [Act.put, sl1, sl2, sl3]
      refine takeT 8 ?_ rfl (by kernel_rfl) (by kernel_rfl) (by kernel_rfl) (fun _ _ _ h => h) (by rfl) ?_ (by assumption) ?_
      rotate_left
      ·(intro w hSw; (try dsimp only at hSw); go_simp; (try with_reducible rfl))
      try simp only [Act.put, sl1, sl2, sl3]
      refine takeT 9 ?_ rfl (by kernel_rfl) (by kernel_rfl) (by kernel_rfl) (fun _ _ _ h => h) (by rfl) ?_ (by assumption) ?_
      rotate_left
      ·(intro w hSw; (try dsimp only at hSw); go_simp; (try with_reducible rfl))
      try simp only [Act.put, sl1, sl2, sl3]
      refine takeT 10 ?_ rfl (by kernel_rfl) (by kernel_rfl) (by kernel_rfl) (fun _ _ _ h => h) (by rfl) ?_ (by assumption) ?_
      rotate_left
      ·(intro w hSw; (try dsimp only at hSw); go_simp; (try with_reducible rfl))
      try simp only [Act.put, sl1, sl2, sl3]
      refine takeT 11 ?_ rfl (by kernel_rfl) (by kernel_rfl) (by kernel_rfl) (fun _ _ _ h => h) (by rfl) ?_ (by assumption) ?_
      rotate_left
      ·(intro w hSw; (try dsimp only at hSw); go_simp; (try with_reducible rfl))
      try simp only [Act.put, sl1, sl2, sl3]
      refine takeT 12 ?_ rfl (by kernel_rfl) (by kernel_rfl) (by kernel_rfl) (fun _ _ _ h => h) (by rfl) ?_ (by assumption) ?_
      rotate_left
      ·(intro w hSw; (try dsimp only at hSw); go_simp; (try with_reducible rfl))
      try simp only [Act.put, sl1, sl2, sl3]
      refine takeF 13 rfl (by kernel_rfl) (by kernel_rfl) (by kernel_rfl) (fun _ _ _ h => h) (by rfl) (by assumption) ?_
      try simp only [Act.put, sl1, sl2, sl3]
      refine takeF 14 rfl (by kernel_rfl) (by kernel_rfl) (by kernel_rfl) (fun _ _ _ h => h) (by rfl) (by assumption) ?_
      try simp only [Act.put, sl1, sl2, sl3]
      refine takeF 15 rfl (by kernel_rfl) (by kernel_rfl) (by kernel_rfl) (fun _ _ _ h => h) (by rfl) (by assumption) ?_
      try simp only [Act.put, sl1, sl2, sl3]
      refine takeF 16 rfl (by kernel_rfl) (by kernel_rfl) (by kernel_rfl) (fun _ _ _ h => h) (by rfl) (by assumption) ?_
      try simp only [Act.put, sl1, sl2, sl3]
      refine takeF 17 rfl (by kernel_rfl) (by kernel_rfl) (by kernel_rfl) (fun _ _ _ h => h) (by rfl) (by assumption) ?_
      try simp only [Act.put, sl1, sl2, sl3]
      refine takeF 18 rfl (by kernel_rfl) (by kernel_rfl) (by kernel_rfl) (fun _ _ _ h => h) (by rfl) (by assumption) ?_
      try simp only [Act.put, sl1, sl2, sl3]
      refine takeF 19 rfl (by kernel_rfl) (by kernel_rfl) (by kernel_rfl) (fun _ _ _ h => h) (by rfl) (by assumption) ?_
      try simp only [Act.put, sl1, sl2, sl3]
      refine takeF 20 rfl (by kernel_rfl) (by kernel_rfl) (by kernel_rfl) (fun _ _ _ h => h) (by rfl) (by assumption) ?_
      try simp only [Act.put, sl1, sl2, sl3]
      refine takeF 21 rfl (by kernel_rfl) (by kernel_rfl) (by kernel_rfl) (fun _ _ _ h => h) (by rfl) (by assumption) ?_
      try simp only [Act.put, sl1, sl2, sl3]
      refine takeF 22 rfl (by kernel_rfl) (by kernel_rfl) (by kernel_rfl) (fun _ _ _ h => h) (by rfl) (by assumption) ?_
      try simp only [Act.put, sl1, sl2, sl3]
      refine takeF 23 rfl (by kernel_rfl) (by kernel_rfl) (by kernel_rfl) (fun _ _ _ h => h) (by rfl) (by assumption) ?_
      try simp only [Act.put, sl1, sl2, sl3]
      refine takeT 24 ?_ rfl (by kernel_rfl) (by kernel_rfl) (by kernel_rfl) (fun _ _ _ h => h) (by rfl) ?_ (by assumption) ?_
      rotate_left
      ·(intro w hSw; (try dsimp only at hSw); go_simp; (try with_reducible rfl))
      try simp only [Act.put, sl1, sl2, sl3]
      refine wpAnyH_done (by kernel_rfl) ?_ _
      go_wp2
      go_ret
      exact ⟨by rw [HE.out]; rfl, below_drew BV.out⟩
     case pos =>
      have q1i : ¬ p.f1 < x.f1 := by omega
      have hne := fun W (hC : Kd.C k90 W A2 p.f2.length p.f2) (hD : Kd.C k90 W A3 x.f2.length x.f2) => scheme_nested.calls p x A2 c2 A3 c3 W hC hD (HOK.out q1)
      have HE2 : Aside0 (nestsB L = (nestedB p x && nestsGo x (L.drop (j + 1 + 1)))) := ⟨by rw [HS.out, decide_eq_true q1]; rfl⟩
      clear q1
      generalize nestedB p x = b at *
      cases b with
      | false =>
       have HE : Aside0 (rightB L = false) := ⟨by rw [HX.out, HE2.out, Bool.false_and, Bool.and_false]⟩
       go_wp2_with fail
       have q1i : ¬ p.f1 < x.f1 := by omega
       refine wp_region_held_drew (S := (fun w' => w'.cell? (ad.add (j * 5)) = some (.string p.f0) ∧ w'.cell? ⟨(ad.add (j * 5)).block, (ad.add (j * 5)).off + 1, none⟩ = some (.int .i64 p.f1) ∧ w'.cell? ⟨(ad.add (j * 5)).block, (ad.add (j * 5)).off + 2, none⟩ = some (.slice A2 p.f2.length c2) ∧ w'.cell? ⟨(ad.add (j * 5)).block, (ad.add (j * 5)).off + 3, none⟩ = some (.int .i64 p.f3) ∧ w'.cell? ⟨(ad.add (j * 5)).block, (ad.add (j * 5)).off + 4, none⟩ = some (.int .i64 p.f4) ∧ w'.cell? (ad.add ((j + 1) * 5)) = some (.string x.f0) ∧ w'.cell? ⟨(ad.add ((j + 1) * 5)).block, (ad.add ((j + 1) * 5)).off + 1, none⟩ = some (.int .i64 x.f1) ∧ w'.cell? ⟨(ad.add ((j + 1) * 5)).block, (ad.add ((j + 1) * 5)).off + 2, none⟩ = some (.slice A3 x.f2.length c3) ∧ w'.cell? ⟨(ad.add ((j + 1) * 5)).block, (ad.add ((j + 1) * 5)).off + 3, none⟩ = some (.int .i64 x.f3) ∧ w'.cell? ⟨(ad.add ((j + 1) * 5)).block, (ad.add ((j + 1) * 5)).off + 4, none⟩ = some (.int .i64 x.f4))) (by kernel_rfl) ?_ (fun hHeld => ?_)
       ·((try dsimp only); first | go_keep | exact ⟨(hbA.cell (p := (ad.add (j * 5))) lp).trans p0, (hbA.cell (p := ⟨(ad.add (j * 5)).block, (ad.add (j * 5)).off + 1, none⟩) lp).trans p1, (hbA.cell (p := ⟨(ad.add (j * 5)).block, (ad.add (j * 5)).off + 2, none⟩) lp).trans p2, (hbA.cell (p := ⟨(ad.add (j * 5)).block, (ad.add (j * 5)).off + 3, none⟩) lp).trans p3, (hbA.cell (p := ⟨(ad.add (j * 5)).block, (ad.add (j * 5)).off + 4, none⟩) lp).trans p4, (hbA.cell (p := (ad.add ((j + 1) * 5))) lx).trans x0, (hbA.cell (p := ⟨(ad.add ((j + 1) * 5)).block, (ad.add ((j + 1) * 5)).off + 1, none⟩) lx).trans x1, (hbA.cell (p := ⟨(ad.add ((j + 1) * 5)).block, (ad.add ((j + 1) * 5)).off + 2, none⟩) lx).trans x2, (hbA.cell (p := ⟨(ad.add ((j + 1) * 5)).block, (ad.add ((j + 1) * 5)).off + 3, none⟩) lx).trans x3, (hbA.cell (p := ⟨(ad.add ((j + 1) * 5)).block, (ad.add ((j + 1) * 5)).off + 4, none⟩) lx).trans x4⟩)
       refine takeT 0 ?_ rfl (by kernel_rfl) (by kernel_rfl) (by kernel_rfl) (fun _ _ _ h => h) (by rfl) ?_ (by assumption) ?_
       rotate_left
       ·(intro w hSw; (try dsimp only at hSw); go_simp; (try with_reducible rfl))
       try simp only [Act.put, sl1, sl2, sl3]
       refine takeT 1 ?_ rfl (by kernel_rfl) (by kernel_rfl) (by kernel_rfl) (fun _ _ _ h => h) (by rfl) ?_ (by assumption) ?_
       rotate_left
       ·(intro w hSw; (try dsimp only at hSw); go_simp; (try with_reducible rfl))
       try simp only [Act.put, sl1, sl2, sl3]
       refine takeT 2 ?_ rfl (by kernel_rfl) (by kernel_rfl) (by kernel_rfl) (fun _ _ _ h => h) (by rfl) ?_ (by assumption) ?_
       rotate_left
       ·(intro w hSw; (try dsimp only at hSw); go_simp; (try with_reducible rfl))
       try simp only [Act.put, sl1, sl2, sl3]
       refine takeT 3 ?_ rfl (by kernel_rfl) (by kernel_rfl) (by kernel_rfl) (fun _ _ _ h => h) (by rfl) ?_ (by assumption) ?_
       rotate_left
       ·(intro w hSw; (try dsimp only at hSw); go_simp; (try with_reducible rfl))
       try simp only [Act.put, sl1, sl2, sl3]
       refine takeT 4 ?_ rfl (by kernel_rfl) (by kernel_rfl) (by kernel_rfl) (fun _ _ _ h => h) (by rfl) ?_ (by assumption) ?_
       rotate_left
       ·(intro w hSw; (try dsimp only at hSw); go_simp; (try with_reducible rfl))
       try simp only [Act.put, sl1, sl2, sl3]
       refine takeT 5 ?_ rfl (by kernel_rfl) (by kernel_rfl) (by kernel_rfl) (fun _ _ _ h => h) (by rfl) ?_ (by assumption) ?_
       rotate_left
       ·(intro w hSw; (try dsimp only at hSw); go_simp; (try with_reducible rfl))
       try simp only [Act.put, sl1, sl2, sl3]
       refine takeT 6 ?_ rfl (by kernel_rfl) (by kernel_rfl) (by kernel_rfl) (fun _ _ _ h => h) (by rfl) ?_ (by assumption) ?_
       rotate_left
       ·(intro w hSw; (try dsimp only at hSw); go_simp; (try with_reducible rfl))
       try simp only [Act.put, sl1, sl2, sl3]
       refine takeT 7 ?_ rfl (by kernel_rfl) (by kernel_rfl) (by kernel_rfl) (fun _ _ _ h => h) (by rfl) ?_ (by assumption) ?_
       rotate_left
       ·(intro w hSw; (try dsimp only at hSw); go_simp; (try with_reducible rfl))
       try simp only [Act.put, sl1, sl2, sl3]
       refine takeT 8 ?_ rfl (by kernel_rfl) (by kernel_rfl) (by kernel_rfl) (fun _ _ _ h => h) (by rfl) ?_ (by assumption) ?_
       rotate_left
       ·(intro w hSw; (try dsimp only at hSw); go_simp; (try with_reducible rfl))
       try simp only [Act.put, sl1, sl2, sl3]
       refine takeT 9 ?_ rfl (by kernel_rfl) (by kernel_rfl) (by kernel_rfl) (fun _ _ _ h => h) (by rfl) ?_ (by assumption) ?_
       rotate_left
       ·(intro w hSw; (try dsimp only at hSw); go_simp; (try with_reducible rfl))
       try simp only [Act.put, sl1, sl2, sl3]
       refine takeT 10 ?_ rfl (by kernel_rfl) (by kernel_rfl) (by kernel_rfl) (fun _ _ _ h => h) (by rfl) ?_ (by assumption) ?_
       rotate_left
       ·(intro w hSw; (try dsimp only at hSw); go_simp; (try with_reducible rfl))
       try simp only [Act.put, sl1, sl2, sl3]
       refine takeT 11 ?_ rfl (by kernel_rfl) (by kernel_rfl) (by kernel_rfl) (fun _ _ _ h => h) (by rfl) ?_ (by assumption) ?_
       rotate_left
       ·(intro w hSw; (try dsimp only at hSw); go_simp; (try with_reducible rfl))
       try simp only [Act.put, sl1, sl2, sl3]
       refine takeT 12 ?_ rfl (by kernel_rfl) (by kernel_rfl) (by kernel_rfl) (fun _ _ _ h => h) (by rfl) ?_ (by assumption) ?_
       rotate_left
       ·(intro w hSw; (try dsimp only at hSw); go_simp; (try with_reducible rfl))
       try simp only [Act.put, sl1, sl2, sl3]
       refine takeT 13 ?_ rfl (by kernel_rfl) (by kernel_rfl) (by kernel_rfl) (fun _ _ _ h => h) (by rfl) ?_ (by assumption) ?_
       rotate_left
       ·(intro w hSw; (try dsimp only at hSw); go_simp; (try with_reducible rfl))
       try simp only [Act.put, sl1, sl2, sl3]
       refine takeT 14 ?_ rfl (by kernel_rfl) (by kernel_rfl) (by kernel_rfl) (fun _ _ _ h => h) (by rfl) ?_ (by assumption) ?_
       rotate_left
       ·(intro w hSw; (try dsimp only at hSw); go_simp; (try with_reducible rfl))
       try simp only [Act.put, sl1, sl2, sl3]
       refine takeT 15 ?_ rfl (by kernel_rfl) (by kernel_rfl) (by kernel_rfl) (fun _ _ _ h => h) (by rfl) ?_ (by assumption) ?_
       rotate_left
       ·(intro w hSw; (try dsimp only at hSw); go_simp; (try with_reducible rfl))
       try simp only [Act.put, sl1, sl2, sl3]
       refine takeT 16 ?_ rfl (by kernel_rfl) (by kernel_rfl) (by kernel_rfl) (fun _ _ _ h => h) (by rfl) ?_ (by assumption) ?_
       rotate_left
       ·(intro w hSw; (try dsimp only at hSw); go_simp; (try with_reducible rfl))
       try simp only [Act.put, sl1, sl2, sl3]
       refine takeT 17 ?_ rfl (by kernel_rfl) (by kernel_rfl) (by kernel_rfl) (fun _ _ _ h => h) (by rfl) ?_ (by assumption) ?_
       rotate_left
       ·(intro w hSw; (try dsimp only at hSw); go_simp; (try with_reducible rfl))
       try simp only [Act.put, sl1, sl2, sl3]
       refine takeT 18 ?_ rfl (by kernel_rfl) (by kernel_rfl) (by kernel_rfl) (fun _ _ _ h => h) (by rfl) ?_ (by assumption) ?_
       rotate_left
       ·(intro w hSw; (try dsimp only at hSw); go_simp; (try with_reducible rfl))
       try simp only [Act.put, sl1, sl2, sl3]
       refine takeT 19 ?_ rfl (by kernel_rfl) (by kernel_rfl) (by kernel_rfl) (fun _ _ _ h => h) (by rfl) ?_ (by assumption) ?_
       rotate_left
       ·(intro w hSw; (try dsimp only at hSw); go_simp; (try with_reducible rfl))
       try simp only [Act.put, sl1, sl2, sl3]
       refine takeT 20 ?_ rfl (by kernel_rfl) (by kernel_rfl) (by kernel_rfl) (fun _ _ _ h => h) (by rfl) ?_ (by assumption) ?_
       rotate_left
       ·(intro w hSw; (try dsimp only at hSw); go_simp; (try with_reducible rfl))
       try simp only [Act.put, sl1, sl2, sl3]
       refine takeT 21 ?_ rfl (by kernel_rfl) (by kernel_rfl) (by kernel_rfl) (fun _ _ _ h => h) (by rfl) ?_ (by assumption) ?_
       rotate_left
       ·(intro w hSw; (try dsimp only at hSw); go_simp; (try with_reducible rfl))
       try simp only [Act.put, sl1, sl2, sl3]
       refine takeC 22 rfl (by kernel_rfl) (by rfl) (fun K hK => ?_)
       go_simp
       (go_at_call 70; refine (hne wr.drew (Kd.C_below HG2.out (below_drew BV.out)) (Kd.C_below HG3.out (below_drew BV.out))).mono ?_; rintro e wA ⟨rfl, hbA'⟩; have hbA := (below_drew (Below.refl wr.heap.size wr)).trans hbA'; clear hbA')
       (try go_wp2_with fail)
       refine hK.out _ _ ?_ (fun hHeld => ?_)
       ·((try dsimp only); first | go_keep | exact ⟨(hbA.cell (p := (ad.add (j * 5))) lp).trans p0, (hbA.cell (p := ⟨(ad.add (j * 5)).block, (ad.add (j * 5)).off + 1, none⟩) lp).trans p1, (hbA.cell (p := ⟨(ad.add (j * 5)).block, (ad.add (j * 5)).off + 2, none⟩) lp).trans p2, (hbA.cell (p := ⟨(ad.add (j * 5)).block, (ad.add (j * 5)).off + 3, none⟩) lp).trans p3, (hbA.cell (p := ⟨(ad.add (j * 5)).block, (ad.add (j * 5)).off + 4, none⟩) lp).trans p4, (hbA.cell (p := (ad.add ((j + 1) * 5))) lx).trans x0, (hbA.cell (p := ⟨(ad.add ((j + 1) * 5)).block, (ad.add ((j + 1) * 5)).off + 1, none⟩) lx).trans x1, (hbA.cell (p := ⟨(ad.add ((j + 1) * 5)).block, (ad.add ((j + 1) * 5)).off + 2, none⟩) lx).trans x2, (hbA.cell (p := ⟨(ad.add ((j + 1) * 5)).block, (ad.add ((j + 1) * 5)).off + 3, none⟩) lx).trans x3, (hbA.cell (p := ⟨(ad.add ((j + 1) * 5)).block, (ad.add ((j + 1) * 5)).off + 4, none⟩) lx).trans x4⟩)
       clear hK K
       try simp only [Act.put, sl1, sl2, sl3]
       refine takeT 23 ?_ rfl (by kernel_rfl) (by kernel_rfl) (by kernel_rfl) (fun _ _ _ h => h) (by rfl) ?_ (by assumption) ?_
       rotate_left
       ·(intro w hSw; (try dsimp only at hSw); go_simp; (try with_reducible rfl))
       try simp only [Act.put, sl1, sl2, sl3]
       refine takeT 24 ?_ rfl (by kernel_rfl) (by kernel_rfl) (by kernel_rfl) (fun _ _ _ h => h) (by rfl) ?_ (by assumption) ?_
       rotate_left
       ·(intro w hSw; (try dsimp only at hSw); go_simp; (try with_reducible rfl))
       try simp only [Act.put, sl1, sl2, sl3]
       refine wpAnyH_done (by kernel_rfl) ?_ _
       go_wp2
       go_ret
       exact ⟨by rw [HE.out]; rfl, BV.out.trans (hbA.mono BV.out.size)⟩
      | true =>
       go_wp2_with fail
       have q1i : ¬ p.f1 < x.f1 := by omega
       refine wp_region_held_drew (S := (fun w' => w'.cell? (ad.add (j * 5)) = some (.string p.f0) ∧ w'.cell? ⟨(ad.add (j * 5)).block, (ad.add (j * 5)).off + 1, none⟩ = some (.int .i64 p.f1) ∧ w'.cell? ⟨(ad.add (j * 5)).block, (ad.add (j * 5)).off + 2, none⟩ = some (.slice A2 p.f2.length c2) ∧ w'.cell? ⟨(ad.add (j * 5)).block, (ad.add (j * 5)).off + 3, none⟩ = some (.int .i64 p.f3) ∧ w'.cell? ⟨(ad.add (j * 5)).block, (ad.add (j * 5)).off + 4, none⟩ = some (.int .i64 p.f4) ∧ w'.cell? (ad.add ((j + 1) * 5)) = some (.string x.f0) ∧ w'.cell? ⟨(ad.add ((j + 1) * 5)).block, (ad.add ((j + 1) * 5)).off + 1, none⟩ = some (.int .i64 x.f1) ∧ w'.cell? ⟨(ad.add ((j + 1) * 5)).block, (ad.add ((j + 1) * 5)).off + 2, none⟩ = some (.slice A3 x.f2.length c3) ∧ w'.cell? ⟨(ad.add ((j + 1) * 5)).block, (ad.add ((j + 1) * 5)).off + 3, none⟩ = some (.int .i64 x.f3) ∧ w'.cell? ⟨(ad.add ((j + 1) * 5)).block, (ad.add ((j + 1) * 5)).off + 4, none⟩ = some (.int .i64 x.f4))) (by kernel_rfl) ?_ (fun hHeld => ?_)
       ·((try dsimp only); first | go_keep | exact ⟨(hbA.cell (p := (ad.add (j * 5))) lp).trans p0, (hbA.cell (p := ⟨(ad.add (j * 5)).block, (ad.add (j * 5)).off + 1, none⟩) lp).trans p1, (hbA.cell (p := ⟨(ad.add (j * 5)).block, (ad.add (j * 5)).off + 2, none⟩) lp).trans p2, (hbA.cell (p := ⟨(ad.add (j * 5)).block, (ad.add (j * 5)).off + 3, none⟩) lp).trans p3, (hbA.cell (p := ⟨(ad.add (j * 5)).block, (ad.add (j * 5)).off + 4, none⟩) lp).trans p4, (hbA.cell (p := (ad.add ((j + 1) * 5))) lx).trans x0, (hbA.cell (p := ⟨(ad.add ((j + 1) * 5)).block, (ad.add ((j + 1) * 5)).off + 1, none⟩) lx).trans x1, (hbA.cell (p := ⟨(ad.add ((j + 1) * 5)).block, (ad.add ((j + 1) * 5)).off + 2, none⟩) lx).trans x2, (hbA.cell (p := ⟨(ad.add ((j + 1) * 5)).block, (ad.add ((j + 1) * 5)).off + 3, none⟩) lx).trans x3, (hbA.cell (p := ⟨(ad.add ((j + 1) * 5)).block, (ad.add ((j + 1) * 5)).off + 4, none⟩) lx).trans x4⟩)
       refine takeT 0 ?_ rfl (by kernel_rfl) (by kernel_rfl) (by kernel_rfl) (fun _ _ _ h => h) (by rfl) ?_ (by assumption) ?_
       rotate_left
       ·(intro w hSw; (try dsimp only at hSw); go_simp; (try with_reducible rfl))
       try simp only [Act.put, sl1, sl2, sl3]
       refine takeT 1 ?_ rfl (by kernel_rfl) (by kernel_rfl) (by kernel_rfl) (fun _ _ _ h => h) (by rfl) ?_ (by assumption) ?_
       rotate_left
       ·(intro w hSw; (try dsimp only at hSw); go_simp; (try with_reducible rfl))
       try simp only [Act.put, sl1, sl2, sl3]
       refine takeT 2 ?_ rfl (by kernel_rfl) (by kernel_rfl) (by kernel_rfl) (fun _ _ _ h => h) (by rfl) ?_ (by assumption) ?_
       rotate_left
       ·(intro w hSw; (try dsimp only at hSw); go_simp; (try with_reducible rfl))
       try simp only [Act.put, sl1, sl2, sl3]
       refine takeT 3 ?_ rfl (by kernel_rfl) (by kernel_rfl) (by kernel_rfl) (fun _ _ _ h => h) (by rfl) ?_ (by assumption) ?_
       rotate_left
       ·(intro w hSw; (try dsimp only at hSw); go_simp; (try with_reducible rfl))
       try simp only [Act.put, sl1, sl2, sl3]
       refine takeT 4 ?_ rfl (by kernel_rfl) (by kernel_rfl) (by kernel_rfl) (fun _ _ _ h => h) (by rfl) ?_ (by assumption) ?_
       rotate_left
       ·(intro w hSw; (try dsimp only at hSw); go_simp; (try with_reducible rfl))
       try simp only [Act.put, sl1, sl2, sl3]
       refine takeT 5 ?_ rfl (by kernel_rfl) (by kernel_rfl) (by kernel_rfl) (fun _ _ _ h => h) (by rfl) ?_ (by assumption) ?_
       rotate_left
       ·(intro w hSw; (try dsimp only at hSw); go_simp; (try with_reducible rfl))
       try simp only [Act.put, sl1, sl2, sl3]
       refine takeT 6 ?_ rfl (by kernel_rfl) (by kernel_rfl) (by kernel_rfl) (fun _ _ _ h => h) (by rfl) ?_ (by assumption) ?_
       rotate_left
       ·(intro w hSw; (try dsimp only at hSw); go_simp; (try with_reducible rfl))
       try simp only [Act.put, sl1, sl2, sl3]
       refine takeT 7 ?_ rfl (by kernel_rfl) (by kernel_rfl) (by kernel_rfl) (fun _ _ _ h => h) (by rfl) ?_ (by assumption) ?_
       rotate_left
       ·(intro w hSw; (try dsimp only at hSw); go_simp; (try with_reducible rfl))
       try simp only [Act.put, sl1, sl2, sl3]
       refine takeT 8 ?_ rfl (by kernel_rfl) (by kernel_rfl) (by kernel_rfl) (fun _ _ _ h => h) (by rfl) ?_ (by assumption) ?_
       rotate_left
       ·(intro w hSw; (try dsimp only at hSw); go_simp; (try with_reducible rfl))
       try simp only [Act.put, sl1, sl2, sl3]
       refine takeT 9 ?_ rfl (by kernel_rfl) (by kernel_rfl) (by kernel_rfl) (fun _ _ _ h => h) (by rfl) ?_ (by assumption) ?_
       rotate_left
       ·(intro w hSw; (try dsimp only at hSw); go_simp; (try with_reducible rfl))
       try simp only [Act.put, sl1, sl2, sl3]
       refine takeT 10 ?_ rfl (by kernel_rfl) (by kernel_rfl) (by kernel_rfl) (fun _ _ _ h => h) (by rfl) ?_ (by assumption) ?_
       rotate_left
       ·(intro w hSw; (try dsimp only at hSw); go_simp; (try with_reducible rfl))
       try simp only [Act.put, sl1, sl2, sl3]
       refine takeT 11 ?_ rfl (by kernel_rfl) (by kernel_rfl) (by kernel_rfl) (fun _ _ _ h => h) (by rfl) ?_ (by assumption) ?_
       rotate_left
       ·(intro w hSw; (try dsimp only at hSw); go_simp; (try with_reducible rfl))
       try simp only [Act.put, sl1, sl2, sl3]
       refine takeT 12 ?_ rfl (by kernel_rfl) (by kernel_rfl) (by kernel_rfl) (fun _ _ _ h => h) (by rfl) ?_ (by assumption) ?_
       rotate_left
       ·(intro w hSw; (try dsimp only at hSw); go_simp; (try with_reducible rfl))
       try simp only [Act.put, sl1, sl2, sl3]
       refine takeT 13 ?_ rfl (by kernel_rfl) (by kernel_rfl) (by kernel_rfl) (fun _ _ _ h => h) (by rfl) ?_ (by assumption) ?_
       rotate_left
       ·(intro w hSw; (try dsimp only at hSw); go_simp; (try with_reducible rfl))
       try simp only [Act.put, sl1, sl2, sl3]
       refine takeT 14 ?_ rfl (by kernel_rfl) (by kernel_rfl) (by kernel_rfl) (fun _ _ _ h => h) (by rfl) ?_ (by assumption) ?_
       rotate_left
       ·(intro w hSw; (try dsimp only at hSw); go_simp; (try with_reducible rfl))
       try simp only [Act.put, sl1, sl2, sl3]
       refine takeT 15 ?_ rfl (by kernel_rfl) (by kernel_rfl) (by kernel_rfl) (fun _ _ _ h => h) (by rfl) ?_ (by assumption) ?_
       rotate_left
       ·(intro w hSw; (try dsimp only at hSw); go_simp; (try with_reducible rfl))
       try simp only [Act.put, sl1, sl2, sl3]
       refine takeT 16 ?_ rfl (by kernel_rfl) (by kernel_rfl) (by kernel_rfl) (fun _ _ _ h => h) (by rfl) ?_ (by assumption) ?_
       rotate_left
       ·(intro w hSw; (try dsimp only at hSw); go_simp; (try with_reducible rfl))
       try simp only [Act.put, sl1, sl2, sl3]
       refine takeT 17 ?_ rfl (by kernel_rfl) (by kernel_rfl) (by kernel_rfl) (fun _ _ _ h => h) (by rfl) ?_ (by assumption) ?_
       rotate_left
       ·(intro w hSw; (try dsimp only at hSw); go_simp; (try with_reducible rfl))
       try simp only [Act.put, sl1, sl2, sl3]
       refine takeT 18 ?_ rfl (by kernel_rfl) (by kernel_rfl) (by kernel_rfl) (fun _ _ _ h => h) (by rfl) ?_ (by assumption) ?_
       rotate_left
       ·(intro w hSw; (try dsimp only at hSw); go_simp; (try with_reducible rfl))
       try simp only [Act.put, sl1, sl2, sl3]
       refine takeT 19 ?_ rfl (by kernel_rfl) (by kernel_rfl) (by kernel_rfl) (fun _ _ _ h => h) (by rfl) ?_ (by assumption) ?_
       rotate_left
       ·(intro w hSw; (try dsimp only at hSw); go_simp; (try with_reducible rfl))
       try simp only [Act.put, sl1, sl2, sl3]
       refine takeT 20 ?_ rfl (by kernel_rfl) (by kernel_rfl) (by kernel_rfl) (fun _ _ _ h => h) (by rfl) ?_ (by assumption) ?_
       rotate_left
       ·(intro w hSw; (try dsimp only at hSw); go_simp; (try with_reducible rfl))
       try simp only [Act.put, sl1, sl2, sl3]
       refine takeT 21 ?_ rfl (by kernel_rfl) (by kernel_rfl) (by kernel_rfl) (fun _ _ _ h => h) (by rfl) ?_ (by assumption) ?_
       rotate_left
       ·(intro w hSw; (try dsimp only at hSw); go_simp; (try with_reducible rfl))
       try simp only [Act.put, sl1, sl2, sl3]
       refine takeC 22 rfl (by kernel_rfl) (by rfl) (fun K hK => ?_)
       go_simp
       (go_at_call 70; refine (hne wr.drew (Kd.C_below HG2.out (below_drew BV.out)) (Kd.C_below HG3.out (below_drew BV.out))).mono ?_; rintro e wA ⟨rfl, hbA'⟩; have hbA := (below_drew (Below.refl wr.heap.size wr)).trans hbA'; clear hbA')
       (try go_wp2_with fail)
       refine hK.out _ _ ?_ (fun hHeld => ?_)
       ·((try dsimp only); first | go_keep | exact ⟨(hbA.cell (p := (ad.add (j * 5))) lp).trans p0, (hbA.cell (p := ⟨(ad.add (j * 5)).block, (ad.add (j * 5)).off + 1, none⟩) lp).trans p1, (hbA.cell (p := ⟨(ad.add (j * 5)).block, (ad.add (j * 5)).off + 2, none⟩) lp).trans p2, (hbA.cell (p := ⟨(ad.add (j * 5)).block, (ad.add (j * 5)).off + 3, none⟩) lp).trans p3, (hbA.cell (p := ⟨(ad.add (j * 5)).block, (ad.add (j * 5)).off + 4, none⟩) lp).trans p4, (hbA.cell (p := (ad.add ((j + 1) * 5))) lx).trans x0, (hbA.cell (p := ⟨(ad.add ((j + 1) * 5)).block, (ad.add ((j + 1) * 5)).off + 1, none⟩) lx).trans x1, (hbA.cell (p := ⟨(ad.add ((j + 1) * 5)).block, (ad.add ((j + 1) * 5)).off + 2, none⟩) lx).trans x2, (hbA.cell (p := ⟨(ad.add ((j + 1) * 5)).block, (ad.add ((j + 1) * 5)).off + 3, none⟩) lx).trans x3, (hbA.cell (p := ⟨(ad.add ((j + 1) * 5)).block, (ad.add ((j + 1) * 5)).off + 4, none⟩) lx).trans x4⟩)
       clear hK K
       try simp only [Act.put, sl1, sl2, sl3]
       refine takeT 23 ?_ rfl (by kernel_rfl) (by kernel_rfl) (by kernel_rfl) (fun _ _ _ h => h) (by rfl) ?_ (by assumption) ?_
       rotate_left
       ·(intro w hSw; (try dsimp only at hSw); go_simp; (try with_reducible rfl))
       try simp only [Act.put, sl1, sl2, sl3]
       refine takeT 24 ?_ rfl (by kernel_rfl) (by kernel_rfl) (by kernel_rfl) (fun _ _ _ h => h) (by rfl) ?_ (by assumption) ?_
       rotate_left
       ·(intro w hSw; (try dsimp only at hSw); go_simp; (try with_reducible rfl))
       try simp only [Act.put, sl1, sl2, sl3]
       refine wpAnyH_done (by kernel_rfl) ?_ _
       go_wp2
       go_roundg (n - (j + 1 + 1))
       case measure => omega
       case rel => exact ⟨j + 1, by omega, Nat.le_refl _, by go_num, ⟨BV.out.trans (hbA.mono BV.out.size)⟩, ⟨by rw [HXE.out]; exact HE2.out.symm⟩⟩
    ·obtain rfl : n = j + 1 := by omega
     have HE : Aside0 (rightB L = true) := ⟨by rw [HX.out, HR1.out, ← HA.out, List.drop_of_length_le (by have := HN.out; omega)]; rfl⟩
     go_wp2_with fail
     go_ret
     exact ⟨by rw [HE.out]; rfl, BV.out⟩
def fitB (s : ByteArray) : Bool := decide (s.size ≤ 9223372036854775807)
def levelFitsB (l : Lv) : Bool := fitB l.f0 && (decide (l.f2.length ≤ 100000) && l.f2.all (fun x => fitB x.f0 && fitB x.f1))
theorem levelFits_of {l : Lv} (h : levelFitsB l = true) : LevelFits l := by
 unfold levelFitsB fitB at h
 simp only [Bool.and_eq_true, decide_eq_true_eq, List.all_eq_true] at h
 exact ⟨h.1, h.2.1, fun x hx => (h.2.2 x hx).1, fun x hx => (h.2.2 x hx).2⟩
def scheme_Right.f (l0 : List Lv) : Option Bool := if l0.all levelFitsB then some (rightB l0) else none
theorem scheme_Right.calls (A0 : Option Addr) (c0 : Nat) (l0 : List (S54)) (r : Bool) (w : World) (hr0 : Kd.C k54 w A0 l0.length l0) (hc0 : l0.length ≤ c0) (h : scheme_Right.f l0 = some r) :
  Calls Tryd.prog 47 #[.slice A0 l0.length c0] w fun e w' => e = .returned (.bool r) ∧ Below w.heap.size w w' := by
 unfold scheme_Right.f at h
 split at h
 ·rename_i hf
  injection h with h
  subst h
  exact scheme_right.calls0 l0 A0 c0 w hr0 (fun x hx => levelFits_of (List.all_eq_true.1 hf x hx))
 ·cases h
end Go.Proofs.YtfglcfbcdhjcdaaDoor.Q

namespace Go.Proofs.YtfglcfbcdhjcdaaDoor.Q
open Go.RowKit Go.Proofs.YtfglcfbcdhjcdaaDoorW.PrintWords Go.Proofs.YtfglcfbcdhjcdaaDoorW.PrintLast Go.Proofs.YtfglcfbcdhjcdaaDoorW.PrintMore
attribute [local go_sem] max2_int min2_int max_two min_two max_three min_three max_four min_four
set_option linter.unusedVariables false
set_option linter.unusedSimpArgs false
def letterbagkit_SameInts.l0 : Nat → List Int → List Int → Int → Option (Bool)
 | 0, _, _, _ => none
 | k + 1, x0, x1, x5 => if x5 < (x0.length : Int) then (if 0 ≤ x5 then (if x5 < (x1.length : Int) then (if (rd x0 x5) = (rd x1 x5) then (letterbagkit_SameInts.l0 k x0 x1 (wrap64 (x5 + 1))) else (some false)) else (none)) else (none)) else (some true)
def letterbagkit_SameInts.f (k : Nat) (l0 : List Int) (l1 : List Int) : Option (Bool) := if (l0.length : Int) = (l1.length : Int) then (letterbagkit_SameInts.l0 k l0 l1 0) else (some false)
set_option maxHeartbeats 8000000 in
set_option maxRecDepth 100000 in
theorem letterbagkit_SameInts.calls (k : Nat) (A0 : Option Addr) (c0 : Nat) (l0 : List Int) (A1 : Option Addr) (c1 : Nat) (l1 : List Int) (r : Bool) (w : World) (hr0 : Kd.C (Kd.int .i64) w A0 l0.length l0) (hc0 : l0.length ≤ c0) (hr1 : Kd.C (Kd.int .i64) w A1 l1.length l1) (hc1 : l1.length ≤ c1) (h : letterbagkit_SameInts.f k l0 l1 = some r) :
  Calls Tryd.prog 27 #[.slice A0 l0.length c0, .slice A1 l1.length c1] w fun e w' => e = .returned (.bool r) ∧ Drawn0 w w' := by
 have HR0 := Aside0.mk hr0
 have HC0 := Aside0.mk hc0
 clear hr0 hc0
 have HR1 := Aside0.mk hr1
 have HC1 := Aside0.mk hc1
 clear hr1 hc1
 have H : (if (l0.length : Int) = (l1.length : Int) then (letterbagkit_SameInts.l0 k l0 l1 0) else (some false)) = some r := h
 clear h
 by_cases c3 : (l0.length : Int) = (l1.length : Int)
 ·rw [if_pos c3] at H
  have c3b0 : ((l0.length : Int) == (l1.length : Int)) = true := beq_iff_eq.mpr c3
  have c3b1 : ((l0.length : Int) != (l1.length : Int)) = false := bne_eq_false_iff_eq.mpr c3
  have c3b2 : (l0.length == l1.length) = true := by first | simpa using c3 | (simp at c3 ⊢; omega)
  clear c3
  have H' := Aside0.mk H
  clear H
  go_enter Tryd.func27, Tryd.ntmps27
  go_wp2
  repeat (go_quiet (fail); try go_wp2)
  go_loopg [5] k (fun kq v5 w' => ∃ (x5_1 : Int), v5 = .int .i64 x5_1 ∧ Aside0 (letterbagkit_SameInts.l0 kq l0 l1 x5_1 = some r) ∧ Aside0 (kq ≤ k) ∧ Drawn0 w w')
  case atStart => exact ⟨(0), (by first | rfl | (simp; done) | (simp [*]; done)), H', ⟨Nat.le_refl _⟩, by repeat (first | exact Drawn0.refl _ | apply Drawn0.step)⟩
  case round =>
   clear H'
   try clear c1
   try clear c2
   try clear p2
   try clear c3
   try clear c3b0
   try clear c3b1
   try clear c3b2
   obtain ⟨x5_1, rfl, HA, HK1, ⟨m1, rfl⟩⟩ := hrel
   cases gk with
   | zero => exact absurd HA.out (by simp [letterbagkit_SameInts.l0])
   | succ k1 =>
    have H := HA.out
    clear HA
    simp only [letterbagkit_SameInts.l0] at H
    by_cases c4 : x5_1 < (l0.length : Int)
    ·rw [if_pos c4] at H
     have c4b0 : decide (x5_1 < (l0.length : Int)) = true := decide_eq_true c4
     clear c4
     by_cases c5 : 0 ≤ x5_1
     ·rw [if_pos c5] at H
      have c5b0 : decide (0 ≤ x5_1) = true := decide_eq_true c5
      clear c5
      by_cases c6 : x5_1 < (l1.length : Int)
      ·rw [if_pos c6] at H
       have c6b0 : decide (x5_1 < (l1.length : Int)) = true := decide_eq_true c6
       clear c6
       by_cases c7 : (rd l0 x5_1) = (rd l1 x5_1)
       ·rw [if_pos c7] at H
        have c7b0 : ((rd l0 x5_1) == (rd l1 x5_1)) = true := beq_iff_eq.mpr c7
        have c7b1 : ((rd l0 x5_1) != (rd l1 x5_1)) = false := bne_eq_false_iff_eq.mpr c7
        clear c7
        have H' := Aside0.mk H
        clear H
        have p194 : 0 ≤ (x5_1 : Int) := of_decide_eq_true (by first | (with_reducible assumption) | assumption)
        have q194 : x5_1 < (l0.length : Int) := of_decide_eq_true (by first | (with_reducible assumption) | assumption)
        obtain ⟨ad194, e194, hx194_0⟩ := Kd.at_int HR0.out x5_1 p194 q194
        cases e194
        replace p194 := eq_true p194
        replace q194 := eq_true q194
        have p195 : 0 ≤ (x5_1 : Int) := of_decide_eq_true (by first | (with_reducible assumption) | assumption)
        have q195 : x5_1 < (l1.length : Int) := of_decide_eq_true (by first | (with_reducible assumption) | assumption)
        obtain ⟨ad195, e195, hx195_0⟩ := Kd.at_int HR1.out x5_1 p195 q195
        cases e195
        replace p195 := eq_true p195
        replace q195 := eq_true q195
        go_wp2
        repeat (go_quiet (fail); try go_wp2)
        go_roundg k1
        case measure => have := HK1.out; omega
        case rel => exact ⟨(wrap64 (x5_1 + 1)), (by first | rfl | (simp; done) | (simp [*]; done)), H', ⟨by have := HK1.out; omega⟩, by repeat (first | exact Drawn0.refl _ | apply Drawn0.step)⟩
       ·rw [if_neg c7] at H
        have c7b0 : ((rd l0 x5_1) == (rd l1 x5_1)) = false := beq_eq_false_iff_ne.mpr c7
        have c7b1 : ((rd l0 x5_1) != (rd l1 x5_1)) = true := bne_iff_ne.mpr c7
        obtain rfl := Option.some.inj H
        have p194 : 0 ≤ (x5_1 : Int) := of_decide_eq_true (by first | (with_reducible assumption) | assumption)
        have q194 : x5_1 < (l0.length : Int) := of_decide_eq_true (by first | (with_reducible assumption) | assumption)
        obtain ⟨ad194, e194, hx194_0⟩ := Kd.at_int HR0.out x5_1 p194 q194
        cases e194
        replace p194 := eq_true p194
        replace q194 := eq_true q194
        have p195 : 0 ≤ (x5_1 : Int) := of_decide_eq_true (by first | (with_reducible assumption) | assumption)
        have q195 : x5_1 < (l1.length : Int) := of_decide_eq_true (by first | (with_reducible assumption) | assumption)
        obtain ⟨ad195, e195, hx195_0⟩ := Kd.at_int HR1.out x5_1 p195 q195
        cases e195
        replace p195 := eq_true p195
        replace q195 := eq_true q195
        go_wp2
        repeat (go_quiet (fail); try go_wp2)
        go_ret
        exact ⟨by first | rfl | (simp; done) | (simp [*]; done), by repeat (first | exact Drawn0.refl _ | apply Drawn0.step)⟩
      ·rw [if_neg c6] at H
       exact absurd H (by simp)
     ·rw [if_neg c5] at H
      exact absurd H (by simp)
    ·rw [if_neg c4] at H
     have c4b0 : decide (x5_1 < (l0.length : Int)) = false := decide_eq_false c4
     clear c4
     obtain rfl := Option.some.inj H
     go_wp2
     repeat (go_quiet (fail); try go_wp2)
     go_ret
     exact ⟨by first | rfl | (simp; done) | (simp [*]; done), by repeat (first | exact Drawn0.refl _ | apply Drawn0.step)⟩
 ·rw [if_neg c3] at H
  have c3b0 : ((l0.length : Int) == (l1.length : Int)) = false := beq_eq_false_iff_ne.mpr c3
  have c3b1 : ((l0.length : Int) != (l1.length : Int)) = true := bne_iff_ne.mpr c3
  have c3b2 : (l0.length == l1.length) = false := by first | simpa using c3 | (simp at c3 ⊢; omega)
  obtain rfl := Option.some.inj H
  go_enter Tryd.func27, Tryd.ntmps27
  go_wp2
  repeat (go_quiet (fail); try go_wp2)
  go_ret
  exact ⟨by first | rfl | (simp; done) | (simp [*]; done), by repeat (first | exact Drawn0.refl _ | apply Drawn0.step)⟩
def letterbaglaw24_Example.f  : Option ((List (S57)) × (List (S67))) := some ((([(⟨1, (([(⟨20, (([100, 150] : List Int))⟩ : S61), (⟨50, (([120, 200] : List Int))⟩ : S61)] : List (S61))), 10⟩ : S57)] : List (S57))), (([(⟨(⟨#[]⟩ : ByteArray), (⟨#[]⟩ : ByteArray), 2⟩ : S67), (⟨(⟨#[49]⟩ : ByteArray), (⟨#[49]⟩ : ByteArray), 1⟩ : S67)] : List (S67))))
set_option maxHeartbeats 8000000 in
set_option maxRecDepth 100000 in
theorem letterbaglaw24_Example.calls  (r1 : List (S57)) (r2 : List (S67)) (w : World) (h : letterbaglaw24_Example.f  = some (r1, r2)) :
  Calls Tryd.prog 30 #[] w fun e w' => ∃ v0_ v1_ : Value, e = .returned (.agg #[v0_, v1_]) ∧ Kd.N k57 57 w' w.heap.size (fun k_ => (w.heap.size ≤ k_) ∧ some k_ ≠ (v1_ : Value).ownBlock) v0_ r1 ∧ Kd.R k67 67 w' w.heap.size (fun k_ => (w.heap.size ≤ k_)) v1_ r2 ∧ Below w.heap.size w w' := by
 have hu25 := Tryd.underlying25
 have hu61 := Tryd.underlying61
 have hu57 := Tryd.underlying57
 have hu67 := Tryd.underlying67
 have HB := Aside0.mk (Below.refl w.heap.size w)
 have H : (some ((([(⟨1, (([(⟨20, (([100, 150] : List Int))⟩ : S61), (⟨50, (([120, 200] : List Int))⟩ : S61)] : List (S61))), 10⟩ : S57)] : List (S57))), (([(⟨(⟨#[]⟩ : ByteArray), (⟨#[]⟩ : ByteArray), 2⟩ : S67), (⟨(⟨#[49]⟩ : ByteArray), (⟨#[49]⟩ : ByteArray), 1⟩ : S67)] : List (S67))))) = some (r1, r2) := h
 clear h
 obtain ⟨y197, hy197⟩ : ∃ y_ : List Int, y_ = (([100, 150] : List Int)) := ⟨_, rfl⟩
 replace H : (some ((([(⟨1, (([(⟨20, y197⟩ : S61), (⟨50, (([120, 200] : List Int))⟩ : S61)] : List (S61))), 10⟩ : S57)] : List (S57))), (([(⟨(⟨#[]⟩ : ByteArray), (⟨#[]⟩ : ByteArray), 2⟩ : S67), (⟨(⟨#[49]⟩ : ByteArray), (⟨#[49]⟩ : ByteArray), 1⟩ : S67)] : List (S67))))) = some (r1, r2) := by first | (rw [hy197]; with_reducible exact H) | (have H2_ := (Option.bind_some _ _).symm.trans H; rw [hy197]; with_reducible exact H2_) | (have H2_ := (Option.bind_some _ _).symm.trans H; with_reducible exact H2_) | with_reducible exact H | (rw [hy197]; exact H) | exact H
 have Ny197 := Aside0.mk hy197
 clear hy197
 obtain ⟨y200, hy200⟩ : ∃ y_ : List Int, y_ = (([120, 200] : List Int)) := ⟨_, rfl⟩
 replace H : (some ((([(⟨1, (([(⟨20, y197⟩ : S61), (⟨50, y200⟩ : S61)] : List (S61))), 10⟩ : S57)] : List (S57))), (([(⟨(⟨#[]⟩ : ByteArray), (⟨#[]⟩ : ByteArray), 2⟩ : S67), (⟨(⟨#[49]⟩ : ByteArray), (⟨#[49]⟩ : ByteArray), 1⟩ : S67)] : List (S67))))) = some (r1, r2) := by first | (rw [hy200]; with_reducible exact H) | (have H2_ := (Option.bind_some _ _).symm.trans H; rw [hy200]; with_reducible exact H2_) | (have H2_ := (Option.bind_some _ _).symm.trans H; with_reducible exact H2_) | with_reducible exact H | (rw [hy200]; exact H) | exact H
 have Ny200 := Aside0.mk hy200
 clear hy200
 obtain ⟨y203, hy203⟩ : ∃ y_ : List (S61), y_ = (([(⟨20, y197⟩ : S61), (⟨50, y200⟩ : S61)] : List (S61))) := ⟨_, rfl⟩
 replace H : (some ((([(⟨1, y203, 10⟩ : S57)] : List (S57))), (([(⟨(⟨#[]⟩ : ByteArray), (⟨#[]⟩ : ByteArray), 2⟩ : S67), (⟨(⟨#[49]⟩ : ByteArray), (⟨#[49]⟩ : ByteArray), 1⟩ : S67)] : List (S67))))) = some (r1, r2) := by first | (rw [hy203]; with_reducible exact H) | (have H2_ := (Option.bind_some _ _).symm.trans H; rw [hy203]; with_reducible exact H2_) | (have H2_ := (Option.bind_some _ _).symm.trans H; with_reducible exact H2_) | with_reducible exact H | (rw [hy203]; exact H) | exact H
 have Ny203 := Aside0.mk hy203
 clear hy203
 obtain ⟨y206, hy206⟩ : ∃ y_ : List (S57), y_ = (([(⟨1, y203, 10⟩ : S57)] : List (S57))) := ⟨_, rfl⟩
 replace H : (some (y206, (([(⟨(⟨#[]⟩ : ByteArray), (⟨#[]⟩ : ByteArray), 2⟩ : S67), (⟨(⟨#[49]⟩ : ByteArray), (⟨#[49]⟩ : ByteArray), 1⟩ : S67)] : List (S67))))) = some (r1, r2) := by first | (rw [hy206]; with_reducible exact H) | (have H2_ := (Option.bind_some _ _).symm.trans H; rw [hy206]; with_reducible exact H2_) | (have H2_ := (Option.bind_some _ _).symm.trans H; with_reducible exact H2_) | with_reducible exact H | (rw [hy206]; exact H) | exact H
 have Ny206 := Aside0.mk hy206
 clear hy206
 obtain ⟨y209, hy209⟩ : ∃ y_ : List (S67), y_ = (([(⟨(⟨#[]⟩ : ByteArray), (⟨#[]⟩ : ByteArray), 2⟩ : S67), (⟨(⟨#[49]⟩ : ByteArray), (⟨#[49]⟩ : ByteArray), 1⟩ : S67)] : List (S67))) := ⟨_, rfl⟩
 replace H : (some (y206, y209)) = some (r1, r2) := by first | (rw [hy209]; with_reducible exact H) | (have H2_ := (Option.bind_some _ _).symm.trans H; rw [hy209]; with_reducible exact H2_) | (have H2_ := (Option.bind_some _ _).symm.trans H; with_reducible exact H2_) | with_reducible exact H | (rw [hy209]; exact H) | exact H
 have Ny209 := Aside0.mk hy209
 clear hy209
 simp only [Option.some.injEq, Prod.mk.injEq] at H
 obtain ⟨rfl, rfl⟩ := H
 go_enter Tryd.func30, Tryd.ntmps30
 go_wp2_with (first | ((with_reducible refine gate_dst (N := 0) rfl ?_); refine box_event ?hg (N := 0) ?hd (cs := #[.slice none 0 0, .slice none 0 0]) (t := 25) ?hr ?_; (case hd => rfl); (case hg => rfl); (case hr => first | (go_simp; done) | (go_simp; rfl)); intro gb196 hg w1 hbox hb; have n0_ := Aside0.mk (below_step (by repeat (first | (with_reducible first | exact HB.out | apply below_alloc | apply pw_below_drewN | apply below_drew1) | exact HB.out)) hb); have n1_ := Aside0.mk (hbox); have n2_ := Aside0.mk ((by rw [hg]; exact (below_size (by repeat (first | (with_reducible first | exact HB.out | apply below_alloc | apply pw_below_drewN | apply below_drew1) | exact HB.out))) : w.heap.size ≤ gb196)); have n3_ := Aside0.mk ((by rw [hg]; exact (below_size (by repeat (first | (with_reducible first | exact HB.out | apply below_alloc | apply pw_below_drewN | apply below_drew1) | exact HB.out))) : w.heap.size ≤ gb196)); clear HB; have HB := n0_; have BK196 := n1_; have GW196 := n2_; have GE196 := n3_; clear n0_ n1_ n2_ n3_; clear hb hbox hg) | ((with_reducible refine gate_dst (N := 1) rfl ?_); refine Kd.R_lit (Kd.int .i64) _ 3 ?hg (N := 1) ?hd (xs := ([100, 150] : List Int)) (inner := [.int .i64 100, .int .i64 150]) (ok := fun _ => True) (okp := fun _ => True) ?hr ?hp (fun _ hk => hk) trivial (Below.refl _ _) (Nat.le_refl _) (by simp) ?_; (case hd => rfl); (case hg => rfl); (case hr => first | (go_simp; done) | (go_simp; rfl)); (case hp => exact (Reps.one (show Kd.M (Kd.int .i64) _ _ _ 100 [.int .i64 100] from rfl) (Reps.one (show Kd.M (Kd.int .i64) _ _ _ 150 [.int .i64 150] from rfl) (Reps.none _ _)))); intro v198 w2 ho3 hb hg_ hnew_; clear hg_ hnew_; (first | rw [← Ny197.out] at ho3 | (simp only [Int.reduceToNat] at ho3; rw [← Ny197.out] at ho3)); have n0_ := Aside0.mk (Kd.R_lower (Kd.R_newM (M := fun k_ => (w.heap.size ≤ k_)) ho3 (below_size (by repeat (first | (with_reducible first | exact HB.out | apply below_alloc | apply pw_below_drewN | apply below_drew1 | refine below_set ?_ GE196.out) | exact HB.out))) (fun k_ h_ => h_)) (below_size (by repeat (first | (with_reducible first | exact HB.out | apply below_alloc | apply pw_below_drewN | apply below_drew1 | refine below_set ?_ GE196.out) | exact HB.out)))); have n1_ := Aside0.mk (blk_below (g := gb196) (o := .cells #[.slice none 0 0, .slice none 0 0] 25 (0, 0)) (by (with_reducible repeat (first | refine blk_drewN ?_ _ | refine blk_drew ?_ | refine blk_alloc ?_ _)); exact BK196.out) hb); have n2_ := Aside0.mk (below_step (by repeat (first | (with_reducible first | exact HB.out | apply below_alloc | apply pw_below_drewN | apply below_drew1 | refine below_set ?_ GE196.out) | exact HB.out)) hb); clear BK196; clear HB; have HO199 := n0_; have BK196 := n1_; have HB := n2_; clear n0_ n1_ n2_; clear hb ho3; obtain ⟨Ao4, co4, eo4⟩ := Kd.R_slice HO199.out; subst eo4) | ((with_reducible refine gate_dst (N := 3) rfl ?_); refine Kd.R_lit (Kd.int .i64) _ 3 ?hg (N := 3) ?hd (xs := ([120, 200] : List Int)) (inner := [.int .i64 120, .int .i64 200]) (ok := fun _ => True) (okp := fun _ => True) ?hr ?hp (fun _ hk => hk) trivial (Below.refl _ _) (Nat.le_refl _) (by simp) ?_; (case hd => rfl); (case hg => rfl); (case hr => first | (go_simp; done) | (go_simp; rfl)); (case hp => exact (Reps.one (show Kd.M (Kd.int .i64) _ _ _ 120 [.int .i64 120] from rfl) (Reps.one (show Kd.M (Kd.int .i64) _ _ _ 200 [.int .i64 200] from rfl) (Reps.none _ _)))); intro v201 w5 ho6 hb hg_ hnew_; clear hg_ hnew_; (first | rw [← Ny200.out] at ho6 | (simp only [Int.reduceToNat] at ho6; rw [← Ny200.out] at ho6)); have n0_ := Aside0.mk (Kd.R_elder' (by (with_reducible repeat (first | apply Kd.R_alloc | apply Kd.R_drewN | apply Kd.R_drew)); exact HO199.out) (Kd.R_base ho6) hb); have n1_ := Aside0.mk (Kd.R_lower (Kd.R_new' (Kd.R_newM (M := fun k_ => (w.heap.size ≤ k_)) ho6 (below_size (by repeat (first | (with_reducible first | exact HB.out | apply below_alloc | apply pw_below_drewN | apply below_drew1 | refine below_set ?_ GE196.out) | exact HB.out))) (fun k_ h_ => h_)) (Kd.R_lt (by (with_reducible repeat (first | apply Kd.R_alloc | apply Kd.R_drewN | apply Kd.R_drew)); exact HO199.out))) (below_size (by repeat (first | (with_reducible first | exact HB.out | apply below_alloc | apply pw_below_drewN | apply below_drew1 | refine below_set ?_ GE196.out) | exact HB.out)))); have n2_ := Aside0.mk (blk_below (g := gb196) (o := .cells #[.slice none 0 0, .slice none 0 0] 25 (0, 0)) (by (with_reducible repeat (first | refine blk_drewN ?_ _ | refine blk_drew ?_ | refine blk_alloc ?_ _)); exact BK196.out) hb); have n3_ := Aside0.mk (below_step (by repeat (first | (with_reducible first | exact HB.out | apply below_alloc | apply pw_below_drewN | apply below_drew1 | refine below_set ?_ GE196.out) | exact HB.out)) hb); clear HO199; clear BK196; clear HB; have HO199 := n0_; have HO202 := n1_; have BK196 := n2_; have HB := n3_; clear n0_ n1_ n2_ n3_; clear hb ho6; obtain ⟨Ao7, co7, eo7⟩ := Kd.R_slice HO202.out; subst eo7) | ((with_reducible refine gate_dst (N := 5) rfl ?_); refine Kd.N_lit k61 _ 61 ?hg (N' := 5) ?hd (xs := ([(⟨20, y197⟩ : S61), (⟨50, y200⟩ : S61)] : List (S61))) (inner := [.int .i64 20, .slice Ao4 y197.length co4, .int .i64 50, .slice Ao7 y200.length co7]) (ok := (fun k_ => (w.heap.size ≤ k_) ∧ k_ ≠ gb196)) (okp := (fun k_ => (w.heap.size ≤ k_) ∧ k_ ≠ gb196)) ?hr ?hp (fun _ hk => hk) ((show ∀ k_, w5.heap.size ≤ k_ → (fun k_ => (w.heap.size ≤ k_) ∧ k_ ≠ gb196) k_ from fun k_ hk => ⟨(Nat.le_trans (below_size (by repeat (first | (with_reducible first | exact HB.out | apply below_alloc | apply pw_below_drewN | apply below_drew1 | refine below_set ?_ GE196.out) | exact HB.out))) hk), Kd.freshB (g := gb196) (o := .cells #[.slice none 0 0, .slice none 0 0] 25 (0, 0)) (by (with_reducible repeat (first | refine blk_drewN ?_ _ | refine blk_drew ?_ | refine blk_alloc ?_ _)); exact BK196.out) k_ hk⟩) _ (Nat.le_refl _)) (Below.refl _ _) (Nat.le_refl _) (by simp) ?_; (case hd => rfl); (case hg => rfl); (case hr => first | (go_simp; done) | (go_simp; rfl)); (case hp => exact (Reps.c2 (show Kd.FK k61 _ _ (⟨20, y197⟩ : S61) [.int .i64 20, .slice Ao4 y197.length co4] from (k61_mkF _ _ (⟨20, y197⟩ : S61) (Kd.R_reads' (Kd.R_mono (ok' := (fun k_ => (w.heap.size ≤ k_) ∧ k_ ≠ gb196)) (Kd.R_types (HO199.out) BK196.out (by decide)) (fun k_ hk => ⟨hk.1.1.1, hk.2⟩))).2.1 (Kd.R_F (Kd.R_mono (ok' := (fun k_ => (w.heap.size ≤ k_) ∧ k_ ≠ gb196)) (Kd.R_types (HO199.out) BK196.out (by decide)) (fun k_ hk => ⟨hk.1.1.1, hk.2⟩))))) (Reps.c2 (show Kd.FK k61 _ _ (⟨50, y200⟩ : S61) [.int .i64 50, .slice Ao7 y200.length co7] from (k61_mkF _ _ (⟨50, y200⟩ : S61) (Kd.R_reads' (Kd.R_mono (ok' := (fun k_ => (w.heap.size ≤ k_) ∧ k_ ≠ gb196)) (Kd.R_types (HO202.out) BK196.out (by decide)) (fun k_ hk => ⟨hk.1.1.1, hk.2⟩))).2.1 (Kd.R_F (Kd.R_mono (ok' := (fun k_ => (w.heap.size ≤ k_) ∧ k_ ≠ gb196)) (Kd.R_types (HO202.out) BK196.out (by decide)) (fun k_ hk => ⟨hk.1.1.1, hk.2⟩))))) (Reps.none _ _)))); intro v204 w8 ho9 hb hg_ hnew_; clear hg_ hnew_; (first | rw [← Ny203.out] at ho9 | (simp only [Int.reduceToNat] at ho9; rw [← Ny203.out] at ho9)); have n0_ := Aside0.mk (Kd.N_lower ho9 (below_size (by repeat (first | (with_reducible first | exact HB.out | apply below_alloc | apply pw_below_drewN | apply below_drew1 | refine below_set ?_ GE196.out) | exact HB.out)))); have n1_ := Aside0.mk (blk_below (g := gb196) (o := .cells #[.slice none 0 0, .slice none 0 0] 25 (0, 0)) (by (with_reducible repeat (first | refine blk_drewN ?_ _ | refine blk_drew ?_ | refine blk_alloc ?_ _)); exact BK196.out) hb); have n2_ := Aside0.mk (below_step (by repeat (first | (with_reducible first | exact HB.out | apply below_alloc | apply pw_below_drewN | apply below_drew1 | refine below_set ?_ GE196.out) | exact HB.out)) hb); clear BK196; clear HB; clear HO199; clear HO202; have HO205 := n0_; have BK196 := n1_; have HB := n2_; clear n0_ n1_ n2_; clear hb ho9; obtain ⟨Ao10, co10, eo10⟩ := Kd.N_slice HO205.out; subst eo10) | ((with_reducible refine gate_dst (N := 7) rfl ?_); refine Kd.N_lit k57 _ 57 ?hg (N' := 7) ?hd (xs := ([(⟨1, y203, 10⟩ : S57)] : List (S57))) (inner := [.int .u8 1, .slice Ao10 y203.length co10, .int .i64 10]) (ok := (fun k_ => (w.heap.size ≤ k_) ∧ k_ ≠ gb196)) (okp := (fun k_ => (w.heap.size ≤ k_) ∧ k_ ≠ gb196)) ?hr ?hp (fun _ hk => hk) ((show ∀ k_, w8.heap.size ≤ k_ → (fun k_ => (w.heap.size ≤ k_) ∧ k_ ≠ gb196) k_ from fun k_ hk => ⟨(Nat.le_trans (below_size (by repeat (first | (with_reducible first | exact HB.out | apply below_alloc | apply pw_below_drewN | apply below_drew1 | refine below_set ?_ GE196.out) | exact HB.out))) hk), Kd.freshB (g := gb196) (o := .cells #[.slice none 0 0, .slice none 0 0] 25 (0, 0)) (by (with_reducible repeat (first | refine blk_drewN ?_ _ | refine blk_drew ?_ | refine blk_alloc ?_ _)); exact BK196.out) k_ hk⟩) _ (Nat.le_refl _)) (Below.refl _ _) (Nat.le_refl _) (by simp) ?_; (case hd => rfl); (case hg => rfl); (case hr => first | (go_simp; done) | (go_simp; rfl)); (case hp => exact (Reps.c3 (show Kd.FK k57 _ _ (⟨1, y203, 10⟩ : S57) [.int .u8 1, .slice Ao10 y203.length co10, .int .i64 10] from (k57_mkF _ _ (⟨1, y203, 10⟩ : S57) (Kd.N_reads' (Kd.N_mono (ok' := (fun k_ => (w.heap.size ≤ k_) ∧ k_ ≠ gb196)) (HO205.out) (fun k_ hk => ⟨hk.1, hk.2⟩))).2.1 (Kd.N_F (Kd.N_mono (ok' := (fun k_ => (w.heap.size ≤ k_) ∧ k_ ≠ gb196)) (HO205.out) (fun k_ hk => ⟨hk.1, hk.2⟩))))) (Reps.none _ _))); intro v207 w11 ho12 hb hg_ hnew_; clear hg_ hnew_; (first | rw [← Ny206.out] at ho12 | (simp only [Int.reduceToNat] at ho12; rw [← Ny206.out] at ho12)); have n0_ := Aside0.mk (Kd.N_lower ho12 (below_size (by repeat (first | (with_reducible first | exact HB.out | apply below_alloc | apply pw_below_drewN | apply below_drew1 | refine below_set ?_ GE196.out) | exact HB.out)))); have n1_ := Aside0.mk (blk_below (g := gb196) (o := .cells #[.slice none 0 0, .slice none 0 0] 25 (0, 0)) (by (with_reducible repeat (first | refine blk_drewN ?_ _ | refine blk_drew ?_ | refine blk_alloc ?_ _)); exact BK196.out) hb); have n2_ := Aside0.mk (below_step (by repeat (first | (with_reducible first | exact HB.out | apply below_alloc | apply pw_below_drewN | apply below_drew1 | refine below_set ?_ GE196.out) | exact HB.out)) hb); clear BK196; clear HB; clear HO205; have HO208 := n0_; have BK196 := n1_; have HB := n2_; clear n0_ n1_ n2_; clear hb ho12) | ((with_reducible refine gate_dst (N := 10) rfl ?_); refine Kd.R_lit k67 _ 67 ?hg (N := 10) ?hd (xs := ([(⟨(⟨#[]⟩ : ByteArray), (⟨#[]⟩ : ByteArray), 2⟩ : S67), (⟨(⟨#[49]⟩ : ByteArray), (⟨#[49]⟩ : ByteArray), 1⟩ : S67)] : List (S67))) (inner := [.string (⟨#[]⟩ : ByteArray), .string (⟨#[]⟩ : ByteArray), .int .i64 2, .string (⟨#[49]⟩ : ByteArray), .string (⟨#[49]⟩ : ByteArray), .int .i64 1]) (ok := fun _ => True) (okp := fun _ => True) ?hr ?hp (fun _ hk => hk) trivial (Below.refl _ _) (Nat.le_refl _) (by simp) ?_; (case hd => rfl); (case hg => rfl); (case hr => first | (go_simp; done) | (go_simp; rfl)); (case hp => exact (Reps.c3 (show Kd.M k67 _ _ _ (⟨(⟨#[]⟩ : ByteArray), (⟨#[]⟩ : ByteArray), 2⟩ : S67) [.string (⟨#[]⟩ : ByteArray), .string (⟨#[]⟩ : ByteArray), .int .i64 2] from (k67_mkM _ _ _ (⟨(⟨#[]⟩ : ByteArray), (⟨#[]⟩ : ByteArray), 2⟩ : S67) )) (Reps.c3 (show Kd.M k67 _ _ _ (⟨(⟨#[49]⟩ : ByteArray), (⟨#[49]⟩ : ByteArray), 1⟩ : S67) [.string (⟨#[49]⟩ : ByteArray), .string (⟨#[49]⟩ : ByteArray), .int .i64 1] from (k67_mkM _ _ _ (⟨(⟨#[49]⟩ : ByteArray), (⟨#[49]⟩ : ByteArray), 1⟩ : S67) )) (Reps.none _ _)))); intro v210 w13 ho14 hb hg_ hnew_; clear hg_ hnew_; (first | rw [← Ny209.out] at ho14 | (simp only [Int.reduceToNat] at ho14; rw [← Ny209.out] at ho14)); have n0_ := Aside0.mk (Kd.N_elder' (by (with_reducible repeat (first | apply Kd.N_alloc | apply Kd.N_drewN | apply Kd.N_drew)); exact HO208.out) (Kd.R_base ho14) hb); have n1_ := Aside0.mk (Kd.R_lower (Kd.R_newM (M := fun k_ => (w.heap.size ≤ k_)) ho14 (below_size (by repeat (first | (with_reducible first | exact HB.out | apply below_alloc | apply pw_below_drewN | apply below_drew1 | refine below_set ?_ GE196.out) | exact HB.out))) (fun k_ h_ => h_)) (below_size (by repeat (first | (with_reducible first | exact HB.out | apply below_alloc | apply pw_below_drewN | apply below_drew1 | refine below_set ?_ GE196.out) | exact HB.out)))); have n2_ := Aside0.mk (blk_below (g := gb196) (o := .cells #[.slice none 0 0, .slice none 0 0] 25 (0, 0)) (by (with_reducible repeat (first | refine blk_drewN ?_ _ | refine blk_drew ?_ | refine blk_alloc ?_ _)); exact BK196.out) hb); have n3_ := Aside0.mk (below_step (by repeat (first | (with_reducible first | exact HB.out | apply below_alloc | apply pw_below_drewN | apply below_drew1 | refine below_set ?_ GE196.out) | exact HB.out)) hb); clear HO208; clear BK196; clear HB; have HO208 := n0_; have HO211 := n1_; have BK196 := n2_; have HB := n3_; clear n0_ n1_ n2_ n3_; clear hb ho14; obtain ⟨Ao15, co15, eo15⟩ := Kd.R_slice HO211.out; subst eo15; obtain ⟨Ao16, co16, eo16⟩ := Kd.N_slice HO208.out; subst eo16; have hcz17_0 : w13.cell? ⟨gb196, 0, none⟩ = some (.slice none 0 0) := (blk_cell BK196.out 0).trans rfl; have hcz17_1 : w13.cell? ⟨gb196, 1, none⟩ = some (.slice none 0 0) := (blk_cell BK196.out 1).trans rfl; have hfz17_0 := blk_frozen BK196.out 0; have hfz17_1 := blk_frozen BK196.out 1))
 refine bodyPost_ret (results_cell_row rfl _ _ gb196 25 #[.slice Ao16 y206.length co16, .slice Ao15 y209.length co15] (0, 0) _ rfl (by (with_reducible repeat (first | refine blk_drewN ?_ _ | refine blk_drew ?_ | refine blk_alloc ?_ _)); refine blk_put (cs := #[.slice Ao16 y206.length co16, .slice none 0 0]) ?_ 1 _ rfl; (with_reducible repeat (first | refine blk_drewN ?_ _ | refine blk_drew ?_ | refine blk_alloc ?_ _)); refine blk_put (cs := #[.slice none 0 0, .slice none 0 0]) ?_ 0 _ rfl; (with_reducible repeat (first | refine blk_drewN ?_ _ | refine blk_drew ?_ | refine blk_alloc ?_ _)); exact BK196.out) Tryd.underlying25 rfl (by kernel_rfl)) rfl ?_
 exact ⟨_, _, by first | rfl | (simp [errW_none, errW_some] <;> rfl) | (simp [*, errW_none, errW_some] <;> rfl), by (with_reducible repeat (first | apply Kd.N_alloc | apply Kd.N_drewN | apply Kd.N_drew)); exact Kd.N_mono (Kd.N_far (p := ⟨gb196, 1, none⟩) (Kd.N_far (p := ⟨gb196, 0, none⟩) (Kd.N_mono HO208.out (fun k_ hk => (⟨hk, hk.1.2⟩ : _ ∧ k_ ≠ gb196))) (fun _ hk => hk.2) (.slice Ao16 y206.length co16)) (fun _ hk => hk.2) (.slice Ao15 y209.length co15)) (fun _ hk => ⟨hk.1.1.1, hk.1.2⟩), by (with_reducible repeat (first | apply Kd.R_alloc | apply Kd.R_drewN | apply Kd.R_drew)); exact Kd.R_mono (Kd.R_far (p := ⟨gb196, 1, none⟩) (Kd.R_far (p := ⟨gb196, 0, none⟩) (Kd.R_types HO211.out BK196.out (by decide)) (fun _ hk => hk.2) (.slice Ao16 y206.length co16)) (fun _ hk => hk.2) (.slice Ao15 y209.length co15)) (fun _ hk => hk.1.1), by repeat (first | (with_reducible first | exact HB.out | apply below_alloc | apply pw_below_drewN | apply below_drew1 | refine below_set ?_ GE196.out) | exact HB.out)⟩
def letterbaglaw23_Example.f  : Option ((List (S54))) := some (([(⟨(⟨#[53]⟩ : ByteArray), 5, ([] : List (S90)), 10, 9⟩ : S54), (⟨(⟨#[51]⟩ : ByteArray), 3, (([(⟨(⟨#[49, 48, 48]⟩ : ByteArray), (⟨#[67, 73, 84, 89]⟩ : ByteArray)⟩ : S90), (⟨(⟨#[49, 48, 49]⟩ : ByteArray), (⟨#[67, 73, 84, 89]⟩ : ByteArray)⟩ : S90)] : List (S90))), 10, 5⟩ : S54), (⟨(⟨#[97, 108, 108]⟩ : ByteArray), 0, ([] : List (S90)), 0, 0⟩ : S54)] : List (S54)))
set_option maxHeartbeats 8000000 in
set_option maxRecDepth 100000 in
theorem letterbaglaw23_Example.calls  (r : List (S54)) (w : World) (h : letterbaglaw23_Example.f  = some r) :
  Calls Tryd.prog 31 #[] w fun e w' => ∃ v0_ : Value, e = .returned (v0_) ∧ Kd.N k54 54 w' w.heap.size (fun k_ => (w.heap.size ≤ k_)) v0_ r ∧ Below w.heap.size w w' := by
 have hu54 := Tryd.underlying54
 have hu90 := Tryd.underlying90
 have HB := Aside0.mk (Below.refl w.heap.size w)
 have H : (some (([(⟨(⟨#[53]⟩ : ByteArray), 5, ([] : List (S90)), 10, 9⟩ : S54), (⟨(⟨#[51]⟩ : ByteArray), 3, (([(⟨(⟨#[49, 48, 48]⟩ : ByteArray), (⟨#[67, 73, 84, 89]⟩ : ByteArray)⟩ : S90), (⟨(⟨#[49, 48, 49]⟩ : ByteArray), (⟨#[67, 73, 84, 89]⟩ : ByteArray)⟩ : S90)] : List (S90))), 10, 5⟩ : S54), (⟨(⟨#[97, 108, 108]⟩ : ByteArray), 0, ([] : List (S90)), 0, 0⟩ : S54)] : List (S54)))) = some r := h
 clear h
 obtain ⟨y212, hy212⟩ : ∃ y_ : List (S90), y_ = (([(⟨(⟨#[49, 48, 48]⟩ : ByteArray), (⟨#[67, 73, 84, 89]⟩ : ByteArray)⟩ : S90), (⟨(⟨#[49, 48, 49]⟩ : ByteArray), (⟨#[67, 73, 84, 89]⟩ : ByteArray)⟩ : S90)] : List (S90))) := ⟨_, rfl⟩
 replace H : (some (([(⟨(⟨#[53]⟩ : ByteArray), 5, ([] : List (S90)), 10, 9⟩ : S54), (⟨(⟨#[51]⟩ : ByteArray), 3, y212, 10, 5⟩ : S54), (⟨(⟨#[97, 108, 108]⟩ : ByteArray), 0, ([] : List (S90)), 0, 0⟩ : S54)] : List (S54)))) = some r := by first | (rw [hy212]; with_reducible exact H) | (have H2_ := (Option.bind_some _ _).symm.trans H; rw [hy212]; with_reducible exact H2_) | (have H2_ := (Option.bind_some _ _).symm.trans H; with_reducible exact H2_) | with_reducible exact H | (rw [hy212]; exact H) | exact H
 have Ny212 := Aside0.mk hy212
 clear hy212
 obtain ⟨y215, hy215⟩ : ∃ y_ : List (S54), y_ = (([(⟨(⟨#[53]⟩ : ByteArray), 5, ([] : List (S90)), 10, 9⟩ : S54), (⟨(⟨#[51]⟩ : ByteArray), 3, y212, 10, 5⟩ : S54), (⟨(⟨#[97, 108, 108]⟩ : ByteArray), 0, ([] : List (S90)), 0, 0⟩ : S54)] : List (S54))) := ⟨_, rfl⟩
 replace H : (some y215) = some r := by first | (rw [hy215]; with_reducible exact H) | (have H2_ := (Option.bind_some _ _).symm.trans H; rw [hy215]; with_reducible exact H2_) | (have H2_ := (Option.bind_some _ _).symm.trans H; with_reducible exact H2_) | with_reducible exact H | (rw [hy215]; exact H) | exact H
 have Ny215 := Aside0.mk hy215
 clear hy215
 obtain rfl := Option.some.inj H
 go_enter Tryd.func31, Tryd.ntmps31
 go_wp2_with (first | ((with_reducible refine gate_dst (N := 4) rfl ?_); refine Kd.R_lit k90 _ 90 ?hg (N := 4) ?hd (xs := ([(⟨(⟨#[49, 48, 48]⟩ : ByteArray), (⟨#[67, 73, 84, 89]⟩ : ByteArray)⟩ : S90), (⟨(⟨#[49, 48, 49]⟩ : ByteArray), (⟨#[67, 73, 84, 89]⟩ : ByteArray)⟩ : S90)] : List (S90))) (inner := [.string (⟨#[49, 48, 48]⟩ : ByteArray), .string (⟨#[67, 73, 84, 89]⟩ : ByteArray), .string (⟨#[49, 48, 49]⟩ : ByteArray), .string (⟨#[67, 73, 84, 89]⟩ : ByteArray)]) (ok := fun _ => True) (okp := fun _ => True) ?hr ?hp (fun _ hk => hk) trivial (Below.refl _ _) (Nat.le_refl _) (by simp) ?_; (case hd => rfl); (case hg => rfl); (case hr => first | (go_simp; done) | (go_simp; rfl)); (case hp => exact (Reps.c2 (show Kd.M k90 _ _ _ (⟨(⟨#[49, 48, 48]⟩ : ByteArray), (⟨#[67, 73, 84, 89]⟩ : ByteArray)⟩ : S90) [.string (⟨#[49, 48, 48]⟩ : ByteArray), .string (⟨#[67, 73, 84, 89]⟩ : ByteArray)] from (k90_mkM _ _ _ (⟨(⟨#[49, 48, 48]⟩ : ByteArray), (⟨#[67, 73, 84, 89]⟩ : ByteArray)⟩ : S90) )) (Reps.c2 (show Kd.M k90 _ _ _ (⟨(⟨#[49, 48, 49]⟩ : ByteArray), (⟨#[67, 73, 84, 89]⟩ : ByteArray)⟩ : S90) [.string (⟨#[49, 48, 49]⟩ : ByteArray), .string (⟨#[67, 73, 84, 89]⟩ : ByteArray)] from (k90_mkM _ _ _ (⟨(⟨#[49, 48, 49]⟩ : ByteArray), (⟨#[67, 73, 84, 89]⟩ : ByteArray)⟩ : S90) )) (Reps.none _ _)))); intro v213 w1 ho2 hb hg_ hnew_; clear hg_ hnew_; (first | rw [← Ny212.out] at ho2 | (simp only [Int.reduceToNat] at ho2; rw [← Ny212.out] at ho2)); have n0_ := Aside0.mk (Kd.R_lower (Kd.R_newM (M := fun k_ => (w.heap.size ≤ k_)) ho2 (below_size (by repeat (first | (with_reducible first | exact HB.out | apply below_alloc | apply pw_below_drewN | apply below_drew1) | exact HB.out))) (fun k_ h_ => h_)) (below_size (by repeat (first | (with_reducible first | exact HB.out | apply below_alloc | apply pw_below_drewN | apply below_drew1) | exact HB.out)))); have n1_ := Aside0.mk (below_step (by repeat (first | (with_reducible first | exact HB.out | apply below_alloc | apply pw_below_drewN | apply below_drew1) | exact HB.out)) hb); clear HB; have HO214 := n0_; have HB := n1_; clear n0_ n1_; clear hb ho2; obtain ⟨Ao3, co3, eo3⟩ := Kd.R_slice HO214.out; subst eo3) | ((with_reducible refine gate_dst (N := 7) rfl ?_); refine Kd.N_lit k54 _ 54 ?hg (N' := 7) ?hd (xs := ([(⟨(⟨#[53]⟩ : ByteArray), 5, ([] : List (S90)), 10, 9⟩ : S54), (⟨(⟨#[51]⟩ : ByteArray), 3, y212, 10, 5⟩ : S54), (⟨(⟨#[97, 108, 108]⟩ : ByteArray), 0, ([] : List (S90)), 0, 0⟩ : S54)] : List (S54))) (inner := [.string (⟨#[53]⟩ : ByteArray), .int .i64 5, .slice none 0 0, .int .i64 10, .int .i64 9, .string (⟨#[51]⟩ : ByteArray), .int .i64 3, .slice Ao3 y212.length co3, .int .i64 10, .int .i64 5, .string (⟨#[97, 108, 108]⟩ : ByteArray), .int .i64 0, .slice none 0 0, .int .i64 0, .int .i64 0]) (ok := (fun k_ => (w.heap.size ≤ k_))) (okp := (fun k_ => (w.heap.size ≤ k_))) ?hr ?hp (fun _ hk => hk) ((show ∀ k_, w1.heap.size ≤ k_ → (fun k_ => (w.heap.size ≤ k_)) k_ from fun k_ hk => (Nat.le_trans (below_size (by repeat (first | (with_reducible first | exact HB.out | apply below_alloc | apply pw_below_drewN | apply below_drew1) | exact HB.out))) hk)) _ (Nat.le_refl _)) (Below.refl _ _) (Nat.le_refl _) (by simp) ?_; (case hd => rfl); (case hg => rfl); (case hr => first | (go_simp; done) | (go_simp; rfl)); (case hp => exact (Reps.c5 (show Kd.FK k54 _ _ (⟨(⟨#[53]⟩ : ByteArray), 5, ([] : List (S90)), 10, 9⟩ : S54) [.string (⟨#[53]⟩ : ByteArray), .int .i64 5, .slice none 0 0, .int .i64 10, .int .i64 9] from (k54_mkF _ _ (⟨(⟨#[53]⟩ : ByteArray), 5, ([] : List (S90)), 10, 9⟩ : S54) (Nat.le_refl _) (Kd.F_nil _ _ _))) (Reps.c5 (show Kd.FK k54 _ _ (⟨(⟨#[51]⟩ : ByteArray), 3, y212, 10, 5⟩ : S54) [.string (⟨#[51]⟩ : ByteArray), .int .i64 3, .slice Ao3 y212.length co3, .int .i64 10, .int .i64 5] from (k54_mkF _ _ (⟨(⟨#[51]⟩ : ByteArray), 3, y212, 10, 5⟩ : S54) (Kd.R_reads' (Kd.R_mono (ok' := (fun k_ => (w.heap.size ≤ k_))) (HO214.out) (fun k_ hk => hk.1))).2.1 (Kd.R_F (Kd.R_mono (ok' := (fun k_ => (w.heap.size ≤ k_))) (HO214.out) (fun k_ hk => hk.1))))) (Reps.c5 (show Kd.FK k54 _ _ (⟨(⟨#[97, 108, 108]⟩ : ByteArray), 0, ([] : List (S90)), 0, 0⟩ : S54) [.string (⟨#[97, 108, 108]⟩ : ByteArray), .int .i64 0, .slice none 0 0, .int .i64 0, .int .i64 0] from (k54_mkF _ _ (⟨(⟨#[97, 108, 108]⟩ : ByteArray), 0, ([] : List (S90)), 0, 0⟩ : S54) (Nat.le_refl _) (Kd.F_nil _ _ _))) (Reps.none _ _))))); intro v216 w4 ho5 hb hg_ hnew_; clear hg_ hnew_; (first | rw [← Ny215.out] at ho5 | (simp only [Int.reduceToNat] at ho5; rw [← Ny215.out] at ho5)); have n0_ := Aside0.mk (Kd.N_lower ho5 (below_size (by repeat (first | (with_reducible first | exact HB.out | apply below_alloc | apply pw_below_drewN | apply below_drew1) | exact HB.out)))); have n1_ := Aside0.mk (below_step (by repeat (first | (with_reducible first | exact HB.out | apply below_alloc | apply pw_below_drewN | apply below_drew1) | exact HB.out)) hb); clear HB; clear HO214; have HO217 := n0_; have HB := n1_; clear n0_ n1_; clear hb ho5))
 go_ret
 exact ⟨_, by first | rfl | (simp [errW_none, errW_some] <;> rfl) | (simp [*, errW_none, errW_some] <;> rfl), by (with_reducible repeat (first | apply Kd.N_alloc | apply Kd.N_drewN | apply Kd.N_drew)); exact HO217.out, by repeat (first | (with_reducible first | exact HB.out | apply below_alloc | apply pw_below_drewN | apply below_drew1) | exact HB.out)⟩
def letterbaglaw24_Piece.f (a0 : ByteArray) (a1 : Int) (a2 : Bool) : Option (Int × Int × ByteArray × (List (S48))) := some (1, 1, (⟨#[49, 48, 48, 50, 51]⟩ : ByteArray), (([(⟨1, 0, a0, a1, a2⟩ : S48)] : List (S48))))
set_option maxHeartbeats 8000000 in
set_option maxRecDepth 100000 in
theorem letterbaglaw24_Piece.calls (a0 : ByteArray) (a1 : Int) (a2 : Bool) (r1 : Int) (r2 : Int) (r3 : ByteArray) (r4 : List (S48)) (w : World) (h : letterbaglaw24_Piece.f a0 a1 a2 = some (r1, r2, r3, r4)) :
  Calls Tryd.prog 32 #[.string a0, .int .i64 a1, .bool a2] w fun e w' => ∃ v3_ : Value, e = .returned (.agg #[.int .u8 r1, .int .u8 r2, .string r3, v3_]) ∧ Kd.R k48 48 w' w.heap.size (fun _ => True) v3_ r4 ∧ Below w.heap.size w w' := by
 have hu36 := Tryd.underlying36
 have hu48 := Tryd.underlying48
 have HB := Aside0.mk (Below.refl w.heap.size w)
 have H : (some (1, 1, (⟨#[49, 48, 48, 50, 51]⟩ : ByteArray), (([(⟨1, 0, a0, a1, a2⟩ : S48)] : List (S48))))) = some (r1, r2, r3, r4) := h
 clear h
 obtain ⟨y219, hy219⟩ : ∃ y_ : List (S48), y_ = (([(⟨1, 0, a0, a1, a2⟩ : S48)] : List (S48))) := ⟨_, rfl⟩
 replace H : (some (1, 1, (⟨#[49, 48, 48, 50, 51]⟩ : ByteArray), y219)) = some (r1, r2, r3, r4) := by first | (rw [hy219]; with_reducible exact H) | (have H2_ := (Option.bind_some _ _).symm.trans H; rw [hy219]; with_reducible exact H2_) | (have H2_ := (Option.bind_some _ _).symm.trans H; with_reducible exact H2_) | with_reducible exact H | (rw [hy219]; exact H) | exact H
 have Ny219 := Aside0.mk hy219
 clear hy219
 simp only [Option.some.injEq, Prod.mk.injEq] at H
 obtain ⟨rfl, rfl, rfl, rfl⟩ := H
 go_enter Tryd.func32, Tryd.ntmps32
 go_wp2_with (first | ((with_reducible refine gate_dst (N := 6) rfl ?_); refine box_event ?hg (N := 6) ?hd (cs := #[.int .u8 0, .int .u8 0, .string (⟨#[]⟩ : ByteArray), .slice none 0 0]) (t := 36) ?hr ?_; (case hd => rfl); (case hg => rfl); (case hr => first | (go_simp; done) | (go_simp; rfl)); intro gb218 hg w4 hbox hb; have n0_ := Aside0.mk (below_step (by repeat (first | (with_reducible first | exact HB.out | apply below_alloc | apply pw_below_drewN | apply below_drew1) | exact HB.out)) hb); have n1_ := Aside0.mk (hbox); have n2_ := Aside0.mk ((by rw [hg]; exact (below_size (by repeat (first | (with_reducible first | exact HB.out | apply below_alloc | apply pw_below_drewN | apply below_drew1) | exact HB.out))) : w.heap.size ≤ gb218)); have n3_ := Aside0.mk ((by rw [hg]; exact (below_size (by repeat (first | (with_reducible first | exact HB.out | apply below_alloc | apply pw_below_drewN | apply below_drew1) | exact HB.out))) : w.heap.size ≤ gb218)); clear HB; have HB := n0_; have BK218 := n1_; have GW218 := n2_; have GE218 := n3_; clear n0_ n1_ n2_ n3_; clear hb hbox hg) | ((with_reducible refine gate_dst (N := 11) rfl ?_); refine Kd.R_lit k48 _ 48 ?hg (N := 11) ?hd (xs := ([(⟨1, 0, a0, a1, a2⟩ : S48)] : List (S48))) (inner := [.int .i64 1, .int .i64 0, .string a0, .int .i64 a1, .bool a2]) (ok := fun _ => True) (okp := fun _ => True) ?hr ?hp (fun _ hk => hk) trivial (Below.refl _ _) (Nat.le_refl _) (by simp) ?_; (case hd => rfl); (case hg => rfl); (case hr => first | (go_simp; done) | (go_simp; rfl)); (case hp => exact (Reps.c5 (show Kd.M k48 _ _ _ (⟨1, 0, a0, a1, a2⟩ : S48) [.int .i64 1, .int .i64 0, .string a0, .int .i64 a1, .bool a2] from (k48_mkM _ _ _ (⟨1, 0, a0, a1, a2⟩ : S48) )) (Reps.none _ _))); intro v220 w5 ho6 hb hg_ hnew_; clear hg_ hnew_; (first | rw [← Ny219.out] at ho6 | (simp only [Int.reduceToNat] at ho6; rw [← Ny219.out] at ho6)); have n0_ := Aside0.mk (Kd.R_lower ho6 (below_size (by repeat (first | (with_reducible first | exact HB.out | apply below_alloc | apply pw_below_drewN | apply below_drew1 | refine below_set ?_ GE218.out) | exact HB.out)))); have n1_ := Aside0.mk (blk_below (g := gb218) (o := .cells #[.int .u8 0, .int .u8 0, .string (⟨#[]⟩ : ByteArray), .slice none 0 0] 36 (0, 0)) (by (with_reducible repeat (first | refine blk_drewN ?_ _ | refine blk_drew ?_ | refine blk_alloc ?_ _)); exact BK218.out) hb); have n2_ := Aside0.mk (below_step (by repeat (first | (with_reducible first | exact HB.out | apply below_alloc | apply pw_below_drewN | apply below_drew1 | refine below_set ?_ GE218.out) | exact HB.out)) hb); clear BK218; clear HB; have HO221 := n0_; have BK218 := n1_; have HB := n2_; clear n0_ n1_ n2_; clear hb ho6; obtain ⟨Ao7, co7, eo7⟩ := Kd.R_slice HO221.out; subst eo7; have hcz8_0 : w5.cell? ⟨gb218, 0, none⟩ = some (.int .u8 0) := (blk_cell BK218.out 0).trans rfl; have hcz8_1 : w5.cell? ⟨gb218, 1, none⟩ = some (.int .u8 0) := (blk_cell BK218.out 1).trans rfl; have hcz8_2 : w5.cell? ⟨gb218, 2, none⟩ = some (.string (⟨#[]⟩ : ByteArray)) := (blk_cell BK218.out 2).trans rfl; have hcz8_3 : w5.cell? ⟨gb218, 3, none⟩ = some (.slice none 0 0) := (blk_cell BK218.out 3).trans rfl; have hfz8_0 := blk_frozen BK218.out 0; have hfz8_1 := blk_frozen BK218.out 1; have hfz8_2 := blk_frozen BK218.out 2; have hfz8_3 := blk_frozen BK218.out 3))
 refine bodyPost_ret (results_cell_row rfl _ _ gb218 36 #[.int .u8 1, .int .u8 1, .string (⟨#[49, 48, 48, 50, 51]⟩ : ByteArray), .slice Ao7 y219.length co7] (0, 0) _ rfl (by (with_reducible repeat (first | refine blk_drewN ?_ _ | refine blk_drew ?_ | refine blk_alloc ?_ _)); refine blk_put (cs := #[.int .u8 1, .int .u8 1, .string (⟨#[49, 48, 48, 50, 51]⟩ : ByteArray), .slice none 0 0]) ?_ 3 _ rfl; (with_reducible repeat (first | refine blk_drewN ?_ _ | refine blk_drew ?_ | refine blk_alloc ?_ _)); refine blk_put (cs := #[.int .u8 1, .int .u8 1, .string (⟨#[]⟩ : ByteArray), .slice none 0 0]) ?_ 2 _ rfl; (with_reducible repeat (first | refine blk_drewN ?_ _ | refine blk_drew ?_ | refine blk_alloc ?_ _)); refine blk_put (cs := #[.int .u8 1, .int .u8 0, .string (⟨#[]⟩ : ByteArray), .slice none 0 0]) ?_ 1 _ rfl; (with_reducible repeat (first | refine blk_drewN ?_ _ | refine blk_drew ?_ | refine blk_alloc ?_ _)); refine blk_put (cs := #[.int .u8 0, .int .u8 0, .string (⟨#[]⟩ : ByteArray), .slice none 0 0]) ?_ 0 _ rfl; (with_reducible repeat (first | refine blk_drewN ?_ _ | refine blk_drew ?_ | refine blk_alloc ?_ _)); exact BK218.out) Tryd.underlying36 rfl (by kernel_rfl)) rfl ?_
 exact ⟨_, by first | rfl | (simp [errW_none, errW_some] <;> rfl) | (simp [*, errW_none, errW_some] <;> rfl), by (with_reducible repeat (first | apply Kd.R_alloc | apply Kd.R_drewN | apply Kd.R_drew)); exact Kd.R_mono (Kd.R_far (p := ⟨gb218, 3, none⟩) (Kd.R_far (p := ⟨gb218, 2, none⟩) (Kd.R_far (p := ⟨gb218, 1, none⟩) (Kd.R_far (p := ⟨gb218, 0, none⟩) (Kd.R_types HO221.out BK218.out (by decide)) (fun _ hk => hk.2) (.int .u8 1)) (fun _ hk => hk.2) (.int .u8 1)) (fun _ hk => hk.2) (.string (⟨#[49, 48, 48, 50, 51]⟩ : ByteArray))) (fun _ hk => hk.2) (.slice Ao7 y219.length co7)) (fun _ hk => trivial), by repeat (first | (with_reducible first | exact HB.out | apply below_alloc | apply pw_below_drewN | apply below_drew1 | refine below_set ?_ GE218.out) | exact HB.out)⟩
end Go.Proofs.YtfglcfbcdhjcdaaDoor.Q

namespace Go.Proofs.YtfglcfbcdhjcdaaDoor.Q
open Go.RowKit Go.Proofs.YtfglcfbcdhjcdaaDoorW.PrintWords Go.Proofs.YtfglcfbcdhjcdaaDoorW.PrintLast Go.Proofs.YtfglcfbcdhjcdaaDoorW.PrintMore
attribute [local go_sem] max2_int min2_int max_two min_two
set_option linter.unusedVariables false
set_option linter.unusedSimpArgs false
def minTo (l : List Int) : Nat → Int
 | 0 => rd l 0
 | k + 1 => mn (minTo l k) (rd l ((k + 1 : Nat) : Int))
def slices_Min_int_int.f (l0 : List Int) : Option (Int) := if l0 = [] then none else some (minTo l0 (l0.length - 1))
set_option maxHeartbeats 1000000 in
theorem slices_Min_int_int.calls (A0 : Option Addr) (c0 : Nat) (l0 : List Int) (r : Int) (w : World) (hr0 : Kd.C (Kd.int .i64) w A0 l0.length l0) (hc0 : l0.length ≤ c0) (h : slices_Min_int_int.f l0 = some r) :
  Calls Tryd.prog 48 #[.slice A0 l0.length c0] w fun e w' => e = .returned (.int .i64 r) ∧ Below w.heap.size w w' := by
 unfold slices_Min_int_int.f at h
 split at h
 ·cases h
 rename_i hne
 have hpos : 0 < l0.length := List.length_pos_iff.2 hne
 have hle : l0.length ≤ 9223372036854775807 := hr0.2.1
 obtain rfl := Option.some.inj h
 clear h hne
 obtain ⟨ad, rfl, hcell0⟩ := Kd.at_int hr0 0 (by omega) (by omega)
 rw [show ((0 : Int)).toNat = 0 from rfl, Addr.add_zero'] at hcell0
 have hat : ∀ k : Nat, k < l0.length → w.cell? (ad.add k) = some (.int .i64 (rd l0 k)) := fun k hk => by
  obtain ⟨ad', e, hc⟩ := Kd.at_int hr0 (k : Int) (by omega) (by omega)
  injection e with e
  subst e
  simpa using hc
 have HR := Aside0.mk hat
 clear hat hr0
 have t1 : decide ((l0.length : Int) < 1) = false := by simp; omega
 generalize hn : l0.length = n at *
 have HN := Aside0.mk hn
 clear hn
 go_enter Tryd.func48, Tryd.ntmps48
 go_wp2
 go_loop [3, 4] (fun m i => ∃ j : Nat, 1 ≤ j ∧ j ≤ n ∧ i = .int .i64 (j : Int) ∧ m = .int .i64 (minTo l0 (j - 1))) (fun _ i => n - (intOf i).toNat)
 case atStart => exact ⟨1, by omega, by omega, rfl, rfl⟩
 case round =>
  obtain ⟨j, hj1, hj, rfl, rfl⟩ := hrel
  by_cases hlt : j < n
  ·have hc := HR.out j hlt
   have HM : Aside0 (minTo l0 j = mn (minTo l0 (j - 1)) (rd l0 j)) := ⟨by
    obtain ⟨m, rfl⟩ : ∃ m, j = m + 1 := ⟨j - 1, by omega⟩
    rfl⟩
   generalize minTo l0 (j - 1) = m at *
   go_wp2
   go_round
   case rel => exact ⟨j + 1, by omega, by omega, by go_num, by rw [Nat.add_sub_cancel, HM.out]; rfl⟩
   case measure => simp [intOf]; omega
  ·obtain rfl : n = j := by omega
   go_wp2
   go_ret
   exact ⟨rfl, Below.refl _ _⟩
end Go.Proofs.YtfglcfbcdhjcdaaDoor.Q

namespace Go.Proofs.YtfglcfbcdhjcdaaDoor.Q
open Go.RowKit Go.Proofs.YtfglcfbcdhjcdaaDoorW.PrintWords Go.Proofs.YtfglcfbcdhjcdaaDoorW.PrintLast Go.Proofs.YtfglcfbcdhjcdaaDoorW.PrintMore
attribute [local go_sem] max2_int min2_int max_two min_two max_three min_three max_four min_four
set_option linter.unusedVariables false
set_option linter.unusedSimpArgs false
mutual
def tariff_Fits.j0 : Nat → List (S54) → Bool → List (S57) → List (S67) → Option (Bool)
 | 0, _, _, _, _ => none
 | k + 1, x1, x19, x165000, x165001 => if x19 = true then (some false) else (tariff_Fits.l0 k 0 x1 (x1.length : Int) 0 x165000 x165001)
def tariff_Fits.l0 : Nat → Int → List (S54) → Int → Int → List (S57) → List (S67) → Option (Bool)
 | 0, _, _, _, _, _, _ => none
 | k + 1, x5, x20, x21, x22, x165000, x165001 => if x22 < x21 then (if 0 ≤ x22 then (if x22 < (x20.length : Int) then (tariff_Fits.l0 k (mx x5 ((rd_T54 x20 x22).f4)) x20 x21 (wrap64 (x22 + 1)) x165000 x165001) else (none)) else (none)) else (tariff_Fits.l1 k x5 x165000 (x165000.length : Int) 0)
def tariff_Fits.l1 : Nat → Int → List (S57) → Int → Int → Option (Bool)
 | 0, _, _, _, _ => none
 | k + 1, x5, x32, x33, x34 => if x34 < x33 then (if 0 ≤ x34 then (if x34 < (x32.length : Int) then (tariff_Fits.l2 k x5 x32 x33 x34 ((rd_T57 x32 x34).f1) (((rd_T57 x32 x34).f1).length : Int) 0 ((rd_T57 x32 x34).f0) ((rd_T57 x32 x34).f1) ((rd_T57 x32 x34).f2)) else (none)) else (none)) else (some true)
def tariff_Fits.l2 : Nat → Int → List (S57) → Int → Int → List (S61) → Int → Int → Int → List (S61) → Int → Option (Bool)
 | 0, _, _, _, _, _, _, _, _, _, _ => none
 | k + 1, x5, x32, x33, x34, x39, x40, x41, x171000, x171001, x171002 => if x41 < x40 then (if 0 ≤ x41 then (if x41 < (x39.length : Int) then ((slices_Min_int_int.f ((rd_T61 x39 x41).f1)).bind fun t173 => (if (wrap64 (t173 - x171002)) < x5 then (some false) else (tariff_Fits.l2 k x5 x32 x33 x34 x39 x40 (wrap64 (x41 + 1)) x171000 x171001 x171002))) else (none)) else (none)) else (tariff_Fits.l1 k x5 x32 x33 (wrap64 (x34 + 1)))
end
def tariff_Fits.f (k : Nat) (l0_0 : List (S57)) (l0_1 : List (S67)) (l1 : List (S54)) : Option (Bool) := (tariff_Right.f l0_0 l0_1).bind fun t165 => (if t165 = true then ((scheme_Right.f l1).bind fun t166 => (tariff_Fits.j0 k l1 (!t166) l0_0 l0_1)) else (tariff_Fits.j0 k l1 true l0_0 l0_1))
def tariff_Fits.T15 : Bool × List (List Nat × List Nat) := (true, [([], []), ([0], [0]), ([1], [1]), ([], []), ([3], [3]), ([2, 4], [2, 4]), ([], []), ([5, 6], [5, 6])])
def tariff_Fits.B15 : List Nat := [0, 1, 3, 0, 8, 31, 0, 127]
theorem tariff_Fits.tab15 : rtab .any (opsOf Tryd.f20 15) = tariff_Fits.T15 := by kernel_rfl
theorem tariff_Fits.bits15 : waitsOk tariff_Fits.T15.2 tariff_Fits.B15 = true := by kernel_rfl
set_option maxHeartbeats 8000000 in
set_option maxRecDepth 100000 in
theorem tariff_Fits.calls (k : Nat) (A0_0 : Option Addr) (c0_0 : Nat) (l0_0 : List (S57)) (A0_1 : Option Addr) (c0_1 : Nat) (l0_1 : List (S67)) (A1 : Option Addr) (c1 : Nat) (l1 : List (S54)) (r : Bool) (w : World) (hr0_0 : Kd.C k57 w A0_0 l0_0.length l0_0) (hc0_0 : l0_0.length ≤ c0_0) (hr0_1 : Kd.C k67 w A0_1 l0_1.length l0_1) (hc0_1 : l0_1.length ≤ c0_1) (hr1 : Kd.C k54 w A1 l1.length l1) (hc1 : l1.length ≤ c1) (h : tariff_Fits.f k l0_0 l0_1 l1 = some r) :
  Calls Tryd.prog 20 #[.agg #[.slice A0_0 l0_0.length c0_0, .slice A0_1 l0_1.length c0_1], .slice A1 l1.length c1] w fun e w' => e = .returned (.bool r) ∧ Below w.heap.size w w' := by
 have hu25 := Tryd.underlying25
 have hu54 := Tryd.underlying54
 have hu57 := Tryd.underlying57
 have hu61 := Tryd.underlying61
 have HR0_0 := Aside0.mk hr0_0
 have HC0_0 := Aside0.mk hc0_0
 clear hr0_0 hc0_0
 have HR0_1 := Aside0.mk hr0_1
 have HC0_1 := Aside0.mk hc0_1
 clear hr0_1 hc0_1
 have HR1 := Aside0.mk hr1
 have HC1 := Aside0.mk hc1
 clear hr1 hc1
 have HB := Aside0.mk (Below.refl w.heap.size w)
 have H : ((tariff_Right.f l0_0 l0_1).bind fun t165 => (if t165 = true then ((scheme_Right.f l1).bind fun t166 => (tariff_Fits.j0 k l1 (!t166) l0_0 l0_1)) else (tariff_Fits.j0 k l1 true l0_0 l0_1))) = some r := h
 clear h
 have HC3 := Aside0.mk H
 clear H
 go_enter Tryd.func20, Tryd.ntmps20
 go_upto_region 1 with (first | ((with_reducible refine gate_dst (N := 2) rfl ?_); refine box_event ?hg (N := 2) ?hd (cs := #[.slice A0_0 l0_0.length c0_0, .slice A0_1 l0_1.length c0_1]) (t := 25) ?hr ?_; (case hd => rfl); (case hg => rfl); (case hr => first | (go_simp; done) | (go_simp; rfl)); intro gb164 hg w4 hbox hb; have n0_ := Aside0.mk (below_step (by repeat (first | (with_reducible first | exact HB.out | apply below_alloc | apply pw_below_drewN | apply below_drew1) | exact HB.out)) hb); have n1_ := Aside0.mk (hbox); have n2_ := Aside0.mk ((by rw [hg]; exact (below_size (by repeat (first | (with_reducible first | exact HB.out | apply below_alloc | apply pw_below_drewN | apply below_drew1) | exact HB.out))) : w.heap.size ≤ gb164)); have n3_ := Aside0.mk ((by rw [hg]; exact (below_size (by repeat (first | (with_reducible first | exact HB.out | apply below_alloc | apply pw_below_drewN | apply below_drew1) | exact HB.out))) : w.heap.size ≤ gb164)); clear HB; have HB := n0_; have BK164 := n1_; have GW164 := n2_; have GE164 := n3_; clear n0_ n1_ n2_ n3_; clear hb hbox hg))
 (try simp only [Act.put, sl1, sl2, sl3])
 go_cut [19] (fun v19 wc => ∃ (kq : Nat) (x19_2 : Bool), v19 = .bool x19_2 ∧ Aside0 (tariff_Fits.j0 kq l1 x19_2 l0_0 l0_1 = some r) ∧ Aside0 (kq ≤ k) ∧ Aside0 (wc.heap[gb164]? = some (.cells #[(.slice A0_0 l0_0.length c0_0), (.slice A0_1 l0_1.length c0_1)] 25 (0, 0))) ∧ Aside0 (Below w.heap.size w wc))
 case first =>
  have H := HC3.out
  clear HC3
  replace H := Option.bind_eq_some_iff.mp H
  obtain ⟨t165, A50, H⟩ := H
  replace H : (if t165 = true then ((scheme_Right.f l1).bind fun t166 => (tariff_Fits.j0 k l1 (!t166) l0_0 l0_1)) else (tariff_Fits.j0 k l1 true l0_0 l0_1)) = some r := H
  have A5 := Aside0.mk A50
  clear A50
  by_cases c6 : t165 = true
  ·subst c6
   have H1 : ((scheme_Right.f l1).bind fun t166 => (tariff_Fits.j0 k l1 (!t166) l0_0 l0_1)) = some r := by rw [if_pos rfl] at H; exact H
   clear H
   have H := H1
   clear H1
   replace H := Option.bind_eq_some_iff.mp H
   obtain ⟨t166, A70, H⟩ := H
   replace H : (tariff_Fits.j0 k l1 (!t166) l0_0 l0_1) = some r := H
   have A7 := Aside0.mk A70
   clear A70
   have H' := Aside0.mk H
   clear H
   have hcz8_0 : w4.cell? ⟨gb164, 0, none⟩ = some (.slice A0_0 l0_0.length c0_0) := (blk_cell BK164.out 0).trans rfl
   have hcz8_1 : w4.cell? ⟨gb164, 1, none⟩ = some (.slice A0_1 l0_1.length c0_1) := (blk_cell BK164.out 1).trans rfl
   have hfz8_0 := blk_frozen BK164.out 0
   have hfz8_1 := blk_frozen BK164.out 1
   go_wp2_with (first | ((with_reducible refine gate_callee (f := 18) rfl ?_); refine goesL_ (some 13) rfl rfl Tryd.func18 (by kernel_rfl) rfl #[.agg #[.slice A0_0 l0_0.length c0_0, .slice A0_1 l0_1.length c0_1]] rfl (by (try simp only [List.map_toArray, List.map_cons, List.map_nil]); first | done | rfl | (simp only [List.length_drop, List.length_take]; rfl)) ?_; (with_reducible refine (tariff_Right.calls _ _ l0_0 _ _ l0_1 true _ ?side1 ?side2 ?side3 ?side4 A5.out).mono ?_); (case side1 => repeat (first | exact (Kd.C_below HR0_0.out HB.out) | (with_reducible refine Kd.C_alloc ?_ _) | (with_reducible refine Kd.C_drewN ?_ _) | (with_reducible refine Kd.C_drew ?_))); (case side2 => exact HC0_0.out); (case side3 => repeat (first | exact (Kd.C_below HR0_1.out HB.out) | (with_reducible refine Kd.C_alloc ?_ _) | (with_reducible refine Kd.C_drewN ?_ _) | (with_reducible refine Kd.C_drew ?_))); (case side4 => exact HC0_1.out); rintro e w9 ⟨rfl, hb⟩; refine ⟨_, rfl, ?_⟩; have n0_ := Aside0.mk (blk_below (g := gb164) (o := .cells #[.slice A0_0 l0_0.length c0_0, .slice A0_1 l0_1.length c0_1] 25 (0, 0)) (by (with_reducible repeat (first | refine blk_drewN ?_ _ | refine blk_drew ?_ | refine blk_alloc ?_ _)); exact BK164.out) hb); have n1_ := Aside0.mk (below_step (by repeat (first | (with_reducible first | exact HB.out | apply below_alloc | apply pw_below_drewN | apply below_drew1 | refine below_set ?_ GE164.out) | exact HB.out)) hb); clear BK164; clear HB; have BK164 := n0_; have HB := n1_; clear n0_ n1_; (try clear hb); (try clear hb2); (try clear hk); (try clear hi)) | (go_at_call 47; (with_reducible refine (scheme_Right.calls _ _ l1 t166 _ ?side1 ?side2 A7.out).mono ?_); (case side1 => repeat (first | exact (Kd.C_below HR1.out HB.out) | (with_reducible refine Kd.C_alloc ?_ _) | (with_reducible refine Kd.C_drewN ?_ _) | (with_reducible refine Kd.C_drew ?_))); (case side2 => exact HC1.out); rintro e w10 ⟨rfl, hb⟩; have n0_ := Aside0.mk (blk_below (g := gb164) (o := .cells #[.slice A0_0 l0_0.length c0_0, .slice A0_1 l0_1.length c0_1] 25 (0, 0)) (by (with_reducible repeat (first | refine blk_drewN ?_ _ | refine blk_drew ?_ | refine blk_alloc ?_ _)); exact BK164.out) hb); have n1_ := Aside0.mk (below_step (by repeat (first | (with_reducible first | exact HB.out | apply below_alloc | apply pw_below_drewN | apply below_drew1 | refine below_set ?_ GE164.out) | exact HB.out)) hb); clear BK164; clear HB; have BK164 := n0_; have HB := n1_; clear n0_ n1_; (try clear hb); (try clear hb2); (try clear hk); (try clear hi)))
   go_meet
   case rel => exact ⟨_, (!t166), (by first | rfl | (simp; done) | (simp [*]; done)), H', ⟨by first | omega | exact Nat.le_refl _⟩, ⟨by (with_reducible repeat (first | refine blk_drewN ?_ _ | refine blk_drew ?_ | refine blk_alloc ?_ _)); exact BK164.out⟩, ⟨by repeat (first | (with_reducible first | exact HB.out | apply below_alloc | apply pw_below_drewN | apply below_drew1 | refine below_set ?_ GE164.out) | exact HB.out)⟩⟩
  ·replace c6 := Bool.eq_false_iff.mpr c6
   subst c6
   have H1 : (tariff_Fits.j0 k l1 true l0_0 l0_1) = some r := by rw [if_neg (show ¬ (false = true) by decide)] at H; exact H
   clear H
   have H := H1
   clear H1
   have H' := Aside0.mk H
   clear H
   have hcz11_0 : w4.cell? ⟨gb164, 0, none⟩ = some (.slice A0_0 l0_0.length c0_0) := (blk_cell BK164.out 0).trans rfl
   have hcz11_1 : w4.cell? ⟨gb164, 1, none⟩ = some (.slice A0_1 l0_1.length c0_1) := (blk_cell BK164.out 1).trans rfl
   have hfz11_0 := blk_frozen BK164.out 0
   have hfz11_1 := blk_frozen BK164.out 1
   go_wp2_with (first | ((with_reducible refine gate_callee (f := 18) rfl ?_); refine goesL_ (some 13) rfl rfl Tryd.func18 (by kernel_rfl) rfl #[.agg #[.slice A0_0 l0_0.length c0_0, .slice A0_1 l0_1.length c0_1]] rfl (by (try simp only [List.map_toArray, List.map_cons, List.map_nil]); first | done | rfl | (simp only [List.length_drop, List.length_take]; rfl)) ?_; (with_reducible refine (tariff_Right.calls _ _ l0_0 _ _ l0_1 false _ ?side1 ?side2 ?side3 ?side4 A5.out).mono ?_); (case side1 => repeat (first | exact (Kd.C_below HR0_0.out HB.out) | (with_reducible refine Kd.C_alloc ?_ _) | (with_reducible refine Kd.C_drewN ?_ _) | (with_reducible refine Kd.C_drew ?_))); (case side2 => exact HC0_0.out); (case side3 => repeat (first | exact (Kd.C_below HR0_1.out HB.out) | (with_reducible refine Kd.C_alloc ?_ _) | (with_reducible refine Kd.C_drewN ?_ _) | (with_reducible refine Kd.C_drew ?_))); (case side4 => exact HC0_1.out); rintro e w12 ⟨rfl, hb⟩; refine ⟨_, rfl, ?_⟩; have n0_ := Aside0.mk (blk_below (g := gb164) (o := .cells #[.slice A0_0 l0_0.length c0_0, .slice A0_1 l0_1.length c0_1] 25 (0, 0)) (by (with_reducible repeat (first | refine blk_drewN ?_ _ | refine blk_drew ?_ | refine blk_alloc ?_ _)); exact BK164.out) hb); have n1_ := Aside0.mk (below_step (by repeat (first | (with_reducible first | exact HB.out | apply below_alloc | apply pw_below_drewN | apply below_drew1 | refine below_set ?_ GE164.out) | exact HB.out)) hb); clear BK164; clear HB; have BK164 := n0_; have HB := n1_; clear n0_ n1_; (try clear hb); (try clear hb2); (try clear hk); (try clear hi)))
   go_meet
   case rel => exact ⟨_, (true), (by first | rfl | (simp; done) | (simp [*]; done)), H', ⟨by first | omega | exact Nat.le_refl _⟩, ⟨by (with_reducible repeat (first | refine blk_drewN ?_ _ | refine blk_drew ?_ | refine blk_alloc ?_ _)); exact BK164.out⟩, ⟨by repeat (first | (with_reducible first | exact HB.out | apply below_alloc | apply pw_below_drewN | apply below_drew1 | refine below_set ?_ GE164.out) | exact HB.out)⟩⟩
 case rest =>
  clear HC3
  try clear c1
  try clear c2
  try clear p2
  try clear c6
  try clear hcz11_0
  try clear hcz11_1
  try clear hcz8_0
  try clear hcz8_1
  try clear hfz11_0
  try clear hfz11_1
  try clear hfz8_0
  try clear hfz8_1
  obtain ⟨kq, x19_2, rfl, HA, HJ2, BK164, HB⟩ := hcut
  cases kq with
  | zero => exact absurd HA.out (by simp [tariff_Fits.j0])
  | succ kj2 =>
   have H := HA.out
   clear HA
   simp only [tariff_Fits.j0] at H
   by_cases c13 : x19_2 = true
   ·subst c13
    have H1 : (some false) = some r := by rw [if_pos rfl] at H; exact H
    clear H
    have H := H1
    clear H1
    obtain rfl := Option.some.inj H
    go_wp2
    go_ret
    exact ⟨by first | rfl | (simp [errW_none, errW_some] <;> rfl) | (simp [*, errW_none, errW_some] <;> rfl), by repeat (first | (with_reducible first | exact HB.out | apply below_alloc | apply pw_below_drewN | apply below_drew1 | refine below_set ?_ GE164.out) | exact HB.out)⟩
   ·replace c13 := Bool.eq_false_iff.mpr c13
    subst c13
    have H1 : (tariff_Fits.l0 kj2 0 l1 (l1.length : Int) 0 l0_0 l0_1) = some r := by rw [if_neg (show ¬ (false = true) by decide)] at H; exact H
    clear H
    have H := H1
    clear H1
    have H' := Aside0.mk H
    clear H
    go_wp2
    go_loopg [5, 22] kj2 (fun kq v5 v22 w' => ∃ (x5_2 : Int) (x22_2 : Int), v5 = .int .i64 x5_2 ∧ v22 = .int .i64 x22_2 ∧ Aside0 (tariff_Fits.l0 kq x5_2 l1 (l1.length : Int) x22_2 l0_0 l0_1 = some r) ∧ Aside0 (kq ≤ kj2) ∧ Aside0 (w'.heap[gb164]? = some (.cells #[(.slice A0_0 l0_0.length c0_0), (.slice A0_1 l0_1.length c0_1)] 25 (0, 0))) ∧ Aside0 (Below w.heap.size w w'))
    case atStart => exact ⟨(0), (0), (by first | rfl | (simp; done) | (simp [*]; done)), (by first | rfl | (simp; done) | (simp [*]; done)), H', ⟨Nat.le_refl _⟩, ⟨by (with_reducible repeat (first | refine blk_drewN ?_ _ | refine blk_drew ?_ | refine blk_alloc ?_ _)); exact BK164.out⟩, ⟨by repeat (first | (with_reducible first | exact HB.out | apply below_alloc | apply pw_below_drewN | apply below_drew1 | refine below_set ?_ GE164.out) | exact HB.out)⟩⟩
    case round =>
     clear H'
     try clear c1
     try clear c2
     try clear p2
     try clear c6
     try clear c13
     try clear hcz11_0
     try clear hcz11_1
     try clear hcz8_0
     try clear hcz8_1
     try clear hfz11_0
     try clear hfz11_1
     try clear hfz8_0
     try clear hfz8_1
     try clear p2
     obtain ⟨x5_2, x22_2, rfl, rfl, HA, HK2, BK164, HB⟩ := hrel
     cases gk with
     | zero => exact absurd HA.out (by simp [tariff_Fits.l0])
     | succ k2 =>
      have H := HA.out
      clear HA
      simp only [tariff_Fits.l0] at H
      by_cases c14 : x22_2 < (l1.length : Int)
      ·rw [if_pos c14] at H
       have c14b0 : decide (x22_2 < (l1.length : Int)) = true := decide_eq_true c14
       clear c14
       by_cases c15 : 0 ≤ x22_2
       ·rw [if_pos c15] at H
        have c15b0 : decide (0 ≤ x22_2) = true := decide_eq_true c15
        clear c15
        by_cases c16 : x22_2 < (l1.length : Int)
        ·rw [if_pos c16] at H
         have c16b0 : decide (x22_2 < (l1.length : Int)) = true := decide_eq_true c16
         clear c16
         obtain ⟨ji17, hji17⟩ : ∃ j_ : Int, (mx x5_2 ((rd_T54 l1 x22_2).f4)) = j_ := ⟨_, rfl⟩
         replace H : (tariff_Fits.l0 k2 ji17 l1 (l1.length : Int) (wrap64 (x22_2 + 1)) l0_0 l0_1) = some r := by first | (rw [hji17] at H; exact H) | (simp only [hji17] at H ⊢; exact H)
         have hji17_ : (if x5_2 < ((rd_T54 l1 x22_2).f4) then ((rd_T54 l1 x22_2).f4) else x5_2) = ji17 := hji17
         have H' := Aside0.mk H
         clear H
         have p167 : 0 ≤ (x22_2 : Int) := of_decide_eq_true (by first | (with_reducible assumption) | assumption)
         have q167 : x22_2 < (l1.length : Int) := of_decide_eq_true (by first | (with_reducible assumption) | assumption)
         obtain ⟨ad167, A167_2, c167_2, e167, hx167_0, hx167_1, hx167_2, hx167_3, hx167_4, hl167_2, hi167_2⟩ := at_T54 HR1.out x22_2 p167 q167
         cases e167
         replace hx167_0 := (HB.out.cell (World.block_lt_of_cell? w _ hx167_0)).trans hx167_0
         replace hx167_1 := (HB.out.cell (World.block_lt_of_cell? w _ hx167_1)).trans hx167_1
         replace hx167_2 := (HB.out.cell (World.block_lt_of_cell? w _ hx167_2)).trans hx167_2
         replace hx167_3 := (HB.out.cell (World.block_lt_of_cell? w _ hx167_3)).trans hx167_3
         replace hx167_4 := (HB.out.cell (World.block_lt_of_cell? w _ hx167_4)).trans hx167_4
         have HR167_2 := Aside0.mk hi167_2
         have HC167_2 := Aside0.mk hl167_2
         clear hi167_2 hl167_2
         replace p167 := eq_true p167
         replace q167 := eq_true q167
         go_wp2_with (first | ((with_reducible refine gate_dst (N := 7) rfl ?_); refine box_event ?hg (N := 7) ?hd (cs := #[.string (⟨#[]⟩ : ByteArray), .int .i64 0, .slice none 0 0, .int .i64 0, .int .i64 0]) (t := 54) ?hr ?_; (case hd => rfl); (case hg => rfl); (case hr => first | (go_simp; done) | (go_simp; rfl)); intro gb168 hg w18 hbox hb; have n0_ := Aside0.mk (blk_below (g := gb164) (o := .cells #[.slice A0_0 l0_0.length c0_0, .slice A0_1 l0_1.length c0_1] 25 (0, 0)) (by (with_reducible repeat (first | refine blk_drewN ?_ _ | refine blk_drew ?_ | refine blk_alloc ?_ _)); exact BK164.out) hb); have n1_ := Aside0.mk (below_step (by repeat (first | (with_reducible first | exact HB.out | apply below_alloc | apply pw_below_drewN | apply below_drew1 | refine below_set ?_ GE164.out) | exact HB.out)) hb); have n2_ := Aside0.mk (hbox); have n3_ := Aside0.mk ((by rw [hg]; exact (below_size (by repeat (first | (with_reducible first | exact HB.out | apply below_alloc | apply pw_below_drewN | apply below_drew1 | refine below_set ?_ GE164.out) | exact HB.out))) : w.heap.size ≤ gb168)); have n4_ := Aside0.mk ((by rw [hg]; exact (below_size (by repeat (first | (with_reducible first | exact HB.out | apply below_alloc | apply pw_below_drewN | apply below_drew1 | refine below_set ?_ GE164.out) | exact HB.out))) : w.heap.size ≤ gb168)); have n5_ := Aside0.mk ((by rw [hg]; exact Nat.ne_of_lt (blk_lt (g := gb164) (o := .cells #[.slice A0_0 l0_0.length c0_0, .slice A0_1 l0_1.length c0_1] 25 (0, 0)) (by (with_reducible repeat (first | refine blk_drewN ?_ _ | refine blk_drew ?_ | refine blk_alloc ?_ _)); exact BK164.out)) : gb164 ≠ gb168)); have n6_ := Aside0.mk ((by rw [hg]; exact Nat.ne_of_gt (blk_lt (g := gb164) (o := .cells #[.slice A0_0 l0_0.length c0_0, .slice A0_1 l0_1.length c0_1] 25 (0, 0)) (by (with_reducible repeat (first | refine blk_drewN ?_ _ | refine blk_drew ?_ | refine blk_alloc ?_ _)); exact BK164.out)) : gb168 ≠ gb164)); clear BK164; clear HB; have BK164 := n0_; have HB := n1_; have BK168 := n2_; have GW168 := n3_; have GE168 := n4_; have NB164_168 := n5_; have NB168_164 := n6_; clear n0_ n1_ n2_ n3_ n4_ n5_ n6_; clear hb hbox hg; have hnb19 := NB168_164.out; have hnc19 := NB164_168.out; have hcz20_0 : w18.cell? ⟨gb168, 0, none⟩ = some (.string (⟨#[]⟩ : ByteArray)) := (blk_cell BK168.out 0).trans rfl; have hcz20_1 : w18.cell? ⟨gb168, 1, none⟩ = some (.int .i64 0) := (blk_cell BK168.out 1).trans rfl; have hcz20_2 : w18.cell? ⟨gb168, 2, none⟩ = some (.slice none 0 0) := (blk_cell BK168.out 2).trans rfl; have hcz20_3 : w18.cell? ⟨gb168, 3, none⟩ = some (.int .i64 0) := (blk_cell BK168.out 3).trans rfl; have hcz20_4 : w18.cell? ⟨gb168, 4, none⟩ = some (.int .i64 0) := (blk_cell BK168.out 4).trans rfl; have hfz20_0 := blk_frozen BK168.out 0; have hfz20_1 := blk_frozen BK168.out 1; have hfz20_2 := blk_frozen BK168.out 2; have hfz20_3 := blk_frozen BK168.out 3; have hfz20_4 := blk_frozen BK168.out 4))
         go_roundg k2
         case measure => have := HJ2.out; have := HK2.out; omega
         case rel => exact ⟨(ji17), (wrap64 (x22_2 + 1)), (by first | rfl | (simp; done) | (simp only [← hji17] <;> (first | rfl | simp)) | (simp [*]; done)), (by first | rfl | (simp; done) | (simp [*]; done)), H', ⟨by have := HJ2.out; have := HK2.out; omega⟩, ⟨by (with_reducible repeat (first | refine blk_drewN ?_ _ | refine blk_drew ?_ | refine blk_alloc ?_ _)); refine blk_far ?_ NB164_168.out _; (with_reducible repeat (first | refine blk_drewN ?_ _ | refine blk_drew ?_ | refine blk_alloc ?_ _)); refine blk_far ?_ NB164_168.out _; (with_reducible repeat (first | refine blk_drewN ?_ _ | refine blk_drew ?_ | refine blk_alloc ?_ _)); refine blk_far ?_ NB164_168.out _; (with_reducible repeat (first | refine blk_drewN ?_ _ | refine blk_drew ?_ | refine blk_alloc ?_ _)); refine blk_far ?_ NB164_168.out _; (with_reducible repeat (first | refine blk_drewN ?_ _ | refine blk_drew ?_ | refine blk_alloc ?_ _)); refine blk_far ?_ NB164_168.out _; (with_reducible repeat (first | refine blk_drewN ?_ _ | refine blk_drew ?_ | refine blk_alloc ?_ _)); exact BK164.out⟩, ⟨by repeat (first | (with_reducible first | exact HB.out | apply below_alloc | apply pw_below_drewN | apply below_drew1 | refine below_set ?_ GE164.out | refine below_set ?_ GE168.out) | exact HB.out)⟩⟩
        ·rw [if_neg c16] at H
         exact absurd H (by simp)
       ·rw [if_neg c15] at H
        exact absurd H (by simp)
      ·rw [if_neg c14] at H
       have c14b0 : decide (x22_2 < (l1.length : Int)) = false := decide_eq_false c14
       clear c14
       have H' := Aside0.mk H
       clear H
       have hcz21_0 : wr.cell? ⟨gb164, 0, none⟩ = some (.slice A0_0 l0_0.length c0_0) := (blk_cell BK164.out 0).trans rfl
       have hcz21_1 : wr.cell? ⟨gb164, 1, none⟩ = some (.slice A0_1 l0_1.length c0_1) := (blk_cell BK164.out 1).trans rfl
       have hfz21_0 := blk_frozen BK164.out 0
       have hfz21_1 := blk_frozen BK164.out 1
       go_wp2
       go_loopg [34] k2 (fun kq v34 w' => ∃ (x34_3 : Int), v34 = .int .i64 x34_3 ∧ Aside0 (tariff_Fits.l1 kq x5_2 l0_0 (l0_0.length : Int) x34_3 = some r) ∧ Aside0 (kq ≤ k2) ∧ Aside0 (w'.heap[gb164]? = some (.cells #[(.slice A0_0 l0_0.length c0_0), (.slice A0_1 l0_1.length c0_1)] 25 (0, 0))) ∧ Aside0 (Below w.heap.size w w'))
       case atStart => exact ⟨(0), (by first | rfl | (simp; done) | (simp [*]; done)), H', ⟨Nat.le_refl _⟩, ⟨by (with_reducible repeat (first | refine blk_drewN ?_ _ | refine blk_drew ?_ | refine blk_alloc ?_ _)); exact BK164.out⟩, ⟨by repeat (first | (with_reducible first | exact HB.out | apply below_alloc | apply pw_below_drewN | apply below_drew1 | refine below_set ?_ GE164.out) | exact HB.out)⟩⟩
       case round =>
        clear H'
        try clear c1
        try clear p1
        try clear q1
        try clear hx1
        try clear c2
        try clear p2
        try clear c6
        try clear p6
        try clear c13
        try clear c14
        try clear c14b0
        try clear c15
        try clear c15b0
        try clear c16
        try clear c16b0
        try clear p16
        try clear q16
        try clear hx16
        try clear c18
        try clear c19
        try clear c20
        try clear hcz11_0
        try clear hcz11_1
        try clear hcz20_0
        try clear hcz20_1
        try clear hcz20_2
        try clear hcz20_3
        try clear hcz20_4
        try clear hcz21_0
        try clear hcz21_1
        try clear hcz8_0
        try clear hcz8_1
        try clear hfz11_0
        try clear hfz11_1
        try clear hfz20_0
        try clear hfz20_1
        try clear hfz20_2
        try clear hfz20_3
        try clear hfz20_4
        try clear hfz21_0
        try clear hfz21_1
        try clear hfz8_0
        try clear hfz8_1
        try clear hx167_0
        try clear hx167_1
        try clear hx167_2
        try clear hx167_3
        try clear hx167_4
        try clear p167
        try clear p2
        try clear q167
        obtain ⟨x34_3, rfl, HA, HK3, BK164, HB⟩ := hrel
        cases gk with
        | zero => exact absurd HA.out (by simp [tariff_Fits.l1])
        | succ k3 =>
         have H := HA.out
         clear HA
         simp only [tariff_Fits.l1] at H
         by_cases c22 : x34_3 < (l0_0.length : Int)
         ·rw [if_pos c22] at H
          have c22b0 : decide (x34_3 < (l0_0.length : Int)) = true := decide_eq_true c22
          clear c22
          by_cases c23 : 0 ≤ x34_3
          ·rw [if_pos c23] at H
           have c23b0 : decide (0 ≤ x34_3) = true := decide_eq_true c23
           clear c23
           by_cases c24 : x34_3 < (l0_0.length : Int)
           ·rw [if_pos c24] at H
            have c24b0 : decide (x34_3 < (l0_0.length : Int)) = true := decide_eq_true c24
            clear c24
            have H' := Aside0.mk H
            clear H
            have p169 : 0 ≤ (x34_3 : Int) := of_decide_eq_true (by first | (with_reducible assumption) | assumption)
            have q169 : x34_3 < (l0_0.length : Int) := of_decide_eq_true (by first | (with_reducible assumption) | assumption)
            obtain ⟨ad169, A169_1, c169_1, e169, hx169_0, hx169_1, hx169_2, hl169_1, hi169_1⟩ := at_T57 HR0_0.out x34_3 p169 q169
            cases e169
            replace hx169_0 := (HB.out.cell (World.block_lt_of_cell? w _ hx169_0)).trans hx169_0
            replace hx169_1 := (HB.out.cell (World.block_lt_of_cell? w _ hx169_1)).trans hx169_1
            replace hx169_2 := (HB.out.cell (World.block_lt_of_cell? w _ hx169_2)).trans hx169_2
            have HR169_1 := Aside0.mk hi169_1
            have HC169_1 := Aside0.mk hl169_1
            clear hi169_1 hl169_1
            replace p169 := eq_true p169
            replace q169 := eq_true q169
            go_wp2_with (first | ((with_reducible refine gate_dst (N := 9) rfl ?_); refine box_event ?hg (N := 9) ?hd (cs := #[.int .u8 0, .slice none 0 0, .int .i64 0]) (t := 57) ?hr ?_; (case hd => rfl); (case hg => rfl); (case hr => first | (go_simp; done) | (go_simp; rfl)); intro gb170 hg w25 hbox hb; have n0_ := Aside0.mk (blk_below (g := gb164) (o := .cells #[.slice (some ad169) l0_0.length c0_0, .slice A0_1 l0_1.length c0_1] 25 (0, 0)) (by (with_reducible repeat (first | refine blk_drewN ?_ _ | refine blk_drew ?_ | refine blk_alloc ?_ _)); exact BK164.out) hb); have n1_ := Aside0.mk (below_step (by repeat (first | (with_reducible first | exact HB.out | apply below_alloc | apply pw_below_drewN | apply below_drew1 | refine below_set ?_ GE164.out) | exact HB.out)) hb); have n2_ := Aside0.mk (hbox); have n3_ := Aside0.mk ((by rw [hg]; exact (below_size (by repeat (first | (with_reducible first | exact HB.out | apply below_alloc | apply pw_below_drewN | apply below_drew1 | refine below_set ?_ GE164.out) | exact HB.out))) : w.heap.size ≤ gb170)); have n4_ := Aside0.mk ((by rw [hg]; exact (below_size (by repeat (first | (with_reducible first | exact HB.out | apply below_alloc | apply pw_below_drewN | apply below_drew1 | refine below_set ?_ GE164.out) | exact HB.out))) : w.heap.size ≤ gb170)); have n5_ := Aside0.mk ((by rw [hg]; exact Nat.ne_of_lt (blk_lt (g := gb164) (o := .cells #[.slice (some ad169) l0_0.length c0_0, .slice A0_1 l0_1.length c0_1] 25 (0, 0)) (by (with_reducible repeat (first | refine blk_drewN ?_ _ | refine blk_drew ?_ | refine blk_alloc ?_ _)); exact BK164.out)) : gb164 ≠ gb170)); have n6_ := Aside0.mk ((by rw [hg]; exact Nat.ne_of_gt (blk_lt (g := gb164) (o := .cells #[.slice (some ad169) l0_0.length c0_0, .slice A0_1 l0_1.length c0_1] 25 (0, 0)) (by (with_reducible repeat (first | refine blk_drewN ?_ _ | refine blk_drew ?_ | refine blk_alloc ?_ _)); exact BK164.out)) : gb170 ≠ gb164)); clear BK164; clear HB; have BK164 := n0_; have HB := n1_; have BK170 := n2_; have GW170 := n3_; have GE170 := n4_; have NB164_170 := n5_; have NB170_164 := n6_; clear n0_ n1_ n2_ n3_ n4_ n5_ n6_; clear hb hbox hg; have hnb26 := NB170_164.out; have hnc26 := NB164_170.out; have hcz27_0 : w25.cell? ⟨gb170, 0, none⟩ = some (.int .u8 0) := (blk_cell BK170.out 0).trans rfl; have hcz27_1 : w25.cell? ⟨gb170, 1, none⟩ = some (.slice none 0 0) := (blk_cell BK170.out 1).trans rfl; have hcz27_2 : w25.cell? ⟨gb170, 2, none⟩ = some (.int .i64 0) := (blk_cell BK170.out 2).trans rfl; have hfz27_0 := blk_frozen BK170.out 0; have hfz27_1 := blk_frozen BK170.out 1; have hfz27_2 := blk_frozen BK170.out 2))
            go_loopg [41] k3 (fun kq v41 w' => ∃ (x41_4 : Int), v41 = .int .i64 x41_4 ∧ Aside0 (tariff_Fits.l2 kq x5_2 l0_0 (l0_0.length : Int) x34_3 ((rd_T57 l0_0 x34_3).f1) (((rd_T57 l0_0 x34_3).f1).length : Int) x41_4 ((rd_T57 l0_0 x34_3).f0) ((rd_T57 l0_0 x34_3).f1) ((rd_T57 l0_0 x34_3).f2) = some r) ∧ Aside0 (kq ≤ k3) ∧ Aside0 (w'.heap[gb164]? = some (.cells #[(.slice (some ad169) l0_0.length c0_0), (.slice A0_1 l0_1.length c0_1)] 25 (0, 0))) ∧ Aside0 (w'.heap[gb170]? = some (.cells #[.int .u8 ((rd_T57 l0_0 x34_3).f0), (.slice A169_1 ((rd_T57 l0_0 x34_3).f1).length c169_1), .int .i64 ((rd_T57 l0_0 x34_3).f2)] 57 (0, 0))) ∧ Aside0 (Below w.heap.size w w'))
            case atStart => exact ⟨(0), (by first | rfl | (simp; done) | (simp [*]; done)), H', ⟨Nat.le_refl _⟩, ⟨by (with_reducible repeat (first | refine blk_drewN ?_ _ | refine blk_drew ?_ | refine blk_alloc ?_ _)); refine blk_far ?_ NB164_170.out _; (with_reducible repeat (first | refine blk_drewN ?_ _ | refine blk_drew ?_ | refine blk_alloc ?_ _)); refine blk_far ?_ NB164_170.out _; (with_reducible repeat (first | refine blk_drewN ?_ _ | refine blk_drew ?_ | refine blk_alloc ?_ _)); refine blk_far ?_ NB164_170.out _; (with_reducible repeat (first | refine blk_drewN ?_ _ | refine blk_drew ?_ | refine blk_alloc ?_ _)); exact BK164.out⟩, ⟨by (with_reducible repeat (first | refine blk_drewN ?_ _ | refine blk_drew ?_ | refine blk_alloc ?_ _)); refine blk_put (cs := #[.int .u8 ((rd_T57 l0_0 x34_3).f0), .slice A169_1 ((rd_T57 l0_0 x34_3).f1).length c169_1, .int .i64 0]) ?_ 2 _ rfl; (with_reducible repeat (first | refine blk_drewN ?_ _ | refine blk_drew ?_ | refine blk_alloc ?_ _)); refine blk_put (cs := #[.int .u8 ((rd_T57 l0_0 x34_3).f0), .slice none 0 0, .int .i64 0]) ?_ 1 _ rfl; (with_reducible repeat (first | refine blk_drewN ?_ _ | refine blk_drew ?_ | refine blk_alloc ?_ _)); refine blk_put (cs := #[.int .u8 0, .slice none 0 0, .int .i64 0]) ?_ 0 _ rfl; (with_reducible repeat (first | refine blk_drewN ?_ _ | refine blk_drew ?_ | refine blk_alloc ?_ _)); exact BK170.out⟩, ⟨by repeat (first | (with_reducible first | exact HB.out | apply below_alloc | apply pw_below_drewN | apply below_drew1 | refine below_set ?_ GE164.out | refine below_set ?_ GE170.out) | exact HB.out)⟩⟩
            case round =>
             clear H'
             try clear c1
             try clear p1
             try clear q1
             try clear hx1
             try clear c2
             try clear p2
             try clear c6
             try clear p6
             try clear c13
             try clear c14
             try clear c14b0
             try clear c15
             try clear c15b0
             try clear c16
             try clear c16b0
             try clear p16
             try clear q16
             try clear hx16
             try clear c18
             try clear c19
             try clear c20
             try clear c22
             try clear c22b0
             try clear c23
             try clear c23b0
             try clear c24
             try clear c24b0
             try clear c26
             try clear hcz11_0
             try clear hcz11_1
             try clear hcz20_0
             try clear hcz20_1
             try clear hcz20_2
             try clear hcz20_3
             try clear hcz20_4
             try clear hcz21_0
             try clear hcz21_1
             try clear hcz27_0
             try clear hcz27_1
             try clear hcz27_2
             try clear hcz8_0
             try clear hcz8_1
             try clear hfz11_0
             try clear hfz11_1
             try clear hfz20_0
             try clear hfz20_1
             try clear hfz20_2
             try clear hfz20_3
             try clear hfz20_4
             try clear hfz21_0
             try clear hfz21_1
             try clear hfz27_0
             try clear hfz27_1
             try clear hfz27_2
             try clear hfz8_0
             try clear hfz8_1
             try clear hx167_0
             try clear hx167_1
             try clear hx167_2
             try clear hx167_3
             try clear hx167_4
             try clear hx169_0
             try clear hx169_1
             try clear hx169_2
             try clear p1
             try clear p16
             try clear p167
             try clear p169
             try clear p2
             try clear p6
             try clear q1
             try clear q16
             try clear q167
             try clear q169
             obtain ⟨x41_4, rfl, HA, HK4, BK164, BK170, HB⟩ := hrel
             cases gk with
             | zero => exact absurd HA.out (by simp [tariff_Fits.l2])
             | succ k4 =>
              have H := HA.out
              clear HA
              simp only [tariff_Fits.l2] at H
              by_cases c28 : x41_4 < (((rd_T57 l0_0 x34_3).f1).length : Int)
              ·rw [if_pos c28] at H
               have c28b0 : decide (x41_4 < (((rd_T57 l0_0 x34_3).f1).length : Int)) = true := decide_eq_true c28
               clear c28
               by_cases c29 : 0 ≤ x41_4
               ·rw [if_pos c29] at H
                have c29b0 : decide (0 ≤ x41_4) = true := decide_eq_true c29
                clear c29
                by_cases c30 : x41_4 < (((rd_T57 l0_0 x34_3).f1).length : Int)
                ·rw [if_pos c30] at H
                 have c30b0 : decide (x41_4 < (((rd_T57 l0_0 x34_3).f1).length : Int)) = true := decide_eq_true c30
                 clear c30
                 replace H := Option.bind_eq_some_iff.mp H
                 obtain ⟨t173, A310, H⟩ := H
                 replace H : (if (wrap64 (t173 - ((rd_T57 l0_0 x34_3).f2))) < x5_2 then (some false) else (tariff_Fits.l2 k4 x5_2 l0_0 (l0_0.length : Int) x34_3 ((rd_T57 l0_0 x34_3).f1) (((rd_T57 l0_0 x34_3).f1).length : Int) (wrap64 (x41_4 + 1)) ((rd_T57 l0_0 x34_3).f0) ((rd_T57 l0_0 x34_3).f1) ((rd_T57 l0_0 x34_3).f2))) = some r := H
                 have A31 := Aside0.mk A310
                 clear A310
                 by_cases c32 : (wrap64 (t173 - ((rd_T57 l0_0 x34_3).f2))) < x5_2
                 ·rw [if_pos c32] at H
                  have c32b0 : decide ((wrap64 (t173 - ((rd_T57 l0_0 x34_3).f2))) < x5_2) = true := decide_eq_true c32
                  clear c32
                  obtain rfl := Option.some.inj H
                  have p171 : 0 ≤ (x41_4 : Int) := of_decide_eq_true (by first | (with_reducible assumption) | assumption)
                  have q171 : x41_4 < (((rd_T57 l0_0 x34_3).f1).length : Int) := of_decide_eq_true (by first | (with_reducible assumption) | assumption)
                  obtain ⟨ad171, A171_1, c171_1, e171, hx171_0, hx171_1, hl171_1, hi171_1⟩ := at_T61 HR169_1.out x41_4 p171 q171
                  cases e171
                  replace hx171_0 := (HB.out.cell (World.block_lt_of_cell? w _ hx171_0)).trans hx171_0
                  replace hx171_1 := (HB.out.cell (World.block_lt_of_cell? w _ hx171_1)).trans hx171_1
                  have HR171_1 := Aside0.mk hi171_1
                  have HC171_1 := Aside0.mk hl171_1
                  clear hi171_1 hl171_1
                  replace p171 := eq_true p171
                  replace q171 := eq_true q171
                  try go_wp2_with (first | ((with_reducible refine gate_dst (N := 11) rfl ?_); refine box_event ?hg (N := 11) ?hd (cs := #[.int .i64 0, .slice none 0 0]) (t := 61) ?hr ?_; (case hd => rfl); (case hg => rfl); (case hr => first | (go_simp; done) | (go_simp; rfl)); intro gb172 hg w33 hbox hb; have n0_ := Aside0.mk (blk_below (g := gb164) (o := .cells #[.slice (some ad169) l0_0.length c0_0, .slice A0_1 l0_1.length c0_1] 25 (0, 0)) (by (with_reducible repeat (first | refine blk_drewN ?_ _ | refine blk_drew ?_ | refine blk_alloc ?_ _)); exact BK164.out) hb); have n1_ := Aside0.mk (blk_below (g := gb170) (o := .cells #[.int .u8 ((rd_T57 l0_0 x34_3).f0), .slice (some ad171) ((rd_T57 l0_0 x34_3).f1).length c169_1, .int .i64 ((rd_T57 l0_0 x34_3).f2)] 57 (0, 0)) (by (with_reducible repeat (first | refine blk_drewN ?_ _ | refine blk_drew ?_ | refine blk_alloc ?_ _)); exact BK170.out) hb); have n2_ := Aside0.mk (below_step (by repeat (first | (with_reducible first | exact HB.out | apply below_alloc | apply pw_below_drewN | apply below_drew1 | refine below_set ?_ GE164.out | refine below_set ?_ GE170.out) | exact HB.out)) hb); have n3_ := Aside0.mk (hbox); have n4_ := Aside0.mk ((by rw [hg]; exact (below_size (by repeat (first | (with_reducible first | exact HB.out | apply below_alloc | apply pw_below_drewN | apply below_drew1 | refine below_set ?_ GE164.out | refine below_set ?_ GE170.out) | exact HB.out))) : w.heap.size ≤ gb172)); have n5_ := Aside0.mk ((by rw [hg]; exact (below_size (by repeat (first | (with_reducible first | exact HB.out | apply below_alloc | apply pw_below_drewN | apply below_drew1 | refine below_set ?_ GE164.out | refine below_set ?_ GE170.out) | exact HB.out))) : w.heap.size ≤ gb172)); have n6_ := Aside0.mk ((by rw [hg]; exact Nat.ne_of_lt (blk_lt (g := gb164) (o := .cells #[.slice (some ad169) l0_0.length c0_0, .slice A0_1 l0_1.length c0_1] 25 (0, 0)) (by (with_reducible repeat (first | refine blk_drewN ?_ _ | refine blk_drew ?_ | refine blk_alloc ?_ _)); exact BK164.out)) : gb164 ≠ gb172)); have n7_ := Aside0.mk ((by rw [hg]; exact Nat.ne_of_gt (blk_lt (g := gb164) (o := .cells #[.slice (some ad169) l0_0.length c0_0, .slice A0_1 l0_1.length c0_1] 25 (0, 0)) (by (with_reducible repeat (first | refine blk_drewN ?_ _ | refine blk_drew ?_ | refine blk_alloc ?_ _)); exact BK164.out)) : gb172 ≠ gb164)); have n8_ := Aside0.mk ((by rw [hg]; exact Nat.ne_of_lt (blk_lt (g := gb170) (o := .cells #[.int .u8 ((rd_T57 l0_0 x34_3).f0), .slice (some ad171) ((rd_T57 l0_0 x34_3).f1).length c169_1, .int .i64 ((rd_T57 l0_0 x34_3).f2)] 57 (0, 0)) (by (with_reducible repeat (first | refine blk_drewN ?_ _ | refine blk_drew ?_ | refine blk_alloc ?_ _)); exact BK170.out)) : gb170 ≠ gb172)); have n9_ := Aside0.mk ((by rw [hg]; exact Nat.ne_of_gt (blk_lt (g := gb170) (o := .cells #[.int .u8 ((rd_T57 l0_0 x34_3).f0), .slice (some ad171) ((rd_T57 l0_0 x34_3).f1).length c169_1, .int .i64 ((rd_T57 l0_0 x34_3).f2)] 57 (0, 0)) (by (with_reducible repeat (first | refine blk_drewN ?_ _ | refine blk_drew ?_ | refine blk_alloc ?_ _)); exact BK170.out)) : gb172 ≠ gb170)); clear BK164; clear BK170; clear HB; have BK164 := n0_; have BK170 := n1_; have HB := n2_; have BK172 := n3_; have GW172 := n4_; have GE172 := n5_; have NB164_172 := n6_; have NB172_164 := n7_; have NB170_172 := n8_; have NB172_170 := n9_; clear n0_ n1_ n2_ n3_ n4_ n5_ n6_ n7_ n8_ n9_; clear hb hbox hg; have hnb34 := NB172_164.out; have hnc34 := NB164_172.out; have hnb35 := NB172_170.out; have hnc35 := NB170_172.out; have hcz36_0 : w33.cell? ⟨gb172, 0, none⟩ = some (.int .i64 0) := (blk_cell BK172.out 0).trans rfl; have hcz36_1 : w33.cell? ⟨gb172, 1, none⟩ = some (.slice none 0 0) := (blk_cell BK172.out 1).trans rfl; have hfz36_0 := blk_frozen BK172.out 0; have hfz36_1 := blk_frozen BK172.out 1))
                  have n0_ : Aside0 (((w33.setCell ⟨gb172, 0, none⟩ (.int .i64 ((rd_T61 ((rd_T57 l0_0 x34_3).f1) x41_4).f0))).setCell ⟨gb172, 1, none⟩ (.slice A171_1 ((rd_T61 ((rd_T57 l0_0 x34_3).f1) x41_4).f1).length c171_1)).heap[gb164]? = some (.cells #[.slice (some ad169) l0_0.length c0_0, .slice A0_1 l0_1.length c0_1] 25 (0, 0))) := ⟨by (with_reducible repeat (first | refine blk_drewN ?_ _ | refine blk_drew ?_ | refine blk_alloc ?_ _)); refine blk_far ?_ NB164_172.out _; (with_reducible repeat (first | refine blk_drewN ?_ _ | refine blk_drew ?_ | refine blk_alloc ?_ _)); refine blk_far ?_ NB164_172.out _; (with_reducible repeat (first | refine blk_drewN ?_ _ | refine blk_drew ?_ | refine blk_alloc ?_ _)); exact BK164.out⟩
                  have n1_ : Aside0 (((w33.setCell ⟨gb172, 0, none⟩ (.int .i64 ((rd_T61 ((rd_T57 l0_0 x34_3).f1) x41_4).f0))).setCell ⟨gb172, 1, none⟩ (.slice A171_1 ((rd_T61 ((rd_T57 l0_0 x34_3).f1) x41_4).f1).length c171_1)).heap[gb170]? = some (.cells #[.int .u8 ((rd_T57 l0_0 x34_3).f0), .slice (some ad171) ((rd_T57 l0_0 x34_3).f1).length c169_1, .int .i64 ((rd_T57 l0_0 x34_3).f2)] 57 (0, 0))) := ⟨by (with_reducible repeat (first | refine blk_drewN ?_ _ | refine blk_drew ?_ | refine blk_alloc ?_ _)); refine blk_far ?_ NB170_172.out _; (with_reducible repeat (first | refine blk_drewN ?_ _ | refine blk_drew ?_ | refine blk_alloc ?_ _)); refine blk_far ?_ NB170_172.out _; (with_reducible repeat (first | refine blk_drewN ?_ _ | refine blk_drew ?_ | refine blk_alloc ?_ _)); exact BK170.out⟩
                  have n2_ : Aside0 (((w33.setCell ⟨gb172, 0, none⟩ (.int .i64 ((rd_T61 ((rd_T57 l0_0 x34_3).f1) x41_4).f0))).setCell ⟨gb172, 1, none⟩ (.slice A171_1 ((rd_T61 ((rd_T57 l0_0 x34_3).f1) x41_4).f1).length c171_1)).heap[gb172]? = some (.cells #[.int .i64 ((rd_T61 ((rd_T57 l0_0 x34_3).f1) x41_4).f0), .slice A171_1 ((rd_T61 ((rd_T57 l0_0 x34_3).f1) x41_4).f1).length c171_1] 61 (0, 0))) := ⟨by (with_reducible repeat (first | refine blk_drewN ?_ _ | refine blk_drew ?_ | refine blk_alloc ?_ _)); refine blk_put (cs := #[.int .i64 ((rd_T61 ((rd_T57 l0_0 x34_3).f1) x41_4).f0), .slice none 0 0]) ?_ 1 _ rfl; (with_reducible repeat (first | refine blk_drewN ?_ _ | refine blk_drew ?_ | refine blk_alloc ?_ _)); refine blk_put (cs := #[.int .i64 0, .slice none 0 0]) ?_ 0 _ rfl; (with_reducible repeat (first | refine blk_drewN ?_ _ | refine blk_drew ?_ | refine blk_alloc ?_ _)); exact BK172.out⟩
                  have n3_ : Aside0 (Below w.heap.size w ((w33.setCell ⟨gb172, 0, none⟩ (.int .i64 ((rd_T61 ((rd_T57 l0_0 x34_3).f1) x41_4).f0))).setCell ⟨gb172, 1, none⟩ (.slice A171_1 ((rd_T61 ((rd_T57 l0_0 x34_3).f1) x41_4).f1).length c171_1))) := ⟨by repeat (first | (with_reducible first | exact HB.out | apply below_alloc | apply pw_below_drewN | apply below_drew1 | refine below_set ?_ GE164.out | refine below_set ?_ GE170.out | refine below_set ?_ GE172.out) | exact HB.out)⟩
                  (try clear BK164)
                  (try clear BK170)
                  (try clear BK172)
                  (try clear HB)
                  generalize ((w33.setCell ⟨gb172, 0, none⟩ (.int .i64 ((rd_T61 ((rd_T57 l0_0 x34_3).f1) x41_4).f0))).setCell ⟨gb172, 1, none⟩ (.slice A171_1 ((rd_T61 ((rd_T57 l0_0 x34_3).f1) x41_4).f1).length c171_1)) = w37 at n0_ n1_ n2_ n3_ ⊢
                  have BK164 := n0_
                  have BK170 := n1_
                  have BK172 := n2_
                  have HB := n3_
                  clear n0_ n1_ n2_ n3_
                  have n0_ := Aside0.mk (blk_drew BK164.out)
                  have n1_ := Aside0.mk (blk_drew BK170.out)
                  have n2_ := Aside0.mk (blk_drew BK172.out)
                  have n3_ := Aside0.mk (below_drew1 HB.out)
                  clear BK164
                  clear BK170
                  clear BK172
                  clear HB
                  have BK164 := n0_
                  have BK170 := n1_
                  have BK172 := n2_
                  have HB := n3_
                  clear n0_ n1_ n2_ n3_
                  refine start_ (n := 8) (S := fun w' => w'.cell? ⟨gb172, 0, none⟩ = some (.int .i64 ((rd_T61 ((rd_T57 l0_0 x34_3).f1) x41_4).f0)) ∧ w'.cell? ⟨gb172, 1, none⟩ = some (.slice A171_1 ((rd_T61 ((rd_T57 l0_0 x34_3).f1) x41_4).f1).length c171_1) ∧ w'.cell? ⟨gb170, 0, none⟩ = some (.int .u8 ((rd_T57 l0_0 x34_3).f0)) ∧ w'.cell? ⟨gb170, 1, none⟩ = some (.slice (some ad171) ((rd_T57 l0_0 x34_3).f1).length c169_1) ∧ w'.cell? ⟨gb170, 2, none⟩ = some (.int .i64 ((rd_T57 l0_0 x34_3).f2))) (ds := []) #[false, false, false, false, false, false, false, false] (by kernel_rfl) rfl rfl ⟨(blk_cell BK172.out 0).trans rfl, (blk_cell BK172.out 1).trans rfl, (blk_cell BK170.out 0).trans rfl, (blk_cell BK170.out 1).trans rfl, (blk_cell BK170.out 2).trans rfl⟩ (fun hHeld => ?_); refine with_tabW tariff_Fits.tab15 tariff_Fits.bits15 (fun HT_ HW_ => ?_)
                  generalize w37.drew = w38 at BK164 BK170 BK172 HB hHeld ⊢
                  refine pure_ (i := 0) (N := some 45) (v := ?_) (a' := ?_) #[true, false, false, false, false, false, false, false] rfl rfl (any_of HT_.out (by kernel_rfl)) (fun _ _ _ h => h) (Or.inl ⟨by rfl, ?_⟩) ?_ ?_
                  rotate_left
                  ·intro w'
                   go_simp
                   with_reducible rfl
                  rotate_left
                  ·simp only [Act.put, sl1, sl2, sl3, i64_w, i32_w]
                   rfl
                  refine pure_ (i := 3) (N := some 48) (v := ?_) (a' := ?_) #[true, false, false, true, false, false, false, false] rfl rfl (any_of HT_.out (by kernel_rfl)) (fun _ _ _ h => h) (Or.inl ⟨by rfl, ?_⟩) ?_ ?_
                  rotate_left
                  ·intro w'
                   go_simp
                   with_reducible rfl
                  rotate_left
                  ·simp only [Act.put, sl1, sl2, sl3, i64_w, i32_w]
                   rfl
                  refine pure_ (i := 6) (N := some 51) (v := ?_) (a' := ?_) #[true, false, false, true, false, false, true, false] rfl rfl (any_of HT_.out (by kernel_rfl)) (fun _ _ _ h => h) (Or.inl ⟨by rfl, ?_⟩) ?_ ?_
                  rotate_left
                  ·intro w'
                   go_simp
                   with_reducible rfl
                  rotate_left
                  ·simp only [Act.put, sl1, sl2, sl3, i64_w, i32_w]
                   rfl
                  refine take_ (i := 1) (N := some 46) (v := ?_) (a' := ?_) #[true, true, false, true, false, false, true, false] rfl rfl (take_ofW HT_.out HW_.out (by kernel_rfl)) (fun _ _ _ h => h) (Or.inl ⟨by rfl, ?_⟩) hHeld ?_ ?_
                  rotate_left
                  ·rintro w' ⟨s0, s1, s2, s3, s4⟩
                   go_simp
                   with_reducible rfl
                  rotate_left
                  ·simp only [Act.put, sl1, sl2, sl3, i64_w, i32_w]
                   rfl
                  refine take_ (i := 4) (N := some 49) (v := ?_) (a' := ?_) #[true, true, false, true, true, false, true, false] rfl rfl (take_ofW HT_.out HW_.out (by kernel_rfl)) (fun _ _ _ h => h) (Or.inl ⟨by rfl, ?_⟩) hHeld ?_ ?_
                  rotate_left
                  ·rintro w' ⟨s0, s1, s2, s3, s4⟩
                   go_simp
                   with_reducible rfl
                  rotate_left
                  ·simp only [Act.put, sl1, sl2, sl3, i64_w, i32_w]
                   rfl
                  refine one_ (i := 2) (N := some 47) #[true, true, true, true, true, false, true, false] rfl rfl (one_of HT_.out (by kernel_rfl)) (by decide) (fun K hK => ?_)
                  refine goes_ Tryd.func48 (by kernel_rfl) rfl #[.slice A171_1 ((rd_T61 ((rd_T57 l0_0 x34_3).f1) x41_4).f1).length c171_1] (by rfl) rfl rfl (by (try simp only [List.map_toArray, List.map_cons, List.map_nil]); first | done | rfl | (simp only [List.length_drop, List.length_take]; rfl)) ?_
                  with_reducible refine (slices_Min_int_int.calls _ _ ((rd_T61 ((rd_T57 l0_0 x34_3).f1) x41_4).f1) t173 _ ?side1 ?side2 A31.out).mono ?_
                  (case side1 => repeat (first | exact (Kd.C_below HR171_1.out HB.out) | (with_reducible refine Kd.C_alloc ?_ _) | (with_reducible refine Kd.C_drewN ?_ _) | (with_reducible refine Kd.C_drew ?_)))
                  (case side2 => exact HC171_1.out)
                  rintro e w39 ⟨rfl, hb⟩
                  refine ⟨_, rfl, ?_⟩
                  have n0_ := Aside0.mk (blk_below (g := gb164) (o := .cells #[.slice (some ad169) l0_0.length c0_0, .slice A0_1 l0_1.length c0_1] 25 (0, 0)) (by (with_reducible repeat (first | refine blk_drewN ?_ _ | refine blk_drew ?_ | refine blk_alloc ?_ _)); exact BK164.out) hb)
                  have n1_ := Aside0.mk (blk_below (g := gb170) (o := .cells #[.int .u8 ((rd_T57 l0_0 x34_3).f0), .slice (some ad171) ((rd_T57 l0_0 x34_3).f1).length c169_1, .int .i64 ((rd_T57 l0_0 x34_3).f2)] 57 (0, 0)) (by (with_reducible repeat (first | refine blk_drewN ?_ _ | refine blk_drew ?_ | refine blk_alloc ?_ _)); exact BK170.out) hb)
                  have n2_ := Aside0.mk (blk_below (g := gb172) (o := .cells #[.int .i64 ((rd_T61 ((rd_T57 l0_0 x34_3).f1) x41_4).f0), .slice A171_1 ((rd_T61 ((rd_T57 l0_0 x34_3).f1) x41_4).f1).length c171_1] 61 (0, 0)) (by (with_reducible repeat (first | refine blk_drewN ?_ _ | refine blk_drew ?_ | refine blk_alloc ?_ _)); exact BK172.out) hb)
                  have n3_ := Aside0.mk (below_step (by repeat (first | (with_reducible first | exact HB.out | apply below_alloc | apply pw_below_drewN | apply below_drew1 | refine below_set ?_ GE164.out | refine below_set ?_ GE170.out | refine below_set ?_ GE172.out) | exact HB.out)) hb)
                  clear BK164
                  clear BK170
                  clear BK172
                  clear HB
                  have BK164 := n0_
                  have BK170 := n1_
                  have BK172 := n2_
                  have HB := n3_
                  clear n0_ n1_ n2_ n3_
                  (try clear hb)
                  (try clear hb2)
                  (try clear hk)
                  (try clear hi)
                  refine hK.out _ _ ⟨(blk_cell BK172.out 0).trans rfl, (blk_cell BK172.out 1).trans rfl, (blk_cell BK170.out 0).trans rfl, (blk_cell BK170.out 1).trans rfl, (blk_cell BK170.out 2).trans rfl⟩ (fun hHeld => ?_)
                  clear hK K
                  refine norm_ (a' := ?_) ?_ ?_
                  rotate_left
                  ·show Act.put _ (some 47) _ = _
                   simp only [Act.put, sl1, sl2, sl3, i64_w, i32_w]
                   rfl
                  refine pure_ (i := 5) (N := some 50) (v := ?_) (a' := ?_) #[true, true, true, true, true, true, true, false] rfl rfl (any_of HT_.out (by kernel_rfl)) (fun _ _ _ h => h) (Or.inl ⟨by rfl, ?_⟩) ?_ ?_
                  rotate_left
                  ·intro w'
                   go_simp
                   with_reducible rfl
                  rotate_left
                  ·simp only [Act.put, sl1, sl2, sl3, i64_w, i32_w]
                   rfl
                  refine pure_ (i := 7) (N := some 52) (v := ?_) (a' := ?_) #[true, true, true, true, true, true, true, true] rfl rfl (any_of HT_.out (by kernel_rfl)) (fun _ _ _ h => h) (Or.inl ⟨by rfl, ?_⟩) ?_ ?_
                  rotate_left
                  ·intro w'
                   go_simp
                   with_reducible rfl
                  rotate_left
                  ·simp only [Act.put, sl1, sl2, sl3, i64_w, i32_w]
                   rfl
                  refine done_ (done_of HT_.out (by kernel_rfl)) ?_
                  try go_wp2
                  go_ret
                  exact ⟨by first | rfl | (simp [errW_none, errW_some] <;> rfl) | (simp [*, errW_none, errW_some] <;> rfl), by repeat (first | (with_reducible first | exact HB.out | apply below_alloc | apply pw_below_drewN | apply below_drew1 | refine below_set ?_ GE164.out | refine below_set ?_ GE170.out | refine below_set ?_ GE172.out) | exact HB.out)⟩
                 ·rw [if_neg c32] at H
                  have c32b0 : decide ((wrap64 (t173 - ((rd_T57 l0_0 x34_3).f2))) < x5_2) = false := decide_eq_false c32
                  clear c32
                  have H' := Aside0.mk H
                  clear H
                  have p171 : 0 ≤ (x41_4 : Int) := of_decide_eq_true (by first | (with_reducible assumption) | assumption)
                  have q171 : x41_4 < (((rd_T57 l0_0 x34_3).f1).length : Int) := of_decide_eq_true (by first | (with_reducible assumption) | assumption)
                  obtain ⟨ad171, A171_1, c171_1, e171, hx171_0, hx171_1, hl171_1, hi171_1⟩ := at_T61 HR169_1.out x41_4 p171 q171
                  cases e171
                  replace hx171_0 := (HB.out.cell (World.block_lt_of_cell? w _ hx171_0)).trans hx171_0
                  replace hx171_1 := (HB.out.cell (World.block_lt_of_cell? w _ hx171_1)).trans hx171_1
                  have HR171_1 := Aside0.mk hi171_1
                  have HC171_1 := Aside0.mk hl171_1
                  clear hi171_1 hl171_1
                  replace p171 := eq_true p171
                  replace q171 := eq_true q171
                  try go_wp2_with (first | ((with_reducible refine gate_dst (N := 11) rfl ?_); refine box_event ?hg (N := 11) ?hd (cs := #[.int .i64 0, .slice none 0 0]) (t := 61) ?hr ?_; (case hd => rfl); (case hg => rfl); (case hr => first | (go_simp; done) | (go_simp; rfl)); intro gb172 hg w40 hbox hb; have n0_ := Aside0.mk (blk_below (g := gb164) (o := .cells #[.slice (some ad169) l0_0.length c0_0, .slice A0_1 l0_1.length c0_1] 25 (0, 0)) (by (with_reducible repeat (first | refine blk_drewN ?_ _ | refine blk_drew ?_ | refine blk_alloc ?_ _)); exact BK164.out) hb); have n1_ := Aside0.mk (blk_below (g := gb170) (o := .cells #[.int .u8 ((rd_T57 l0_0 x34_3).f0), .slice (some ad171) ((rd_T57 l0_0 x34_3).f1).length c169_1, .int .i64 ((rd_T57 l0_0 x34_3).f2)] 57 (0, 0)) (by (with_reducible repeat (first | refine blk_drewN ?_ _ | refine blk_drew ?_ | refine blk_alloc ?_ _)); exact BK170.out) hb); have n2_ := Aside0.mk (below_step (by repeat (first | (with_reducible first | exact HB.out | apply below_alloc | apply pw_below_drewN | apply below_drew1 | refine below_set ?_ GE164.out | refine below_set ?_ GE170.out) | exact HB.out)) hb); have n3_ := Aside0.mk (hbox); have n4_ := Aside0.mk ((by rw [hg]; exact (below_size (by repeat (first | (with_reducible first | exact HB.out | apply below_alloc | apply pw_below_drewN | apply below_drew1 | refine below_set ?_ GE164.out | refine below_set ?_ GE170.out) | exact HB.out))) : w.heap.size ≤ gb172)); have n5_ := Aside0.mk ((by rw [hg]; exact (below_size (by repeat (first | (with_reducible first | exact HB.out | apply below_alloc | apply pw_below_drewN | apply below_drew1 | refine below_set ?_ GE164.out | refine below_set ?_ GE170.out) | exact HB.out))) : w.heap.size ≤ gb172)); have n6_ := Aside0.mk ((by rw [hg]; exact Nat.ne_of_lt (blk_lt (g := gb164) (o := .cells #[.slice (some ad169) l0_0.length c0_0, .slice A0_1 l0_1.length c0_1] 25 (0, 0)) (by (with_reducible repeat (first | refine blk_drewN ?_ _ | refine blk_drew ?_ | refine blk_alloc ?_ _)); exact BK164.out)) : gb164 ≠ gb172)); have n7_ := Aside0.mk ((by rw [hg]; exact Nat.ne_of_gt (blk_lt (g := gb164) (o := .cells #[.slice (some ad169) l0_0.length c0_0, .slice A0_1 l0_1.length c0_1] 25 (0, 0)) (by (with_reducible repeat (first | refine blk_drewN ?_ _ | refine blk_drew ?_ | refine blk_alloc ?_ _)); exact BK164.out)) : gb172 ≠ gb164)); have n8_ := Aside0.mk ((by rw [hg]; exact Nat.ne_of_lt (blk_lt (g := gb170) (o := .cells #[.int .u8 ((rd_T57 l0_0 x34_3).f0), .slice (some ad171) ((rd_T57 l0_0 x34_3).f1).length c169_1, .int .i64 ((rd_T57 l0_0 x34_3).f2)] 57 (0, 0)) (by (with_reducible repeat (first | refine blk_drewN ?_ _ | refine blk_drew ?_ | refine blk_alloc ?_ _)); exact BK170.out)) : gb170 ≠ gb172)); have n9_ := Aside0.mk ((by rw [hg]; exact Nat.ne_of_gt (blk_lt (g := gb170) (o := .cells #[.int .u8 ((rd_T57 l0_0 x34_3).f0), .slice (some ad171) ((rd_T57 l0_0 x34_3).f1).length c169_1, .int .i64 ((rd_T57 l0_0 x34_3).f2)] 57 (0, 0)) (by (with_reducible repeat (first | refine blk_drewN ?_ _ | refine blk_drew ?_ | refine blk_alloc ?_ _)); exact BK170.out)) : gb172 ≠ gb170)); clear BK164; clear BK170; clear HB; have BK164 := n0_; have BK170 := n1_; have HB := n2_; have BK172 := n3_; have GW172 := n4_; have GE172 := n5_; have NB164_172 := n6_; have NB172_164 := n7_; have NB170_172 := n8_; have NB172_170 := n9_; clear n0_ n1_ n2_ n3_ n4_ n5_ n6_ n7_ n8_ n9_; clear hb hbox hg; have hnb41 := NB172_164.out; have hnc41 := NB164_172.out; have hnb42 := NB172_170.out; have hnc42 := NB170_172.out; have hcz43_0 : w40.cell? ⟨gb172, 0, none⟩ = some (.int .i64 0) := (blk_cell BK172.out 0).trans rfl; have hcz43_1 : w40.cell? ⟨gb172, 1, none⟩ = some (.slice none 0 0) := (blk_cell BK172.out 1).trans rfl; have hfz43_0 := blk_frozen BK172.out 0; have hfz43_1 := blk_frozen BK172.out 1))
                  have n0_ : Aside0 (((w40.setCell ⟨gb172, 0, none⟩ (.int .i64 ((rd_T61 ((rd_T57 l0_0 x34_3).f1) x41_4).f0))).setCell ⟨gb172, 1, none⟩ (.slice A171_1 ((rd_T61 ((rd_T57 l0_0 x34_3).f1) x41_4).f1).length c171_1)).heap[gb164]? = some (.cells #[.slice (some ad169) l0_0.length c0_0, .slice A0_1 l0_1.length c0_1] 25 (0, 0))) := ⟨by (with_reducible repeat (first | refine blk_drewN ?_ _ | refine blk_drew ?_ | refine blk_alloc ?_ _)); refine blk_far ?_ NB164_172.out _; (with_reducible repeat (first | refine blk_drewN ?_ _ | refine blk_drew ?_ | refine blk_alloc ?_ _)); refine blk_far ?_ NB164_172.out _; (with_reducible repeat (first | refine blk_drewN ?_ _ | refine blk_drew ?_ | refine blk_alloc ?_ _)); exact BK164.out⟩
                  have n1_ : Aside0 (((w40.setCell ⟨gb172, 0, none⟩ (.int .i64 ((rd_T61 ((rd_T57 l0_0 x34_3).f1) x41_4).f0))).setCell ⟨gb172, 1, none⟩ (.slice A171_1 ((rd_T61 ((rd_T57 l0_0 x34_3).f1) x41_4).f1).length c171_1)).heap[gb170]? = some (.cells #[.int .u8 ((rd_T57 l0_0 x34_3).f0), .slice (some ad171) ((rd_T57 l0_0 x34_3).f1).length c169_1, .int .i64 ((rd_T57 l0_0 x34_3).f2)] 57 (0, 0))) := ⟨by (with_reducible repeat (first | refine blk_drewN ?_ _ | refine blk_drew ?_ | refine blk_alloc ?_ _)); refine blk_far ?_ NB170_172.out _; (with_reducible repeat (first | refine blk_drewN ?_ _ | refine blk_drew ?_ | refine blk_alloc ?_ _)); refine blk_far ?_ NB170_172.out _; (with_reducible repeat (first | refine blk_drewN ?_ _ | refine blk_drew ?_ | refine blk_alloc ?_ _)); exact BK170.out⟩
                  have n2_ : Aside0 (((w40.setCell ⟨gb172, 0, none⟩ (.int .i64 ((rd_T61 ((rd_T57 l0_0 x34_3).f1) x41_4).f0))).setCell ⟨gb172, 1, none⟩ (.slice A171_1 ((rd_T61 ((rd_T57 l0_0 x34_3).f1) x41_4).f1).length c171_1)).heap[gb172]? = some (.cells #[.int .i64 ((rd_T61 ((rd_T57 l0_0 x34_3).f1) x41_4).f0), .slice A171_1 ((rd_T61 ((rd_T57 l0_0 x34_3).f1) x41_4).f1).length c171_1] 61 (0, 0))) := ⟨by (with_reducible repeat (first | refine blk_drewN ?_ _ | refine blk_drew ?_ | refine blk_alloc ?_ _)); refine blk_put (cs := #[.int .i64 ((rd_T61 ((rd_T57 l0_0 x34_3).f1) x41_4).f0), .slice none 0 0]) ?_ 1 _ rfl; (with_reducible repeat (first | refine blk_drewN ?_ _ | refine blk_drew ?_ | refine blk_alloc ?_ _)); refine blk_put (cs := #[.int .i64 0, .slice none 0 0]) ?_ 0 _ rfl; (with_reducible repeat (first | refine blk_drewN ?_ _ | refine blk_drew ?_ | refine blk_alloc ?_ _)); exact BK172.out⟩
                  have n3_ : Aside0 (Below w.heap.size w ((w40.setCell ⟨gb172, 0, none⟩ (.int .i64 ((rd_T61 ((rd_T57 l0_0 x34_3).f1) x41_4).f0))).setCell ⟨gb172, 1, none⟩ (.slice A171_1 ((rd_T61 ((rd_T57 l0_0 x34_3).f1) x41_4).f1).length c171_1))) := ⟨by repeat (first | (with_reducible first | exact HB.out | apply below_alloc | apply pw_below_drewN | apply below_drew1 | refine below_set ?_ GE164.out | refine below_set ?_ GE170.out | refine below_set ?_ GE172.out) | exact HB.out)⟩
                  (try clear BK164)
                  (try clear BK170)
                  (try clear BK172)
                  (try clear HB)
                  generalize ((w40.setCell ⟨gb172, 0, none⟩ (.int .i64 ((rd_T61 ((rd_T57 l0_0 x34_3).f1) x41_4).f0))).setCell ⟨gb172, 1, none⟩ (.slice A171_1 ((rd_T61 ((rd_T57 l0_0 x34_3).f1) x41_4).f1).length c171_1)) = w44 at n0_ n1_ n2_ n3_ ⊢
                  have BK164 := n0_
                  have BK170 := n1_
                  have BK172 := n2_
                  have HB := n3_
                  clear n0_ n1_ n2_ n3_
                  have n0_ := Aside0.mk (blk_drew BK164.out)
                  have n1_ := Aside0.mk (blk_drew BK170.out)
                  have n2_ := Aside0.mk (blk_drew BK172.out)
                  have n3_ := Aside0.mk (below_drew1 HB.out)
                  clear BK164
                  clear BK170
                  clear BK172
                  clear HB
                  have BK164 := n0_
                  have BK170 := n1_
                  have BK172 := n2_
                  have HB := n3_
                  clear n0_ n1_ n2_ n3_
                  refine start_ (n := 8) (S := fun w' => w'.cell? ⟨gb172, 0, none⟩ = some (.int .i64 ((rd_T61 ((rd_T57 l0_0 x34_3).f1) x41_4).f0)) ∧ w'.cell? ⟨gb172, 1, none⟩ = some (.slice A171_1 ((rd_T61 ((rd_T57 l0_0 x34_3).f1) x41_4).f1).length c171_1) ∧ w'.cell? ⟨gb170, 0, none⟩ = some (.int .u8 ((rd_T57 l0_0 x34_3).f0)) ∧ w'.cell? ⟨gb170, 1, none⟩ = some (.slice (some ad171) ((rd_T57 l0_0 x34_3).f1).length c169_1) ∧ w'.cell? ⟨gb170, 2, none⟩ = some (.int .i64 ((rd_T57 l0_0 x34_3).f2))) (ds := []) #[false, false, false, false, false, false, false, false] (by kernel_rfl) rfl rfl ⟨(blk_cell BK172.out 0).trans rfl, (blk_cell BK172.out 1).trans rfl, (blk_cell BK170.out 0).trans rfl, (blk_cell BK170.out 1).trans rfl, (blk_cell BK170.out 2).trans rfl⟩ (fun hHeld => ?_); refine with_tabW tariff_Fits.tab15 tariff_Fits.bits15 (fun HT_ HW_ => ?_)
                  generalize w44.drew = w45 at BK164 BK170 BK172 HB hHeld ⊢
                  refine pure_ (i := 0) (N := some 45) (v := ?_) (a' := ?_) #[true, false, false, false, false, false, false, false] rfl rfl (any_of HT_.out (by kernel_rfl)) (fun _ _ _ h => h) (Or.inl ⟨by rfl, ?_⟩) ?_ ?_
                  rotate_left
                  ·intro w'
                   go_simp
                   with_reducible rfl
                  rotate_left
                  ·simp only [Act.put, sl1, sl2, sl3, i64_w, i32_w]
                   rfl
                  refine pure_ (i := 3) (N := some 48) (v := ?_) (a' := ?_) #[true, false, false, true, false, false, false, false] rfl rfl (any_of HT_.out (by kernel_rfl)) (fun _ _ _ h => h) (Or.inl ⟨by rfl, ?_⟩) ?_ ?_
                  rotate_left
                  ·intro w'
                   go_simp
                   with_reducible rfl
                  rotate_left
                  ·simp only [Act.put, sl1, sl2, sl3, i64_w, i32_w]
                   rfl
                  refine pure_ (i := 6) (N := some 51) (v := ?_) (a' := ?_) #[true, false, false, true, false, false, true, false] rfl rfl (any_of HT_.out (by kernel_rfl)) (fun _ _ _ h => h) (Or.inl ⟨by rfl, ?_⟩) ?_ ?_
                  rotate_left
                  ·intro w'
                   go_simp
                   with_reducible rfl
                  rotate_left
                  ·simp only [Act.put, sl1, sl2, sl3, i64_w, i32_w]
                   rfl
                  refine take_ (i := 1) (N := some 46) (v := ?_) (a' := ?_) #[true, true, false, true, false, false, true, false] rfl rfl (take_ofW HT_.out HW_.out (by kernel_rfl)) (fun _ _ _ h => h) (Or.inl ⟨by rfl, ?_⟩) hHeld ?_ ?_
                  rotate_left
                  ·rintro w' ⟨s0, s1, s2, s3, s4⟩
                   go_simp
                   with_reducible rfl
                  rotate_left
                  ·simp only [Act.put, sl1, sl2, sl3, i64_w, i32_w]
                   rfl
                  refine take_ (i := 4) (N := some 49) (v := ?_) (a' := ?_) #[true, true, false, true, true, false, true, false] rfl rfl (take_ofW HT_.out HW_.out (by kernel_rfl)) (fun _ _ _ h => h) (Or.inl ⟨by rfl, ?_⟩) hHeld ?_ ?_
                  rotate_left
                  ·rintro w' ⟨s0, s1, s2, s3, s4⟩
                   go_simp
                   with_reducible rfl
                  rotate_left
                  ·simp only [Act.put, sl1, sl2, sl3, i64_w, i32_w]
                   rfl
                  refine one_ (i := 2) (N := some 47) #[true, true, true, true, true, false, true, false] rfl rfl (one_of HT_.out (by kernel_rfl)) (by decide) (fun K hK => ?_)
                  refine goes_ Tryd.func48 (by kernel_rfl) rfl #[.slice A171_1 ((rd_T61 ((rd_T57 l0_0 x34_3).f1) x41_4).f1).length c171_1] (by rfl) rfl rfl (by (try simp only [List.map_toArray, List.map_cons, List.map_nil]); first | done | rfl | (simp only [List.length_drop, List.length_take]; rfl)) ?_
                  with_reducible refine (slices_Min_int_int.calls _ _ ((rd_T61 ((rd_T57 l0_0 x34_3).f1) x41_4).f1) t173 _ ?side1 ?side2 A31.out).mono ?_
                  (case side1 => repeat (first | exact (Kd.C_below HR171_1.out HB.out) | (with_reducible refine Kd.C_alloc ?_ _) | (with_reducible refine Kd.C_drewN ?_ _) | (with_reducible refine Kd.C_drew ?_)))
                  (case side2 => exact HC171_1.out)
                  rintro e w46 ⟨rfl, hb⟩
                  refine ⟨_, rfl, ?_⟩
                  have n0_ := Aside0.mk (blk_below (g := gb164) (o := .cells #[.slice (some ad169) l0_0.length c0_0, .slice A0_1 l0_1.length c0_1] 25 (0, 0)) (by (with_reducible repeat (first | refine blk_drewN ?_ _ | refine blk_drew ?_ | refine blk_alloc ?_ _)); exact BK164.out) hb)
                  have n1_ := Aside0.mk (blk_below (g := gb170) (o := .cells #[.int .u8 ((rd_T57 l0_0 x34_3).f0), .slice (some ad171) ((rd_T57 l0_0 x34_3).f1).length c169_1, .int .i64 ((rd_T57 l0_0 x34_3).f2)] 57 (0, 0)) (by (with_reducible repeat (first | refine blk_drewN ?_ _ | refine blk_drew ?_ | refine blk_alloc ?_ _)); exact BK170.out) hb)
                  have n2_ := Aside0.mk (blk_below (g := gb172) (o := .cells #[.int .i64 ((rd_T61 ((rd_T57 l0_0 x34_3).f1) x41_4).f0), .slice A171_1 ((rd_T61 ((rd_T57 l0_0 x34_3).f1) x41_4).f1).length c171_1] 61 (0, 0)) (by (with_reducible repeat (first | refine blk_drewN ?_ _ | refine blk_drew ?_ | refine blk_alloc ?_ _)); exact BK172.out) hb)
                  have n3_ := Aside0.mk (below_step (by repeat (first | (with_reducible first | exact HB.out | apply below_alloc | apply pw_below_drewN | apply below_drew1 | refine below_set ?_ GE164.out | refine below_set ?_ GE170.out | refine below_set ?_ GE172.out) | exact HB.out)) hb)
                  clear BK164
                  clear BK170
                  clear BK172
                  clear HB
                  have BK164 := n0_
                  have BK170 := n1_
                  have BK172 := n2_
                  have HB := n3_
                  clear n0_ n1_ n2_ n3_
                  (try clear hb)
                  (try clear hb2)
                  (try clear hk)
                  (try clear hi)
                  refine hK.out _ _ ⟨(blk_cell BK172.out 0).trans rfl, (blk_cell BK172.out 1).trans rfl, (blk_cell BK170.out 0).trans rfl, (blk_cell BK170.out 1).trans rfl, (blk_cell BK170.out 2).trans rfl⟩ (fun hHeld => ?_)
                  clear hK K
                  refine norm_ (a' := ?_) ?_ ?_
                  rotate_left
                  ·show Act.put _ (some 47) _ = _
                   simp only [Act.put, sl1, sl2, sl3, i64_w, i32_w]
                   rfl
                  refine pure_ (i := 5) (N := some 50) (v := ?_) (a' := ?_) #[true, true, true, true, true, true, true, false] rfl rfl (any_of HT_.out (by kernel_rfl)) (fun _ _ _ h => h) (Or.inl ⟨by rfl, ?_⟩) ?_ ?_
                  rotate_left
                  ·intro w'
                   go_simp
                   with_reducible rfl
                  rotate_left
                  ·simp only [Act.put, sl1, sl2, sl3, i64_w, i32_w]
                   rfl
                  refine pure_ (i := 7) (N := some 52) (v := ?_) (a' := ?_) #[true, true, true, true, true, true, true, true] rfl rfl (any_of HT_.out (by kernel_rfl)) (fun _ _ _ h => h) (Or.inl ⟨by rfl, ?_⟩) ?_ ?_
                  rotate_left
                  ·intro w'
                   go_simp
                   with_reducible rfl
                  rotate_left
                  ·simp only [Act.put, sl1, sl2, sl3, i64_w, i32_w]
                   rfl
                  refine done_ (done_of HT_.out (by kernel_rfl)) ?_
                  try go_wp2
                  go_roundg k4
                  case measure => have := HJ2.out; have := HK2.out; have := HK3.out; have := HK4.out; omega
                  case rel => exact ⟨(wrap64 (x41_4 + 1)), (by first | rfl | (simp; done) | (simp [*]; done)), H', ⟨by have := HJ2.out; have := HK2.out; have := HK3.out; have := HK4.out; omega⟩, ⟨by (with_reducible repeat (first | refine blk_drewN ?_ _ | refine blk_drew ?_ | refine blk_alloc ?_ _)); exact BK164.out⟩, ⟨by (with_reducible repeat (first | refine blk_drewN ?_ _ | refine blk_drew ?_ | refine blk_alloc ?_ _)); exact BK170.out⟩, ⟨by repeat (first | (with_reducible first | exact HB.out | apply below_alloc | apply pw_below_drewN | apply below_drew1 | refine below_set ?_ GE164.out | refine below_set ?_ GE170.out | refine below_set ?_ GE172.out) | exact HB.out)⟩⟩
                ·rw [if_neg c30] at H
                 exact absurd H (by simp)
               ·rw [if_neg c29] at H
                exact absurd H (by simp)
              ·rw [if_neg c28] at H
               have c28b0 : decide (x41_4 < (((rd_T57 l0_0 x34_3).f1).length : Int)) = false := decide_eq_false c28
               clear c28
               have H' := Aside0.mk H
               clear H
               go_wp2
               go_roundg k4
               case measure => have := HJ2.out; have := HK2.out; have := HK3.out; have := HK4.out; omega
               case rel => exact ⟨(wrap64 (x34_3 + 1)), (by first | rfl | (simp; done) | (simp [*]; done)), H', ⟨by have := HJ2.out; have := HK2.out; have := HK3.out; have := HK4.out; omega⟩, ⟨by (with_reducible repeat (first | refine blk_drewN ?_ _ | refine blk_drew ?_ | refine blk_alloc ?_ _)); exact BK164.out⟩, ⟨by repeat (first | (with_reducible first | exact HB.out | apply below_alloc | apply pw_below_drewN | apply below_drew1 | refine below_set ?_ GE164.out | refine below_set ?_ GE170.out) | exact HB.out)⟩⟩
           ·rw [if_neg c24] at H
            exact absurd H (by simp)
          ·rw [if_neg c23] at H
           exact absurd H (by simp)
         ·rw [if_neg c22] at H
          have c22b0 : decide (x34_3 < (l0_0.length : Int)) = false := decide_eq_false c22
          clear c22
          obtain rfl := Option.some.inj H
          go_wp2
          go_ret
          exact ⟨by first | rfl | (simp [errW_none, errW_some] <;> rfl) | (simp [*, errW_none, errW_some] <;> rfl), by repeat (first | (with_reducible first | exact HB.out | apply below_alloc | apply pw_below_drewN | apply below_drew1 | refine below_set ?_ GE164.out) | exact HB.out)⟩
end Go.Proofs.YtfglcfbcdhjcdaaDoor.Q

namespace Go.Proofs.YtfglcfbcdhjcdaaDoor.Q
open Go.RowKit Go.Proofs.YtfglcfbcdhjcdaaDoorW.PrintWords Go.Proofs.YtfglcfbcdhjcdaaDoorW.PrintLast Go.Proofs.YtfglcfbcdhjcdaaDoorW.PrintMore
attribute [local go_sem] max2_int min2_int max_two min_two max_three min_three max_four min_four
set_option linter.unusedVariables false
set_option linter.unusedSimpArgs false
mutual
def tariff_Mailing.j0 : Nat → Bool → Int → Int → ByteArray → List (S48) → Option (Bool)
 | 0, _, _, _, _, _ => none
 | k + 1, x30, x139000, x139001, x139002, x139003 => if x30 = true then (some false) else (tariff_Mailing.l0 k 0 x139003 (x139003.length : Int) 0)
def tariff_Mailing.l0 : Nat → Int → List (S48) → Int → Int → Option (Bool)
 | 0, _, _, _, _ => none
 | k + 1, x3, x32, x33, x34 => if x34 < x33 then (if 0 ≤ x34 then (if x34 < (x32.length : Int) then (if ((rd_T48 x32 x34).f0) ≤ x3 then (some false) else (if ((rd_T48 x32 x34).f0) > 999999 then (some false) else (if ((rd_T48 x32 x34).f1) < 0 then (some false) else (if ((rd_T48 x32 x34).f1) > 999999 then (some false) else (if ((rd_T48 x32 x34).f3) < 1 then (some false) else (if ((rd_T48 x32 x34).f3) > 50000 then (some false) else ((scheme_Code.f ((rd_T48 x32 x34).f2)).bind fun t142 => (if t142 = true then (tariff_Mailing.l0 k ((rd_T48 x32 x34).f0) x32 x33 (wrap64 (x34 + 1))) else (some false))))))))) else (none)) else (none)) else (some true)
end
def tariff_Mailing.f (k : Nat) (a0_0 : Int) (a0_1 : Int) (a0_2 : ByteArray) (l0_3 : List (S48)) : Option (Bool) := if a0_0 = 0 then (tariff_Mailing.j0 k true a0_0 a0_1 a0_2 l0_3) else (if a0_1 < 1 then (tariff_Mailing.j0 k true a0_0 a0_1 a0_2 l0_3) else (if a0_1 > 3 then (tariff_Mailing.j0 k true a0_0 a0_1 a0_2 l0_3) else ((scheme_Code.f a0_2).bind fun t139 => (if t139 = true then (tariff_Mailing.j0 k (decide ((l0_3.length : Int) > 2000)) a0_0 a0_1 a0_2 l0_3) else (tariff_Mailing.j0 k true a0_0 a0_1 a0_2 l0_3)))))
set_option maxHeartbeats 8000000 in
set_option maxRecDepth 100000 in
theorem tariff_Mailing.calls (k : Nat) (a0_0 : Int) (a0_1 : Int) (a0_2 : ByteArray) (A0_3 : Option Addr) (c0_3 : Nat) (l0_3 : List (S48)) (r : Bool) (w : World) (hr0_3 : Kd.C k48 w A0_3 l0_3.length l0_3) (hc0_3 : l0_3.length ≤ c0_3) (h : tariff_Mailing.f k a0_0 a0_1 a0_2 l0_3 = some r) :
  Calls Tryd.prog 19 #[.agg #[.int .u8 a0_0, .int .u8 a0_1, .string a0_2, .slice A0_3 l0_3.length c0_3]] w fun e w' => e = .returned (.bool r) ∧ Below w.heap.size w w' := by
 have hu36 := Tryd.underlying36
 have hu48 := Tryd.underlying48
 have HR0_3 := Aside0.mk hr0_3
 have HC0_3 := Aside0.mk hc0_3
 clear hr0_3 hc0_3
 have HB := Aside0.mk (Below.refl w.heap.size w)
 have H : (if a0_0 = 0 then (tariff_Mailing.j0 k true a0_0 a0_1 a0_2 l0_3) else (if a0_1 < 1 then (tariff_Mailing.j0 k true a0_0 a0_1 a0_2 l0_3) else (if a0_1 > 3 then (tariff_Mailing.j0 k true a0_0 a0_1 a0_2 l0_3) else ((scheme_Code.f a0_2).bind fun t139 => (if t139 = true then (tariff_Mailing.j0 k (decide ((l0_3.length : Int) > 2000)) a0_0 a0_1 a0_2 l0_3) else (tariff_Mailing.j0 k true a0_0 a0_1 a0_2 l0_3)))))) = some r := h
 clear h
 have HC2 := Aside0.mk H
 clear H
 go_enter Tryd.func19, Tryd.ntmps19
 go_upto_region 1 with (first | ((with_reducible refine gate_dst (N := 1) rfl ?_); (try (refine gate_guard (by rfl) ?_; dsimp only)); refine box_event ?hg (N := 1) ?hd (cs := #[.int .u8 a0_0, .int .u8 a0_1, .string a0_2, .slice A0_3 l0_3.length c0_3]) (t := 36) ?hr ?_; (case hd => rfl); (case hg => rfl); (case hr => first | (go_simp; done) | (go_simp; rfl)); intro gb138 hg w3 hbox hb; have n0_ := Aside0.mk (below_step (by repeat (first | (with_reducible first | exact HB.out | apply below_alloc | apply pw_below_drewN | apply below_drew1) | exact HB.out)) hb); have n1_ := Aside0.mk (hbox); have n2_ := Aside0.mk ((by rw [hg]; exact (below_size (by repeat (first | (with_reducible first | exact HB.out | apply below_alloc | apply pw_below_drewN | apply below_drew1) | exact HB.out))) : w.heap.size ≤ gb138)); have n3_ := Aside0.mk ((by rw [hg]; exact (below_size (by repeat (first | (with_reducible first | exact HB.out | apply below_alloc | apply pw_below_drewN | apply below_drew1) | exact HB.out))) : w.heap.size ≤ gb138)); clear HB; have HB := n0_; have BK138 := n1_; have GW138 := n2_; have GE138 := n3_; clear n0_ n1_ n2_ n3_; clear hb hbox hg))
 (try simp only [Act.put, sl1, sl2, sl3])
 go_cut [30] (fun v30 wc => ∃ (kq : Nat) (x30_1 : Bool), v30 = .bool x30_1 ∧ Aside0 (tariff_Mailing.j0 kq x30_1 a0_0 a0_1 a0_2 l0_3 = some r) ∧ Aside0 (kq ≤ k) ∧ Aside0 (wc.heap[gb138]? = some (.cells #[.int .u8 a0_0, .int .u8 a0_1, .string a0_2, (.slice A0_3 l0_3.length c0_3)] 36 (0, 0))) ∧ Aside0 (Below w.heap.size w wc))
 case first =>
  have H := HC2.out
  clear HC2
  by_cases c4 : a0_0 = 0
  ·rw [if_pos c4] at H
   have c4b0 : (a0_0 == 0) = true := beq_iff_eq.mpr c4
   have c4b1 : (a0_0 != 0) = false := bne_eq_false_iff_eq.mpr c4
   clear c4
   (first | rw [c4b0] | (simp only [i64_w, i32_w]; rw [c4b0]) | skip)
   have H' := Aside0.mk H
   clear H
   have hcz5_0 : w3.cell? ⟨gb138, 0, none⟩ = some (.int .u8 a0_0) := (blk_cell BK138.out 0).trans rfl
   have hcz5_1 : w3.cell? ⟨gb138, 1, none⟩ = some (.int .u8 a0_1) := (blk_cell BK138.out 1).trans rfl
   have hcz5_2 : w3.cell? ⟨gb138, 2, none⟩ = some (.string a0_2) := (blk_cell BK138.out 2).trans rfl
   have hcz5_3 : w3.cell? ⟨gb138, 3, none⟩ = some (.slice A0_3 l0_3.length c0_3) := (blk_cell BK138.out 3).trans rfl
   have hfz5_0 := blk_frozen BK138.out 0
   have hfz5_1 := blk_frozen BK138.out 1
   have hfz5_2 := blk_frozen BK138.out 2
   have hfz5_3 := blk_frozen BK138.out 3
   go_wp2
   go_meet
   case rel => exact ⟨_, (true), (by first | rfl | (simp; done) | (simp [*]; done)), H', ⟨by first | omega | exact Nat.le_refl _⟩, ⟨by (with_reducible repeat (first | refine blk_drewN ?_ _ | refine blk_drew ?_ | refine blk_alloc ?_ _)); exact BK138.out⟩, ⟨by repeat (first | (with_reducible first | exact HB.out | apply below_alloc | apply pw_below_drewN | apply below_drew1 | refine below_set ?_ GE138.out) | exact HB.out)⟩⟩
  ·rw [if_neg c4] at H
   have c4b0 : (a0_0 == 0) = false := beq_eq_false_iff_ne.mpr c4
   have c4b1 : (a0_0 != 0) = true := bne_iff_ne.mpr c4
   (first | rw [c4b0] | (simp only [i64_w, i32_w]; rw [c4b0]) | skip)
   by_cases c6 : a0_1 < 1
   ·rw [if_pos c6] at H
    have c6b0 : decide (a0_1 < 1) = true := decide_eq_true c6
    clear c6
    have H' := Aside0.mk H
    clear H
    have hcz7_0 : w3.cell? ⟨gb138, 0, none⟩ = some (.int .u8 a0_0) := (blk_cell BK138.out 0).trans rfl
    have hcz7_1 : w3.cell? ⟨gb138, 1, none⟩ = some (.int .u8 a0_1) := (blk_cell BK138.out 1).trans rfl
    have hcz7_2 : w3.cell? ⟨gb138, 2, none⟩ = some (.string a0_2) := (blk_cell BK138.out 2).trans rfl
    have hcz7_3 : w3.cell? ⟨gb138, 3, none⟩ = some (.slice A0_3 l0_3.length c0_3) := (blk_cell BK138.out 3).trans rfl
    have hfz7_0 := blk_frozen BK138.out 0
    have hfz7_1 := blk_frozen BK138.out 1
    have hfz7_2 := blk_frozen BK138.out 2
    have hfz7_3 := blk_frozen BK138.out 3
    go_wp2
    go_meet
    case rel => exact ⟨_, (true), (by first | rfl | (simp; done) | (simp [*]; done)), H', ⟨by first | omega | exact Nat.le_refl _⟩, ⟨by (with_reducible repeat (first | refine blk_drewN ?_ _ | refine blk_drew ?_ | refine blk_alloc ?_ _)); exact BK138.out⟩, ⟨by repeat (first | (with_reducible first | exact HB.out | apply below_alloc | apply pw_below_drewN | apply below_drew1 | refine below_set ?_ GE138.out) | exact HB.out)⟩⟩
   ·rw [if_neg c6] at H
    have c6b0 : decide (a0_1 < 1) = false := decide_eq_false c6
    clear c6
    by_cases c8 : a0_1 > 3
    ·rw [if_pos c8] at H
     have c8b0 : decide (3 < a0_1) = true := decide_eq_true c8
     clear c8
     have H' := Aside0.mk H
     clear H
     have hcz9_0 : w3.cell? ⟨gb138, 0, none⟩ = some (.int .u8 a0_0) := (blk_cell BK138.out 0).trans rfl
     have hcz9_1 : w3.cell? ⟨gb138, 1, none⟩ = some (.int .u8 a0_1) := (blk_cell BK138.out 1).trans rfl
     have hcz9_2 : w3.cell? ⟨gb138, 2, none⟩ = some (.string a0_2) := (blk_cell BK138.out 2).trans rfl
     have hcz9_3 : w3.cell? ⟨gb138, 3, none⟩ = some (.slice A0_3 l0_3.length c0_3) := (blk_cell BK138.out 3).trans rfl
     have hfz9_0 := blk_frozen BK138.out 0
     have hfz9_1 := blk_frozen BK138.out 1
     have hfz9_2 := blk_frozen BK138.out 2
     have hfz9_3 := blk_frozen BK138.out 3
     go_wp2
     go_meet
     case rel => exact ⟨_, (true), (by first | rfl | (simp; done) | (simp [*]; done)), H', ⟨by first | omega | exact Nat.le_refl _⟩, ⟨by (with_reducible repeat (first | refine blk_drewN ?_ _ | refine blk_drew ?_ | refine blk_alloc ?_ _)); exact BK138.out⟩, ⟨by repeat (first | (with_reducible first | exact HB.out | apply below_alloc | apply pw_below_drewN | apply below_drew1 | refine below_set ?_ GE138.out) | exact HB.out)⟩⟩
    ·rw [if_neg c8] at H
     have c8b0 : decide (3 < a0_1) = false := decide_eq_false c8
     clear c8
     replace H := Option.bind_eq_some_iff.mp H
     obtain ⟨t139, A100, H⟩ := H
     replace H : (if t139 = true then (tariff_Mailing.j0 k (decide ((l0_3.length : Int) > 2000)) a0_0 a0_1 a0_2 l0_3) else (tariff_Mailing.j0 k true a0_0 a0_1 a0_2 l0_3)) = some r := H
     have A10 := Aside0.mk A100
     clear A100
     by_cases c11 : t139 = true
     ·subst c11
      have H1 : (tariff_Mailing.j0 k (decide ((l0_3.length : Int) > 2000)) a0_0 a0_1 a0_2 l0_3) = some r := by rw [if_pos rfl] at H; exact H
      clear H
      have H := H1
      clear H1
      have H' := Aside0.mk H
      clear H
      have hcz12_0 : w3.cell? ⟨gb138, 0, none⟩ = some (.int .u8 a0_0) := (blk_cell BK138.out 0).trans rfl
      have hcz12_1 : w3.cell? ⟨gb138, 1, none⟩ = some (.int .u8 a0_1) := (blk_cell BK138.out 1).trans rfl
      have hcz12_2 : w3.cell? ⟨gb138, 2, none⟩ = some (.string a0_2) := (blk_cell BK138.out 2).trans rfl
      have hcz12_3 : w3.cell? ⟨gb138, 3, none⟩ = some (.slice A0_3 l0_3.length c0_3) := (blk_cell BK138.out 3).trans rfl
      have hfz12_0 := blk_frozen BK138.out 0
      have hfz12_1 := blk_frozen BK138.out 1
      have hfz12_2 := blk_frozen BK138.out 2
      have hfz12_3 := blk_frozen BK138.out 3
      go_wp2_with (first | (go_at_call 46; (with_reducible refine (scheme_Code.calls a0_2 true _ A10.out).mono ?_); rintro e w13 ⟨rfl, hb⟩; have n0_ := Aside0.mk (blk_below (g := gb138) (o := .cells #[.int .u8 a0_0, .int .u8 a0_1, .string a0_2, .slice A0_3 l0_3.length c0_3] 36 (0, 0)) (by (with_reducible repeat (first | refine blk_drewN ?_ _ | refine blk_drew ?_ | refine blk_alloc ?_ _)); exact BK138.out) hb); have n1_ := Aside0.mk (below_step (by repeat (first | (with_reducible first | exact HB.out | apply below_alloc | apply pw_below_drewN | apply below_drew1 | refine below_set ?_ GE138.out) | exact HB.out)) hb); clear BK138; clear HB; have BK138 := n0_; have HB := n1_; clear n0_ n1_; (try clear hb); (try clear hb2); (try clear hk); (try clear hi); have hcz14_0 : w13.cell? ⟨gb138, 0, none⟩ = some (.int .u8 a0_0) := (blk_cell BK138.out 0).trans rfl; have hcz14_1 : w13.cell? ⟨gb138, 1, none⟩ = some (.int .u8 a0_1) := (blk_cell BK138.out 1).trans rfl; have hcz14_2 : w13.cell? ⟨gb138, 2, none⟩ = some (.string a0_2) := (blk_cell BK138.out 2).trans rfl; have hcz14_3 : w13.cell? ⟨gb138, 3, none⟩ = some (.slice A0_3 l0_3.length c0_3) := (blk_cell BK138.out 3).trans rfl; have hfz14_0 := blk_frozen BK138.out 0; have hfz14_1 := blk_frozen BK138.out 1; have hfz14_2 := blk_frozen BK138.out 2; have hfz14_3 := blk_frozen BK138.out 3))
      go_meet
      case rel => exact ⟨_, (decide ((l0_3.length : Int) > 2000)), (by first | rfl | (simp; done) | (simp [*]; done)), H', ⟨by first | omega | exact Nat.le_refl _⟩, ⟨by (with_reducible repeat (first | refine blk_drewN ?_ _ | refine blk_drew ?_ | refine blk_alloc ?_ _)); exact BK138.out⟩, ⟨by repeat (first | (with_reducible first | exact HB.out | apply below_alloc | apply pw_below_drewN | apply below_drew1 | refine below_set ?_ GE138.out) | exact HB.out)⟩⟩
     ·replace c11 := Bool.eq_false_iff.mpr c11
      subst c11
      have H1 : (tariff_Mailing.j0 k true a0_0 a0_1 a0_2 l0_3) = some r := by rw [if_neg (show ¬ (false = true) by decide)] at H; exact H
      clear H
      have H := H1
      clear H1
      have H' := Aside0.mk H
      clear H
      have hcz15_0 : w3.cell? ⟨gb138, 0, none⟩ = some (.int .u8 a0_0) := (blk_cell BK138.out 0).trans rfl
      have hcz15_1 : w3.cell? ⟨gb138, 1, none⟩ = some (.int .u8 a0_1) := (blk_cell BK138.out 1).trans rfl
      have hcz15_2 : w3.cell? ⟨gb138, 2, none⟩ = some (.string a0_2) := (blk_cell BK138.out 2).trans rfl
      have hcz15_3 : w3.cell? ⟨gb138, 3, none⟩ = some (.slice A0_3 l0_3.length c0_3) := (blk_cell BK138.out 3).trans rfl
      have hfz15_0 := blk_frozen BK138.out 0
      have hfz15_1 := blk_frozen BK138.out 1
      have hfz15_2 := blk_frozen BK138.out 2
      have hfz15_3 := blk_frozen BK138.out 3
      go_wp2_with (first | (go_at_call 46; (with_reducible refine (scheme_Code.calls a0_2 false _ A10.out).mono ?_); rintro e w16 ⟨rfl, hb⟩; have n0_ := Aside0.mk (blk_below (g := gb138) (o := .cells #[.int .u8 a0_0, .int .u8 a0_1, .string a0_2, .slice A0_3 l0_3.length c0_3] 36 (0, 0)) (by (with_reducible repeat (first | refine blk_drewN ?_ _ | refine blk_drew ?_ | refine blk_alloc ?_ _)); exact BK138.out) hb); have n1_ := Aside0.mk (below_step (by repeat (first | (with_reducible first | exact HB.out | apply below_alloc | apply pw_below_drewN | apply below_drew1 | refine below_set ?_ GE138.out) | exact HB.out)) hb); clear BK138; clear HB; have BK138 := n0_; have HB := n1_; clear n0_ n1_; (try clear hb); (try clear hb2); (try clear hk); (try clear hi)))
      go_meet
      case rel => exact ⟨_, (true), (by first | rfl | (simp; done) | (simp [*]; done)), H', ⟨by first | omega | exact Nat.le_refl _⟩, ⟨by (with_reducible repeat (first | refine blk_drewN ?_ _ | refine blk_drew ?_ | refine blk_alloc ?_ _)); exact BK138.out⟩, ⟨by repeat (first | (with_reducible first | exact HB.out | apply below_alloc | apply pw_below_drewN | apply below_drew1 | refine below_set ?_ GE138.out) | exact HB.out)⟩⟩
 case rest =>
  clear HC2
  try clear c1
  try clear p2
  try clear c4
  try clear c4b0
  try clear c4b1
  try clear c6
  try clear c6b0
  try clear c8
  try clear c8b0
  try clear c11
  try clear hcz12_0
  try clear hcz12_1
  try clear hcz12_2
  try clear hcz12_3
  try clear hcz14_0
  try clear hcz14_1
  try clear hcz14_2
  try clear hcz14_3
  try clear hcz15_0
  try clear hcz15_1
  try clear hcz15_2
  try clear hcz15_3
  try clear hcz5_0
  try clear hcz5_1
  try clear hcz5_2
  try clear hcz5_3
  try clear hcz7_0
  try clear hcz7_1
  try clear hcz7_2
  try clear hcz7_3
  try clear hcz9_0
  try clear hcz9_1
  try clear hcz9_2
  try clear hcz9_3
  try clear hfz12_0
  try clear hfz12_1
  try clear hfz12_2
  try clear hfz12_3
  try clear hfz14_0
  try clear hfz14_1
  try clear hfz14_2
  try clear hfz14_3
  try clear hfz15_0
  try clear hfz15_1
  try clear hfz15_2
  try clear hfz15_3
  try clear hfz5_0
  try clear hfz5_1
  try clear hfz5_2
  try clear hfz5_3
  try clear hfz7_0
  try clear hfz7_1
  try clear hfz7_2
  try clear hfz7_3
  try clear hfz9_0
  try clear hfz9_1
  try clear hfz9_2
  try clear hfz9_3
  obtain ⟨kq, x30_1, rfl, HA, HJ1, BK138, HB⟩ := hcut
  cases kq with
  | zero => exact absurd HA.out (by simp [tariff_Mailing.j0])
  | succ kj1 =>
   have H := HA.out
   clear HA
   simp only [tariff_Mailing.j0] at H
   by_cases c17 : x30_1 = true
   ·subst c17
    have H1 : (some false) = some r := by rw [if_pos rfl] at H; exact H
    clear H
    have H := H1
    clear H1
    obtain rfl := Option.some.inj H
    go_wp2
    go_ret
    exact ⟨by first | rfl | (simp [errW_none, errW_some] <;> rfl) | (simp [*, errW_none, errW_some] <;> rfl), by repeat (first | (with_reducible first | exact HB.out | apply below_alloc | apply pw_below_drewN | apply below_drew1 | refine below_set ?_ GE138.out) | exact HB.out)⟩
   ·replace c17 := Bool.eq_false_iff.mpr c17
    subst c17
    have H1 : (tariff_Mailing.l0 kj1 0 l0_3 (l0_3.length : Int) 0) = some r := by rw [if_neg (show ¬ (false = true) by decide)] at H; exact H
    clear H
    have H := H1
    clear H1
    have H' := Aside0.mk H
    clear H
    have hcz18_0 : wc.cell? ⟨gb138, 0, none⟩ = some (.int .u8 a0_0) := (blk_cell BK138.out 0).trans rfl
    have hcz18_1 : wc.cell? ⟨gb138, 1, none⟩ = some (.int .u8 a0_1) := (blk_cell BK138.out 1).trans rfl
    have hcz18_2 : wc.cell? ⟨gb138, 2, none⟩ = some (.string a0_2) := (blk_cell BK138.out 2).trans rfl
    have hcz18_3 : wc.cell? ⟨gb138, 3, none⟩ = some (.slice A0_3 l0_3.length c0_3) := (blk_cell BK138.out 3).trans rfl
    have hfz18_0 := blk_frozen BK138.out 0
    have hfz18_1 := blk_frozen BK138.out 1
    have hfz18_2 := blk_frozen BK138.out 2
    have hfz18_3 := blk_frozen BK138.out 3
    go_wp2
    go_loopg [3, 34] kj1 (fun kq v3 v34 w' => ∃ (x3_2 : Int) (x34_2 : Int), v3 = .int .i64 x3_2 ∧ v34 = .int .i64 x34_2 ∧ Aside0 (tariff_Mailing.l0 kq x3_2 l0_3 (l0_3.length : Int) x34_2 = some r) ∧ Aside0 (kq ≤ kj1) ∧ Aside0 (w'.heap[gb138]? = some (.cells #[.int .u8 a0_0, .int .u8 a0_1, .string a0_2, (.slice A0_3 l0_3.length c0_3)] 36 (0, 0))) ∧ Aside0 (Below w.heap.size w w'))
    case atStart => exact ⟨(0), (0), (by first | rfl | (simp; done) | (simp [*]; done)), (by first | rfl | (simp; done) | (simp [*]; done)), H', ⟨Nat.le_refl _⟩, ⟨by (with_reducible repeat (first | refine blk_drewN ?_ _ | refine blk_drew ?_ | refine blk_alloc ?_ _)); exact BK138.out⟩, ⟨by repeat (first | (with_reducible first | exact HB.out | apply below_alloc | apply pw_below_drewN | apply below_drew1 | refine below_set ?_ GE138.out) | exact HB.out)⟩⟩
    case round =>
     clear H'
     try clear c1
     try clear p2
     try clear c4
     try clear c4b0
     try clear c4b1
     try clear c6
     try clear c6b0
     try clear c8
     try clear c8b0
     try clear c11
     try clear c17
     try clear hcz12_0
     try clear hcz12_1
     try clear hcz12_2
     try clear hcz12_3
     try clear hcz14_0
     try clear hcz14_1
     try clear hcz14_2
     try clear hcz14_3
     try clear hcz15_0
     try clear hcz15_1
     try clear hcz15_2
     try clear hcz15_3
     try clear hcz18_0
     try clear hcz18_1
     try clear hcz18_2
     try clear hcz18_3
     try clear hcz5_0
     try clear hcz5_1
     try clear hcz5_2
     try clear hcz5_3
     try clear hcz7_0
     try clear hcz7_1
     try clear hcz7_2
     try clear hcz7_3
     try clear hcz9_0
     try clear hcz9_1
     try clear hcz9_2
     try clear hcz9_3
     try clear hfz12_0
     try clear hfz12_1
     try clear hfz12_2
     try clear hfz12_3
     try clear hfz14_0
     try clear hfz14_1
     try clear hfz14_2
     try clear hfz14_3
     try clear hfz15_0
     try clear hfz15_1
     try clear hfz15_2
     try clear hfz15_3
     try clear hfz18_0
     try clear hfz18_1
     try clear hfz18_2
     try clear hfz18_3
     try clear hfz5_0
     try clear hfz5_1
     try clear hfz5_2
     try clear hfz5_3
     try clear hfz7_0
     try clear hfz7_1
     try clear hfz7_2
     try clear hfz7_3
     try clear hfz9_0
     try clear hfz9_1
     try clear hfz9_2
     try clear hfz9_3
     try clear p2
     obtain ⟨x3_2, x34_2, rfl, rfl, HA, HK2, BK138, HB⟩ := hrel
     cases gk with
     | zero => exact absurd HA.out (by simp [tariff_Mailing.l0])
     | succ k2 =>
      have H := HA.out
      clear HA
      simp only [tariff_Mailing.l0] at H
      by_cases c19 : x34_2 < (l0_3.length : Int)
      ·rw [if_pos c19] at H
       have c19b0 : decide (x34_2 < (l0_3.length : Int)) = true := decide_eq_true c19
       clear c19
       by_cases c20 : 0 ≤ x34_2
       ·rw [if_pos c20] at H
        have c20b0 : decide (0 ≤ x34_2) = true := decide_eq_true c20
        clear c20
        by_cases c21 : x34_2 < (l0_3.length : Int)
        ·rw [if_pos c21] at H
         have c21b0 : decide (x34_2 < (l0_3.length : Int)) = true := decide_eq_true c21
         clear c21
         by_cases c22 : ((rd_T48 l0_3 x34_2).f0) ≤ x3_2
         ·rw [if_pos c22] at H
          have c22b0 : decide (((rd_T48 l0_3 x34_2).f0) ≤ x3_2) = true := decide_eq_true c22
          clear c22
          obtain rfl := Option.some.inj H
          have p140 : 0 ≤ (x34_2 : Int) := of_decide_eq_true (by first | (with_reducible assumption) | assumption)
          have q140 : x34_2 < (l0_3.length : Int) := of_decide_eq_true (by first | (with_reducible assumption) | assumption)
          obtain ⟨ad140, e140, hx140_0, hx140_1, hx140_2, hx140_3, hx140_4⟩ := at_T48 HR0_3.out x34_2 p140 q140
          cases e140
          replace hx140_0 := (HB.out.cell (World.block_lt_of_cell? w _ hx140_0)).trans hx140_0
          replace hx140_1 := (HB.out.cell (World.block_lt_of_cell? w _ hx140_1)).trans hx140_1
          replace hx140_2 := (HB.out.cell (World.block_lt_of_cell? w _ hx140_2)).trans hx140_2
          replace hx140_3 := (HB.out.cell (World.block_lt_of_cell? w _ hx140_3)).trans hx140_3
          replace hx140_4 := (HB.out.cell (World.block_lt_of_cell? w _ hx140_4)).trans hx140_4
          replace p140 := eq_true p140
          replace q140 := eq_true q140
          go_wp2_with (first | ((with_reducible refine gate_dst (N := 5) rfl ?_); (try (refine gate_guard (by rfl) ?_; dsimp only)); refine box_event ?hg (N := 5) ?hd (cs := #[.int .i64 0, .int .i64 0, .string (⟨#[]⟩ : ByteArray), .int .i64 0, .bool false]) (t := 48) ?hr ?_; (case hd => rfl); (case hg => rfl); (case hr => first | (go_simp; done) | (go_simp; rfl)); intro gb141 hg w23 hbox hb; have n0_ := Aside0.mk (blk_below (g := gb138) (o := .cells #[.int .u8 a0_0, .int .u8 a0_1, .string a0_2, .slice (some ad140) l0_3.length c0_3] 36 (0, 0)) (by (with_reducible repeat (first | refine blk_drewN ?_ _ | refine blk_drew ?_ | refine blk_alloc ?_ _)); exact BK138.out) hb); have n1_ := Aside0.mk (below_step (by repeat (first | (with_reducible first | exact HB.out | apply below_alloc | apply pw_below_drewN | apply below_drew1 | refine below_set ?_ GE138.out) | exact HB.out)) hb); have n2_ := Aside0.mk (hbox); have n3_ := Aside0.mk ((by rw [hg]; exact (below_size (by repeat (first | (with_reducible first | exact HB.out | apply below_alloc | apply pw_below_drewN | apply below_drew1 | refine below_set ?_ GE138.out) | exact HB.out))) : w.heap.size ≤ gb141)); have n4_ := Aside0.mk ((by rw [hg]; exact (below_size (by repeat (first | (with_reducible first | exact HB.out | apply below_alloc | apply pw_below_drewN | apply below_drew1 | refine below_set ?_ GE138.out) | exact HB.out))) : w.heap.size ≤ gb141)); have n5_ := Aside0.mk ((by rw [hg]; exact Nat.ne_of_lt (blk_lt (g := gb138) (o := .cells #[.int .u8 a0_0, .int .u8 a0_1, .string a0_2, .slice (some ad140) l0_3.length c0_3] 36 (0, 0)) (by (with_reducible repeat (first | refine blk_drewN ?_ _ | refine blk_drew ?_ | refine blk_alloc ?_ _)); exact BK138.out)) : gb138 ≠ gb141)); have n6_ := Aside0.mk ((by rw [hg]; exact Nat.ne_of_gt (blk_lt (g := gb138) (o := .cells #[.int .u8 a0_0, .int .u8 a0_1, .string a0_2, .slice (some ad140) l0_3.length c0_3] 36 (0, 0)) (by (with_reducible repeat (first | refine blk_drewN ?_ _ | refine blk_drew ?_ | refine blk_alloc ?_ _)); exact BK138.out)) : gb141 ≠ gb138)); clear BK138; clear HB; have BK138 := n0_; have HB := n1_; have BK141 := n2_; have GW141 := n3_; have GE141 := n4_; have NB138_141 := n5_; have NB141_138 := n6_; clear n0_ n1_ n2_ n3_ n4_ n5_ n6_; clear hb hbox hg; have hnb24 := NB141_138.out; have hnc24 := NB138_141.out; have hcz25_0 : w23.cell? ⟨gb141, 0, none⟩ = some (.int .i64 0) := (blk_cell BK141.out 0).trans rfl; have hcz25_1 : w23.cell? ⟨gb141, 1, none⟩ = some (.int .i64 0) := (blk_cell BK141.out 1).trans rfl; have hcz25_2 : w23.cell? ⟨gb141, 2, none⟩ = some (.string (⟨#[]⟩ : ByteArray)) := (blk_cell BK141.out 2).trans rfl; have hcz25_3 : w23.cell? ⟨gb141, 3, none⟩ = some (.int .i64 0) := (blk_cell BK141.out 3).trans rfl; have hcz25_4 : w23.cell? ⟨gb141, 4, none⟩ = some (.bool false) := (blk_cell BK141.out 4).trans rfl; have hfz25_0 := blk_frozen BK141.out 0; have hfz25_1 := blk_frozen BK141.out 1; have hfz25_2 := blk_frozen BK141.out 2; have hfz25_3 := blk_frozen BK141.out 3; have hfz25_4 := blk_frozen BK141.out 4))
          go_ret
          exact ⟨by first | rfl | (simp [errW_none, errW_some] <;> rfl) | (simp [*, errW_none, errW_some] <;> rfl), by repeat (first | (with_reducible first | exact HB.out | apply below_alloc | apply pw_below_drewN | apply below_drew1 | refine below_set ?_ GE138.out | refine below_set ?_ GE141.out) | exact HB.out)⟩
         ·rw [if_neg c22] at H
          have c22b0 : decide (((rd_T48 l0_3 x34_2).f0) ≤ x3_2) = false := decide_eq_false c22
          clear c22
          by_cases c26 : ((rd_T48 l0_3 x34_2).f0) > 999999
          ·rw [if_pos c26] at H
           have c26b0 : decide (999999 < ((rd_T48 l0_3 x34_2).f0)) = true := decide_eq_true c26
           clear c26
           obtain rfl := Option.some.inj H
           have p140 : 0 ≤ (x34_2 : Int) := of_decide_eq_true (by first | (with_reducible assumption) | assumption)
           have q140 : x34_2 < (l0_3.length : Int) := of_decide_eq_true (by first | (with_reducible assumption) | assumption)
           obtain ⟨ad140, e140, hx140_0, hx140_1, hx140_2, hx140_3, hx140_4⟩ := at_T48 HR0_3.out x34_2 p140 q140
           cases e140
           replace hx140_0 := (HB.out.cell (World.block_lt_of_cell? w _ hx140_0)).trans hx140_0
           replace hx140_1 := (HB.out.cell (World.block_lt_of_cell? w _ hx140_1)).trans hx140_1
           replace hx140_2 := (HB.out.cell (World.block_lt_of_cell? w _ hx140_2)).trans hx140_2
           replace hx140_3 := (HB.out.cell (World.block_lt_of_cell? w _ hx140_3)).trans hx140_3
           replace hx140_4 := (HB.out.cell (World.block_lt_of_cell? w _ hx140_4)).trans hx140_4
           replace p140 := eq_true p140
           replace q140 := eq_true q140
           go_wp2_with (first | ((with_reducible refine gate_dst (N := 5) rfl ?_); (try (refine gate_guard (by rfl) ?_; dsimp only)); refine box_event ?hg (N := 5) ?hd (cs := #[.int .i64 0, .int .i64 0, .string (⟨#[]⟩ : ByteArray), .int .i64 0, .bool false]) (t := 48) ?hr ?_; (case hd => rfl); (case hg => rfl); (case hr => first | (go_simp; done) | (go_simp; rfl)); intro gb141 hg w27 hbox hb; have n0_ := Aside0.mk (blk_below (g := gb138) (o := .cells #[.int .u8 a0_0, .int .u8 a0_1, .string a0_2, .slice (some ad140) l0_3.length c0_3] 36 (0, 0)) (by (with_reducible repeat (first | refine blk_drewN ?_ _ | refine blk_drew ?_ | refine blk_alloc ?_ _)); exact BK138.out) hb); have n1_ := Aside0.mk (below_step (by repeat (first | (with_reducible first | exact HB.out | apply below_alloc | apply pw_below_drewN | apply below_drew1 | refine below_set ?_ GE138.out) | exact HB.out)) hb); have n2_ := Aside0.mk (hbox); have n3_ := Aside0.mk ((by rw [hg]; exact (below_size (by repeat (first | (with_reducible first | exact HB.out | apply below_alloc | apply pw_below_drewN | apply below_drew1 | refine below_set ?_ GE138.out) | exact HB.out))) : w.heap.size ≤ gb141)); have n4_ := Aside0.mk ((by rw [hg]; exact (below_size (by repeat (first | (with_reducible first | exact HB.out | apply below_alloc | apply pw_below_drewN | apply below_drew1 | refine below_set ?_ GE138.out) | exact HB.out))) : w.heap.size ≤ gb141)); have n5_ := Aside0.mk ((by rw [hg]; exact Nat.ne_of_lt (blk_lt (g := gb138) (o := .cells #[.int .u8 a0_0, .int .u8 a0_1, .string a0_2, .slice (some ad140) l0_3.length c0_3] 36 (0, 0)) (by (with_reducible repeat (first | refine blk_drewN ?_ _ | refine blk_drew ?_ | refine blk_alloc ?_ _)); exact BK138.out)) : gb138 ≠ gb141)); have n6_ := Aside0.mk ((by rw [hg]; exact Nat.ne_of_gt (blk_lt (g := gb138) (o := .cells #[.int .u8 a0_0, .int .u8 a0_1, .string a0_2, .slice (some ad140) l0_3.length c0_3] 36 (0, 0)) (by (with_reducible repeat (first | refine blk_drewN ?_ _ | refine blk_drew ?_ | refine blk_alloc ?_ _)); exact BK138.out)) : gb141 ≠ gb138)); clear BK138; clear HB; have BK138 := n0_; have HB := n1_; have BK141 := n2_; have GW141 := n3_; have GE141 := n4_; have NB138_141 := n5_; have NB141_138 := n6_; clear n0_ n1_ n2_ n3_ n4_ n5_ n6_; clear hb hbox hg; have hnb28 := NB141_138.out; have hnc28 := NB138_141.out; have hcz29_0 : w27.cell? ⟨gb141, 0, none⟩ = some (.int .i64 0) := (blk_cell BK141.out 0).trans rfl; have hcz29_1 : w27.cell? ⟨gb141, 1, none⟩ = some (.int .i64 0) := (blk_cell BK141.out 1).trans rfl; have hcz29_2 : w27.cell? ⟨gb141, 2, none⟩ = some (.string (⟨#[]⟩ : ByteArray)) := (blk_cell BK141.out 2).trans rfl; have hcz29_3 : w27.cell? ⟨gb141, 3, none⟩ = some (.int .i64 0) := (blk_cell BK141.out 3).trans rfl; have hcz29_4 : w27.cell? ⟨gb141, 4, none⟩ = some (.bool false) := (blk_cell BK141.out 4).trans rfl; have hfz29_0 := blk_frozen BK141.out 0; have hfz29_1 := blk_frozen BK141.out 1; have hfz29_2 := blk_frozen BK141.out 2; have hfz29_3 := blk_frozen BK141.out 3; have hfz29_4 := blk_frozen BK141.out 4))
           go_ret
           exact ⟨by first | rfl | (simp [errW_none, errW_some] <;> rfl) | (simp [*, errW_none, errW_some] <;> rfl), by repeat (first | (with_reducible first | exact HB.out | apply below_alloc | apply pw_below_drewN | apply below_drew1 | refine below_set ?_ GE138.out | refine below_set ?_ GE141.out) | exact HB.out)⟩
          ·rw [if_neg c26] at H
           have c26b0 : decide (999999 < ((rd_T48 l0_3 x34_2).f0)) = false := decide_eq_false c26
           clear c26
           by_cases c30 : ((rd_T48 l0_3 x34_2).f1) < 0
           ·rw [if_pos c30] at H
            have c30b0 : decide (((rd_T48 l0_3 x34_2).f1) < 0) = true := decide_eq_true c30
            clear c30
            obtain rfl := Option.some.inj H
            have p140 : 0 ≤ (x34_2 : Int) := of_decide_eq_true (by first | (with_reducible assumption) | assumption)
            have q140 : x34_2 < (l0_3.length : Int) := of_decide_eq_true (by first | (with_reducible assumption) | assumption)
            obtain ⟨ad140, e140, hx140_0, hx140_1, hx140_2, hx140_3, hx140_4⟩ := at_T48 HR0_3.out x34_2 p140 q140
            cases e140
            replace hx140_0 := (HB.out.cell (World.block_lt_of_cell? w _ hx140_0)).trans hx140_0
            replace hx140_1 := (HB.out.cell (World.block_lt_of_cell? w _ hx140_1)).trans hx140_1
            replace hx140_2 := (HB.out.cell (World.block_lt_of_cell? w _ hx140_2)).trans hx140_2
            replace hx140_3 := (HB.out.cell (World.block_lt_of_cell? w _ hx140_3)).trans hx140_3
            replace hx140_4 := (HB.out.cell (World.block_lt_of_cell? w _ hx140_4)).trans hx140_4
            replace p140 := eq_true p140
            replace q140 := eq_true q140
            go_wp2_with (first | ((with_reducible refine gate_dst (N := 5) rfl ?_); (try (refine gate_guard (by rfl) ?_; dsimp only)); refine box_event ?hg (N := 5) ?hd (cs := #[.int .i64 0, .int .i64 0, .string (⟨#[]⟩ : ByteArray), .int .i64 0, .bool false]) (t := 48) ?hr ?_; (case hd => rfl); (case hg => rfl); (case hr => first | (go_simp; done) | (go_simp; rfl)); intro gb141 hg w31 hbox hb; have n0_ := Aside0.mk (blk_below (g := gb138) (o := .cells #[.int .u8 a0_0, .int .u8 a0_1, .string a0_2, .slice (some ad140) l0_3.length c0_3] 36 (0, 0)) (by (with_reducible repeat (first | refine blk_drewN ?_ _ | refine blk_drew ?_ | refine blk_alloc ?_ _)); exact BK138.out) hb); have n1_ := Aside0.mk (below_step (by repeat (first | (with_reducible first | exact HB.out | apply below_alloc | apply pw_below_drewN | apply below_drew1 | refine below_set ?_ GE138.out) | exact HB.out)) hb); have n2_ := Aside0.mk (hbox); have n3_ := Aside0.mk ((by rw [hg]; exact (below_size (by repeat (first | (with_reducible first | exact HB.out | apply below_alloc | apply pw_below_drewN | apply below_drew1 | refine below_set ?_ GE138.out) | exact HB.out))) : w.heap.size ≤ gb141)); have n4_ := Aside0.mk ((by rw [hg]; exact (below_size (by repeat (first | (with_reducible first | exact HB.out | apply below_alloc | apply pw_below_drewN | apply below_drew1 | refine below_set ?_ GE138.out) | exact HB.out))) : w.heap.size ≤ gb141)); have n5_ := Aside0.mk ((by rw [hg]; exact Nat.ne_of_lt (blk_lt (g := gb138) (o := .cells #[.int .u8 a0_0, .int .u8 a0_1, .string a0_2, .slice (some ad140) l0_3.length c0_3] 36 (0, 0)) (by (with_reducible repeat (first | refine blk_drewN ?_ _ | refine blk_drew ?_ | refine blk_alloc ?_ _)); exact BK138.out)) : gb138 ≠ gb141)); have n6_ := Aside0.mk ((by rw [hg]; exact Nat.ne_of_gt (blk_lt (g := gb138) (o := .cells #[.int .u8 a0_0, .int .u8 a0_1, .string a0_2, .slice (some ad140) l0_3.length c0_3] 36 (0, 0)) (by (with_reducible repeat (first | refine blk_drewN ?_ _ | refine blk_drew ?_ | refine blk_alloc ?_ _)); exact BK138.out)) : gb141 ≠ gb138)); clear BK138; clear HB; have BK138 := n0_; have HB := n1_; have BK141 := n2_; have GW141 := n3_; have GE141 := n4_; have NB138_141 := n5_; have NB141_138 := n6_; clear n0_ n1_ n2_ n3_ n4_ n5_ n6_; clear hb hbox hg; have hnb32 := NB141_138.out; have hnc32 := NB138_141.out; have hcz33_0 : w31.cell? ⟨gb141, 0, none⟩ = some (.int .i64 0) := (blk_cell BK141.out 0).trans rfl; have hcz33_1 : w31.cell? ⟨gb141, 1, none⟩ = some (.int .i64 0) := (blk_cell BK141.out 1).trans rfl; have hcz33_2 : w31.cell? ⟨gb141, 2, none⟩ = some (.string (⟨#[]⟩ : ByteArray)) := (blk_cell BK141.out 2).trans rfl; have hcz33_3 : w31.cell? ⟨gb141, 3, none⟩ = some (.int .i64 0) := (blk_cell BK141.out 3).trans rfl; have hcz33_4 : w31.cell? ⟨gb141, 4, none⟩ = some (.bool false) := (blk_cell BK141.out 4).trans rfl; have hfz33_0 := blk_frozen BK141.out 0; have hfz33_1 := blk_frozen BK141.out 1; have hfz33_2 := blk_frozen BK141.out 2; have hfz33_3 := blk_frozen BK141.out 3; have hfz33_4 := blk_frozen BK141.out 4))
            go_ret
            exact ⟨by first | rfl | (simp [errW_none, errW_some] <;> rfl) | (simp [*, errW_none, errW_some] <;> rfl), by repeat (first | (with_reducible first | exact HB.out | apply below_alloc | apply pw_below_drewN | apply below_drew1 | refine below_set ?_ GE138.out | refine below_set ?_ GE141.out) | exact HB.out)⟩
           ·rw [if_neg c30] at H
            have c30b0 : decide (((rd_T48 l0_3 x34_2).f1) < 0) = false := decide_eq_false c30
            clear c30
            by_cases c34 : ((rd_T48 l0_3 x34_2).f1) > 999999
            ·rw [if_pos c34] at H
             have c34b0 : decide (999999 < ((rd_T48 l0_3 x34_2).f1)) = true := decide_eq_true c34
             clear c34
             obtain rfl := Option.some.inj H
             have p140 : 0 ≤ (x34_2 : Int) := of_decide_eq_true (by first | (with_reducible assumption) | assumption)
             have q140 : x34_2 < (l0_3.length : Int) := of_decide_eq_true (by first | (with_reducible assumption) | assumption)
             obtain ⟨ad140, e140, hx140_0, hx140_1, hx140_2, hx140_3, hx140_4⟩ := at_T48 HR0_3.out x34_2 p140 q140
             cases e140
             replace hx140_0 := (HB.out.cell (World.block_lt_of_cell? w _ hx140_0)).trans hx140_0
             replace hx140_1 := (HB.out.cell (World.block_lt_of_cell? w _ hx140_1)).trans hx140_1
             replace hx140_2 := (HB.out.cell (World.block_lt_of_cell? w _ hx140_2)).trans hx140_2
             replace hx140_3 := (HB.out.cell (World.block_lt_of_cell? w _ hx140_3)).trans hx140_3
             replace hx140_4 := (HB.out.cell (World.block_lt_of_cell? w _ hx140_4)).trans hx140_4
             replace p140 := eq_true p140
             replace q140 := eq_true q140
             go_wp2_with (first | ((with_reducible refine gate_dst (N := 5) rfl ?_); (try (refine gate_guard (by rfl) ?_; dsimp only)); refine box_event ?hg (N := 5) ?hd (cs := #[.int .i64 0, .int .i64 0, .string (⟨#[]⟩ : ByteArray), .int .i64 0, .bool false]) (t := 48) ?hr ?_; (case hd => rfl); (case hg => rfl); (case hr => first | (go_simp; done) | (go_simp; rfl)); intro gb141 hg w35 hbox hb; have n0_ := Aside0.mk (blk_below (g := gb138) (o := .cells #[.int .u8 a0_0, .int .u8 a0_1, .string a0_2, .slice (some ad140) l0_3.length c0_3] 36 (0, 0)) (by (with_reducible repeat (first | refine blk_drewN ?_ _ | refine blk_drew ?_ | refine blk_alloc ?_ _)); exact BK138.out) hb); have n1_ := Aside0.mk (below_step (by repeat (first | (with_reducible first | exact HB.out | apply below_alloc | apply pw_below_drewN | apply below_drew1 | refine below_set ?_ GE138.out) | exact HB.out)) hb); have n2_ := Aside0.mk (hbox); have n3_ := Aside0.mk ((by rw [hg]; exact (below_size (by repeat (first | (with_reducible first | exact HB.out | apply below_alloc | apply pw_below_drewN | apply below_drew1 | refine below_set ?_ GE138.out) | exact HB.out))) : w.heap.size ≤ gb141)); have n4_ := Aside0.mk ((by rw [hg]; exact (below_size (by repeat (first | (with_reducible first | exact HB.out | apply below_alloc | apply pw_below_drewN | apply below_drew1 | refine below_set ?_ GE138.out) | exact HB.out))) : w.heap.size ≤ gb141)); have n5_ := Aside0.mk ((by rw [hg]; exact Nat.ne_of_lt (blk_lt (g := gb138) (o := .cells #[.int .u8 a0_0, .int .u8 a0_1, .string a0_2, .slice (some ad140) l0_3.length c0_3] 36 (0, 0)) (by (with_reducible repeat (first | refine blk_drewN ?_ _ | refine blk_drew ?_ | refine blk_alloc ?_ _)); exact BK138.out)) : gb138 ≠ gb141)); have n6_ := Aside0.mk ((by rw [hg]; exact Nat.ne_of_gt (blk_lt (g := gb138) (o := .cells #[.int .u8 a0_0, .int .u8 a0_1, .string a0_2, .slice (some ad140) l0_3.length c0_3] 36 (0, 0)) (by (with_reducible repeat (first | refine blk_drewN ?_ _ | refine blk_drew ?_ | refine blk_alloc ?_ _)); exact BK138.out)) : gb141 ≠ gb138)); clear BK138; clear HB; have BK138 := n0_; have HB := n1_; have BK141 := n2_; have GW141 := n3_; have GE141 := n4_; have NB138_141 := n5_; have NB141_138 := n6_; clear n0_ n1_ n2_ n3_ n4_ n5_ n6_; clear hb hbox hg; have hnb36 := NB141_138.out; have hnc36 := NB138_141.out; have hcz37_0 : w35.cell? ⟨gb141, 0, none⟩ = some (.int .i64 0) := (blk_cell BK141.out 0).trans rfl; have hcz37_1 : w35.cell? ⟨gb141, 1, none⟩ = some (.int .i64 0) := (blk_cell BK141.out 1).trans rfl; have hcz37_2 : w35.cell? ⟨gb141, 2, none⟩ = some (.string (⟨#[]⟩ : ByteArray)) := (blk_cell BK141.out 2).trans rfl; have hcz37_3 : w35.cell? ⟨gb141, 3, none⟩ = some (.int .i64 0) := (blk_cell BK141.out 3).trans rfl; have hcz37_4 : w35.cell? ⟨gb141, 4, none⟩ = some (.bool false) := (blk_cell BK141.out 4).trans rfl; have hfz37_0 := blk_frozen BK141.out 0; have hfz37_1 := blk_frozen BK141.out 1; have hfz37_2 := blk_frozen BK141.out 2; have hfz37_3 := blk_frozen BK141.out 3; have hfz37_4 := blk_frozen BK141.out 4))
             go_ret
             exact ⟨by first | rfl | (simp [errW_none, errW_some] <;> rfl) | (simp [*, errW_none, errW_some] <;> rfl), by repeat (first | (with_reducible first | exact HB.out | apply below_alloc | apply pw_below_drewN | apply below_drew1 | refine below_set ?_ GE138.out | refine below_set ?_ GE141.out) | exact HB.out)⟩
            ·rw [if_neg c34] at H
             have c34b0 : decide (999999 < ((rd_T48 l0_3 x34_2).f1)) = false := decide_eq_false c34
             clear c34
             by_cases c38 : ((rd_T48 l0_3 x34_2).f3) < 1
             ·rw [if_pos c38] at H
              have c38b0 : decide (((rd_T48 l0_3 x34_2).f3) < 1) = true := decide_eq_true c38
              clear c38
              obtain rfl := Option.some.inj H
              have p140 : 0 ≤ (x34_2 : Int) := of_decide_eq_true (by first | (with_reducible assumption) | assumption)
              have q140 : x34_2 < (l0_3.length : Int) := of_decide_eq_true (by first | (with_reducible assumption) | assumption)
              obtain ⟨ad140, e140, hx140_0, hx140_1, hx140_2, hx140_3, hx140_4⟩ := at_T48 HR0_3.out x34_2 p140 q140
              cases e140
              replace hx140_0 := (HB.out.cell (World.block_lt_of_cell? w _ hx140_0)).trans hx140_0
              replace hx140_1 := (HB.out.cell (World.block_lt_of_cell? w _ hx140_1)).trans hx140_1
              replace hx140_2 := (HB.out.cell (World.block_lt_of_cell? w _ hx140_2)).trans hx140_2
              replace hx140_3 := (HB.out.cell (World.block_lt_of_cell? w _ hx140_3)).trans hx140_3
              replace hx140_4 := (HB.out.cell (World.block_lt_of_cell? w _ hx140_4)).trans hx140_4
              replace p140 := eq_true p140
              replace q140 := eq_true q140
              go_wp2_with (first | ((with_reducible refine gate_dst (N := 5) rfl ?_); (try (refine gate_guard (by rfl) ?_; dsimp only)); refine box_event ?hg (N := 5) ?hd (cs := #[.int .i64 0, .int .i64 0, .string (⟨#[]⟩ : ByteArray), .int .i64 0, .bool false]) (t := 48) ?hr ?_; (case hd => rfl); (case hg => rfl); (case hr => first | (go_simp; done) | (go_simp; rfl)); intro gb141 hg w39 hbox hb; have n0_ := Aside0.mk (blk_below (g := gb138) (o := .cells #[.int .u8 a0_0, .int .u8 a0_1, .string a0_2, .slice (some ad140) l0_3.length c0_3] 36 (0, 0)) (by (with_reducible repeat (first | refine blk_drewN ?_ _ | refine blk_drew ?_ | refine blk_alloc ?_ _)); exact BK138.out) hb); have n1_ := Aside0.mk (below_step (by repeat (first | (with_reducible first | exact HB.out | apply below_alloc | apply pw_below_drewN | apply below_drew1 | refine below_set ?_ GE138.out) | exact HB.out)) hb); have n2_ := Aside0.mk (hbox); have n3_ := Aside0.mk ((by rw [hg]; exact (below_size (by repeat (first | (with_reducible first | exact HB.out | apply below_alloc | apply pw_below_drewN | apply below_drew1 | refine below_set ?_ GE138.out) | exact HB.out))) : w.heap.size ≤ gb141)); have n4_ := Aside0.mk ((by rw [hg]; exact (below_size (by repeat (first | (with_reducible first | exact HB.out | apply below_alloc | apply pw_below_drewN | apply below_drew1 | refine below_set ?_ GE138.out) | exact HB.out))) : w.heap.size ≤ gb141)); have n5_ := Aside0.mk ((by rw [hg]; exact Nat.ne_of_lt (blk_lt (g := gb138) (o := .cells #[.int .u8 a0_0, .int .u8 a0_1, .string a0_2, .slice (some ad140) l0_3.length c0_3] 36 (0, 0)) (by (with_reducible repeat (first | refine blk_drewN ?_ _ | refine blk_drew ?_ | refine blk_alloc ?_ _)); exact BK138.out)) : gb138 ≠ gb141)); have n6_ := Aside0.mk ((by rw [hg]; exact Nat.ne_of_gt (blk_lt (g := gb138) (o := .cells #[.int .u8 a0_0, .int .u8 a0_1, .string a0_2, .slice (some ad140) l0_3.length c0_3] 36 (0, 0)) (by (with_reducible repeat (first | refine blk_drewN ?_ _ | refine blk_drew ?_ | refine blk_alloc ?_ _)); exact BK138.out)) : gb141 ≠ gb138)); clear BK138; clear HB; have BK138 := n0_; have HB := n1_; have BK141 := n2_; have GW141 := n3_; have GE141 := n4_; have NB138_141 := n5_; have NB141_138 := n6_; clear n0_ n1_ n2_ n3_ n4_ n5_ n6_; clear hb hbox hg; have hnb40 := NB141_138.out; have hnc40 := NB138_141.out; have hcz41_0 : w39.cell? ⟨gb141, 0, none⟩ = some (.int .i64 0) := (blk_cell BK141.out 0).trans rfl; have hcz41_1 : w39.cell? ⟨gb141, 1, none⟩ = some (.int .i64 0) := (blk_cell BK141.out 1).trans rfl; have hcz41_2 : w39.cell? ⟨gb141, 2, none⟩ = some (.string (⟨#[]⟩ : ByteArray)) := (blk_cell BK141.out 2).trans rfl; have hcz41_3 : w39.cell? ⟨gb141, 3, none⟩ = some (.int .i64 0) := (blk_cell BK141.out 3).trans rfl; have hcz41_4 : w39.cell? ⟨gb141, 4, none⟩ = some (.bool false) := (blk_cell BK141.out 4).trans rfl; have hfz41_0 := blk_frozen BK141.out 0; have hfz41_1 := blk_frozen BK141.out 1; have hfz41_2 := blk_frozen BK141.out 2; have hfz41_3 := blk_frozen BK141.out 3; have hfz41_4 := blk_frozen BK141.out 4))
              go_ret
              exact ⟨by first | rfl | (simp [errW_none, errW_some] <;> rfl) | (simp [*, errW_none, errW_some] <;> rfl), by repeat (first | (with_reducible first | exact HB.out | apply below_alloc | apply pw_below_drewN | apply below_drew1 | refine below_set ?_ GE138.out | refine below_set ?_ GE141.out) | exact HB.out)⟩
             ·rw [if_neg c38] at H
              have c38b0 : decide (((rd_T48 l0_3 x34_2).f3) < 1) = false := decide_eq_false c38
              clear c38
              by_cases c42 : ((rd_T48 l0_3 x34_2).f3) > 50000
              ·rw [if_pos c42] at H
               have c42b0 : decide (50000 < ((rd_T48 l0_3 x34_2).f3)) = true := decide_eq_true c42
               clear c42
               obtain rfl := Option.some.inj H
               have p140 : 0 ≤ (x34_2 : Int) := of_decide_eq_true (by first | (with_reducible assumption) | assumption)
               have q140 : x34_2 < (l0_3.length : Int) := of_decide_eq_true (by first | (with_reducible assumption) | assumption)
               obtain ⟨ad140, e140, hx140_0, hx140_1, hx140_2, hx140_3, hx140_4⟩ := at_T48 HR0_3.out x34_2 p140 q140
               cases e140
               replace hx140_0 := (HB.out.cell (World.block_lt_of_cell? w _ hx140_0)).trans hx140_0
               replace hx140_1 := (HB.out.cell (World.block_lt_of_cell? w _ hx140_1)).trans hx140_1
               replace hx140_2 := (HB.out.cell (World.block_lt_of_cell? w _ hx140_2)).trans hx140_2
               replace hx140_3 := (HB.out.cell (World.block_lt_of_cell? w _ hx140_3)).trans hx140_3
               replace hx140_4 := (HB.out.cell (World.block_lt_of_cell? w _ hx140_4)).trans hx140_4
               replace p140 := eq_true p140
               replace q140 := eq_true q140
               go_wp2_with (first | ((with_reducible refine gate_dst (N := 5) rfl ?_); (try (refine gate_guard (by rfl) ?_; dsimp only)); refine box_event ?hg (N := 5) ?hd (cs := #[.int .i64 0, .int .i64 0, .string (⟨#[]⟩ : ByteArray), .int .i64 0, .bool false]) (t := 48) ?hr ?_; (case hd => rfl); (case hg => rfl); (case hr => first | (go_simp; done) | (go_simp; rfl)); intro gb141 hg w43 hbox hb; have n0_ := Aside0.mk (blk_below (g := gb138) (o := .cells #[.int .u8 a0_0, .int .u8 a0_1, .string a0_2, .slice (some ad140) l0_3.length c0_3] 36 (0, 0)) (by (with_reducible repeat (first | refine blk_drewN ?_ _ | refine blk_drew ?_ | refine blk_alloc ?_ _)); exact BK138.out) hb); have n1_ := Aside0.mk (below_step (by repeat (first | (with_reducible first | exact HB.out | apply below_alloc | apply pw_below_drewN | apply below_drew1 | refine below_set ?_ GE138.out) | exact HB.out)) hb); have n2_ := Aside0.mk (hbox); have n3_ := Aside0.mk ((by rw [hg]; exact (below_size (by repeat (first | (with_reducible first | exact HB.out | apply below_alloc | apply pw_below_drewN | apply below_drew1 | refine below_set ?_ GE138.out) | exact HB.out))) : w.heap.size ≤ gb141)); have n4_ := Aside0.mk ((by rw [hg]; exact (below_size (by repeat (first | (with_reducible first | exact HB.out | apply below_alloc | apply pw_below_drewN | apply below_drew1 | refine below_set ?_ GE138.out) | exact HB.out))) : w.heap.size ≤ gb141)); have n5_ := Aside0.mk ((by rw [hg]; exact Nat.ne_of_lt (blk_lt (g := gb138) (o := .cells #[.int .u8 a0_0, .int .u8 a0_1, .string a0_2, .slice (some ad140) l0_3.length c0_3] 36 (0, 0)) (by (with_reducible repeat (first | refine blk_drewN ?_ _ | refine blk_drew ?_ | refine blk_alloc ?_ _)); exact BK138.out)) : gb138 ≠ gb141)); have n6_ := Aside0.mk ((by rw [hg]; exact Nat.ne_of_gt (blk_lt (g := gb138) (o := .cells #[.int .u8 a0_0, .int .u8 a0_1, .string a0_2, .slice (some ad140) l0_3.length c0_3] 36 (0, 0)) (by (with_reducible repeat (first | refine blk_drewN ?_ _ | refine blk_drew ?_ | refine blk_alloc ?_ _)); exact BK138.out)) : gb141 ≠ gb138)); clear BK138; clear HB; have BK138 := n0_; have HB := n1_; have BK141 := n2_; have GW141 := n3_; have GE141 := n4_; have NB138_141 := n5_; have NB141_138 := n6_; clear n0_ n1_ n2_ n3_ n4_ n5_ n6_; clear hb hbox hg; have hnb44 := NB141_138.out; have hnc44 := NB138_141.out; have hcz45_0 : w43.cell? ⟨gb141, 0, none⟩ = some (.int .i64 0) := (blk_cell BK141.out 0).trans rfl; have hcz45_1 : w43.cell? ⟨gb141, 1, none⟩ = some (.int .i64 0) := (blk_cell BK141.out 1).trans rfl; have hcz45_2 : w43.cell? ⟨gb141, 2, none⟩ = some (.string (⟨#[]⟩ : ByteArray)) := (blk_cell BK141.out 2).trans rfl; have hcz45_3 : w43.cell? ⟨gb141, 3, none⟩ = some (.int .i64 0) := (blk_cell BK141.out 3).trans rfl; have hcz45_4 : w43.cell? ⟨gb141, 4, none⟩ = some (.bool false) := (blk_cell BK141.out 4).trans rfl; have hfz45_0 := blk_frozen BK141.out 0; have hfz45_1 := blk_frozen BK141.out 1; have hfz45_2 := blk_frozen BK141.out 2; have hfz45_3 := blk_frozen BK141.out 3; have hfz45_4 := blk_frozen BK141.out 4))
               go_ret
               exact ⟨by first | rfl | (simp [errW_none, errW_some] <;> rfl) | (simp [*, errW_none, errW_some] <;> rfl), by repeat (first | (with_reducible first | exact HB.out | apply below_alloc | apply pw_below_drewN | apply below_drew1 | refine below_set ?_ GE138.out | refine below_set ?_ GE141.out) | exact HB.out)⟩
              ·rw [if_neg c42] at H
               have c42b0 : decide (50000 < ((rd_T48 l0_3 x34_2).f3)) = false := decide_eq_false c42
               clear c42
               replace H := Option.bind_eq_some_iff.mp H
               obtain ⟨t142, A460, H⟩ := H
               replace H : (if t142 = true then (tariff_Mailing.l0 k2 ((rd_T48 l0_3 x34_2).f0) l0_3 (l0_3.length : Int) (wrap64 (x34_2 + 1))) else (some false)) = some r := H
               have A46 := Aside0.mk A460
               clear A460
               by_cases c47 : t142 = true
               ·subst c47
                have H1 : (tariff_Mailing.l0 k2 ((rd_T48 l0_3 x34_2).f0) l0_3 (l0_3.length : Int) (wrap64 (x34_2 + 1))) = some r := by rw [if_pos rfl] at H; exact H
                clear H
                have H := H1
                clear H1
                have H' := Aside0.mk H
                clear H
                have p140 : 0 ≤ (x34_2 : Int) := of_decide_eq_true (by first | (with_reducible assumption) | assumption)
                have q140 : x34_2 < (l0_3.length : Int) := of_decide_eq_true (by first | (with_reducible assumption) | assumption)
                obtain ⟨ad140, e140, hx140_0, hx140_1, hx140_2, hx140_3, hx140_4⟩ := at_T48 HR0_3.out x34_2 p140 q140
                cases e140
                replace hx140_0 := (HB.out.cell (World.block_lt_of_cell? w _ hx140_0)).trans hx140_0
                replace hx140_1 := (HB.out.cell (World.block_lt_of_cell? w _ hx140_1)).trans hx140_1
                replace hx140_2 := (HB.out.cell (World.block_lt_of_cell? w _ hx140_2)).trans hx140_2
                replace hx140_3 := (HB.out.cell (World.block_lt_of_cell? w _ hx140_3)).trans hx140_3
                replace hx140_4 := (HB.out.cell (World.block_lt_of_cell? w _ hx140_4)).trans hx140_4
                replace p140 := eq_true p140
                replace q140 := eq_true q140
                go_wp2_with (first | ((with_reducible refine gate_dst (N := 5) rfl ?_); (try (refine gate_guard (by rfl) ?_; dsimp only)); refine box_event ?hg (N := 5) ?hd (cs := #[.int .i64 0, .int .i64 0, .string (⟨#[]⟩ : ByteArray), .int .i64 0, .bool false]) (t := 48) ?hr ?_; (case hd => rfl); (case hg => rfl); (case hr => first | (go_simp; done) | (go_simp; rfl)); intro gb141 hg w48 hbox hb; have n0_ := Aside0.mk (blk_below (g := gb138) (o := .cells #[.int .u8 a0_0, .int .u8 a0_1, .string a0_2, .slice (some ad140) l0_3.length c0_3] 36 (0, 0)) (by (with_reducible repeat (first | refine blk_drewN ?_ _ | refine blk_drew ?_ | refine blk_alloc ?_ _)); exact BK138.out) hb); have n1_ := Aside0.mk (below_step (by repeat (first | (with_reducible first | exact HB.out | apply below_alloc | apply pw_below_drewN | apply below_drew1 | refine below_set ?_ GE138.out) | exact HB.out)) hb); have n2_ := Aside0.mk (hbox); have n3_ := Aside0.mk ((by rw [hg]; exact (below_size (by repeat (first | (with_reducible first | exact HB.out | apply below_alloc | apply pw_below_drewN | apply below_drew1 | refine below_set ?_ GE138.out) | exact HB.out))) : w.heap.size ≤ gb141)); have n4_ := Aside0.mk ((by rw [hg]; exact (below_size (by repeat (first | (with_reducible first | exact HB.out | apply below_alloc | apply pw_below_drewN | apply below_drew1 | refine below_set ?_ GE138.out) | exact HB.out))) : w.heap.size ≤ gb141)); have n5_ := Aside0.mk ((by rw [hg]; exact Nat.ne_of_lt (blk_lt (g := gb138) (o := .cells #[.int .u8 a0_0, .int .u8 a0_1, .string a0_2, .slice (some ad140) l0_3.length c0_3] 36 (0, 0)) (by (with_reducible repeat (first | refine blk_drewN ?_ _ | refine blk_drew ?_ | refine blk_alloc ?_ _)); exact BK138.out)) : gb138 ≠ gb141)); have n6_ := Aside0.mk ((by rw [hg]; exact Nat.ne_of_gt (blk_lt (g := gb138) (o := .cells #[.int .u8 a0_0, .int .u8 a0_1, .string a0_2, .slice (some ad140) l0_3.length c0_3] 36 (0, 0)) (by (with_reducible repeat (first | refine blk_drewN ?_ _ | refine blk_drew ?_ | refine blk_alloc ?_ _)); exact BK138.out)) : gb141 ≠ gb138)); clear BK138; clear HB; have BK138 := n0_; have HB := n1_; have BK141 := n2_; have GW141 := n3_; have GE141 := n4_; have NB138_141 := n5_; have NB141_138 := n6_; clear n0_ n1_ n2_ n3_ n4_ n5_ n6_; clear hb hbox hg; have hnb49 := NB141_138.out; have hnc49 := NB138_141.out; have hcz50_0 : w48.cell? ⟨gb141, 0, none⟩ = some (.int .i64 0) := (blk_cell BK141.out 0).trans rfl; have hcz50_1 : w48.cell? ⟨gb141, 1, none⟩ = some (.int .i64 0) := (blk_cell BK141.out 1).trans rfl; have hcz50_2 : w48.cell? ⟨gb141, 2, none⟩ = some (.string (⟨#[]⟩ : ByteArray)) := (blk_cell BK141.out 2).trans rfl; have hcz50_3 : w48.cell? ⟨gb141, 3, none⟩ = some (.int .i64 0) := (blk_cell BK141.out 3).trans rfl; have hcz50_4 : w48.cell? ⟨gb141, 4, none⟩ = some (.bool false) := (blk_cell BK141.out 4).trans rfl; have hfz50_0 := blk_frozen BK141.out 0; have hfz50_1 := blk_frozen BK141.out 1; have hfz50_2 := blk_frozen BK141.out 2; have hfz50_3 := blk_frozen BK141.out 3; have hfz50_4 := blk_frozen BK141.out 4) | (go_at_call 46; (with_reducible refine (scheme_Code.calls ((rd_T48 l0_3 x34_2).f2) true _ A46.out).mono ?_); rintro e w51 ⟨rfl, hb⟩; have n0_ := Aside0.mk (blk_below (g := gb138) (o := .cells #[.int .u8 a0_0, .int .u8 a0_1, .string a0_2, .slice (some ad140) l0_3.length c0_3] 36 (0, 0)) (by (with_reducible repeat (first | refine blk_drewN ?_ _ | refine blk_drew ?_ | refine blk_alloc ?_ _)); refine blk_far ?_ NB138_141.out _; (with_reducible repeat (first | refine blk_drewN ?_ _ | refine blk_drew ?_ | refine blk_alloc ?_ _)); refine blk_far ?_ NB138_141.out _; (with_reducible repeat (first | refine blk_drewN ?_ _ | refine blk_drew ?_ | refine blk_alloc ?_ _)); refine blk_far ?_ NB138_141.out _; (with_reducible repeat (first | refine blk_drewN ?_ _ | refine blk_drew ?_ | refine blk_alloc ?_ _)); refine blk_far ?_ NB138_141.out _; (with_reducible repeat (first | refine blk_drewN ?_ _ | refine blk_drew ?_ | refine blk_alloc ?_ _)); refine blk_far ?_ NB138_141.out _; (with_reducible repeat (first | refine blk_drewN ?_ _ | refine blk_drew ?_ | refine blk_alloc ?_ _)); exact BK138.out) hb); have n1_ := Aside0.mk (blk_below (g := gb141) (o := .cells #[.int .i64 ((rd_T48 l0_3 x34_2).f0), .int .i64 ((rd_T48 l0_3 x34_2).f1), .string ((rd_T48 l0_3 x34_2).f2), .int .i64 ((rd_T48 l0_3 x34_2).f3), .bool ((rd_T48 l0_3 x34_2).f4)] 48 (0, 0)) (by (with_reducible repeat (first | refine blk_drewN ?_ _ | refine blk_drew ?_ | refine blk_alloc ?_ _)); refine blk_put (cs := #[.int .i64 ((rd_T48 l0_3 x34_2).f0), .int .i64 ((rd_T48 l0_3 x34_2).f1), .string ((rd_T48 l0_3 x34_2).f2), .int .i64 ((rd_T48 l0_3 x34_2).f3), .bool false]) ?_ 4 _ rfl; (with_reducible repeat (first | refine blk_drewN ?_ _ | refine blk_drew ?_ | refine blk_alloc ?_ _)); refine blk_put (cs := #[.int .i64 ((rd_T48 l0_3 x34_2).f0), .int .i64 ((rd_T48 l0_3 x34_2).f1), .string ((rd_T48 l0_3 x34_2).f2), .int .i64 0, .bool false]) ?_ 3 _ rfl; (with_reducible repeat (first | refine blk_drewN ?_ _ | refine blk_drew ?_ | refine blk_alloc ?_ _)); refine blk_put (cs := #[.int .i64 ((rd_T48 l0_3 x34_2).f0), .int .i64 ((rd_T48 l0_3 x34_2).f1), .string (⟨#[]⟩ : ByteArray), .int .i64 0, .bool false]) ?_ 2 _ rfl; (with_reducible repeat (first | refine blk_drewN ?_ _ | refine blk_drew ?_ | refine blk_alloc ?_ _)); refine blk_put (cs := #[.int .i64 ((rd_T48 l0_3 x34_2).f0), .int .i64 0, .string (⟨#[]⟩ : ByteArray), .int .i64 0, .bool false]) ?_ 1 _ rfl; (with_reducible repeat (first | refine blk_drewN ?_ _ | refine blk_drew ?_ | refine blk_alloc ?_ _)); refine blk_put (cs := #[.int .i64 0, .int .i64 0, .string (⟨#[]⟩ : ByteArray), .int .i64 0, .bool false]) ?_ 0 _ rfl; (with_reducible repeat (first | refine blk_drewN ?_ _ | refine blk_drew ?_ | refine blk_alloc ?_ _)); exact BK141.out) hb); have n2_ := Aside0.mk (below_step (by repeat (first | (with_reducible first | exact HB.out | apply below_alloc | apply pw_below_drewN | apply below_drew1 | refine below_set ?_ GE138.out | refine below_set ?_ GE141.out) | exact HB.out)) hb); clear BK138; clear BK141; clear HB; have BK138 := n0_; have BK141 := n1_; have HB := n2_; clear n0_ n1_ n2_; (try clear hb); (try clear hb2); (try clear hk); (try clear hi); have hcz52_0 : w51.cell? ⟨gb141, 0, none⟩ = some (.int .i64 ((rd_T48 l0_3 x34_2).f0)) := (blk_cell BK141.out 0).trans rfl; have hcz52_1 : w51.cell? ⟨gb141, 1, none⟩ = some (.int .i64 ((rd_T48 l0_3 x34_2).f1)) := (blk_cell BK141.out 1).trans rfl; have hcz52_2 : w51.cell? ⟨gb141, 2, none⟩ = some (.string ((rd_T48 l0_3 x34_2).f2)) := (blk_cell BK141.out 2).trans rfl; have hcz52_3 : w51.cell? ⟨gb141, 3, none⟩ = some (.int .i64 ((rd_T48 l0_3 x34_2).f3)) := (blk_cell BK141.out 3).trans rfl; have hcz52_4 : w51.cell? ⟨gb141, 4, none⟩ = some (.bool ((rd_T48 l0_3 x34_2).f4)) := (blk_cell BK141.out 4).trans rfl; have hfz52_0 := blk_frozen BK141.out 0; have hfz52_1 := blk_frozen BK141.out 1; have hfz52_2 := blk_frozen BK141.out 2; have hfz52_3 := blk_frozen BK141.out 3; have hfz52_4 := blk_frozen BK141.out 4))
                go_roundg k2
                case measure => have := HJ1.out; have := HK2.out; omega
                case rel => exact ⟨((rd_T48 l0_3 x34_2).f0), (wrap64 (x34_2 + 1)), (by first | rfl | (simp; done) | (simp [*]; done)), (by first | rfl | (simp; done) | (simp [*]; done)), H', ⟨by have := HJ1.out; have := HK2.out; omega⟩, ⟨by (with_reducible repeat (first | refine blk_drewN ?_ _ | refine blk_drew ?_ | refine blk_alloc ?_ _)); exact BK138.out⟩, ⟨by repeat (first | (with_reducible first | exact HB.out | apply below_alloc | apply pw_below_drewN | apply below_drew1 | refine below_set ?_ GE138.out | refine below_set ?_ GE141.out) | exact HB.out)⟩⟩
               ·replace c47 := Bool.eq_false_iff.mpr c47
                subst c47
                have H1 : (some false) = some r := by rw [if_neg (show ¬ (false = true) by decide)] at H; exact H
                clear H
                have H := H1
                clear H1
                obtain rfl := Option.some.inj H
                have p140 : 0 ≤ (x34_2 : Int) := of_decide_eq_true (by first | (with_reducible assumption) | assumption)
                have q140 : x34_2 < (l0_3.length : Int) := of_decide_eq_true (by first | (with_reducible assumption) | assumption)
                obtain ⟨ad140, e140, hx140_0, hx140_1, hx140_2, hx140_3, hx140_4⟩ := at_T48 HR0_3.out x34_2 p140 q140
                cases e140
                replace hx140_0 := (HB.out.cell (World.block_lt_of_cell? w _ hx140_0)).trans hx140_0
                replace hx140_1 := (HB.out.cell (World.block_lt_of_cell? w _ hx140_1)).trans hx140_1
                replace hx140_2 := (HB.out.cell (World.block_lt_of_cell? w _ hx140_2)).trans hx140_2
                replace hx140_3 := (HB.out.cell (World.block_lt_of_cell? w _ hx140_3)).trans hx140_3
                replace hx140_4 := (HB.out.cell (World.block_lt_of_cell? w _ hx140_4)).trans hx140_4
                replace p140 := eq_true p140
                replace q140 := eq_true q140
                go_wp2_with (first | ((with_reducible refine gate_dst (N := 5) rfl ?_); (try (refine gate_guard (by rfl) ?_; dsimp only)); refine box_event ?hg (N := 5) ?hd (cs := #[.int .i64 0, .int .i64 0, .string (⟨#[]⟩ : ByteArray), .int .i64 0, .bool false]) (t := 48) ?hr ?_; (case hd => rfl); (case hg => rfl); (case hr => first | (go_simp; done) | (go_simp; rfl)); intro gb141 hg w53 hbox hb; have n0_ := Aside0.mk (blk_below (g := gb138) (o := .cells #[.int .u8 a0_0, .int .u8 a0_1, .string a0_2, .slice (some ad140) l0_3.length c0_3] 36 (0, 0)) (by (with_reducible repeat (first | refine blk_drewN ?_ _ | refine blk_drew ?_ | refine blk_alloc ?_ _)); exact BK138.out) hb); have n1_ := Aside0.mk (below_step (by repeat (first | (with_reducible first | exact HB.out | apply below_alloc | apply pw_below_drewN | apply below_drew1 | refine below_set ?_ GE138.out) | exact HB.out)) hb); have n2_ := Aside0.mk (hbox); have n3_ := Aside0.mk ((by rw [hg]; exact (below_size (by repeat (first | (with_reducible first | exact HB.out | apply below_alloc | apply pw_below_drewN | apply below_drew1 | refine below_set ?_ GE138.out) | exact HB.out))) : w.heap.size ≤ gb141)); have n4_ := Aside0.mk ((by rw [hg]; exact (below_size (by repeat (first | (with_reducible first | exact HB.out | apply below_alloc | apply pw_below_drewN | apply below_drew1 | refine below_set ?_ GE138.out) | exact HB.out))) : w.heap.size ≤ gb141)); have n5_ := Aside0.mk ((by rw [hg]; exact Nat.ne_of_lt (blk_lt (g := gb138) (o := .cells #[.int .u8 a0_0, .int .u8 a0_1, .string a0_2, .slice (some ad140) l0_3.length c0_3] 36 (0, 0)) (by (with_reducible repeat (first | refine blk_drewN ?_ _ | refine blk_drew ?_ | refine blk_alloc ?_ _)); exact BK138.out)) : gb138 ≠ gb141)); have n6_ := Aside0.mk ((by rw [hg]; exact Nat.ne_of_gt (blk_lt (g := gb138) (o := .cells #[.int .u8 a0_0, .int .u8 a0_1, .string a0_2, .slice (some ad140) l0_3.length c0_3] 36 (0, 0)) (by (with_reducible repeat (first | refine blk_drewN ?_ _ | refine blk_drew ?_ | refine blk_alloc ?_ _)); exact BK138.out)) : gb141 ≠ gb138)); clear BK138; clear HB; have BK138 := n0_; have HB := n1_; have BK141 := n2_; have GW141 := n3_; have GE141 := n4_; have NB138_141 := n5_; have NB141_138 := n6_; clear n0_ n1_ n2_ n3_ n4_ n5_ n6_; clear hb hbox hg; have hnb54 := NB141_138.out; have hnc54 := NB138_141.out; have hcz55_0 : w53.cell? ⟨gb141, 0, none⟩ = some (.int .i64 0) := (blk_cell BK141.out 0).trans rfl; have hcz55_1 : w53.cell? ⟨gb141, 1, none⟩ = some (.int .i64 0) := (blk_cell BK141.out 1).trans rfl; have hcz55_2 : w53.cell? ⟨gb141, 2, none⟩ = some (.string (⟨#[]⟩ : ByteArray)) := (blk_cell BK141.out 2).trans rfl; have hcz55_3 : w53.cell? ⟨gb141, 3, none⟩ = some (.int .i64 0) := (blk_cell BK141.out 3).trans rfl; have hcz55_4 : w53.cell? ⟨gb141, 4, none⟩ = some (.bool false) := (blk_cell BK141.out 4).trans rfl; have hfz55_0 := blk_frozen BK141.out 0; have hfz55_1 := blk_frozen BK141.out 1; have hfz55_2 := blk_frozen BK141.out 2; have hfz55_3 := blk_frozen BK141.out 3; have hfz55_4 := blk_frozen BK141.out 4) | (go_at_call 46; (with_reducible refine (scheme_Code.calls ((rd_T48 l0_3 x34_2).f2) false _ A46.out).mono ?_); rintro e w56 ⟨rfl, hb⟩; have n0_ := Aside0.mk (blk_below (g := gb138) (o := .cells #[.int .u8 a0_0, .int .u8 a0_1, .string a0_2, .slice (some ad140) l0_3.length c0_3] 36 (0, 0)) (by (with_reducible repeat (first | refine blk_drewN ?_ _ | refine blk_drew ?_ | refine blk_alloc ?_ _)); refine blk_far ?_ NB138_141.out _; (with_reducible repeat (first | refine blk_drewN ?_ _ | refine blk_drew ?_ | refine blk_alloc ?_ _)); refine blk_far ?_ NB138_141.out _; (with_reducible repeat (first | refine blk_drewN ?_ _ | refine blk_drew ?_ | refine blk_alloc ?_ _)); refine blk_far ?_ NB138_141.out _; (with_reducible repeat (first | refine blk_drewN ?_ _ | refine blk_drew ?_ | refine blk_alloc ?_ _)); refine blk_far ?_ NB138_141.out _; (with_reducible repeat (first | refine blk_drewN ?_ _ | refine blk_drew ?_ | refine blk_alloc ?_ _)); refine blk_far ?_ NB138_141.out _; (with_reducible repeat (first | refine blk_drewN ?_ _ | refine blk_drew ?_ | refine blk_alloc ?_ _)); exact BK138.out) hb); have n1_ := Aside0.mk (blk_below (g := gb141) (o := .cells #[.int .i64 ((rd_T48 l0_3 x34_2).f0), .int .i64 ((rd_T48 l0_3 x34_2).f1), .string ((rd_T48 l0_3 x34_2).f2), .int .i64 ((rd_T48 l0_3 x34_2).f3), .bool ((rd_T48 l0_3 x34_2).f4)] 48 (0, 0)) (by (with_reducible repeat (first | refine blk_drewN ?_ _ | refine blk_drew ?_ | refine blk_alloc ?_ _)); refine blk_put (cs := #[.int .i64 ((rd_T48 l0_3 x34_2).f0), .int .i64 ((rd_T48 l0_3 x34_2).f1), .string ((rd_T48 l0_3 x34_2).f2), .int .i64 ((rd_T48 l0_3 x34_2).f3), .bool false]) ?_ 4 _ rfl; (with_reducible repeat (first | refine blk_drewN ?_ _ | refine blk_drew ?_ | refine blk_alloc ?_ _)); refine blk_put (cs := #[.int .i64 ((rd_T48 l0_3 x34_2).f0), .int .i64 ((rd_T48 l0_3 x34_2).f1), .string ((rd_T48 l0_3 x34_2).f2), .int .i64 0, .bool false]) ?_ 3 _ rfl; (with_reducible repeat (first | refine blk_drewN ?_ _ | refine blk_drew ?_ | refine blk_alloc ?_ _)); refine blk_put (cs := #[.int .i64 ((rd_T48 l0_3 x34_2).f0), .int .i64 ((rd_T48 l0_3 x34_2).f1), .string (⟨#[]⟩ : ByteArray), .int .i64 0, .bool false]) ?_ 2 _ rfl; (with_reducible repeat (first | refine blk_drewN ?_ _ | refine blk_drew ?_ | refine blk_alloc ?_ _)); refine blk_put (cs := #[.int .i64 ((rd_T48 l0_3 x34_2).f0), .int .i64 0, .string (⟨#[]⟩ : ByteArray), .int .i64 0, .bool false]) ?_ 1 _ rfl; (with_reducible repeat (first | refine blk_drewN ?_ _ | refine blk_drew ?_ | refine blk_alloc ?_ _)); refine blk_put (cs := #[.int .i64 0, .int .i64 0, .string (⟨#[]⟩ : ByteArray), .int .i64 0, .bool false]) ?_ 0 _ rfl; (with_reducible repeat (first | refine blk_drewN ?_ _ | refine blk_drew ?_ | refine blk_alloc ?_ _)); exact BK141.out) hb); have n2_ := Aside0.mk (below_step (by repeat (first | (with_reducible first | exact HB.out | apply below_alloc | apply pw_below_drewN | apply below_drew1 | refine below_set ?_ GE138.out | refine below_set ?_ GE141.out) | exact HB.out)) hb); clear BK138; clear BK141; clear HB; have BK138 := n0_; have BK141 := n1_; have HB := n2_; clear n0_ n1_ n2_; (try clear hb); (try clear hb2); (try clear hk); (try clear hi)))
                go_ret
                exact ⟨by first | rfl | (simp [errW_none, errW_some] <;> rfl) | (simp [*, errW_none, errW_some] <;> rfl), by repeat (first | (with_reducible first | exact HB.out | apply below_alloc | apply pw_below_drewN | apply below_drew1 | refine below_set ?_ GE138.out | refine below_set ?_ GE141.out) | exact HB.out)⟩
        ·rw [if_neg c21] at H
         exact absurd H (by simp)
       ·rw [if_neg c20] at H
        exact absurd H (by simp)
      ·rw [if_neg c19] at H
       have c19b0 : decide (x34_2 < (l0_3.length : Int)) = false := decide_eq_false c19
       clear c19
       obtain rfl := Option.some.inj H
       go_wp2
       go_ret
       exact ⟨by first | rfl | (simp [errW_none, errW_some] <;> rfl) | (simp [*, errW_none, errW_some] <;> rfl), by repeat (first | (with_reducible first | exact HB.out | apply below_alloc | apply pw_below_drewN | apply below_drew1 | refine below_set ?_ GE138.out) | exact HB.out)⟩
end Go.Proofs.YtfglcfbcdhjcdaaDoor.Q
