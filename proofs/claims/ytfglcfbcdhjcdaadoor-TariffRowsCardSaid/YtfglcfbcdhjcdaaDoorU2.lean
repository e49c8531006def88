/- A part of the proof of a law of the chapter (lemmas and walks of functions). Conditions: none but those of the statement. -/
import Derived.Test.YtfglcfbcdhjcdaaDoorU0
import Derived.Test.YtfglcfbcdhjcdaaDoorU1
namespace Go.Proofs.YtfglcfbcdhjcdaaDoor.Q
open Go.RowKit Go.Proofs.YtfglcfbcdhjcdaaDoorW.PrintWords Go.Proofs.YtfglcfbcdhjcdaaDoorW.PrintLast Go.Proofs.YtfglcfbcdhjcdaaDoorW.PrintMore
set_option linter.unusedVariables false
set_option linter.unusedSimpArgs false
set_option maxHeartbeats 4000000 in
set_option maxRecDepth 100000 in
theorem mdPrice.calls (A : Option Addr) (c : Nat) (l : List Int) (hf : mdFits l = true) (i : Nat) (hi : i ≤ 1000) (b : Nat) (W : World) (hb : W.heap[b]? = some (.cells #[.slice A l.length c] 29 (0, 0))) (hC : Kd.C (Kd.int .u8) W A l.length l) :
    Calls Tryd.prog 39 #[.int .i64 i, .pointer (some ⟨b, 0, none⟩)] W fun e W' => e = .returned (.int .i64 (mdPrice l i)) ∧ Below W.heap.size W W' := by
  have hcl : W.cell? ⟨b, 0, none⟩ = some (.slice A l.length c) := (blk_cell hb 0).trans rfl
  have HP := mdPrice_range hf i
  by_cases hl : l.length = 0
  · have HE : mdPrice l i = 300 := by unfold mdPrice; rw [if_pos hl]
    rw [HE]
    rw [hl] at hcl
    clear HE HP hC hb
    go_enter Tryd.func39, Tryd.ntmps39
    go_wp2_with fail
    go_ret
    exact ⟨rfl, Below.refl _ _⟩
  · have HE : mdPrice l i = 300 + l.getD (i % l.length) 0 := by unfold mdPrice; rw [if_neg hl]
    have hlt : i % l.length < l.length := Nat.mod_lt _ (by omega)
    have hmax := Kd.C_max hC
    obtain ⟨ad, cs, rfl, hcs, hk, hcell⟩ := Kd.C_get hC 0 ((i % l.length : Nat) : Int) (by omega) (by exact_mod_cast hlt)
    rw [Int.toNat_natCast] at hk hcell
    have hcs2 : cs = [.int .u8 (l.getD (i % l.length) 0)] := hk
    subst hcs2
    have hc0 := hcell 0 _ rfl
    have hsz : (Kd.int .u8).sz = 1 := rfl
    rw [hsz, Nat.mul_one, Nat.add_zero] at hc0
    rw [HE] at HP ⊢
    have hne : ¬ (l.length : Int) = 0 := by omega
    have hrem : Int.tmod (i : Int) (l.length : Int) = ((i % l.length : Nat) : Int) := (Int.ofNat_tmod _ _).symm
    generalize hx : l.getD (i % l.length) 0 = x at *
    generalize hj : i % l.length = j at *
    generalize hn : l.length = n at *
    have hw1 : IntKind.i64.wrap x = x := wrap_i64_int (by omega) (by omega)
    have hw2 : IntKind.i64.wrap (300 + x) = 300 + x := wrap_i64_int (by omega) (by omega)
    have hj0 : (0 : Int) ≤ (j : Int) := by omega
    have hj1 : (j : Int) < (n : Int) := by omega
    have hw3 : IntKind.i64.wrap (j : Int) = (j : Int) := wrap_i64_int (by omega) (by omega)
    have hcd : W.drew.cell? ⟨b, 0, none⟩ = some (.slice (some ad) n c) := hcl
    have hc0d : W.drew.cell? (ad.add j) = some (.int .u8 x) := hc0
    clear hb hcell hC hk HE hx hj hn hcs
    go_enter Tryd.func39, Tryd.ntmps39
    go_wp2_with fail
    refine wp_region_held_drew (S := (fun w' => w'.cell? ⟨b, 0, none⟩ = some (.slice (some ad) n c) ∧ w'.cell? (ad.add j) = some (.int .u8 x))) (by kernel_rfl) ?_ (fun hHeld => ?_)
    · ((try dsimp only); exact ⟨hcd, hc0d⟩)
    refine takeT 0 ?_ rfl (by kernel_rfl) (by kernel_rfl) (by kernel_rfl) (fun _ _ _ h => h) (by rfl) ?_ (by assumption) ?_
    rotate_left
    · (intro w hSw; (try dsimp only at hSw); go_simp; (try with_reducible rfl))
    try simp only [Act.put, List.setIfInBounds_toArray, List.set_cons_zero, List.set_cons_succ]
    refine takeT 1 ?_ rfl (by kernel_rfl) (by kernel_rfl) (by kernel_rfl) (fun _ _ _ h => h) (by rfl) ?_ (by assumption) ?_
    rotate_left
    · (intro w hSw; (try dsimp only at hSw); go_simp; (try with_reducible rfl))
    try simp only [Act.put, List.setIfInBounds_toArray, List.set_cons_zero, List.set_cons_succ]
    refine takeT 2 ?_ rfl (by kernel_rfl) (by kernel_rfl) (by kernel_rfl) (fun _ _ _ h => h) (by rfl) ?_ (by assumption) ?_
    rotate_left
    · (intro w hSw; (try dsimp only at hSw); go_simp; (try with_reducible rfl))
    try simp only [Act.put, List.setIfInBounds_toArray, List.set_cons_zero, List.set_cons_succ]
    refine takeT 3 ?_ rfl (by kernel_rfl) (by kernel_rfl) (by kernel_rfl) (fun _ _ _ h => h) (by rfl) ?_ (by assumption) ?_
    rotate_left
    · (intro w hSw; (try dsimp only at hSw); go_simp; (try with_reducible rfl))
    try simp only [Act.put, List.setIfInBounds_toArray, List.set_cons_zero, List.set_cons_succ]
    refine takeT 4 ?_ rfl (by kernel_rfl) (by kernel_rfl) (by kernel_rfl) (fun _ _ _ h => h) (by rfl) ?_ (by assumption) ?_
    rotate_left
    · (intro w hSw; (try dsimp only at hSw); go_simp; (try with_reducible rfl))
    try simp only [Act.put, List.setIfInBounds_toArray, List.set_cons_zero, List.set_cons_succ]
    refine takeT 5 ?_ rfl (by kernel_rfl) (by kernel_rfl) (by kernel_rfl) (fun _ _ _ h => h) (by rfl) ?_ (by assumption) ?_
    rotate_left
    · (intro w hSw; (try dsimp only at hSw); go_simp; (try with_reducible rfl))
    try simp only [Act.put, List.setIfInBounds_toArray, List.set_cons_zero, List.set_cons_succ]
    refine takeT 6 ?_ rfl (by kernel_rfl) (by kernel_rfl) (by kernel_rfl) (fun _ _ _ h => h) (by rfl) ?_ (by assumption) ?_
    rotate_left
    · (intro w hSw; (try dsimp only at hSw); go_simp; (try with_reducible rfl))
    try simp only [Act.put, List.setIfInBounds_toArray, List.set_cons_zero, List.set_cons_succ]
    refine takeT 7 ?_ rfl (by kernel_rfl) (by kernel_rfl) (by kernel_rfl) (fun _ _ _ h => h) (by rfl) ?_ (by assumption) ?_
    rotate_left
    · (intro w hSw; (try dsimp only at hSw); go_simp; (try with_reducible rfl))
    try simp only [Act.put, List.setIfInBounds_toArray, List.set_cons_zero, List.set_cons_succ]
    refine takeT 8 ?_ rfl (by kernel_rfl) (by kernel_rfl) (by kernel_rfl) (fun _ _ _ h => h) (by rfl) ?_ (by assumption) ?_
    rotate_left
    · (intro w hSw; (try dsimp only at hSw); go_simp; (try with_reducible rfl))
    try simp only [Act.put, List.setIfInBounds_toArray, List.set_cons_zero, List.set_cons_succ]
    refine takeT 9 ?_ rfl (by kernel_rfl) (by kernel_rfl) (by kernel_rfl) (fun _ _ _ h => h) (by rfl) ?_ (by assumption) ?_
    rotate_left
    · (intro w hSw; (try dsimp only at hSw); go_simp; (try with_reducible rfl))
    try simp only [Act.put, List.setIfInBounds_toArray, List.set_cons_zero, List.set_cons_succ]
    refine wpAnyH_done (by kernel_rfl) ?_ _
    go_wp2_with fail
    go_ret
    exact ⟨rfl, below_drew (Below.refl _ _)⟩
structure MdNum (N : Nat) (nz ns nc bar qz qz3 qs qs3 qc qc3 : Nat) : Prop where
  z1 : bits .and .u32 ((N : Int) / 16) 3 = (qz : Int)
  z2 : wrap64 (qz : Int) = (qz : Int)
  z3 : Int.tmod (qz : Int) 3 = (qz3 : Int)
  z4 : wrap64 (1 + (qz3 : Int)) = (nz : Int)
  s1 : bits .and .u32 ((N : Int) / 4) 3 = (qs : Int)
  s2 : wrap64 (qs : Int) = (qs : Int)
  s3 : Int.tmod (qs : Int) 3 = (qs3 : Int)
  c1 : bits .and .u32 (N : Int) 3 = (qc : Int)
  c2 : wrap64 (qc : Int) = (qc : Int)
  c3 : Int.tmod (qc : Int) 3 = (qc3 : Int)
  b1 : bits .and .u32 ((N : Int) / 64) 31 = (bar : Int)
  b2 : wrap64 (bar : Int) = (bar : Int)
  hs : ns = 1 + qs3
  hc : nc = 1 + qc3
  rz : 1 ≤ nz ∧ nz ≤ 3
  rs : 1 ≤ ns ∧ ns ≤ 3
  rc : 1 ≤ nc ∧ nc ≤ 3
theorem wrap64_small (q : Nat) (h : q ≤ 1000000) : wrap64 (q : Int) = (q : Int) := wrap64_id _ (by omega) (by omega)
theorem four_alloc (w : World) (o0 o1 o2 o3 : Obj) : Below w.heap.size w ((((w.alloc o0).alloc o1).alloc o2).alloc o3) ∧ ((((w.alloc o0).alloc o1).alloc o2).alloc o3).heap.size = w.heap.size + 4 ∧ ((((w.alloc o0).alloc o1).alloc o2).alloc o3).heap[w.heap.size]? = some o0 ∧
    ((((w.alloc o0).alloc o1).alloc o2).alloc o3).heap[w.heap.size + 1]? = some o1 ∧ ((((w.alloc o0).alloc o1).alloc o2).alloc o3).heap[w.heap.size + 2]? = some o2 ∧ ((((w.alloc o0).alloc o1).alloc o2).alloc o3).heap[w.heap.size + 3]? = some o3 := by
  refine ⟨(((Below.refl _ _).alloc (Nat.le_refl _) _).alloc (by simp) _).alloc (by simp only [World.size_alloc]; omega) _ |>.alloc (by simp only [World.size_alloc]; omega) _, by simp only [World.size_alloc], ?_, ?_, ?_, ?_⟩
  · exact (Below.heap_alloc _ _ _ (by simp only [World.size_alloc]; omega)).trans ((Below.heap_alloc _ _ _ (by simp only [World.size_alloc]; omega)).trans ((Below.heap_alloc _ _ _ (by simp)).trans (heap_alloc_new _ _)))
  · exact (Below.heap_alloc _ _ _ (by simp only [World.size_alloc]; omega)).trans ((Below.heap_alloc _ _ _ (by simp)).trans (by simpa using heap_alloc_new (w.alloc o0) o1))
  · exact (Below.heap_alloc _ _ _ (by simp)).trans (by simpa using heap_alloc_new ((w.alloc o0).alloc o1) o2)
  · simpa using heap_alloc_new (((w.alloc o0).alloc o1).alloc o2) o3
def mdTab : Array Value := #[.string ⟨#[49]⟩, .string ⟨#[]⟩, .string ⟨#[]⟩, .string ⟨#[50]⟩, .string ⟨#[49]⟩, .string ⟨#[50]⟩, .string ⟨#[49, 48]⟩, .string ⟨#[]⟩, .string ⟨#[49]⟩, .string ⟨#[50, 49]⟩, .string ⟨#[49, 48]⟩, .string ⟨#[50]⟩, .string ⟨#[49, 48, 48]⟩, .string ⟨#[49, 48]⟩, .string ⟨#[]⟩, .string ⟨#[49, 48, 48, 48]⟩, .string ⟨#[50]⟩, .string ⟨#[49]⟩]
theorem mdTab_at (i : Nat) (h : i < 9) : mdTab[i * 2]? = some (.string (mdPair i).1) ∧ mdTab[i * 2 + 1]? = some (.string (mdPair i).2) := by
  obtain rfl | rfl | rfl | rfl | rfl | rfl | rfl | rfl | rfl : i = 0 ∨ i = 1 ∨ i = 2 ∨ i = 3 ∨ i = 4 ∨ i = 5 ∨ i = 6 ∨ i = 7 ∨ i = 8 := by omega
  all_goals exact ⟨rfl, rfl⟩
structure MdZon (l : List Int) (nz ns nc bar X lt : Nat) (At : Option Addr) (ct tb : Nat) (w : World) (i : Nat) (W : World) : Prop where
  bel : Below w.heap.size w W
  far : w.heap.size + 3 < tb
  rv : W.heap[w.heap.size + 1]? = some (.cells #[.slice none 0 0, .slice none 0 0] 25 (0, 0))
  tab : W.heap[tb]? = some (.cells mdTab 86 (0, 0))
  rt : Kd.R k57 57 W (w.heap.size + 4) (fun _ => True) (.slice At lt ct) (mdRates l nz ns bar nc)
  zn : ∃ vZ, W.heap[w.heap.size + 3]? = some (.cells #[.slice At lt ct, vZ] 25 (0, 0)) ∧ Kd.R k67 67 W w.heap.size (fun k => k ≠ w.heap.size + 3) vZ (mdRows nz X i)
theorem mdRows_len (nz X : Nat) : ∀ i, (mdRows nz X i).length ≤ i + 1
  | 0 => by simp [mdRows]
  | i + 1 => by
    have := mdRows_len nz X i
    unfold mdRows
    rw [List.length_append]
    split <;> simp <;> omega
section
variable {l : List Int} {nz ns nc bar X lt : Nat} {At : Option Addr} {ct tb : Nat} {w : World} {i : Nat} {W W1 : World}
theorem MdZon.below (h : MdZon l nz ns nc bar X lt At ct tb w i W) (hb : Below W.heap.size W W1) : MdZon l nz ns nc bar X lt At ct tb w i W1 := by
  obtain ⟨h1, h2, h3, h4, h5, v, h6, h7⟩ := h
  exact ⟨h1.trans (hb.mono h1.size), h2, (hb.block _ (blk_lt h3)).trans h3, (hb.block _ (blk_lt h4)).trans h4, Kd.R_below h5 hb, v, (hb.block _ (blk_lt h6)).trans h6, Kd.R_below h7 hb⟩
theorem MdZon.skip (h : MdZon l nz ns nc bar X lt At ct tb w i W) (hx : X.testBit i = false) : MdZon l nz ns nc bar X lt At ct tb w (i + 1) W := by
  obtain ⟨h1, h2, h3, h4, h5, v, h6, h7⟩ := h
  exact ⟨h1, h2, h3, h4, h5, v, h6, by unfold mdRows; rw [hx]; simpa using h7⟩
theorem MdZon.put {v v1 : Value} (h : MdZon l nz ns nc bar X lt At ct tb w i W) (hx : X.testBit i = true) (h6 : W.heap[w.heap.size + 3]? = some (.cells #[.slice At lt ct, v] 25 (0, 0))) (h7 : Kd.R k67 67 W w.heap.size (fun k => k ≠ w.heap.size + 3) v (mdRows nz X i))
    (ho : Kd.R k67 67 W1 w.heap.size (fun k => k ≠ w.heap.size + 3) v1 (mdRows nz X i ++ [mdRow nz i])) (hb : Below w.heap.size w W1) (hg : W.grownBy W1 v.ownBlock) : MdZon l nz ns nc bar X lt At ct tb w (i + 1) (W1.setCell ⟨w.heap.size + 3, 1, none⟩ v1) := by
  obtain ⟨h1, h2, h3, h4, h5, -⟩ := h
  have far : ∀ q, q ≠ w.heap.size + 3 → (W1.setCell ⟨w.heap.size + 3, 1, none⟩ v1).heap[q]? = W1.heap[q]? := fun q hq => Below.heap_setCell _ _ _ _ hq
  refine ⟨hb.setCell (p := ⟨w.heap.size + 3, 1, none⟩) (by show w.heap.size ≤ w.heap.size + 3; omega) _, h2, ?_, ?_, ?_, v1, ?_, ?_⟩
  · exact (far _ (by omega)).trans ((hg.block _ (blk_lt h3) (Kd.R_ne h7 h3 (by decide))).trans h3)
  · exact (far _ (by omega)).trans ((hg.block _ (blk_lt h4) (Kd.R_ne h7 h4 (by decide))).trans h4)
  · exact R_setLow (Kd.R_over h5 h7 (by decide) hg) (by show w.heap.size + 3 < w.heap.size + 4; omega) _
  · exact blk_put ((hg.block _ (blk_lt h6) (fun e => h7.1 _ e.symm rfl)).trans h6) 1 v1 rfl
  · unfold mdRows
    rw [hx, if_pos rfl]
    exact Kd.R_far ho (fun _ hk => hk) v1
end
theorem mdBit_nat (N i : Nat) (hi : i < 9) : N / 2048 % 512 / 2 ^ i % 2 = N / 2 ^ (11 + i) % 2 := by
  obtain rfl | rfl | rfl | rfl | rfl | rfl | rfl | rfl | rfl : i = 0 ∨ i = 1 ∨ i = 2 ∨ i = 3 ∨ i = 4 ∨ i = 5 ∨ i = 6 ∨ i = 7 ∨ i = 8 := by omega
  all_goals (simp only [Nat.reduceAdd, Nat.reducePow]; omega)
theorem mdBit (N i : Nat) (hN : N < 4294967296) (hi : i < 9) : bits .and .u32 ((N : Int) / 2 ^ (11 + i)) 1 = if (mdX N).testBit i then 1 else 0 := by
  have hp : ((2 : Int) ^ (11 + i)) = ((2 ^ (11 + i) : Nat) : Int) := by simp
  rw [hp, ← Int.natCast_ediv]
  have hle : N / 2 ^ (11 + i) ≤ N := Nat.div_le_self _ _
  have e := mdBit_nat N i hi
  rw [Nat.testBit_eq_decide_div_mod_eq]
  unfold mdX
  rw [e]
  generalize N / 2 ^ (11 + i) = q at *
  rw [u32_and1 _ (by omega) (by omega)]
  by_cases h : q % 2 = 1
  · simp [h]
    omega
  · have h0 : q % 2 = 0 := by omega
    simp [h0]
    omega
theorem idx_wrap (k s z : Nat) (hk : k ≤ 3) (hs : s ≤ 3) (hz : z ≤ 3) : IntKind.i64.wrap (IntKind.i64.wrap (IntKind.i64.wrap (17 * (k : Int)) + IntKind.i64.wrap (5 * (s : Int))) + (z : Int)) = ((17 * k + 5 * s + z : Nat) : Int) := by
  rw [wrap_i64_int (i := 17 * (k : Int)) (by omega) (by omega), wrap_i64_int (i := 5 * (s : Int)) (by omega) (by omega), wrap_i64_int (i := 17 * (k : Int) + 5 * (s : Int)) (by omega) (by omega), wrap_i64_int (by omega) (by omega)]
  omega
theorem mdNum (N : Nat) (hN : N < 4294967296) : MdNum N (mdZ N) (mdS N) (mdC N) (mdBar N) (N / 16 % 4) (N / 16 % 4 % 3) (N / 4 % 4) (N / 4 % 4 % 3) (N % 4) (N % 4 % 3) where
  z1 := (u32_and3 _ (by omega) (by omega)).trans (by omega)
  z2 := wrap64_small _ (by omega)
  z3 := (Int.ofNat_tmod _ 3).symm
  z4 := (wrap64_small (1 + N / 16 % 4 % 3) (by omega)).trans rfl
  s1 := (u32_and3 _ (by omega) (by omega)).trans (by omega)
  s2 := wrap64_small _ (by omega)
  s3 := (Int.ofNat_tmod _ 3).symm
  c1 := (u32_and3 _ (by omega) (by omega)).trans (by omega)
  c2 := wrap64_small _ (by omega)
  c3 := (Int.ofNat_tmod _ 3).symm
  b1 := (u32_and31 _ (by omega) (by omega)).trans (by unfold mdBar; omega)
  b2 := wrap64_small _ (by have := mdBar_range N; omega)
  hs := rfl
  hc := rfl
  rz := mdZ_range N
  rs := mdS_range N
  rc := mdC_range N
structure MdOut (l : List Int) (A : Option Addr) (c nz ns : Nat) (bar : Int) (w : World) (k : Nat) (W : World) : Prop where
  bel : Below w.heap.size w W
  size : w.heap.size + 4 ≤ W.heap.size
  pr : W.heap[w.heap.size]? = some (.cells #[.slice A l.length c] 29 (0, 0))
  rv : W.heap[w.heap.size + 1]? = some (.cells #[.slice none 0 0, .slice none 0 0] 25 (0, 0))
  zv : W.heap[w.heap.size + 2]? = some (.cells #[.string ⟨#[]⟩, .string ⟨#[]⟩, .int .i64 1] 67 (0, 0))
  tv : Holds k57 57 25 (w.heap.size + 3) (fun v => #[v, .slice (some ⟨w.heap.size + 2, 0, none⟩) 1 1]) (mdRates l nz ns bar k) W
set_option maxHeartbeats 8000000 in
set_option maxRecDepth 100000 in
theorem made.calls0 (N : Nat) (hN : N < 4294967296) (A : Option Addr) (c : Nat) (l : List Int) (hf : mdFits l = true) (w : World) (hr : Kd.C (Kd.int .u8) w A l.length l) (hc : l.length ≤ c) :
    Calls Tryd.prog 12 #[.int .u32 (N : Int), .slice A l.length c] w fun e w' => ∃ v0_ v1_ : Value, e = .returned (.agg #[v0_, v1_]) ∧ Kd.R k57 57 w' w.heap.size (fun _ => True) v0_ (madeR N l) ∧ Kd.R k67 67 w' w.heap.size (fun _ => True) v1_ (madeZ N) ∧ Below w.heap.size w w' := by
  have HR := Aside0.mk hr
  clear hr
  have HM := Aside0.mk (mdNum N hN)
  have HX := Aside0.mk (mdX_range N)
  unfold madeR madeZ
  generalize N / 16 % 4 = qz at *
  generalize qz % 3 = qz3 at *
  generalize N / 4 % 4 = qs at *
  generalize qs % 3 = qs3 at *
  generalize N % 4 = qc at *
  generalize qc % 3 = qc3 at *
  generalize mdZ N = nz at *
  generalize mdS N = ns at *
  generalize mdC N = nc at *
  generalize mdBar N = bar at *
  have HPR : Aside0 (∀ (i : Nat) (j : Int), j = (i : Int) → i ≤ 1000 → ∀ (b : Nat) (W : World), W.heap[b]? = some (.cells #[.slice A l.length c] 29 (0, 0)) → Kd.C (Kd.int .u8) W A l.length l → Calls Tryd.prog 39 #[.int .i64 j, .pointer (some ⟨b, 0, none⟩)] W fun e W' => e = .returned (.int .i64 (mdPrice l i)) ∧ Below W.heap.size W W') := ⟨fun i j hj hi b W h1 h2 => by subst hj; exact mdPrice.calls A c l hf i hi b W h1 h2⟩
  clear hf
  generalize hn : l.length = n at *
  have HN := Aside0.mk hn
  clear hn
  go_enter Tryd.func12, Tryd.ntmps12
  have z1 := HM.out.z1
  have z2 := HM.out.z2
  have z3 := HM.out.z3
  have z4 := HM.out.z4
  go_wp2_with fail
  clear z1 z2 z3 z4
  rw [HM.out.z4]
  go_loopg [8] nc (fun gg s8 W => ∃ k : Nat, k ≤ nc ∧ nc - k ≤ gg ∧ s8 = .int .i64 k ∧ Aside0 (MdOut l A c nz ns bar w k W))
  case atStart =>
    obtain ⟨b0, b1, b2, b3, b4, b5⟩ := four_alloc w (.cells #[.slice A n c] 29 (0, 0)) (.cells #[.slice none 0 0, .slice none 0 0] 25 (0, 0)) (.cells #[.string ⟨#[]⟩, .string ⟨#[]⟩, .int .i64 1] 67 (0, 0)) (.cells #[.slice none 0 0, .slice (some ⟨w.heap.size + 2, 0, none⟩) 1 1] 25 (0, 0))
    exact ⟨0, Nat.zero_le _, by omega, rfl, ⟨⟨b0, Nat.le_of_eq b1.symm, by rw [HN.out]; exact b2, b3, b4, ⟨.slice none 0 0, b5, Kd.R_nil _ _ _ _ _⟩⟩⟩⟩
  case round =>
    obtain ⟨k, hk, hg, rfl, HI⟩ := hrel
    have rc := HM.out.rc
    by_cases hlt : k < nc
    · have hkc : (k : Int) ≤ (qc3 : Int) := by have := HM.out.hc; omega
      have hk8 : ((k : Int) + 1) % 256 = (k : Int) + 1 := by omega
      have z1 := HM.out.c1
      have z2 := HM.out.c2
      have z3 := HM.out.c3
      have z4 := HM.out.b1
      have z5 := HM.out.b2
      go_wp2_with fail
      clear z1 z2 z3 z4 z5
      rename World => Wc
      have rs := HM.out.rs
      go_loopg [10] ns (fun gg s10 W => ∃ s : Nat, s ≤ ns ∧ ns - s ≤ gg ∧ s10 = .int .i64 s ∧ Aside0 (Below Wc.heap.size Wc W) ∧ Aside0 (Holds k61 61 57 Wc.heap.size (fun v => #[.int .u8 ((k : Int) + 1), v, .int .i64 bar]) ((List.range s).map (mdStep l nz k)) W))
      case atStart => exact ⟨0, Nat.zero_le _, by omega, rfl, ⟨below_alloc (Below.refl _ _) _⟩, ⟨⟨.slice none 0 0, heap_alloc_new _ _, Kd.R_nil _ _ _ _ _⟩⟩⟩
      case round =>
        obtain ⟨s, hs, hgs, rfl, HBs, HSs⟩ := hrel
        by_cases hlts : s < ns
        · have hks : (s : Int) ≤ (qs3 : Int) := by have := HM.out.hs; omega
          have z1 := HM.out.s1
          have z2 := HM.out.s2
          have z3 := HM.out.s3
          go_wp2_with fail
          clear z1 z2 z3
          rename World => Ws
          have rz := HM.out.rz
          go_loopg [12] nz (fun gg s12 W => ∃ z : Nat, z ≤ nz ∧ nz - z ≤ gg ∧ s12 = .int .i64 z ∧ Aside0 (Below Ws.heap.size Ws W) ∧ Aside0 (Holds (Kd.int .i64) 3 61 Ws.heap.size (fun v => #[.int .i64 (20 + 30 * (s : Int)), v]) ((List.range z).map (fun z => mdPrice l (17 * k + 5 * s + z))) W))
          case atStart => exact ⟨0, Nat.zero_le _, by omega, rfl, ⟨below_alloc (Below.refl _ _) _⟩, ⟨⟨.slice none 0 0, heap_alloc_new _ _, Kd.R_nil _ _ _ _ _⟩⟩⟩
          case round =>
            obtain ⟨z, hz, hgz, rfl, HBz, HSz⟩ := hrel
            by_cases hltz : z < nz
            · have hkz : (z : Int) < (nz : Int) := by omega
              go_wp2_with fail
              obtain ⟨vC, hxb, hxR⟩ := HSz.out
              have hlx : Ws.heap.size < wr.heap.size := blk_lt hxb
              have xD : wr.drew.cell? ⟨Ws.heap.size, 1, none⟩ = some vC := (blk_cell (w := wr.drew) hxb 1).trans rfl
              obtain ⟨ibel, isz, ipr, -, -, -⟩ := HI.out
              rw [HN.out] at ipr
              have hszs := HBs.out.size
              have hpb : wr.drew.heap[w.heap.size]? = some (.cells #[.slice A n c] 29 (0, 0)) := (HBz.out.block _ (by omega)).trans ((HBs.out.block _ (by omega)).trans ipr)
              have hpC : Kd.C (Kd.int .u8) wr.drew A n l := Kd.C_below HR.out ((ibel.trans (HBs.out.mono (by omega))).trans (HBz.out.mono (by omega))).drew
              have hcal := HPR.out (17 * k + 5 * s + z) _ (idx_wrap k s z (by omega) (by omega) (by omega)) (by omega) _ _ hpb hpC
              have HXB := Aside0.mk hxb
              have HXR := Aside0.mk hxR
              clear hxb hxR hpb hpC ibel isz ipr hszs
              have HPQ := Aside0.mk (show ((List.range z).map (fun z => mdPrice l (17 * k + 5 * s + z))) ++ [mdPrice l (17 * k + 5 * s + z)] = (List.range (z + 1)).map (fun z => mdPrice l (17 * k + 5 * s + z)) by rw [List.range_succ, List.map_append]; rfl)
              have HLQ : ((List.range z).map (fun z => mdPrice l (17 * k + 5 * s + z))).length ≤ 3 := by rw [List.length_map, List.length_range]; omega
              generalize (List.range z).map (fun z => mdPrice l (17 * k + 5 * s + z)) = xs at *
              generalize mdPrice l (17 * k + 5 * s + z) = pr at *
              refine wp_region_held_drew (S := (fun _ => True)) (by kernel_rfl) ?_ (fun hHeld => ?_)
              · ((try dsimp only); (try trivial))
              refine takeT 0 ?_ rfl (by kernel_rfl) (by kernel_rfl) (by kernel_rfl) (fun _ _ _ h => h) (by rfl) ?_ (by assumption) ?_
              rotate_left
              · (intro w hSw; (try dsimp only at hSw); go_simp; (try with_reducible rfl))
              try simp only [Act.put, List.setIfInBounds_toArray, List.set_cons_zero, List.set_cons_succ]
              refine takeT 2 ?_ rfl (by kernel_rfl) (by kernel_rfl) (by kernel_rfl) (fun _ _ _ h => h) (by rfl) ?_ (by assumption) ?_
              rotate_left
              · (intro w hSw; (try dsimp only at hSw); go_simp; (try with_reducible rfl))
              try simp only [Act.put, List.setIfInBounds_toArray, List.set_cons_zero, List.set_cons_succ]
              refine takeT 3 ?_ rfl (by kernel_rfl) (by kernel_rfl) (by kernel_rfl) (fun _ _ _ h => h) (by rfl) ?_ (by assumption) ?_
              rotate_left
              · (intro w hSw; (try dsimp only at hSw); go_simp; (try with_reducible rfl))
              try simp only [Act.put, List.setIfInBounds_toArray, List.set_cons_zero, List.set_cons_succ]
              refine takeT 4 ?_ rfl (by kernel_rfl) (by kernel_rfl) (by kernel_rfl) (fun _ _ _ h => h) (by rfl) ?_ (by assumption) ?_
              rotate_left
              · (intro w hSw; (try dsimp only at hSw); go_simp; (try with_reducible rfl))
              try simp only [Act.put, List.setIfInBounds_toArray, List.set_cons_zero, List.set_cons_succ]
              refine takeT 5 ?_ rfl (by kernel_rfl) (by kernel_rfl) (by kernel_rfl) (fun _ _ _ h => h) (by rfl) ?_ (by assumption) ?_
              rotate_left
              · (intro w hSw; (try dsimp only at hSw); go_simp; (try with_reducible rfl))
              try simp only [Act.put, List.setIfInBounds_toArray, List.set_cons_zero, List.set_cons_succ]
              refine takeT 6 ?_ rfl (by kernel_rfl) (by kernel_rfl) (by kernel_rfl) (fun _ _ _ h => h) (by rfl) ?_ (by assumption) ?_
              rotate_left
              · (intro w hSw; (try dsimp only at hSw); go_simp; (try with_reducible rfl))
              try simp only [Act.put, List.setIfInBounds_toArray, List.set_cons_zero, List.set_cons_succ]
              refine takeT 7 ?_ rfl (by kernel_rfl) (by kernel_rfl) (by kernel_rfl) (fun _ _ _ h => h) (by rfl) ?_ (by assumption) ?_
              rotate_left
              · (intro w hSw; (try dsimp only at hSw); go_simp; (try with_reducible rfl))
              try simp only [Act.put, List.setIfInBounds_toArray, List.set_cons_zero, List.set_cons_succ]
              refine takeT 8 ?_ rfl (by kernel_rfl) (by kernel_rfl) (by kernel_rfl) (fun _ _ _ h => h) (by rfl) ?_ (by assumption) ?_
              rotate_left
              · (intro w hSw; (try dsimp only at hSw); go_simp; (try with_reducible rfl))
              try simp only [Act.put, List.setIfInBounds_toArray, List.set_cons_zero, List.set_cons_succ]
              refine takeT 9 ?_ rfl (by kernel_rfl) (by kernel_rfl) (by kernel_rfl) (fun _ _ _ h => h) (by rfl) ?_ (by assumption) ?_
              rotate_left
              · (intro w hSw; (try dsimp only at hSw); go_simp; (try with_reducible rfl))
              try simp only [Act.put, List.setIfInBounds_toArray, List.set_cons_zero, List.set_cons_succ]
              apply bothWays
              intro hrest
              refine takeC2 1 10 rfl rfl (by kernel_rfl) (by rfl) (by rfl) (fun K hK => ?_) (fun K hK => ?_)
              · go_simp
                skip
                (try go_wp2_with fail)
                refine hK.out _ _ ?_ (fun hHeld => ?_)
                · ((try dsimp only); (try trivial))
                clear hK K
                try simp only [Act.put, List.setIfInBounds_toArray, List.set_cons_zero, List.set_cons_succ]
                refine takeC 10 rfl (by kernel_rfl) (by rfl) (fun K hK => ?_)
                go_simp
                (refine hcal.mono ?_; rintro e wA ⟨rfl, hbA⟩; have xbA := (hbA.block Ws.heap.size hlx).trans HXB.out; have xA : wA.cell? ⟨Ws.heap.size, 1, none⟩ = some vC := (blk_cell xbA 1).trans rfl; have xA2 : (wA.alloc (.cells #[.int .i64 pr] 3)).cell? ⟨Ws.heap.size, 1, none⟩ = some vC := ((below_alloc (Below.refl wA.heap.size wA) (.cells #[.int .i64 pr] 3)).cell (p := ⟨Ws.heap.size, 1, none⟩) (blk_lt xbA)).trans xA)
                (try go_wp2_with fail)
                refine hK.out _ _ ?_ (fun hHeld => ?_)
                · ((try dsimp only); (try trivial))
                clear hK K
                try simp only [Act.put, List.setIfInBounds_toArray, List.set_cons_zero, List.set_cons_succ]
                refine takeC 11 rfl (by kernel_rfl) (by rfl) (fun K hK => ?_)
                go_simp
                skip
                (try go_wp2_with fail)
                refine hK.out _ _ ?_ (fun hHeld => ?_)
                · ((try dsimp only); (try trivial))
                clear hK K
                try simp only [Act.put, List.setIfInBounds_toArray, List.set_cons_zero, List.set_cons_succ]
                refine takeApp (Kd.int .i64) 12 (w0 := wA) (Ws.heap.size + 1) rfl (by kernel_rfl) (by rfl) (.tmp 60) (.tmp 70) 38 3 (.int .i64 0) 8 rfl Tryd.underlying38 info3 rfl (by decide) (by omega) vC _ pr [.int .i64 pr] (fun _ => True) (fun _ => False) rfl rfl rfl (fun _ hk => hk.elim) (fun _ _ => trivial) (Kd.R_below HXR.out (below_step (below_drew (Below.refl _ _)) hbA)) (Below.refl _ _) (by have := blk_lt xbA; omega) (by omega) ?_
                intro v1 w1 ho hb hg hat
                obtain ⟨Av, cv, ev⟩ := Kd.R_slice ho
                generalize hlen : (xs ++ [pr]).length = len at ev
                subst ev
                clear hlen
                refine ⟨trivial, fun hHeld => ?_⟩
                have xb1 := (hb.block Ws.heap.size (by omega)).trans xbA
                have x1 : w1.cell? ⟨Ws.heap.size, 1, none⟩ = some vC := (blk_cell xb1 1).trans rfl
                have f1 := blk_frozen xb1 1
                try simp only [Act.put, List.setIfInBounds_toArray, List.set_cons_zero, List.set_cons_succ]
                refine takeT 13 ?_ rfl (by kernel_rfl) (by kernel_rfl) (by kernel_rfl) (fun _ _ _ h => h) (by rfl) ?_ (by assumption) ?_
                rotate_left
                · (intro w hSw; (try dsimp only at hSw); go_simp; (try with_reducible rfl))
                try simp only [Act.put, List.setIfInBounds_toArray, List.set_cons_zero, List.set_cons_succ]
                refine takeC 14 rfl (by kernel_rfl) (by rfl) (fun K hK => ?_)
                go_simp
                skip
                (try go_wp2_with fail)
                refine hK.out _ _ ?_ (fun hHeld => ?_)
                · ((try dsimp only); (try trivial))
                clear hK K
                try simp only [Act.put, List.setIfInBounds_toArray, List.set_cons_zero, List.set_cons_succ]
                refine wpAnyH_done (by kernel_rfl) ?_ _
                have HF := Aside0.mk (Holds.put (f := fun v => #[.int .i64 (20 + 30 * (s : Int)), v]) xb1 ho 1 rfl); have HG := Aside0.mk (((Below.refl Ws.heap.size wA).trans (hb.mono (Nat.le_succ _))).setCell (p := ⟨Ws.heap.size, 1, none⟩) (Nat.le_refl _) (.slice Av len cv)); clear ho hb hg hat xb1 x1 f1; clear xA2 xA xbA; generalize w1.setCell ⟨Ws.heap.size, 1, none⟩ (.slice Av len cv) = W2 at HF HG ⊢; clear w1; revert HF HG hbA W2 cv len Av wA
                exact hrest.out
              · go_simp
                (refine hcal.mono ?_; rintro e wA ⟨rfl, hbA⟩; have xbA := (hbA.block Ws.heap.size hlx).trans HXB.out; have xA : wA.cell? ⟨Ws.heap.size, 1, none⟩ = some vC := (blk_cell xbA 1).trans rfl; have xA2 : (wA.alloc (.cells #[.int .i64 pr] 3)).cell? ⟨Ws.heap.size, 1, none⟩ = some vC := ((below_alloc (Below.refl wA.heap.size wA) (.cells #[.int .i64 pr] 3)).cell (p := ⟨Ws.heap.size, 1, none⟩) (blk_lt xbA)).trans xA)
                (try go_wp2_with fail)
                refine hK.out _ _ ?_ (fun hHeld => ?_)
                · ((try dsimp only); (try trivial))
                clear hK K
                try simp only [Act.put, List.setIfInBounds_toArray, List.set_cons_zero, List.set_cons_succ]
                refine takeC2 1 11 rfl rfl (by kernel_rfl) (by rfl) (by rfl) (fun K hK => ?_) (fun K hK => ?_)
                · go_simp
                  skip
                  (try go_wp2_with fail)
                  refine hK.out _ _ ?_ (fun hHeld => ?_)
                  · ((try dsimp only); (try trivial))
                  clear hK K
                  try simp only [Act.put, List.setIfInBounds_toArray, List.set_cons_zero, List.set_cons_succ]
                  refine takeC 11 rfl (by kernel_rfl) (by rfl) (fun K hK => ?_)
                  go_simp
                  skip
                  (try go_wp2_with fail)
                  refine hK.out _ _ ?_ (fun hHeld => ?_)
                  · ((try dsimp only); (try trivial))
                  clear hK K
                  try simp only [Act.put, List.setIfInBounds_toArray, List.set_cons_zero, List.set_cons_succ]
                  refine takeApp (Kd.int .i64) 12 (w0 := wA) (Ws.heap.size + 1) rfl (by kernel_rfl) (by rfl) (.tmp 60) (.tmp 70) 38 3 (.int .i64 0) 8 rfl Tryd.underlying38 info3 rfl (by decide) (by omega) vC _ pr [.int .i64 pr] (fun _ => True) (fun _ => False) rfl rfl rfl (fun _ hk => hk.elim) (fun _ _ => trivial) (Kd.R_below HXR.out (below_step (below_drew (Below.refl _ _)) hbA)) (Below.refl _ _) (by have := blk_lt xbA; omega) (by omega) ?_
                  intro v1 w1 ho hb hg hat
                  obtain ⟨Av, cv, ev⟩ := Kd.R_slice ho
                  generalize hlen : (xs ++ [pr]).length = len at ev
                  subst ev
                  clear hlen
                  refine ⟨trivial, fun hHeld => ?_⟩
                  have xb1 := (hb.block Ws.heap.size (by omega)).trans xbA
                  have x1 : w1.cell? ⟨Ws.heap.size, 1, none⟩ = some vC := (blk_cell xb1 1).trans rfl
                  have f1 := blk_frozen xb1 1
                  try simp only [Act.put, List.setIfInBounds_toArray, List.set_cons_zero, List.set_cons_succ]
                  refine takeT 13 ?_ rfl (by kernel_rfl) (by kernel_rfl) (by kernel_rfl) (fun _ _ _ h => h) (by rfl) ?_ (by assumption) ?_
                  rotate_left
                  · (intro w hSw; (try dsimp only at hSw); go_simp; (try with_reducible rfl))
                  try simp only [Act.put, List.setIfInBounds_toArray, List.set_cons_zero, List.set_cons_succ]
                  refine takeC 14 rfl (by kernel_rfl) (by rfl) (fun K hK => ?_)
                  go_simp
                  skip
                  (try go_wp2_with fail)
                  refine hK.out _ _ ?_ (fun hHeld => ?_)
                  · ((try dsimp only); (try trivial))
                  clear hK K
                  try simp only [Act.put, List.setIfInBounds_toArray, List.set_cons_zero, List.set_cons_succ]
                  refine wpAnyH_done (by kernel_rfl) ?_ _
                  have HF := Aside0.mk (Holds.put (f := fun v => #[.int .i64 (20 + 30 * (s : Int)), v]) xb1 ho 1 rfl); have HG := Aside0.mk (((Below.refl Ws.heap.size wA).trans (hb.mono (Nat.le_succ _))).setCell (p := ⟨Ws.heap.size, 1, none⟩) (Nat.le_refl _) (.slice Av len cv)); clear ho hb hg hat xb1 x1 f1; clear xA2 xA xbA; generalize w1.setCell ⟨Ws.heap.size, 1, none⟩ (.slice Av len cv) = W2 at HF HG ⊢; clear w1; revert HF HG hbA W2 cv len Av wA
                  exact hrest.out
                · go_simp
                  skip
                  (try go_wp2_with fail)
                  refine hK.out _ _ ?_ (fun hHeld => ?_)
                  · ((try dsimp only); (try trivial))
                  clear hK K
                  try simp only [Act.put, List.setIfInBounds_toArray, List.set_cons_zero, List.set_cons_succ]
                  refine takeC 1 rfl (by kernel_rfl) (by rfl) (fun K hK => ?_)
                  go_simp
                  skip
                  (try go_wp2_with fail)
                  refine hK.out _ _ ?_ (fun hHeld => ?_)
                  · ((try dsimp only); (try trivial))
                  clear hK K
                  try simp only [Act.put, List.setIfInBounds_toArray, List.set_cons_zero, List.set_cons_succ]
                  refine takeApp (Kd.int .i64) 12 (w0 := wA) (Ws.heap.size + 1) rfl (by kernel_rfl) (by rfl) (.tmp 60) (.tmp 70) 38 3 (.int .i64 0) 8 rfl Tryd.underlying38 info3 rfl (by decide) (by omega) vC _ pr [.int .i64 pr] (fun _ => True) (fun _ => False) rfl rfl rfl (fun _ hk => hk.elim) (fun _ _ => trivial) (Kd.R_below HXR.out (below_step (below_drew (Below.refl _ _)) hbA)) (Below.refl _ _) (by have := blk_lt xbA; omega) (by omega) ?_
                  intro v1 w1 ho hb hg hat
                  obtain ⟨Av, cv, ev⟩ := Kd.R_slice ho
                  generalize hlen : (xs ++ [pr]).length = len at ev
                  subst ev
                  clear hlen
                  refine ⟨trivial, fun hHeld => ?_⟩
                  have xb1 := (hb.block Ws.heap.size (by omega)).trans xbA
                  have x1 : w1.cell? ⟨Ws.heap.size, 1, none⟩ = some vC := (blk_cell xb1 1).trans rfl
                  have f1 := blk_frozen xb1 1
                  try simp only [Act.put, List.setIfInBounds_toArray, List.set_cons_zero, List.set_cons_succ]
                  refine takeT 13 ?_ rfl (by kernel_rfl) (by kernel_rfl) (by kernel_rfl) (fun _ _ _ h => h) (by rfl) ?_ (by assumption) ?_
                  rotate_left
                  · (intro w hSw; (try dsimp only at hSw); go_simp; (try with_reducible rfl))
                  try simp only [Act.put, List.setIfInBounds_toArray, List.set_cons_zero, List.set_cons_succ]
                  refine takeC 14 rfl (by kernel_rfl) (by rfl) (fun K hK => ?_)
                  go_simp
                  skip
                  (try go_wp2_with fail)
                  refine hK.out _ _ ?_ (fun hHeld => ?_)
                  · ((try dsimp only); (try trivial))
                  clear hK K
                  try simp only [Act.put, List.setIfInBounds_toArray, List.set_cons_zero, List.set_cons_succ]
                  refine wpAnyH_done (by kernel_rfl) ?_ _
                  have HF := Aside0.mk (Holds.put (f := fun v => #[.int .i64 (20 + 30 * (s : Int)), v]) xb1 ho 1 rfl); have HG := Aside0.mk (((Below.refl Ws.heap.size wA).trans (hb.mono (Nat.le_succ _))).setCell (p := ⟨Ws.heap.size, 1, none⟩) (Nat.le_refl _) (.slice Av len cv)); clear ho hb hg hat xb1 x1 f1; clear xA2 xA xbA; generalize w1.setCell ⟨Ws.heap.size, 1, none⟩ (.slice Av len cv) = W2 at HF HG ⊢; clear w1; revert HF HG hbA W2 cv len Av wA
                  exact hrest.out
              intro wA hbA Av cv len W2 HF HG
              go_wp2_with fail
              go_roundg (nz - (z + 1))
              case measure => omega
              case rel => exact ⟨z + 1, by omega, Nat.le_refl _, by go_num, ⟨(HBz.out.drew.trans (hbA.mono HBz.out.size)).trans HG.out⟩, ⟨by rw [← HPQ.out]; exact HF.out⟩⟩
            · have hkz : ¬ (z : Int) < (nz : Int) := by omega
              have ez : z = nz := by omega
              rw [ez] at HSz
              obtain ⟨vC, hxb, hxR⟩ := HSz.out
              obtain ⟨vS, hsb0, hsR0⟩ := HSs.out
              have hlt0 := Kd.R_lt hsR0
              have hsb := (HBz.out.block _ (blk_lt hsb0)).trans hsb0
              have hlsz : Wc.heap.size < Ws.heap.size := blk_lt hsb0
              have hlz : Ws.heap.size < wr.heap.size := blk_lt hxb
              have HSR := Aside0.mk (Kd.R_below hsR0 HBz.out)
              obtain ⟨Ac, cc, ec⟩ := Kd.R_slice hxR
              generalize hlc : ((List.range nz).map (fun z => mdPrice l (17 * k + 5 * s + z))).length = lc at ec
              subst ec
              obtain ⟨As, cs, es⟩ := Kd.R_slice HSR.out
              generalize hls : ((List.range s).map (mdStep l nz k)).length = ls at es
              have hls3 : ls ≤ 3 := by rw [← hls, List.length_map, List.length_range]; omega
              subst es
              have x0 : wr.cell? ⟨Ws.heap.size, 0, none⟩ = some (.int .i64 (20 + 30 * (s : Int))) := (blk_cell hxb 0).trans rfl
              have x1 : wr.cell? ⟨Ws.heap.size, 1, none⟩ = some (.slice Ac lc cc) := (blk_cell hxb 1).trans rfl
              have r1 : wr.cell? ⟨Wc.heap.size, 1, none⟩ = some (.slice As ls cs) := (blk_cell hsb 1).trans rfl
              have HXR := Aside0.mk (Kd.R_lower (Kd.R_mono (ok' := fun k => some k ≠ (Value.slice As ls cs).ownBlock) (Kd.R_bound hxR) (fun q hq e => by have := hlt0 q e.symm; have := hq.2.1; omega)) (show Wc.heap.size + 1 ≤ Ws.heap.size + 1 by omega))
              have HSB := Aside0.mk hsb
              have HLS := Aside0.mk hls
              have HPQ := Aside0.mk (show ((List.range s).map (mdStep l nz k)) ++ [mdStep l nz k s] = (List.range (s + 1)).map (mdStep l nz k) by rw [List.range_succ, List.map_append]; rfl)
              clear hxb hxR hsb0 hsR0 hlt0 hsb hlc hls
              go_wp2_with (first | ((with_reducible refine gate_builtin (b := .append) (xs := #[.tmp 74, .tmp 76]) rfl ?_); at_builtin; refine Kd.R_append k61 (w0 := wr) (Wc.heap.size + 1) rfl (.tmp 74) (.tmp 76) 55 61 (.agg #[(.int .i64 0), (.slice none 0 0)]) 32 rfl Tryd.underlying55 info61 rfl (by decide) (by omega) (.slice As ls cs) _ (mdStep l nz k s) [.int .i64 (20 + 30 * (s : Int)), .slice Ac lc cc] (fun _ => True) (fun k => some k ≠ (Value.slice As ls cs).ownBlock) rfl rfl (k61_mkM _ _ _ (mdStep l nz k s) HXR.out) (fun _ hk => ⟨trivial, hk⟩) (fun _ _ => trivial) HSR.out (Below.refl _ _) (by omega) (by rw [HLS.out]; omega) ?_; intro v1 w1 ho hb hg hat; obtain ⟨Av, cv, ev⟩ := Kd.R_slice ho; generalize hlv : (List.map (mdStep l nz k) (List.range s) ++ [mdStep l nz k s]).length = lv at ev; subst ev; clear hlv; have hrb1 := (hb.block Wc.heap.size (by omega)).trans HSB.out; have r2 : w1.cell? ⟨Wc.heap.size, 1, none⟩ = some (.slice As ls cs) := (blk_cell hrb1 1).trans rfl; have f2 := blk_frozen hrb1 1; have HRB := Aside0.mk hrb1; have HO := Aside0.mk ho; have HBB := Aside0.mk hb; clear ho hb hg hat hrb1))
              go_roundg (ns - (s + 1))
              case measure => omega
              case rel => exact ⟨s + 1, by omega, Nat.le_refl _, by go_num, ⟨((HBs.out.trans (HBz.out.mono (by omega))).trans (HBB.out.mono (Nat.le_succ _))).setCell (p := ⟨Wc.heap.size, 1, none⟩) (Nat.le_refl _) _⟩, ⟨by rw [← HPQ.out]; exact Holds.put (f := fun v => #[.int .u8 ((k : Int) + 1), v, .int .i64 bar]) HRB.out HO.out 1 rfl⟩⟩
        · have hks : ¬ (s : Int) ≤ (qs3 : Int) := by have := HM.out.hs; omega
          have es : s = ns := by omega
          rw [es] at HSs
          obtain ⟨ibel, isz, ipr, irv, izv, itv⟩ := HI.out
          obtain ⟨vR, htb0, htR0⟩ := itv
          obtain ⟨vS, hsb, hsR⟩ := HSs.out
          have hlt0 := Kd.R_lt htR0
          have htb := (HBs.out.block _ (blk_lt htb0)).trans htb0
          have hlw : w.heap.size + 3 < Wc.heap.size := blk_lt htb0
          have hls : Wc.heap.size < wr.heap.size := blk_lt hsb
          have HTR := Aside0.mk (Kd.R_below htR0 HBs.out)
          obtain ⟨Ac, cc, ec⟩ := Kd.R_slice hsR
          generalize hlc : ((List.range ns).map (mdStep l nz k)).length = lc at ec
          subst ec
          obtain ⟨At, ct, et⟩ := Kd.R_slice HTR.out
          generalize hlt : (mdRates l nz ns bar k).length = lt at et
          have hlt3 : lt ≤ 3 := by rw [← hlt]; unfold mdRates; rw [List.length_map, List.length_range]; omega
          subst et
          have x0 : wr.cell? ⟨Wc.heap.size, 0, none⟩ = some (.int .u8 ((k : Int) + 1)) := (blk_cell hsb 0).trans rfl
          have x1 : wr.cell? ⟨Wc.heap.size, 1, none⟩ = some (.slice Ac lc cc) := (blk_cell hsb 1).trans rfl
          have x2 : wr.cell? ⟨Wc.heap.size, 2, none⟩ = some (.int .i64 bar) := (blk_cell hsb 2).trans rfl
          have r1 : wr.cell? ⟨w.heap.size + 3, 0, none⟩ = some (.slice At lt ct) := (blk_cell htb 0).trans rfl
          have HXR := Aside0.mk (Kd.R_lower (Kd.R_mono (ok' := fun k => some k ≠ (Value.slice At lt ct).ownBlock) (Kd.R_bound hsR) (fun q hq e => by have := hlt0 q e.symm; have := hq.2.1; omega)) (show w.heap.size + 4 ≤ Wc.heap.size + 1 by omega))
          have HTB := Aside0.mk htb
          have HLT := Aside0.mk hlt
          have HPQ := Aside0.mk (show mdRates l nz ns bar k ++ [mdRate l nz ns bar k] = mdRates l nz ns bar (k + 1) by unfold mdRates; rw [List.range_succ, List.map_append]; rfl)
          have z1 := HM.out.s1
          have z2 := HM.out.s2
          have z3 := HM.out.s3
          clear hsb hsR htb0 htR0 hlt0 htb hlc hlt
          go_wp2_with (first | ((with_reducible refine gate_builtin (b := .append) (xs := #[.tmp 80, .tmp 82]) rfl ?_); at_builtin; refine Kd.R_append k57 (w0 := wr) (w.heap.size + 4) rfl (.tmp 80) (.tmp 82) 22 57 (.agg #[(.int .u8 0), (.slice none 0 0), (.int .i64 0)]) 40 rfl Tryd.underlying22 info57 rfl (by decide) (by omega) (.slice At lt ct) _ (mdRate l nz ns bar k) [.int .u8 ((k : Int) + 1), .slice Ac lc cc, .int .i64 bar] (fun _ => True) (fun k => some k ≠ (Value.slice At lt ct).ownBlock) rfl rfl (k57_mkM _ _ _ (mdRate l nz ns bar k) HXR.out) (fun _ hk => ⟨trivial, hk⟩) (fun _ _ => trivial) HTR.out (Below.refl _ _) (by omega) (by rw [HLT.out]; omega) ?_; intro v1 w1 ho hb hg hat; obtain ⟨Av, cv, ev⟩ := Kd.R_slice ho; generalize hlv : (mdRates l nz ns bar k ++ [mdRate l nz ns bar k]).length = lv at ev; subst ev; clear hlv; have hrb1 := (hb.block (w.heap.size + 3) (by omega)).trans HTB.out; have r2 : w1.cell? ⟨w.heap.size + 3, 0, none⟩ = some (.slice At lt ct) := (blk_cell hrb1 0).trans rfl; have f2 := blk_frozen hrb1 0; have HRB := Aside0.mk hrb1; have HO := Aside0.mk ho; have HBB := Aside0.mk hb; clear ho hb hg hat hrb1))
          go_roundg (nc - (k + 1))
          case measure => omega
          case rel =>
            have hbb := HBB.out.mono (show w.heap.size + 3 ≤ w.heap.size + 4 by omega)
            have hfar : ∀ q, q ≠ w.heap.size + 3 → (w1.setCell ⟨w.heap.size + 3, 0, none⟩ (.slice Av lv cv)).heap[q]? = w1.heap[q]? := fun q hq => Below.heap_setCell _ _ _ _ hq
            have hlow : ∀ q, q < w.heap.size + 3 → (w1.setCell ⟨w.heap.size + 3, 0, none⟩ (.slice Av lv cv)).heap[q]? = Wc.heap[q]? := fun q hq => (hfar q (by omega)).trans ((hbb.block q hq).trans (HBs.out.block q (by omega)))
            refine ⟨k + 1, by omega, Nat.le_refl _, by go_num, ⟨⟨?_, ?_, (hlow _ (by omega)).trans ipr, (hlow _ (by omega)).trans irv, (hlow _ (by omega)).trans izv, ?_⟩⟩⟩
            · exact ((ibel.trans (HBs.out.mono (by omega))).trans (HBB.out.mono (by omega))).setCell (p := ⟨w.heap.size + 3, 0, none⟩) (by show w.heap.size ≤ w.heap.size + 3; omega) _
            · show w.heap.size + 4 ≤ _
              have := HBB.out.size
              simp only [World.setCell, Array.size_modify]
              omega
            · rw [← HPQ.out]
              exact Holds.put (f := fun v => #[v, .slice (some ⟨w.heap.size + 2, 0, none⟩) 1 1]) HRB.out HO.out 0 rfl
    · have hkc : ¬ (k : Int) ≤ (qc3 : Int) := by have := HM.out.hc; omega
      have ek : k = nc := by omega
      rw [ek] at HI
      obtain ⟨ibel, isz, -, irv, izv, itv⟩ := HI.out
      obtain ⟨vR, htb, htR⟩ := itv
      obtain ⟨At, ct, et⟩ := Kd.R_slice htR
      generalize hlt : (mdRates l nz ns bar nc).length = lt at et
      subst et
      have z1 := HM.out.c1
      have z2 := HM.out.c2
      have z3 := HM.out.c3
      go_wp2_with fail
      clear z1 z2 z3
      have HWR := Aside0.mk (Nat.lt_of_lt_of_le (show w.heap.size + 3 < w.heap.size + 4 by omega) isz)
      rename World => Wr
      obtain ⟨X, HXE⟩ : ∃ X, Aside0 (mdX N = X) := ⟨_, ⟨rfl⟩⟩
      have HBT : Aside0 (∀ i : Nat, i < 9 → bits .and .u32 ((N : Int) / 2 ^ (11 + i)) 1 = if X.testBit i then 1 else 0) := ⟨fun i hi => by have h := mdBit N i hN hi; rw [HXE.out] at h; exact h⟩
      go_loopg [96] 9 (fun gg s96 W => ∃ i : Nat, i ≤ 9 ∧ 9 - i ≤ gg ∧ s96 = .int .i64 i ∧ Aside0 (MdZon l nz ns nc bar X lt At ct Wr.heap.size w i W))
      case atStart =>
        have hb := below_alloc (Below.refl Wr.heap.size Wr) (.cells mdTab 86 (0, 0))
        refine ⟨0, by omega, by omega, rfl, ⟨⟨ibel.trans (hb.mono ibel.size), blk_lt htb, (hb.block _ (blk_lt irv)).trans irv, heap_alloc_new _ _, Kd.R_below htR hb, _, (hb.block _ (blk_lt htb)).trans htb, ?_⟩⟩⟩
        exact R_one (cs := [.string ⟨#[]⟩, .string ⟨#[]⟩, .int .i64 1]) (okp := fun _ => False) (p := (⟨mdText [], mdText [], 1⟩ : Zn)) ((hb.block _ (blk_lt izv)).trans izv) (show w.heap.size ≤ w.heap.size + 2 by omega) (k67_mkM _ _ _ ⟨mdText [], mdText [], 1⟩) (fun _ hk => hk.elim) (show w.heap.size + 2 ≠ w.heap.size + 3 by omega)
      case round =>
        obtain ⟨i, hi, hgi, rfl, HZ⟩ := hrel
        by_cases hlti : i < 9
        · have hki : (i : Int) < 9 := by omega
          obtain ⟨q1, q2⟩ := mdTab_at i hlti
          have c1 := (blk_cell HZ.out.tab (i * 2)).trans q1
          have c2 := (blk_cell HZ.out.tab (i * 2 + 1)).trans q2
          have HRO := Aside0.mk (show mdRow nz i = ⟨(mdPair i).1, (mdPair i).2, 1 + ((i % nz : Nat) : Int)⟩ from rfl)
          have hbit := HBT.out i hlti
          generalize (mdPair i).1 = p1 at *
          generalize (mdPair i).2 = p2 at *
          clear q1 q2
          cases hxb : X.testBit i with
          | false =>
            rw [hxb] at hbit
            simp only [Bool.false_eq_true, if_false] at hbit
            go_wp2_with fail
            go_roundg (9 - (i + 1))
            case measure => omega
            case rel => exact ⟨i + 1, by omega, Nat.le_refl _, by go_num, ⟨(HZ.out.skip hxb).below (below_alloc (Below.refl _ _) _)⟩⟩
          | true =>
            rw [hxb] at hbit
            simp only [if_true] at hbit
            have HZ2 := Aside0.mk (HZ.out.below (below_alloc (Below.refl wr.heap.size wr) (.cells #[.string p1, .string p2] 86 (0, 0))))
            have d1 : (wr.alloc (.cells #[.string p1, .string p2] 86 (0, 0))).cell? ⟨wr.heap.size, 0, none⟩ = some (.string p1) := (blk_cell (heap_alloc_new _ _) 0).trans rfl
            have d2 : (wr.alloc (.cells #[.string p1, .string p2] 86 (0, 0))).cell? ⟨wr.heap.size, 1, none⟩ = some (.string p2) := (blk_cell (heap_alloc_new _ _) 1).trans rfl
            have hzb : (wr.alloc (.cells #[.string p1, .string p2] 86 (0, 0))).heap[wr.heap.size]? = some (.cells #[.string p1, .string p2] 86 (0, 0)) := heap_alloc_new _ _
            go_wp2_with fail
            clear c1 c2 hbit HZ
            generalize wr.alloc (.cells #[.string p1, .string p2] 86 (0, 0)) = Wz at *
            generalize wr.heap.size = zb at *
            have HZD := Aside0.mk (HZ2.out.below (below_drew (Below.refl _ _)))
            obtain ⟨jbel, -, -, -, -, vZ, hz3, hzR⟩ := HZD.out
            obtain ⟨Az, cz, ez⟩ := Kd.R_slice hzR
            have hlz9 : (mdRows nz X i).length ≤ 9 := by have := mdRows_len nz X i; omega
            generalize hlz : (mdRows nz X i).length = lz at ez hlz9
            subst ez
            have hltz : w.heap.size + 3 < Wz.drew.heap.size := blk_lt hz3
            have hjs := jbel.size
            have m1 : Wz.drew.cell? ⟨w.heap.size + 3, 1, none⟩ = some (.slice Az lz cz) := (blk_cell hz3 1).trans rfl
            have hrem : Int.tmod (i : Int) (nz : Int) = ((i % nz : Nat) : Int) := (Int.ofNat_tmod _ _).symm
            have hnz0 : ¬ nz = 0 := by have := HM.out.rz; omega
            have hmlt : i % nz < 3 := Nat.lt_of_lt_of_le (Nat.mod_lt _ (by have := HM.out.rz; omega)) (by have := HM.out.rz; omega)
            generalize i % nz = mm at *
            have hw1 : IntKind.i64.wrap (1 + (mm : Int)) = 1 + (mm : Int) := wrap_i64_int (by omega) (by omega)
            have m2 : (Wz.alloc (.cells #[.string p1, .string p2, .int .i64 (1 + (mm : Int))] 67 (0, 0))).drew.cell? ⟨w.heap.size + 3, 1, none⟩ = some (.slice Az lz cz) := ((below_alloc (Below.refl Wz.drew.heap.size Wz.drew) (.cells #[.string p1, .string p2, .int .i64 (1 + (mm : Int))] 67 (0, 0))).cell (p := ⟨w.heap.size + 3, 1, none⟩) hltz).trans m1
            have d1d : Wz.drew.cell? ⟨zb, 0, none⟩ = some (.string p1) := d1
            have d2d : Wz.drew.cell? ⟨zb, 1, none⟩ = some (.string p2) := d2
            have e1 : (Wz.drew.alloc (.cells #[.string p1, .string p2, .int .i64 (1 + (mm : Int))] 67 (0, 0))).cell? ⟨zb, 0, none⟩ = some (.string p1) := ((below_alloc (Below.refl Wz.drew.heap.size Wz.drew) (.cells #[.string p1, .string p2, .int .i64 (1 + (mm : Int))] 67 (0, 0))).cell (p := ⟨zb, 0, none⟩) (blk_lt (w := Wz) hzb)).trans d1d
            have e2 : (Wz.drew.alloc (.cells #[.string p1, .string p2, .int .i64 (1 + (mm : Int))] 67 (0, 0))).cell? ⟨zb, 1, none⟩ = some (.string p2) := ((below_alloc (Below.refl Wz.drew.heap.size Wz.drew) (.cells #[.string p1, .string p2, .int .i64 (1 + (mm : Int))] 67 (0, 0))).cell (p := ⟨zb, 1, none⟩) (blk_lt (w := Wz) hzb)).trans d2d
            have HZBK : Aside0 (Wz.drew.heap[zb]? = some (.cells #[.string p1, .string p2] 86 (0, 0))) := ⟨hzb⟩
            have HZR := Aside0.mk hzR
            have HZ3 := Aside0.mk hz3
            have HJB := Aside0.mk jbel
            have HLZ := Aside0.mk hlz
            clear hzR hz3 jbel hlz d1 d2 hzb
            refine wp_region_held_drew (S := (fun w' => w'.cell? ⟨zb, 0, none⟩ = some (.string p1) ∧ w'.cell? ⟨zb, 1, none⟩ = some (.string p2))) (by kernel_rfl) ?_ (fun hHeld => ?_)
            · ((try dsimp only); first | exact ⟨d1d, d2d⟩ | exact ⟨e1, e2⟩ | exact ⟨z1, z2⟩ | exact ⟨g1, g2⟩ | go_keep)
            refine takeT 0 ?_ rfl (by kernel_rfl) (by kernel_rfl) (by kernel_rfl) (fun _ _ _ h => h) (by rfl) ?_ (by assumption) ?_
            rotate_left
            · (intro w hSw; (try dsimp only at hSw); go_simp; (try with_reducible rfl))
            try simp only [Act.put, List.setIfInBounds_toArray, List.set_cons_zero, List.set_cons_succ]
            refine takeT 2 ?_ rfl (by kernel_rfl) (by kernel_rfl) (by kernel_rfl) (fun _ _ _ h => h) (by rfl) ?_ (by assumption) ?_
            rotate_left
            · (intro w hSw; (try dsimp only at hSw); go_simp; (try with_reducible rfl))
            try simp only [Act.put, List.setIfInBounds_toArray, List.set_cons_zero, List.set_cons_succ]
            refine takeT 3 ?_ rfl (by kernel_rfl) (by kernel_rfl) (by kernel_rfl) (fun _ _ _ h => h) (by rfl) ?_ (by assumption) ?_
            rotate_left
            · (intro w hSw; (try dsimp only at hSw); go_simp; (try with_reducible rfl))
            try simp only [Act.put, List.setIfInBounds_toArray, List.set_cons_zero, List.set_cons_succ]
            refine takeT 4 ?_ rfl (by kernel_rfl) (by kernel_rfl) (by kernel_rfl) (fun _ _ _ h => h) (by rfl) ?_ (by assumption) ?_
            rotate_left
            · (intro w hSw; (try dsimp only at hSw); go_simp; (try with_reducible rfl))
            try simp only [Act.put, List.setIfInBounds_toArray, List.set_cons_zero, List.set_cons_succ]
            refine takeT 5 ?_ rfl (by kernel_rfl) (by kernel_rfl) (by kernel_rfl) (fun _ _ _ h => h) (by rfl) ?_ (by assumption) ?_
            rotate_left
            · (intro w hSw; (try dsimp only at hSw); go_simp; (try with_reducible rfl))
            try simp only [Act.put, List.setIfInBounds_toArray, List.set_cons_zero, List.set_cons_succ]
            refine takeT 6 ?_ rfl (by kernel_rfl) (by kernel_rfl) (by kernel_rfl) (fun _ _ _ h => h) (by rfl) ?_ (by assumption) ?_
            rotate_left
            · (intro w hSw; (try dsimp only at hSw); go_simp; (try with_reducible rfl))
            try simp only [Act.put, List.setIfInBounds_toArray, List.set_cons_zero, List.set_cons_succ]
            refine takeT 7 ?_ rfl (by kernel_rfl) (by kernel_rfl) (by kernel_rfl) (fun _ _ _ h => h) (by rfl) ?_ (by assumption) ?_
            rotate_left
            · (intro w hSw; (try dsimp only at hSw); go_simp; (try with_reducible rfl))
            try simp only [Act.put, List.setIfInBounds_toArray, List.set_cons_zero, List.set_cons_succ]
            refine takeT 8 ?_ rfl (by kernel_rfl) (by kernel_rfl) (by kernel_rfl) (fun _ _ _ h => h) (by rfl) ?_ (by assumption) ?_
            rotate_left
            · (intro w hSw; (try dsimp only at hSw); go_simp; (try with_reducible rfl))
            try simp only [Act.put, List.setIfInBounds_toArray, List.set_cons_zero, List.set_cons_succ]
            refine takeT 9 ?_ rfl (by kernel_rfl) (by kernel_rfl) (by kernel_rfl) (fun _ _ _ h => h) (by rfl) ?_ (by assumption) ?_
            rotate_left
            · (intro w hSw; (try dsimp only at hSw); go_simp; (try with_reducible rfl))
            try simp only [Act.put, List.setIfInBounds_toArray, List.set_cons_zero, List.set_cons_succ]
            refine takeT 10 ?_ rfl (by kernel_rfl) (by kernel_rfl) (by kernel_rfl) (fun _ _ _ h => h) (by rfl) ?_ (by assumption) ?_
            rotate_left
            · (intro w hSw; (try dsimp only at hSw); go_simp; (try with_reducible rfl))
            try simp only [Act.put, List.setIfInBounds_toArray, List.set_cons_zero, List.set_cons_succ]
            apply bothWays
            intro hrest
            refine takeC2 1 11 rfl rfl (by kernel_rfl) (by rfl) (by rfl) (fun K hK => ?_) (fun K hK => ?_)
            · go_simp
              skip
              (try go_wp2_with fail)
              refine hK.out _ _ ?_ (fun hHeld => ?_)
              · ((try dsimp only); first | exact ⟨d1d, d2d⟩ | exact ⟨e1, e2⟩ | exact ⟨z1, z2⟩ | exact ⟨g1, g2⟩ | go_keep)
              clear hK K
              try simp only [Act.put, List.setIfInBounds_toArray, List.set_cons_zero, List.set_cons_succ]
              refine takeC 11 rfl (by kernel_rfl) (by rfl) (fun K hK => ?_)
              go_simp
              skip
              (try go_wp2_with fail)
              refine hK.out _ _ ?_ (fun hHeld => ?_)
              · ((try dsimp only); first | exact ⟨d1d, d2d⟩ | exact ⟨e1, e2⟩ | exact ⟨z1, z2⟩ | exact ⟨g1, g2⟩ | go_keep)
              clear hK K
              try simp only [Act.put, List.setIfInBounds_toArray, List.set_cons_zero, List.set_cons_succ]
              refine takeApp k67 12 (w0 := w) w.heap.size rfl (by kernel_rfl) (by rfl) (.tmp 108) (.tmp 118) 23 67 (.agg #[(.string ⟨#[]⟩), (.string ⟨#[]⟩), (.int .i64 0)]) 40 rfl Tryd.underlying23 info67 rfl (by decide) (by omega) (.slice Az lz cz) _ (mdRow nz i) [.string p1, .string p2, .int .i64 (1 + (mm : Int))] (fun k => k ≠ w.heap.size + 3) (fun _ => False) rfl rfl (by rw [HRO.out]; exact k67_mkM _ _ _ ⟨p1, p2, 1 + (mm : Int)⟩) (fun _ hk => hk.elim) (fun k hk => by omega) HZR.out HJB.out hjs (by rw [HLZ.out]; omega) ?_
              intro v1 w1 ho hb hg hat
              obtain ⟨Av, cv, ev⟩ := Kd.R_slice ho
              generalize hlen : (mdRows nz X i ++ [mdRow nz i]).length = len at ev
              subst ev
              clear hlen
              have xb1 := (hg.block _ (blk_lt HZ3.out) (fun e => HZR.out.1 _ e.symm rfl)).trans HZ3.out
              have x1 : w1.cell? ⟨w.heap.size + 3, 1, none⟩ = some (.slice Az lz cz) := (blk_cell xb1 1).trans rfl
              have f1 := blk_frozen xb1 1
              have zb1 := (hg.block zb (blk_lt HZBK.out) (Kd.R_ne HZR.out HZBK.out (by decide))).trans HZBK.out
              have z1 : w1.cell? ⟨zb, 0, none⟩ = some (.string p1) := (blk_cell zb1 0).trans rfl
              have z2 : w1.cell? ⟨zb, 1, none⟩ = some (.string p2) := (blk_cell zb1 1).trans rfl
              have hzn : zb ≠ w.heap.size + 3 := (fun e => by rw [e] at zb1; rw [xb1] at zb1; injection zb1 with zb1; injection zb1 with _ zb1; exact absurd zb1 (by decide))
              have g1 : (w1.setCell ⟨w.heap.size + 3, 1, none⟩ (.slice Av len cv)).cell? ⟨zb, 0, none⟩ = some (.string p1) := (blk_cell (blk_far zb1 hzn _) 0).trans rfl
              have g2 : (w1.setCell ⟨w.heap.size + 3, 1, none⟩ (.slice Av len cv)).cell? ⟨zb, 1, none⟩ = some (.string p2) := (blk_cell (blk_far zb1 hzn _) 1).trans rfl
              refine ⟨⟨z1, z2⟩, fun hH12 => ?_⟩
              try simp only [Act.put, List.setIfInBounds_toArray, List.set_cons_zero, List.set_cons_succ]
              refine takeT 13 ?_ rfl (by kernel_rfl) (by kernel_rfl) (by kernel_rfl) (fun _ _ _ h => h) (by rfl) ?_ (by assumption) ?_
              rotate_left
              · (intro w hSw; (try dsimp only at hSw); go_simp; (try with_reducible rfl))
              try simp only [Act.put, List.setIfInBounds_toArray, List.set_cons_zero, List.set_cons_succ]
              refine takeC 14 rfl (by kernel_rfl) (by rfl) (fun K hK => ?_)
              go_simp
              skip
              (try go_wp2_with fail)
              refine hK.out _ _ ?_ (fun hHeld => ?_)
              · ((try dsimp only); first | exact ⟨d1d, d2d⟩ | exact ⟨e1, e2⟩ | exact ⟨z1, z2⟩ | exact ⟨g1, g2⟩ | go_keep)
              clear hK K
              try simp only [Act.put, List.setIfInBounds_toArray, List.set_cons_zero, List.set_cons_succ]
              refine wpAnyH_done (by kernel_rfl) ?_ _
              have HF := Aside0.mk (HZD.out.put hxb HZ3.out HZR.out ho hb hg); clear ho hb hg hat xb1 x1 f1 zb1 z1 z2 hzn g1 g2 hHeld hH12; generalize w1.setCell ⟨w.heap.size + 3, 1, none⟩ (.slice Av len cv) = W2 at HF ⊢; clear w1; revert HF W2 cv len Av
              exact hrest.out
            · go_simp
              skip
              (try go_wp2_with fail)
              refine hK.out _ _ ?_ (fun hHeld => ?_)
              · ((try dsimp only); first | exact ⟨d1d, d2d⟩ | exact ⟨e1, e2⟩ | exact ⟨z1, z2⟩ | exact ⟨g1, g2⟩ | go_keep)
              clear hK K
              try simp only [Act.put, List.setIfInBounds_toArray, List.set_cons_zero, List.set_cons_succ]
              refine takeC 1 rfl (by kernel_rfl) (by rfl) (fun K hK => ?_)
              go_simp
              skip
              (try go_wp2_with fail)
              refine hK.out _ _ ?_ (fun hHeld => ?_)
              · ((try dsimp only); first | exact ⟨d1d, d2d⟩ | exact ⟨e1, e2⟩ | exact ⟨z1, z2⟩ | exact ⟨g1, g2⟩ | go_keep)
              clear hK K
              try simp only [Act.put, List.setIfInBounds_toArray, List.set_cons_zero, List.set_cons_succ]
              refine takeApp k67 12 (w0 := w) w.heap.size rfl (by kernel_rfl) (by rfl) (.tmp 108) (.tmp 118) 23 67 (.agg #[(.string ⟨#[]⟩), (.string ⟨#[]⟩), (.int .i64 0)]) 40 rfl Tryd.underlying23 info67 rfl (by decide) (by omega) (.slice Az lz cz) _ (mdRow nz i) [.string p1, .string p2, .int .i64 (1 + (mm : Int))] (fun k => k ≠ w.heap.size + 3) (fun _ => False) rfl rfl (by rw [HRO.out]; exact k67_mkM _ _ _ ⟨p1, p2, 1 + (mm : Int)⟩) (fun _ hk => hk.elim) (fun k hk => by omega) HZR.out HJB.out hjs (by rw [HLZ.out]; omega) ?_
              intro v1 w1 ho hb hg hat
              obtain ⟨Av, cv, ev⟩ := Kd.R_slice ho
              generalize hlen : (mdRows nz X i ++ [mdRow nz i]).length = len at ev
              subst ev
              clear hlen
              have xb1 := (hg.block _ (blk_lt HZ3.out) (fun e => HZR.out.1 _ e.symm rfl)).trans HZ3.out
              have x1 : w1.cell? ⟨w.heap.size + 3, 1, none⟩ = some (.slice Az lz cz) := (blk_cell xb1 1).trans rfl
              have f1 := blk_frozen xb1 1
              have zb1 := (hg.block zb (blk_lt HZBK.out) (Kd.R_ne HZR.out HZBK.out (by decide))).trans HZBK.out
              have z1 : w1.cell? ⟨zb, 0, none⟩ = some (.string p1) := (blk_cell zb1 0).trans rfl
              have z2 : w1.cell? ⟨zb, 1, none⟩ = some (.string p2) := (blk_cell zb1 1).trans rfl
              have hzn : zb ≠ w.heap.size + 3 := (fun e => by rw [e] at zb1; rw [xb1] at zb1; injection zb1 with zb1; injection zb1 with _ zb1; exact absurd zb1 (by decide))
              have g1 : (w1.setCell ⟨w.heap.size + 3, 1, none⟩ (.slice Av len cv)).cell? ⟨zb, 0, none⟩ = some (.string p1) := (blk_cell (blk_far zb1 hzn _) 0).trans rfl
              have g2 : (w1.setCell ⟨w.heap.size + 3, 1, none⟩ (.slice Av len cv)).cell? ⟨zb, 1, none⟩ = some (.string p2) := (blk_cell (blk_far zb1 hzn _) 1).trans rfl
              refine ⟨⟨z1, z2⟩, fun hH12 => ?_⟩
              try simp only [Act.put, List.setIfInBounds_toArray, List.set_cons_zero, List.set_cons_succ]
              refine takeT 13 ?_ rfl (by kernel_rfl) (by kernel_rfl) (by kernel_rfl) (fun _ _ _ h => h) (by rfl) ?_ (by assumption) ?_
              rotate_left
              · (intro w hSw; (try dsimp only at hSw); go_simp; (try with_reducible rfl))
              try simp only [Act.put, List.setIfInBounds_toArray, List.set_cons_zero, List.set_cons_succ]
              refine takeC 14 rfl (by kernel_rfl) (by rfl) (fun K hK => ?_)
              go_simp
              skip
              (try go_wp2_with fail)
              refine hK.out _ _ ?_ (fun hHeld => ?_)
              · ((try dsimp only); first | exact ⟨d1d, d2d⟩ | exact ⟨e1, e2⟩ | exact ⟨z1, z2⟩ | exact ⟨g1, g2⟩ | go_keep)
              clear hK K
              try simp only [Act.put, List.setIfInBounds_toArray, List.set_cons_zero, List.set_cons_succ]
              refine wpAnyH_done (by kernel_rfl) ?_ _
              have HF := Aside0.mk (HZD.out.put hxb HZ3.out HZR.out ho hb hg); clear ho hb hg hat xb1 x1 f1 zb1 z1 z2 hzn g1 g2 hHeld hH12; generalize w1.setCell ⟨w.heap.size + 3, 1, none⟩ (.slice Av len cv) = W2 at HF ⊢; clear w1; revert HF W2 cv len Av
              exact hrest.out
            intro Av cv len W2 HF
            go_wp2_with fail
            go_roundg (9 - (i + 1))
            case measure => omega
            case rel => exact ⟨i + 1, by omega, Nat.le_refl _, by go_num, HF⟩
        · have hki : ¬ (i : Int) < 9 := by omega
          have ei : i = 9 := by omega
          rw [ei] at HZ
          obtain ⟨jbel, -, jrv, -, jrt, vZ, hz3, hzR⟩ := HZ.out
          obtain ⟨Az, cz, ez⟩ := Kd.R_slice hzR
          generalize hlz : (mdRows nz X 9).length = lz at ez
          subst ez
          have m0 : wr.cell? ⟨w.heap.size + 3, 0, none⟩ = some (.slice At lt ct) := (blk_cell hz3 0).trans rfl
          have m1 : wr.cell? ⟨w.heap.size + 3, 1, none⟩ = some (.slice Az lz cz) := (blk_cell hz3 1).trans rfl
          have n0 : wr.cell? ⟨w.heap.size + 1, 0, none⟩ = some (.slice none 0 0) := (blk_cell jrv 0).trans rfl
          have n1 : wr.cell? ⟨w.heap.size + 1, 1, none⟩ = some (.slice none 0 0) := (blk_cell jrv 1).trans rfl
          have g0 := blk_frozen jrv 0
          have g1 := blk_frozen jrv 1
          go_wp2_with fail
          have hJ1 := blk_put jrv 0 (.slice At lt ct) rfl
          have hJ2 := blk_put hJ1 1 (.slice Az lz cz) rfl
          refine bodyPost_ret (results_cell_row rfl _ _ (w.heap.size + 1) 25 #[.slice At lt ct, .slice Az lz cz] (0, 0) _ rfl (by exact hJ2) Tryd.underlying25 rfl (by kernel_rfl)) rfl ?_
          refine ⟨_, _, rfl, ?_, ?_, ?_⟩
          · exact Kd.R_lower (R_setLow (R_setLow jrt (by show w.heap.size + 1 < w.heap.size + 4; omega) _) (by show w.heap.size + 1 < w.heap.size + 4; omega) _) (by omega)
          · have hz := Kd.R_types hzR jrv (by decide)
            rw [HXE.out]
            exact Kd.R_mono (Kd.R_far (p := ⟨w.heap.size + 1, 1, none⟩) (Kd.R_far (p := ⟨w.heap.size + 1, 0, none⟩) hz (fun _ hk => hk.2) _) (fun _ hk => hk.2) _) (fun _ _ => trivial)
          · exact (jbel.setCell (p := ⟨w.heap.size + 1, 0, none⟩) (by show w.heap.size ≤ w.heap.size + 1; omega) _).setCell (p := ⟨w.heap.size + 1, 1, none⟩) (by show w.heap.size ≤ w.heap.size + 1; omega) _
def letterbaglaw24_Made.f (a0 : Int) (l1 : List Int) : Option (List Rt × List Zn) := if (decide (0 ≤ a0) && (decide (a0 < 4294967296) && mdFits l1)) then some (madeR a0.toNat l1, madeZ a0.toNat) else none
theorem letterbaglaw24_Made.calls (a0 : Int) (A1 : Option Addr) (c1 : Nat) (l1 : List Int) (r1 : List (S57)) (r2 : List (S67)) (w : World) (hr1 : Kd.C (Kd.int .u8) w A1 l1.length l1) (hc1 : l1.length ≤ c1) (h : letterbaglaw24_Made.f a0 l1 = some (r1, r2)) :
    Calls Tryd.prog 12 #[.int .u32 a0, .slice A1 l1.length c1] w fun e w' => ∃ v0_ v1_ : Value, e = .returned (.agg #[v0_, v1_]) ∧ Kd.R k57 57 w' w.heap.size (fun _ => True) v0_ r1 ∧ Kd.R k67 67 w' w.heap.size (fun _ => True) v1_ r2 ∧ Below w.heap.size w w' := by
  unfold letterbaglaw24_Made.f at h
  split at h
  · rename_i hf
    simp only [Bool.and_eq_true, decide_eq_true_eq] at hf
    obtain ⟨h0, h1, h2⟩ := hf
    injection h with h
    injection h with e1 e2
    subst e1 e2
    have hN : (a0.toNat : Int) = a0 := by omega
    have hh := made.calls0 a0.toNat (by omega) A1 c1 l1 h2 w hr1 hc1
    rw [hN] at hh
    exact hh
  · cases h
end Go.Proofs.YtfglcfbcdhjcdaaDoor.Q

namespace Go.Proofs.YtfglcfbcdhjcdaaDoor.Q
open Go.RowKit Go.Proofs.YtfglcfbcdhjcdaaDoorW.PrintWords Go.Proofs.YtfglcfbcdhjcdaaDoorW.PrintLast Go.Proofs.YtfglcfbcdhjcdaaDoorW.PrintMore
set_option linter.unusedVariables false
set_option linter.unusedSimpArgs false
theorem intOne (q : Nat) : ((q : Int) == 1) = decide (q = 1) := by
  by_cases e : q = 1
  · subst e; rfl
  · rw [decide_eq_false e, beq_eq_false_iff_ne]
    omega
structure TariffFits (R : List Rt) (Z : List Zn) : Prop where
  cls : ∀ r ∈ R, 0 ≤ r.f0 ∧ r.f0 ≤ 255
  row : ∀ z ∈ Z, z.f0.size ≤ 9223372036854775807 ∧ z.f1.size ≤ 9223372036854775807
set_option maxHeartbeats 8000000 in
set_option maxRecDepth 100000 in
theorem tariff_right.calls0 (A0 : Option Addr) (c0 : Nat) (R : List Rt) (A1 : Option Addr) (c1 : Nat) (Z : List Zn) (w : World) (hr0 : Kd.C k57 w A0 R.length R) (hc0 : R.length ≤ c0) (hr1 : Kd.C k67 w A1 Z.length Z) (hc1 : Z.length ≤ c1) (hf : TariffFits R Z) :
    Calls Tryd.prog 18 #[.agg #[.slice A0 R.length c0, .slice A1 Z.length c1]] w fun e w' => e = .returned (.bool (tariffB R Z)) ∧ Below w.heap.size w w' := by
  have hmm := @run_makeMap Tryd.prog
  have HR0 := Aside0.mk hr0
  have HR1 := Aside0.mk hr1
  have HF := Aside0.mk hf
  have hzn := fun W (hC : Kd.C k57 W A0 R.length R) (hD : Kd.C k67 W A1 Z.length Z) => tariff_zones.calls A0 c0 R A1 c1 Z (zonesN R) W hC hc0 hD hc1 (zones_is R Z)
  have hrat := fun (r : Rt) (n : Nat) (hn : n ≤ 20) => rated_is r n hn
  clear hr0 hr1 hf hrat
  generalize hn0 : R.length = n0 at *
  generalize hn1 : Z.length = n1 at *
  have HN0 := Aside0.mk hn0
  have HN1 := Aside0.mk hn1
  clear hn0 hn1
  generalize hz : zonesN R = zn at *
  have HX : Aside0 (tariffB R Z = (decide (1 ≤ zn) && (decide (zn ≤ 20) && (decide (n0 ≤ 20) && (decide (n1 ≤ 500) && (ratesGo zn R 0 R && (rowsGo zn Z 0 Z && decide (rowCnt Z n1 (noText, noText) = 1)))))))) := ⟨by unfold tariffB; rw [hz, HN0.out, HN1.out]⟩
  have HZ := Aside0.mk hz
  clear hz
  have HB0 := Aside0.mk (below_alloc (Below.refl w.heap.size w) (.cells #[.slice A0 n0 c0, .slice A1 n1 c1] 25))
  have HK0 : Aside0 ((w.alloc (.cells #[.slice A0 n0 c0, .slice A1 n1 c1] 25)).heap[w.heap.size]? = some (.cells #[.slice A0 n0 c0, .slice A1 n1 c1] 25 (0, 0))) := ⟨heap_alloc_new _ _⟩
  by_cases q1 : zn < 1
  · have HE : Aside0 (tariffB R Z = false) := ⟨by rw [HX.out, decide_eq_false (by omega)]; rfl⟩
    go_enter Tryd.func18, Tryd.ntmps18
    go_wp2_with (go_at_call 44; refine (hzn _ (Kd.C_below HR0.out HB0.out) (Kd.C_below HR1.out HB0.out)).mono ?_; rintro e wA ⟨rfl, hbA⟩)
    go_ret
    exact ⟨by rw [HE.out]; rfl, HB0.out.trans (hbA.mono HB0.out.size)⟩
  by_cases q2 : 20 < zn
  · have HE : Aside0 (tariffB R Z = false) := ⟨by rw [HX.out, decide_eq_false (show ¬ zn ≤ 20 by omega), Bool.false_and, Bool.and_false]⟩
    go_enter Tryd.func18, Tryd.ntmps18
    go_wp2_with (go_at_call 44; refine (hzn _ (Kd.C_below HR0.out HB0.out) (Kd.C_below HR1.out HB0.out)).mono ?_; rintro e wA ⟨rfl, hbA⟩)
    go_ret
    exact ⟨by rw [HE.out]; rfl, HB0.out.trans (hbA.mono HB0.out.size)⟩
  by_cases q3 : 20 < n0
  · have HE : Aside0 (tariffB R Z = false) := ⟨by rw [HX.out, decide_eq_false (show ¬ n0 ≤ 20 by omega), Bool.false_and, Bool.and_false, Bool.and_false]⟩
    have q3i : (20 : Int) < (n0 : Int) := by omega
    go_enter Tryd.func18, Tryd.ntmps18
    go_wp2_with (go_at_call 44; refine (hzn _ (Kd.C_below HR0.out HB0.out) (Kd.C_below HR1.out HB0.out)).mono ?_; rintro e wA ⟨rfl, hbA⟩; have tA0 : wA.cell? ⟨w.heap.size, 0, none⟩ = some (.slice A0 n0 c0) := (blk_cell ((hbA.block _ (by simp)).trans HK0.out) 0).trans rfl)
    go_ret
    exact ⟨by rw [HE.out]; rfl, HB0.out.trans (hbA.mono HB0.out.size)⟩
  have q3i : ¬ (20 : Int) < (n0 : Int) := by omega
  by_cases q4 : 500 < n1
  · have HE : Aside0 (tariffB R Z = false) := ⟨by rw [HX.out, decide_eq_false (show ¬ n1 ≤ 500 by omega), Bool.false_and, Bool.and_false, Bool.and_false, Bool.and_false]⟩
    have q4i : (500 : Int) < (n1 : Int) := by omega
    go_enter Tryd.func18, Tryd.ntmps18
    go_wp2_with (go_at_call 44; refine (hzn _ (Kd.C_below HR0.out HB0.out) (Kd.C_below HR1.out HB0.out)).mono ?_; rintro e wA ⟨rfl, hbA⟩; have tA0 : wA.cell? ⟨w.heap.size, 0, none⟩ = some (.slice A0 n0 c0) := (blk_cell ((hbA.block _ (by simp)).trans HK0.out) 0).trans rfl; have tA1 : wA.cell? ⟨w.heap.size, 1, none⟩ = some (.slice A1 n1 c1) := (blk_cell ((hbA.block _ (by simp)).trans HK0.out) 1).trans rfl)
    go_ret
    exact ⟨by rw [HE.out]; rfl, HB0.out.trans (hbA.mono HB0.out.size)⟩
  have q4i : ¬ (500 : Int) < (n1 : Int) := by omega
  obtain ⟨m, rfl⟩ : ∃ m : Nat, zn = (m : Int) := ⟨zn.toNat, by omega⟩
  have HX2 : Aside0 (tariffB R Z = (ratesGo (m : Int) R 0 R && (rowsGo (m : Int) Z 0 Z && decide (rowCnt Z n1 (noText, noText) = 1)))) := ⟨by rw [HX.out, decide_eq_true (show (1 : Int) ≤ m by omega), decide_eq_true (show (m : Int) ≤ 20 by omega), decide_eq_true (show n0 ≤ 20 by omega), decide_eq_true (show n1 ≤ 500 by omega)]; rfl⟩
  have hm20 : m ≤ 20 := by omega
  have hn20 : n0 ≤ 20 := by omega
  have hn500 : n1 ≤ 500 := by omega
  go_enter Tryd.func18, Tryd.ntmps18
  go_wp2_with (go_at_call 44; refine (hzn _ (Kd.C_below HR0.out HB0.out) (Kd.C_below HR1.out HB0.out)).mono ?_; rintro e wA ⟨rfl, hbA⟩; have HKA := Aside0.mk ((hbA.block w.heap.size (by simp)).trans HK0.out); have HBA := Aside0.mk (HB0.out.trans (hbA.mono HB0.out.size)); have tA0 : wA.cell? ⟨w.heap.size, 0, none⟩ = some (.slice A0 n0 c0) := (blk_cell HKA.out 0).trans rfl; have tA1 : wA.cell? ⟨w.heap.size, 1, none⟩ = some (.slice A1 n1 c1) := (blk_cell HKA.out 1).trans rfl; have lA := World.block_lt_of_cell? wA _ tA0; have tB0 := ((below_alloc (Below.refl wA.heap.size wA) (.map #[] 0)).cell (p := ⟨w.heap.size, 0, none⟩) lA).trans tA0; have HKB := Aside0.mk (((below_alloc (Below.refl wA.heap.size wA) (.map #[] 0)).block w.heap.size lA).trans HKA.out); clear hbA)
  clear tA0 tA1 tB0 q1 q2 q3 q4 q3i q4i
  have lwA : w.heap.size < wA.heap.size := lA
  go_loopg [35] n0 (fun gg s35 wr => ∃ k : Nat, k ≤ n0 ∧ n0 - k ≤ gg ∧ s35 = .int .i64 k ∧ Aside0 (Below w.heap.size w wr) ∧ Aside0 (wr.heap[w.heap.size]? = some (.cells #[.slice A0 n0 c0, .slice A1 n1 c1] 25 (0, 0))) ∧ Aside0 (MapInt keyU8 3 wr wA.heap.size k (clsMap R k)) ∧ Aside0 (ratesGo (m : Int) R k (R.drop k) = ratesGo (m : Int) R 0 R))
  case atStart => exact ⟨0, Nat.zero_le _, by omega, rfl, ⟨HBA.out.alloc (by omega) _⟩, HKB, ⟨MapInt.made keyU8 3 wA⟩, ⟨rfl⟩⟩
  case round =>
    obtain ⟨k, hk, hg, rfl, BW, HT, HM, HA⟩ := hrel
    by_cases hlt : k < n0
    · obtain ⟨hd, hx⟩ := rt_drop R k (by have := HN0.out; omega)
      have hc8 := HF.out.cls _ hx
      have HNX := Aside0.mk (fun y (hy : (rd_T57 R (k : Int)).f0 = y) => clsMap_next R k (by have := HN0.out; omega) y hy)
      have HS : Aside0 (ratesGo (m : Int) R k (R.drop k) = ratesGo (m : Int) R k (rd_T57 R (k : Int) :: R.drop (k + 1))) := ⟨by rw [← hd]⟩
      obtain ⟨ad, A2, c2, rfl, e0, e1, e2, l2, g2⟩ := at_T57 HR0.out (k : Int) (by omega) (by omega)
      simp only [Int.toNat_natCast] at e0 e1 e2
      have lp := World.block_lt_of_cell? w _ e0
      have e0 := (BW.out.cell lp).trans e0
      have e1 := (BW.out.cell (p := ⟨(ad.add (k * 3)).block, (ad.add (k * 3)).off + 1, none⟩) lp).trans e1
      have e2 := (BW.out.cell (p := ⟨(ad.add (k * 3)).block, (ad.add (k * 3)).off + 2, none⟩) lp).trans e2
      clear hd hx lp
      generalize hxe : rd_T57 R (k : Int) = x at *
      have HNX2 := Aside0.mk (HNX.out x.f0 rfl)
      have HC8 := Aside0.mk hc8
      clear hxe HNX hc8
      have hrt := fun W (hC : Kd.C k61 W A2 x.f1.length x.f1) => tariff_rated.calls 1000 x.f0 A2 c2 x.f1 x.f2 (m : Int) (ratedB x (m : Int)) W hC l2 (rated_is x m hm20)
      have HG := Aside0.mk g2
      clear g2 l2
      generalize hn2 : x.f1.length = n2 at *
      clear hn2
      have hcl := cnt_le R k (fun y => decide (y.f0 = x.f0))
      change clsCnt R k x.f0 ≤ k at hcl
      generalize hm : clsCnt R k x.f0 = q at *
      have HMC : Aside0 ((clsMap R k x.f0).getD 0 = (q : Int)) := ⟨by rw [clsMap_getD, hm]⟩
      have HMC2 : Aside0 ((clsMap R (k + 1) x.f0).getD 0 = (q : Int) + 1) := ⟨by rw [← HNX2.out]; simp⟩
      have HA2 : Aside0 (ratesGo (m : Int) R 0 R = (decide (q = 0) && (ratedB x (m : Int) && ratesGo (m : Int) R (k + 1) (R.drop (k + 1))))) := ⟨by rw [← HA.out, HS.out]; show (decide (clsCnt R k x.f0 = 0) && (ratedB x (m : Int) && ratesGo (m : Int) R (k + 1) (R.drop (k + 1)))) = _; rw [hm]⟩
      clear hm HS HA
      have y0 : (wr.alloc (.cells #[.int .u8 x.f0, .slice A2 n2 c2, .int .i64 x.f2] 57)).cell? ⟨wr.heap.size, 0, none⟩ = some (.int .u8 x.f0) := (blk_cell (heap_alloc_new _ _) 0).trans rfl
      have y1 : (wr.alloc (.cells #[.int .u8 x.f0, .slice A2 n2 c2, .int .i64 x.f2] 57)).cell? ⟨wr.heap.size, 1, none⟩ = some (.slice A2 n2 c2) := (blk_cell (heap_alloc_new _ _) 1).trans rfl
      have y2 : (wr.alloc (.cells #[.int .u8 x.f0, .slice A2 n2 c2, .int .i64 x.f2] 57)).cell? ⟨wr.heap.size, 2, none⟩ = some (.int .i64 x.f2) := (blk_cell (heap_alloc_new _ _) 2).trans rfl
      have HY := Aside0.mk (below_alloc (Below.refl wr.heap.size wr) (.cells #[.int .u8 x.f0, .slice A2 n2 c2, .int .i64 x.f2] 57))
      have lm := HM.out.lt
      have HMW := Aside0.mk (HM.out.below HY.out)
      have HBW := Aside0.mk (BW.out.trans (HY.out.mono BW.out.size))
      have HTW := Aside0.mk ((HY.out.block w.heap.size (by omega)).trans HT.out)
      by_cases q2 : q = 0
      case neg =>
        have HE : Aside0 (tariffB R Z = false) := ⟨by rw [HX2.out, HA2.out, decide_eq_false q2]; rfl⟩
        have q2i : (1 : Int) < (q : Int) + 1 := by omega
        go_wp2_with (first | (at_lookup; refine wpList_lookup_int rfl _ _ 95 rfl Tryd.underlying95 Tryd.underlying3 zeroInt _ _ _ rfl HM2.out x.f0 HC8.out rfl ?_; simp only [HMC2.out]) | (at_lookup; refine wpList_lookup_int rfl _ _ 95 rfl Tryd.underlying95 Tryd.underlying3 zeroInt _ _ _ rfl HMW.out x.f0 HC8.out rfl ?_; simp only [HMC.out]) | (at_mapUpdate; go_loud (refine wpList_update_int rfl _ _ _ 95 rfl Tryd.underlying95 Tryd.underlying3 _ _ _ rfl HMW.out (by omega) x.f0 HC8.out ((q : Int) + 1) (by omega) (by omega) rfl rfl ?_); go_loud (intro w2 hmp2 hg2); go_loud (have z0 := hg2.cell y0 (by simp; omega)); go_loud (have z1 := hg2.cell y1 (by simp; omega)); go_loud (have z2 := hg2.cell y2 (by simp; omega)); go_loud (rw [HNX2.out] at hmp2); have HM2 := Aside0.mk hmp2; have HB2 := Aside0.mk (pw_below_grown HBW.out (some wA.heap.size) (by have := HY.out.size; have := BW.out.size; omega) hg2 (fun k h => by injection h with h; have := HBA.out.size; omega)); have HT2 := Aside0.mk ((hg2.block w.heap.size (by have := HY.out.size; omega) (by simp; omega)).trans HTW.out); clear hmp2 hg2))
        go_ret
        exact ⟨by rw [HE.out]; rfl, HB2.out⟩
      case pos =>
        have q2i : ¬ (1 : Int) < (q : Int) + 1 := by omega
        have HE2 : Aside0 (ratesGo (m : Int) R 0 R = (ratedB x (m : Int) && ratesGo (m : Int) R (k + 1) (R.drop (k + 1)))) := ⟨by rw [HA2.out, decide_eq_true q2]; rfl⟩
        clear q2
        generalize ratedB x (m : Int) = b at *
        cases b with
        | false =>
          have HE : Aside0 (tariffB R Z = false) := ⟨by rw [HX2.out, HE2.out]; rfl⟩
          go_wp2_with (first | (go_at_call 45; go_loud (refine (hrt w2 (Kd.C_below HG.out HB2.out)).mono ?_); rintro e w3 ⟨rfl, hb3⟩; have HB3 := Aside0.mk hb3; clear hb3) | (at_lookup; refine wpList_lookup_int rfl _ _ 95 rfl Tryd.underlying95 Tryd.underlying3 zeroInt _ _ _ rfl HM2.out x.f0 HC8.out rfl ?_; simp only [HMC2.out]) | (at_lookup; refine wpList_lookup_int rfl _ _ 95 rfl Tryd.underlying95 Tryd.underlying3 zeroInt _ _ _ rfl HMW.out x.f0 HC8.out rfl ?_; simp only [HMC.out]) | (at_mapUpdate; go_loud (refine wpList_update_int rfl _ _ _ 95 rfl Tryd.underlying95 Tryd.underlying3 _ _ _ rfl HMW.out (by omega) x.f0 HC8.out ((q : Int) + 1) (by omega) (by omega) rfl rfl ?_); go_loud (intro w2 hmp2 hg2); go_loud (have z0 := hg2.cell y0 (by simp; omega)); go_loud (have z1 := hg2.cell y1 (by simp; omega)); go_loud (have z2 := hg2.cell y2 (by simp; omega)); go_loud (rw [HNX2.out] at hmp2); have HM2 := Aside0.mk hmp2; have HB2 := Aside0.mk (pw_below_grown HBW.out (some wA.heap.size) (by have := HY.out.size; have := BW.out.size; omega) hg2 (fun k h => by injection h with h; have := HBA.out.size; omega)); have HT2 := Aside0.mk ((hg2.block w.heap.size (by have := HY.out.size; omega) (by simp; omega)).trans HTW.out); clear hmp2 hg2))
          go_ret
          exact ⟨by rw [HE.out]; rfl, HB2.out.trans (HB3.out.mono HB2.out.size)⟩
        | true =>
          go_wp2_with (first | (go_at_call 45; go_loud (refine (hrt w2 (Kd.C_below HG.out HB2.out)).mono ?_); rintro e w3 ⟨rfl, hb3⟩; have HB3 := Aside0.mk hb3; clear hb3) | (at_lookup; refine wpList_lookup_int rfl _ _ 95 rfl Tryd.underlying95 Tryd.underlying3 zeroInt _ _ _ rfl HM2.out x.f0 HC8.out rfl ?_; simp only [HMC2.out]) | (at_lookup; refine wpList_lookup_int rfl _ _ 95 rfl Tryd.underlying95 Tryd.underlying3 zeroInt _ _ _ rfl HMW.out x.f0 HC8.out rfl ?_; simp only [HMC.out]) | (at_mapUpdate; go_loud (refine wpList_update_int rfl _ _ _ 95 rfl Tryd.underlying95 Tryd.underlying3 _ _ _ rfl HMW.out (by omega) x.f0 HC8.out ((q : Int) + 1) (by omega) (by omega) rfl rfl ?_); go_loud (intro w2 hmp2 hg2); go_loud (have z0 := hg2.cell y0 (by simp; omega)); go_loud (have z1 := hg2.cell y1 (by simp; omega)); go_loud (have z2 := hg2.cell y2 (by simp; omega)); go_loud (rw [HNX2.out] at hmp2); have HM2 := Aside0.mk hmp2; have HB2 := Aside0.mk (pw_below_grown HBW.out (some wA.heap.size) (by have := HY.out.size; have := BW.out.size; omega) hg2 (fun k h => by injection h with h; have := HBA.out.size; omega)); have HT2 := Aside0.mk ((hg2.block w.heap.size (by have := HY.out.size; omega) (by simp; omega)).trans HTW.out); clear hmp2 hg2))
          go_roundg (n0 - (k + 1))
          case measure => omega
          case rel => exact ⟨k + 1, by omega, Nat.le_refl _, by go_num, ⟨HB2.out.trans (HB3.out.mono HB2.out.size)⟩, ⟨(HB3.out.block w.heap.size (by have := blk_lt HT2.out; omega)).trans HT2.out⟩, ⟨HM2.out.below HB3.out⟩, ⟨HE2.out.symm⟩⟩
    · obtain rfl : n0 = k := by omega
      have HRT : Aside0 (ratesGo (m : Int) R 0 R = true) := ⟨by rw [← HA.out, List.drop_of_length_le (by have := HN0.out; omega)]; rfl⟩
      have t1 : (wr.alloc (.map #[] 0)).cell? ⟨w.heap.size, 1, none⟩ = some (.slice A1 n1 c1) := ((below_alloc (Below.refl wr.heap.size wr) (.map #[] 0)).cell (p := ⟨w.heap.size, 1, none⟩) (blk_lt HT.out)).trans ((blk_cell HT.out 1).trans rfl)
      clear HA HM
      go_wp2_with fail
      generalize hb2 : wr.heap.size = b2 at *
      have HBR := Aside0.mk (BW.out.trans ((below_alloc (Below.refl wr.heap.size wr) (.map #[] 0)).mono BW.out.size))
      have HTR := Aside0.mk (((below_alloc (Below.refl wr.heap.size wr) (.map #[] 0)).block w.heap.size (blk_lt HT.out)).trans HT.out)
      have HMR := Aside0.mk (MapInt.made keyP 3 wr)
      have hb20 : w.heap.size ≤ b2 := by rw [← hb2]; exact BW.out.size
      rw [hb2] at HMR
      clear hb2 t1 BW HT
      go_loopg [60] n1 (fun gg s60 wr => ∃ k : Nat, k ≤ n1 ∧ n1 - k ≤ gg ∧ s60 = .int .i64 k ∧ Aside0 (Below w.heap.size w wr) ∧ Aside0 (MapInt keyP 3 wr b2 k (rowMap Z k)) ∧ Aside0 (rowsGo (m : Int) Z k (Z.drop k) = rowsGo (m : Int) Z 0 Z))
      case atStart => exact ⟨0, Nat.zero_le _, by omega, rfl, HBR, HMR, ⟨rfl⟩⟩
      case round =>
        obtain ⟨k, hk, hg, rfl, BW, HM, HA⟩ := hrel
        by_cases hlt : k < n1
        · obtain ⟨hd, hx⟩ := zn_drop Z k (by have := HN1.out; omega)
          have hc8 := HF.out.row _ hx
          have HNX := Aside0.mk (fun y (hy : ((rd_T67 Z (k : Int)).f0, (rd_T67 Z (k : Int)).f1) = y) => rowMap_next Z k (by have := HN1.out; omega) y hy)
          have HS : Aside0 (rowsGo (m : Int) Z k (Z.drop k) = rowsGo (m : Int) Z k (rd_T67 Z (k : Int) :: Z.drop (k + 1))) := ⟨by rw [← hd]⟩
          obtain ⟨ad, rfl, e0, e1, e2⟩ := at_T67 HR1.out (k : Int) (by omega) (by omega)
          simp only [Int.toNat_natCast] at e0 e1 e2
          have lp := World.block_lt_of_cell? w _ e0
          have e0 := (BW.out.cell lp).trans e0
          have e1 := (BW.out.cell (p := ⟨(ad.add (k * 3)).block, (ad.add (k * 3)).off + 1, none⟩) lp).trans e1
          have e2 := (BW.out.cell (p := ⟨(ad.add (k * 3)).block, (ad.add (k * 3)).off + 2, none⟩) lp).trans e2
          clear hd hx lp
          generalize hxe : rd_T67 Z (k : Int) = x at *
          have HNX2 := Aside0.mk (HNX.out (x.f0, x.f1) rfl)
          have HC8 := Aside0.mk hc8
          clear hxe HNX
          have hcd0 := fun W => scheme_Code.calls x.f0 (codeB x.f0) W (code_is x.f0 hc8.1)
          have hcd1 := fun W => scheme_Code.calls x.f1 (codeB x.f1) W (code_is x.f1 hc8.2)
          clear hc8
          have hcl := cnt_le Z k (fun y => decide ((y.f0, y.f1) = (x.f0, x.f1)))
          change rowCnt Z k (x.f0, x.f1) ≤ k at hcl
          have HA2 : Aside0 (rowsGo (m : Int) Z 0 Z = (decide (rowCnt Z k (x.f0, x.f1) = 0) && (decide (1 ≤ x.f2) && (decide (x.f2 ≤ (m : Int)) && (endOk x.f0 && (endOk x.f1 && rowsGo (m : Int) Z (k + 1) (Z.drop (k + 1)))))))) := ⟨by rw [← HA.out, HS.out]; rfl⟩
          have HMC : Aside0 ((rowMap Z k (x.f0, x.f1)).getD 0 = (rowCnt Z k (x.f0, x.f1) : Int)) := ⟨rowMap_getD _ _ _⟩
          generalize rowCnt Z k (x.f0, x.f1) = q at *
          have HMC2 : Aside0 ((rowMap Z (k + 1) (x.f0, x.f1)).getD 0 = (q : Int) + 1) := ⟨by rw [← HNX2.out]; simp⟩
          clear HS HA
          have HY := Aside0.mk ((below_alloc (Below.refl wr.heap.size wr) (.cells #[.string x.f0, .string x.f1, .int .i64 x.f2] 67)).trans ((below_alloc (Below.refl _ (wr.alloc (.cells #[.string x.f0, .string x.f1, .int .i64 x.f2] 67))) (.cells #[.string x.f0, .string x.f1] 86)).mono (by simp)))
          have a0 : (wr.alloc (.cells #[.string x.f0, .string x.f1, .int .i64 x.f2] 67)).cell? ⟨wr.heap.size, 0, none⟩ = some (.string x.f0) := (blk_cell (heap_alloc_new _ _) 0).trans rfl
          have a1 : (wr.alloc (.cells #[.string x.f0, .string x.f1, .int .i64 x.f2] 67)).cell? ⟨wr.heap.size, 1, none⟩ = some (.string x.f1) := (blk_cell (heap_alloc_new _ _) 1).trans rfl
          have HZ3 : Aside0 (((wr.alloc (.cells #[.string x.f0, .string x.f1, .int .i64 x.f2] 67)).alloc (.cells #[.string x.f0, .string x.f1] 86)).heap[wr.heap.size]? = some (.cells #[.string x.f0, .string x.f1, .int .i64 x.f2] 67 (0, 0))) := ⟨(Below.heap_alloc _ _ _ (by simp)).trans (heap_alloc_new _ _)⟩
          have HP2 : Aside0 (((wr.alloc (.cells #[.string x.f0, .string x.f1, .int .i64 x.f2] 67)).alloc (.cells #[.string x.f0, .string x.f1] 86)).heap[wr.heap.size + 1]? = some (.cells #[.string x.f0, .string x.f1] 86 (0, 0))) := ⟨by simpa using heap_alloc_new (wr.alloc (.cells #[.string x.f0, .string x.f1, .int .i64 x.f2] 67)) (.cells #[.string x.f0, .string x.f1] 86)⟩
          have lm := HM.out.lt
          have HMW := Aside0.mk (HM.out.below HY.out)
          have HBW := Aside0.mk (BW.out.trans (HY.out.mono BW.out.size))
          go_wp2_with fail
          generalize hW : (wr.alloc (.cells #[.string x.f0, .string x.f1, .int .i64 x.f2] 67)).alloc (.cells #[.string x.f0, .string x.f1] 86) = W at *
          have lx : wr.heap.size + 1 < W.heap.size := by rw [← hW]; simp
          clear hW a0 a1 e0 e1 e2
          have MD := Aside0.mk (HMW.out.below (below_drew (Below.refl W.heap.size W)))
          have hl1 := MapInt.look MD.out (t := 97) Tryd.underlying97 Tryd.underlying3 zeroInt (x.f0, x.f1) HC8.out
          rw [HMC.out] at hl1
          change Sem.run Tryd.prog (Instr.lookup 97 (.map (some b2)) (.agg #[.string x.f0, .string x.f1]) false) W.drew = _ at hl1
          obtain ⟨v0, st, w1, hen, hl1b, hg1, hst⟩ := MapInt.entry pairLaw MD.out (t := 97) Tryd.underlying97 Tryd.underlying3 zeroInt (by omega) (x.f0, x.f1) HC8.out
          change Sem.run Tryd.prog (Instr.mapEntry 97 (.map (some b2)) (.agg #[.string x.f0, .string x.f1])) W.drew = _ at hen
          rw [HMC.out] at hl1b
          change Sem.run Tryd.prog (Instr.lookup 97 (.map (some b2)) (.agg #[.string x.f0, .string x.f1]) false) w1 = _ at hl1b
          obtain ⟨w2, hst, HM2', hg2⟩ := hst ((q : Int) + 1) (by omega) (by omega)
          rw [HNX2.out] at HM2'
          have HM2 := Aside0.mk HM2'
          clear HM2'
          have hl2 := MapInt.look HM2.out (t := 97) Tryd.underlying97 Tryd.underlying3 zeroInt (x.f0, x.f1) HC8.out
          rw [HMC2.out] at hl2
          change Sem.run Tryd.prog (Instr.lookup 97 (.map (some b2)) (.agg #[.string x.f0, .string x.f1]) false) w2 = _ at hl2
          have hB2 := pw_below_grown (below_drew (Below.refl w.heap.size W)) (some b2) (by have := HBW.out.size; exact this) hg2 (fun k h => by injection h with h; omega)
          have HB2 := Aside0.mk (HBW.out.trans hB2)
          have p0 : W.drew.cell? ⟨wr.heap.size + 1, 0, none⟩ = some (.string x.f0) := (blk_cell (w := W.drew) HP2.out 0).trans rfl
          have p1 : W.drew.cell? ⟨wr.heap.size + 1, 1, none⟩ = some (.string x.f1) := (blk_cell (w := W.drew) HP2.out 1).trans rfl
          have x0 : W.drew.cell? ⟨wr.heap.size, 0, none⟩ = some (.string x.f0) := (blk_cell (w := W.drew) HZ3.out 0).trans rfl
          have x1 : W.drew.cell? ⟨wr.heap.size, 1, none⟩ = some (.string x.f1) := (blk_cell (w := W.drew) HZ3.out 1).trans rfl
          have x2 : W.drew.cell? ⟨wr.heap.size, 2, none⟩ = some (.int .i64 x.f2) := (blk_cell (w := W.drew) HZ3.out 2).trans rfl
          have r0 := hg1.cell p0 (by simp; omega)
          have r1 := hg1.cell p1 (by simp; omega)
          have s0 := hg2.cell p0 (by simp; omega)
          have s1 := hg2.cell p1 (by simp; omega)
          have z0 := hg2.cell x0 (by simp; omega)
          have z1 := hg2.cell x1 (by simp; omega)
          have z2 := hg2.cell x2 (by simp; omega)
          have HS2 := Aside0.mk hg2.size
          clear hg1 hg2 hB2 x0 x1 x2
          generalize goInt st = sv at *
          have hwq : IntKind.i64.wrap ((q : Int) + 1) = (q : Int) + 1 := wrap_i64_int (by omega) (by omega)
          refine wp_region_held_drew (S := (fun w' => w'.cell? ⟨wr.heap.size + 1, 0, none⟩ = some (.string x.f0) ∧ w'.cell? ⟨wr.heap.size + 1, 1, none⟩ = some (.string x.f1))) (by kernel_rfl) ?_ (fun hHeld => ?_)
          · ((try dsimp only); go_keep)
          refine takeT 0 ?_ rfl (by kernel_rfl) (by kernel_rfl) (by kernel_rfl) (fun _ _ _ h => h) (by rfl) ?_ (by assumption) ?_
          rotate_left
          · (intro w hSw; (try dsimp only at hSw); go_simp; (try with_reducible rfl))
          try simp only [Act.put, List.setIfInBounds_toArray, List.set_cons_zero, List.set_cons_succ]
          refine takeT 1 ?_ rfl (by kernel_rfl) (by kernel_rfl) (by kernel_rfl) (fun _ _ _ h => h) (by rfl) ?_ (by assumption) ?_
          rotate_left
          · (intro w hSw; (try dsimp only at hSw); go_simp; (try with_reducible rfl))
          try simp only [Act.put, List.setIfInBounds_toArray, List.set_cons_zero, List.set_cons_succ]
          apply bothWays
          intro hrest
          refine takeC2 2 4 rfl rfl (by kernel_rfl) (by rfl) (by rfl) (fun K hK => ?_) (fun K hK => ?_)
          · go_simp
            skip
            (try go_wp2_with fail)
            refine hK.out _ _ ?_ (fun hHeld => ?_)
            · ((try dsimp only); go_keep)
            clear hK K
            try simp only [Act.put, List.setIfInBounds_toArray, List.set_cons_zero, List.set_cons_succ]
            refine takeT 3 ?_ rfl (by kernel_rfl) (by kernel_rfl) (by kernel_rfl) (fun _ _ _ h => h) (by rfl) ?_ (by assumption) ?_
            rotate_left
            · (intro w hSw; (try dsimp only at hSw); go_simp; (try with_reducible rfl))
            try simp only [Act.put, List.setIfInBounds_toArray, List.set_cons_zero, List.set_cons_succ]
            refine takeC 4 rfl (by kernel_rfl) (by rfl) (fun K hK => ?_)
            go_simp
            skip
            (try go_wp2_with fail)
            refine hK.out _ _ ?_ (fun hHeld => ?_)
            · ((try dsimp only); go_keep)
            clear hK K
            try simp only [Act.put, List.setIfInBounds_toArray, List.set_cons_zero, List.set_cons_succ]
            refine takeT 5 ?_ rfl (by kernel_rfl) (by kernel_rfl) (by kernel_rfl) (fun _ _ _ h => h) (by rfl) ?_ (by assumption) ?_
            rotate_left
            · (intro w hSw; (try dsimp only at hSw); go_simp; (try with_reducible rfl))
            try simp only [Act.put, List.setIfInBounds_toArray, List.set_cons_zero, List.set_cons_succ]
            refine takeC 6 rfl (by kernel_rfl) (by rfl) (fun K hK => ?_)
            go_simp
            skip
            (try go_wp2_with fail)
            refine hK.out _ _ ?_ (fun hHeld => ?_)
            · ((try dsimp only); go_keep)
            clear hK K
            try simp only [Act.put, List.setIfInBounds_toArray, List.set_cons_zero, List.set_cons_succ]
            refine wpAnyH_done (by kernel_rfl) ?_ _
            exact hrest.out
          · go_simp
            skip
            (try go_wp2_with fail)
            refine hK.out _ _ ?_ (fun hHeld => ?_)
            · ((try dsimp only); go_keep)
            clear hK K
            try simp only [Act.put, List.setIfInBounds_toArray, List.set_cons_zero, List.set_cons_succ]
            refine takeT 5 ?_ rfl (by kernel_rfl) (by kernel_rfl) (by kernel_rfl) (fun _ _ _ h => h) (by rfl) ?_ (by assumption) ?_
            rotate_left
            · (intro w hSw; (try dsimp only at hSw); go_simp; (try with_reducible rfl))
            try simp only [Act.put, List.setIfInBounds_toArray, List.set_cons_zero, List.set_cons_succ]
            refine takeC 2 rfl (by kernel_rfl) (by rfl) (fun K hK => ?_)
            go_simp
            skip
            (try go_wp2_with fail)
            refine hK.out _ _ ?_ (fun hHeld => ?_)
            · ((try dsimp only); go_keep)
            clear hK K
            try simp only [Act.put, List.setIfInBounds_toArray, List.set_cons_zero, List.set_cons_succ]
            refine takeT 3 ?_ rfl (by kernel_rfl) (by kernel_rfl) (by kernel_rfl) (fun _ _ _ h => h) (by rfl) ?_ (by assumption) ?_
            rotate_left
            · (intro w hSw; (try dsimp only at hSw); go_simp; (try with_reducible rfl))
            try simp only [Act.put, List.setIfInBounds_toArray, List.set_cons_zero, List.set_cons_succ]
            refine takeC 6 rfl (by kernel_rfl) (by rfl) (fun K hK => ?_)
            go_simp
            skip
            (try go_wp2_with fail)
            refine hK.out _ _ ?_ (fun hHeld => ?_)
            · ((try dsimp only); go_keep)
            clear hK K
            try simp only [Act.put, List.setIfInBounds_toArray, List.set_cons_zero, List.set_cons_succ]
            refine wpAnyH_done (by kernel_rfl) ?_ _
            exact hrest.out
          clear hl1 hl1b hen hst p0 p1 r0 r1
          by_cases q0 : q = 0
          case neg =>
            have q0i : (1 : Int) < (q : Int) + 1 := by omega
            have HE : Aside0 (tariffB R Z = false) := ⟨by rw [HX2.out, HRT.out, HA2.out, decide_eq_false q0]; simp⟩
            go_wp2_with fail
            go_ret
            exact ⟨by rw [HE.out]; rfl, HB2.out⟩
          case pos =>
            have q0i : ¬ (1 : Int) < (q : Int) + 1 := by omega
            have HA3 : Aside0 (rowsGo (m : Int) Z 0 Z = (decide (1 ≤ x.f2) && (decide (x.f2 ≤ (m : Int)) && (endOk x.f0 && (endOk x.f1 && rowsGo (m : Int) Z (k + 1) (Z.drop (k + 1))))))) := ⟨by rw [HA2.out, decide_eq_true q0]; rfl⟩
            clear q0
            by_cases u1 : x.f2 < 1
            case pos =>
              have HE : Aside0 (tariffB R Z = false) := ⟨by rw [HX2.out, HRT.out, HA3.out, decide_eq_false (show ¬ 1 ≤ x.f2 by omega)]; simp⟩
              go_wp2_with fail
              go_ret
              exact ⟨by rw [HE.out]; rfl, HB2.out⟩
            case neg =>
              by_cases u2 : (m : Int) < x.f2
              case pos =>
                have HE : Aside0 (tariffB R Z = false) := ⟨by rw [HX2.out, HRT.out, HA3.out, decide_eq_false (show ¬ x.f2 ≤ (m : Int) by omega)]; simp⟩
                go_wp2_with fail
                go_ret
                exact ⟨by rw [HE.out]; rfl, HB2.out⟩
              case neg =>
                have HA4 : Aside0 (rowsGo (m : Int) Z 0 Z = ((x.f0.toList.isEmpty || codeB x.f0) && ((x.f1.toList.isEmpty || codeB x.f1) && rowsGo (m : Int) Z (k + 1) (Z.drop (k + 1))))) := ⟨by rw [HA3.out, decide_eq_true (show 1 ≤ x.f2 by omega), decide_eq_true (show x.f2 ≤ (m : Int) by omega)]; rfl⟩
                cases hb0 : x.f0.toList.isEmpty with
                | true =>
                  cases hb1 : x.f1.toList.isEmpty with
                  | true =>
                    have HE : Aside0 (rowsGo (m : Int) Z (k + 1) (Z.drop (k + 1)) = rowsGo (m : Int) Z 0 Z) := ⟨by rw [HA4.out, hb0, hb1]; simp⟩
                    go_wp2_with fail
                    go_roundg (n1 - (k + 1))
                    case measure => omega
                    case rel => exact ⟨k + 1, by omega, Nat.le_refl _, by go_num, ⟨HB2.out⟩, ⟨HM2.out⟩, HE⟩
                  | false =>
                    cases hd1 : codeB x.f1 with
                    | false =>
                      rw [hd1] at hcd1
                      have HD1 := Aside0.mk hd1
                      clear hd1
                      have HE : Aside0 (tariffB R Z = false) := ⟨by rw [HX2.out, HRT.out, HA4.out, hb0, hb1, HD1.out]; simp⟩
                      go_wp2_with (first | (go_at_call_of 46 (x.f1); refine (hcd1 _).mono ?_; rintro e wD ⟨rfl, hbD⟩; have HBD := Aside0.mk hbD; clear hbD))
                      go_ret
                      exact ⟨by rw [HE.out]; rfl, (HB2.out.trans (HBD.out.mono HB2.out.size))⟩
                    | true =>
                      rw [hd1] at hcd1
                      have HD1 := Aside0.mk hd1
                      clear hd1
                      have HE : Aside0 (rowsGo (m : Int) Z (k + 1) (Z.drop (k + 1)) = rowsGo (m : Int) Z 0 Z) := ⟨by rw [HA4.out, hb0, hb1, HD1.out]; simp⟩
                      go_wp2_with (first | (go_at_call_of 46 (x.f1); refine (hcd1 _).mono ?_; rintro e wD ⟨rfl, hbD⟩; have HBD := Aside0.mk hbD; clear hbD))
                      go_roundg (n1 - (k + 1))
                      case measure => omega
                      case rel => exact ⟨k + 1, by omega, Nat.le_refl _, by go_num, ⟨(HB2.out.trans (HBD.out.mono HB2.out.size))⟩, ⟨(HM2.out.below HBD.out)⟩, HE⟩
                | false =>
                  cases hd0 : codeB x.f0 with
                  | false =>
                    rw [hd0] at hcd0
                    have HD0 := Aside0.mk hd0
                    clear hd0
                    have HE : Aside0 (tariffB R Z = false) := ⟨by rw [HX2.out, HRT.out, HA4.out, hb0, HD0.out]; simp⟩
                    go_wp2_with (first | (go_at_call_of 46 (x.f0); refine (hcd0 w2).mono ?_; rintro e wC ⟨rfl, hbC⟩; have HBC := Aside0.mk hbC; have l1 := World.block_lt_of_cell? w2 _ z1; go_loud (have y1 := (hbC.cell (p := ⟨wr.heap.size, 1, none⟩) l1).trans z1); clear hbC))
                    go_ret
                    exact ⟨by rw [HE.out]; rfl, (HB2.out.trans (HBC.out.mono HB2.out.size))⟩
                  | true =>
                    rw [hd0] at hcd0
                    have HD0 := Aside0.mk hd0
                    clear hd0
                    cases hb1 : x.f1.toList.isEmpty with
                    | true =>
                      have HE : Aside0 (rowsGo (m : Int) Z (k + 1) (Z.drop (k + 1)) = rowsGo (m : Int) Z 0 Z) := ⟨by rw [HA4.out, hb0, HD0.out, hb1]; simp⟩
                      go_wp2_with (first | (go_at_call_of 46 (x.f0); refine (hcd0 w2).mono ?_; rintro e wC ⟨rfl, hbC⟩; have HBC := Aside0.mk hbC; have l1 := World.block_lt_of_cell? w2 _ z1; go_loud (have y1 := (hbC.cell (p := ⟨wr.heap.size, 1, none⟩) l1).trans z1); clear hbC))
                      go_roundg (n1 - (k + 1))
                      case measure => omega
                      case rel => exact ⟨k + 1, by omega, Nat.le_refl _, by go_num, ⟨(HB2.out.trans (HBC.out.mono HB2.out.size))⟩, ⟨(HM2.out.below HBC.out)⟩, HE⟩
                    | false =>
                      cases hd1 : codeB x.f1 with
                      | false =>
                        rw [hd1] at hcd1
                        have HD1 := Aside0.mk hd1
                        clear hd1
                        have HE : Aside0 (tariffB R Z = false) := ⟨by rw [HX2.out, HRT.out, HA4.out, hb0, HD0.out, hb1, HD1.out]; simp⟩
                        go_wp2_with (first | (go_at_call_of 46 (x.f0); refine (hcd0 w2).mono ?_; rintro e wC ⟨rfl, hbC⟩; have HBC := Aside0.mk hbC; have l1 := World.block_lt_of_cell? w2 _ z1; go_loud (have y1 := (hbC.cell (p := ⟨wr.heap.size, 1, none⟩) l1).trans z1); clear hbC) | (go_at_call_of 46 (x.f1); refine (hcd1 _).mono ?_; rintro e wD ⟨rfl, hbD⟩; have HBD := Aside0.mk hbD; clear hbD))
                        go_ret
                        exact ⟨by rw [HE.out]; rfl, ((HB2.out.trans (HBC.out.mono HB2.out.size)).trans (HBD.out.mono (Nat.le_trans HB2.out.size HBC.out.size)))⟩
                      | true =>
                        rw [hd1] at hcd1
                        have HD1 := Aside0.mk hd1
                        clear hd1
                        have HE : Aside0 (rowsGo (m : Int) Z (k + 1) (Z.drop (k + 1)) = rowsGo (m : Int) Z 0 Z) := ⟨by rw [HA4.out, hb0, HD0.out, hb1, HD1.out]; simp⟩
                        go_wp2_with (first | (go_at_call_of 46 (x.f0); refine (hcd0 w2).mono ?_; rintro e wC ⟨rfl, hbC⟩; have HBC := Aside0.mk hbC; have l1 := World.block_lt_of_cell? w2 _ z1; go_loud (have y1 := (hbC.cell (p := ⟨wr.heap.size, 1, none⟩) l1).trans z1); clear hbC) | (go_at_call_of 46 (x.f1); refine (hcd1 _).mono ?_; rintro e wD ⟨rfl, hbD⟩; have HBD := Aside0.mk hbD; clear hbD))
                        go_roundg (n1 - (k + 1))
                        case measure => omega
                        case rel => exact ⟨k + 1, by omega, Nat.le_refl _, by go_num, ⟨((HB2.out.trans (HBC.out.mono HB2.out.size)).trans (HBD.out.mono (Nat.le_trans HB2.out.size HBC.out.size)))⟩, ⟨((HM2.out.below HBC.out).below HBD.out)⟩, HE⟩
        · obtain rfl : n1 = k := by omega
          have HRZ : Aside0 (rowsGo (m : Int) Z 0 Z = true) := ⟨by rw [← HA.out, List.drop_of_length_le (by have := HN1.out; omega)]; rfl⟩
          have hl := MapInt.look HM.out (t := 97) Tryd.underlying97 Tryd.underlying3 zeroInt (noText, noText) ⟨by decide, by decide⟩
          rw [rowMap_getD] at hl
          change Sem.run Tryd.prog (Instr.lookup 97 (.map (some b2)) (.agg #[.string ⟨#[]⟩, .string ⟨#[]⟩]) false) wr = _ at hl
          have HX3 : Aside0 (tariffB R Z = decide (rowCnt Z n1 (noText, noText) = 1)) := ⟨by rw [HX2.out, HRT.out, HRZ.out]; rfl⟩
          generalize rowCnt Z n1 (noText, noText) = q at *
          go_wp2_with fail
          go_ret
          refine ⟨?_, BW.out⟩
          rw [HX3.out]
          show Ending.returned (.bool ((q : Int) == 1)) = _
          rw [intOne q]
def zoneFitsB (z : Zn) : Bool := decide (z.f0.size ≤ 9223372036854775807) && decide (z.f1.size ≤ 9223372036854775807)
theorem tariffFits_of {R : List Rt} {Z : List Zn} (h : (R.all (fun r => decide (0 ≤ r.f0) && decide (r.f0 ≤ 255)) && Z.all zoneFitsB) = true) : TariffFits R Z := by
  unfold zoneFitsB at h
  simp only [Bool.and_eq_true, decide_eq_true_eq, List.all_eq_true] at h
  exact ⟨fun r hr => h.1 r hr, fun z hz => h.2 z hz⟩
def tariff_Right.f (l0 : List Rt) (l1 : List Zn) : Option Bool := if (l0.all (fun r => decide (0 ≤ r.f0) && decide (r.f0 ≤ 255)) && l1.all zoneFitsB) then some (tariffB l0 l1) else none
theorem tariff_Right.calls (A0 : Option Addr) (c0 : Nat) (l0 : List (S57)) (A1 : Option Addr) (c1 : Nat) (l1 : List (S67)) (r : Bool) (w : World) (hr0 : Kd.C k57 w A0 l0.length l0) (hc0 : l0.length ≤ c0) (hr1 : Kd.C k67 w A1 l1.length l1) (hc1 : l1.length ≤ c1) (h : tariff_Right.f l0 l1 = some r) :
    Calls Tryd.prog 18 #[.agg #[.slice A0 l0.length c0, .slice A1 l1.length c1]] w fun e w' => e = .returned (.bool r) ∧ Below w.heap.size w w' := by
  unfold tariff_Right.f at h
  split at h
  · rename_i hf
    injection h with h
    subst h
    exact tariff_right.calls0 A0 c0 l0 A1 c1 l1 w hr0 hc0 hr1 hc1 (tariffFits_of hf)
  · cases h
end Go.Proofs.YtfglcfbcdhjcdaaDoor.Q

namespace Go.Proofs.YtfglcfbcdhjcdaaDoor.Q
open Go.RowKit Go.Proofs.YtfglcfbcdhjcdaaDoorW.PrintWords Go.Proofs.YtfglcfbcdhjcdaaDoorW.PrintLast Go.Proofs.YtfglcfbcdhjcdaaDoorW.PrintMore
attribute [local go_sem] max2_int min2_int max_two min_two max_three min_three max_four min_four
set_option linter.unusedVariables false
set_option linter.unusedSimpArgs false
def stringslite_HasPrefix.f (a0 : ByteArray) (a1 : ByteArray) : Option (Bool) := if (a0.size : Int) ≥ (a1.size : Int) then (if 0 ≤ (a1.size : Int) then (if (a1.size : Int) ≤ (a0.size : Int) then (some ((a0.extract 0 ((a1.size : Int) : Int).toNat).toList == a1.toList)) else (none)) else (none)) else (some false)
set_option maxHeartbeats 8000000 in
set_option maxRecDepth 100000 in
theorem stringslite_HasPrefix.calls (a0 : ByteArray) (a1 : ByteArray) (r : Bool) (w : World) (h : stringslite_HasPrefix.f a0 a1 = some r) :
    Calls Tryd.prog 81 #[.string a0, .string a1] w fun e w' => e = .returned (.bool r) ∧ Drawn0 w w' := by
  have H : (if (a0.size : Int) ≥ (a1.size : Int) then (if 0 ≤ (a1.size : Int) then (if (a1.size : Int) ≤ (a0.size : Int) then (some ((a0.extract 0 ((a1.size : Int) : Int).toNat).toList == a1.toList)) else (none)) else (none)) else (some false)) = some r := h
  clear h
  by_cases c3 : (a0.size : Int) ≥ (a1.size : Int)
  · rw [if_pos c3] at H
    have c3b0 : decide ((a1.size : Int) ≤ (a0.size : Int)) = true := decide_eq_true c3
    have c3b1 : decide (a1.size ≤ a0.size) = true := decide_eq_true (Int.ofNat_le.mp c3)
    clear c3
    by_cases c4 : 0 ≤ (a1.size : Int)
    · rw [if_pos c4] at H
      have c4b0 := eq_true c4
      have c4b1 : decide (0 ≤ (a1.size : Int)) = true := decide_eq_true c4
      clear c4
      by_cases c5 : (a1.size : Int) ≤ (a0.size : Int)
      · rw [if_pos c5] at H
        have c5b0 := eq_true c5
        have c5b1 : decide ((a1.size : Int) ≤ (a0.size : Int)) = true := decide_eq_true c5
        clear c5
        obtain rfl := Option.some.inj H
        go_enter Tryd.func81, Tryd.ntmps81
        go_wp2
        go_ret
        exact ⟨by first | rfl | (simp; done) | (simp [*]; done), by repeat (first | exact Drawn0.refl _ | apply Drawn0.step)⟩
      · rw [if_neg c5] at H
        exact absurd H (by simp)
    · rw [if_neg c4] at H
      exact absurd H (by simp)
  · rw [if_neg c3] at H
    have c3b0 : decide ((a1.size : Int) ≤ (a0.size : Int)) = false := decide_eq_false c3
    have c3b1 : decide (a1.size ≤ a0.size) = false := decide_eq_false (fun h => c3 (Int.ofNat_le.mpr h))
    clear c3
    obtain rfl := Option.some.inj H
    go_enter Tryd.func81, Tryd.ntmps81
    go_wp2
    go_ret
    exact ⟨by first | rfl | (simp; done) | (simp [*]; done), by repeat (first | exact Drawn0.refl _ | apply Drawn0.step)⟩
def strings_HasPrefix.f (a0 : ByteArray) (a1 : ByteArray) : Option (Bool) := (stringslite_HasPrefix.f a0 a1).bind fun t111 => (some t111)
set_option maxHeartbeats 8000000 in
set_option maxRecDepth 100000 in
theorem strings_HasPrefix.calls (a0 : ByteArray) (a1 : ByteArray) (r : Bool) (w : World) (h : strings_HasPrefix.f a0 a1 = some r) :
    Calls Tryd.prog 66 #[.string a0, .string a1] w fun e w' => e = .returned (.bool r) ∧ Drawn0 w w' := by
  have H : ((stringslite_HasPrefix.f a0 a1).bind fun t111 => (some t111)) = some r := h
  clear h
  replace H := Option.bind_eq_some_iff.mp H
  obtain ⟨t111, A30, H⟩ := H
  replace H : (some t111) = some r := H
  have A3 := Aside0.mk A30
  clear A30
  obtain rfl := Option.some.inj H
  go_enter Tryd.func66, Tryd.ntmps66
  go_wp2_with (first | ((with_reducible refine gate_callee (f := 81) rfl ?_); refine goesL_ (some 7) rfl rfl Tryd.func81 (by kernel_rfl) rfl #[.string a0, .string a1] rfl (by (try simp only [List.map_toArray, List.map_cons, List.map_nil]); first | done | rfl | (simp only [List.length_drop, List.length_take]; rfl)) ?_; (with_reducible refine (stringslite_HasPrefix.calls a0 a1 t111 _ A3.out).mono ?_); rintro e w' ⟨rfl, ⟨nd, rfl⟩⟩; refine ⟨_, rfl, ?_⟩))
  go_ret
  exact ⟨by first | rfl | (simp; done) | (simp [*]; done), by repeat (first | exact Drawn0.refl _ | apply Drawn0.step)⟩
def tariff_zone.l0 : Nat → ByteArray → ByteArray → Int → Int → List (S67) → Int → Int → Option (Int)
  | 0, _, _, _, _, _, _, _ => none
  | k + 1, x1, x2, x7, x8, x13, x14, x15 => if x15 < x14 then (if 0 ≤ x15 then (if x15 < (x13.length : Int) then (if (wrap64 ((wrap64 (100 * (((rd_T67 x13 x15).f0).size : Int))) + (((rd_T67 x13 x15).f1).size : Int))) > x8 then ((strings_HasPrefix.f x1 ((rd_T67 x13 x15).f0)).bind fun t115 => (if t115 = true then ((strings_HasPrefix.f x2 ((rd_T67 x13 x15).f1)).bind fun t116 => (if t116 = true then (tariff_zone.l0 k x1 x2 ((rd_T67 x13 x15).f2) (wrap64 ((wrap64 (100 * (((rd_T67 x13 x15).f0).size : Int))) + (((rd_T67 x13 x15).f1).size : Int))) x13 x14 (wrap64 (x15 + 1))) else (tariff_zone.l0 k x1 x2 x7 x8 x13 x14 (wrap64 (x15 + 1))))) else (tariff_zone.l0 k x1 x2 x7 x8 x13 x14 (wrap64 (x15 + 1))))) else (tariff_zone.l0 k x1 x2 x7 x8 x13 x14 (wrap64 (x15 + 1)))) else (none)) else (none)) else (some x7)
def tariff_zone.f (k : Nat) (l0_0 : List (S57)) (l0_1 : List (S67)) (a1 : ByteArray) (a2 : ByteArray) : Option (Int) := tariff_zone.l0 k a1 a2 0 (-1) l0_1 (l0_1.length : Int) 0
set_option maxHeartbeats 8000000 in
set_option maxRecDepth 100000 in
theorem tariff_zone.calls (k : Nat) (A0_0 : Option Addr) (c0_0 : Nat) (l0_0 : List (S57)) (A0_1 : Option Addr) (c0_1 : Nat) (l0_1 : List (S67)) (a1 : ByteArray) (a2 : ByteArray) (r : Int) (w : World) (hr0_0 : Kd.C k57 w A0_0 l0_0.length l0_0) (hc0_0 : l0_0.length ≤ c0_0) (hr0_1 : Kd.C k67 w A0_1 l0_1.length l0_1) (hc0_1 : l0_1.length ≤ c0_1) (h : tariff_zone.f k l0_0 l0_1 a1 a2 = some r) :
    Calls Tryd.prog 43 #[.agg #[.slice A0_0 l0_0.length c0_0, .slice A0_1 l0_1.length c0_1], .string a1, .string a2] w fun e w' => e = .returned (.int .i64 r) ∧ Below w.heap.size w w' := by
  have hu25 := Tryd.underlying25
  have hu67 := Tryd.underlying67
  have HR0_0 := Aside0.mk hr0_0
  have HC0_0 := Aside0.mk hc0_0
  clear hr0_0 hc0_0
  have HR0_1 := Aside0.mk hr0_1
  have HC0_1 := Aside0.mk hc0_1
  clear hr0_1 hc0_1
  have HB := Aside0.mk (Below.refl w.heap.size w)
  have H : (tariff_zone.l0 k a1 a2 0 (-1) l0_1 (l0_1.length : Int) 0) = some r := h
  clear h
  have H' := Aside0.mk H
  clear H
  go_enter Tryd.func43, Tryd.ntmps43
  go_wp2_with (first | ((with_reducible refine gate_dst (N := 3) rfl ?_); refine box_event ?hg (N := 3) ?hd (cs := #[.slice A0_0 l0_0.length c0_0, .slice A0_1 l0_1.length c0_1]) (t := 25) ?hr ?_; (case hd => rfl); (case hg => rfl); (case hr => first | (go_simp; done) | (go_simp; rfl)); intro gb112 hg w4 hbox hb; have n0_ := Aside0.mk (below_step (by repeat (first | (with_reducible first | exact HB.out | apply below_alloc | apply pw_below_drewN | apply below_drew1) | exact HB.out)) hb); have n1_ := Aside0.mk (hbox); have n2_ := Aside0.mk ((by rw [hg]; exact (below_size (by repeat (first | (with_reducible first | exact HB.out | apply below_alloc | apply pw_below_drewN | apply below_drew1) | exact HB.out))) : w.heap.size ≤ gb112)); have n3_ := Aside0.mk ((by rw [hg]; exact (below_size (by repeat (first | (with_reducible first | exact HB.out | apply below_alloc | apply pw_below_drewN | apply below_drew1) | exact HB.out))) : w.heap.size ≤ gb112)); clear HB; have HB := n0_; have BK112 := n1_; have GW112 := n2_; have GE112 := n3_; clear n0_ n1_ n2_ n3_; clear hb hbox hg; have hcz5_0 : w4.cell? ⟨gb112, 0, none⟩ = some (.slice A0_0 l0_0.length c0_0) := (blk_cell BK112.out 0).trans rfl; have hcz5_1 : w4.cell? ⟨gb112, 1, none⟩ = some (.slice A0_1 l0_1.length c0_1) := (blk_cell BK112.out 1).trans rfl; have hfz5_0 := blk_frozen BK112.out 0; have hfz5_1 := blk_frozen BK112.out 1))
  go_loopg [7, 8, 15] k (fun kq v7 v8 v15 w' => ∃ (x7_1 : Int) (x8_1 : Int) (x15_1 : Int), v7 = .int .i64 x7_1 ∧ v8 = .int .i64 x8_1 ∧ v15 = .int .i64 x15_1 ∧ Aside0 (tariff_zone.l0 kq a1 a2 x7_1 x8_1 l0_1 (l0_1.length : Int) x15_1 = some r) ∧ Aside0 (kq ≤ k) ∧ Aside0 (w'.heap[gb112]? = some (.cells #[(.slice A0_0 l0_0.length c0_0), (.slice A0_1 l0_1.length c0_1)] 25 (0, 0))) ∧ Aside0 (Below w.heap.size w w'))
  case atStart => exact ⟨(0), ((-1)), (0), (by first | rfl | (simp; done) | (simp [*]; done)), (by first | rfl | (simp; done) | (simp [*]; done)), (by first | rfl | (simp; done) | (simp [*]; done)), H', ⟨Nat.le_refl _⟩, ⟨by (with_reducible repeat (first | refine blk_drewN ?_ _ | refine blk_drew ?_ | refine blk_alloc ?_ _)); exact BK112.out⟩, ⟨by repeat (first | (with_reducible first | exact HB.out | apply below_alloc | apply pw_below_drewN | apply below_drew1 | refine below_set ?_ GE112.out) | exact HB.out)⟩⟩
  case round =>
    clear H'
    try clear p2
    try clear c4
    try clear hcz5_0
    try clear hcz5_1
    try clear hfz5_0
    try clear hfz5_1
    obtain ⟨x7_1, x8_1, x15_1, rfl, rfl, rfl, HA, HK1, BK112, HB⟩ := hrel
    cases gk with
    | zero => exact absurd HA.out (by simp [tariff_zone.l0])
    | succ k1 =>
      have H := HA.out
      clear HA
      simp only [tariff_zone.l0] at H
      by_cases c6 : x15_1 < (l0_1.length : Int)
      · rw [if_pos c6] at H
        have c6b0 : decide (x15_1 < (l0_1.length : Int)) = true := decide_eq_true c6
        clear c6
        by_cases c7 : 0 ≤ x15_1
        · rw [if_pos c7] at H
          have c7b0 : decide (0 ≤ x15_1) = true := decide_eq_true c7
          clear c7
          by_cases c8 : x15_1 < (l0_1.length : Int)
          · rw [if_pos c8] at H
            have c8b0 : decide (x15_1 < (l0_1.length : Int)) = true := decide_eq_true c8
            clear c8
            by_cases c9 : (wrap64 ((wrap64 (100 * (((rd_T67 l0_1 x15_1).f0).size : Int))) + (((rd_T67 l0_1 x15_1).f1).size : Int))) > x8_1
            · rw [if_pos c9] at H
              have c9b0 : decide (x8_1 < (wrap64 ((wrap64 (100 * (((rd_T67 l0_1 x15_1).f0).size : Int))) + (((rd_T67 l0_1 x15_1).f1).size : Int)))) = true := decide_eq_true c9
              clear c9
              replace H := Option.bind_eq_some_iff.mp H
              obtain ⟨t115, A100, H⟩ := H
              replace H : (if t115 = true then ((strings_HasPrefix.f a2 ((rd_T67 l0_1 x15_1).f1)).bind fun t116 => (if t116 = true then (tariff_zone.l0 k1 a1 a2 ((rd_T67 l0_1 x15_1).f2) (wrap64 ((wrap64 (100 * (((rd_T67 l0_1 x15_1).f0).size : Int))) + (((rd_T67 l0_1 x15_1).f1).size : Int))) l0_1 (l0_1.length : Int) (wrap64 (x15_1 + 1))) else (tariff_zone.l0 k1 a1 a2 x7_1 x8_1 l0_1 (l0_1.length : Int) (wrap64 (x15_1 + 1))))) else (tariff_zone.l0 k1 a1 a2 x7_1 x8_1 l0_1 (l0_1.length : Int) (wrap64 (x15_1 + 1)))) = some r := H
              have A10 := Aside0.mk A100
              clear A100
              by_cases c11 : t115 = true
              · subst c11
                have H1 : ((strings_HasPrefix.f a2 ((rd_T67 l0_1 x15_1).f1)).bind fun t116 => (if t116 = true then (tariff_zone.l0 k1 a1 a2 ((rd_T67 l0_1 x15_1).f2) (wrap64 ((wrap64 (100 * (((rd_T67 l0_1 x15_1).f0).size : Int))) + (((rd_T67 l0_1 x15_1).f1).size : Int))) l0_1 (l0_1.length : Int) (wrap64 (x15_1 + 1))) else (tariff_zone.l0 k1 a1 a2 x7_1 x8_1 l0_1 (l0_1.length : Int) (wrap64 (x15_1 + 1))))) = some r := by rw [if_pos rfl] at H; exact H
                clear H
                have H := H1
                clear H1
                replace H := Option.bind_eq_some_iff.mp H
                obtain ⟨t116, A120, H⟩ := H
                replace H : (if t116 = true then (tariff_zone.l0 k1 a1 a2 ((rd_T67 l0_1 x15_1).f2) (wrap64 ((wrap64 (100 * (((rd_T67 l0_1 x15_1).f0).size : Int))) + (((rd_T67 l0_1 x15_1).f1).size : Int))) l0_1 (l0_1.length : Int) (wrap64 (x15_1 + 1))) else (tariff_zone.l0 k1 a1 a2 x7_1 x8_1 l0_1 (l0_1.length : Int) (wrap64 (x15_1 + 1)))) = some r := H
                have A12 := Aside0.mk A120
                clear A120
                by_cases c13 : t116 = true
                · subst c13
                  have H1 : (tariff_zone.l0 k1 a1 a2 ((rd_T67 l0_1 x15_1).f2) (wrap64 ((wrap64 (100 * (((rd_T67 l0_1 x15_1).f0).size : Int))) + (((rd_T67 l0_1 x15_1).f1).size : Int))) l0_1 (l0_1.length : Int) (wrap64 (x15_1 + 1))) = some r := by rw [if_pos rfl] at H; exact H
                  clear H
                  have H := H1
                  clear H1
                  have H' := Aside0.mk H
                  clear H
                  have p113 : 0 ≤ (x15_1 : Int) := of_decide_eq_true (by first | (with_reducible assumption) | assumption)
                  have q113 : x15_1 < (l0_1.length : Int) := of_decide_eq_true (by first | (with_reducible assumption) | assumption)
                  obtain ⟨ad113, e113, hx113_0, hx113_1, hx113_2⟩ := at_T67 HR0_1.out x15_1 p113 q113
                  cases e113
                  replace hx113_0 := (HB.out.cell (World.block_lt_of_cell? w _ hx113_0)).trans hx113_0
                  replace hx113_1 := (HB.out.cell (World.block_lt_of_cell? w _ hx113_1)).trans hx113_1
                  replace hx113_2 := (HB.out.cell (World.block_lt_of_cell? w _ hx113_2)).trans hx113_2
                  replace p113 := eq_true p113
                  replace q113 := eq_true q113
                  go_wp2_with (first | ((with_reducible refine gate_dst (N := 10) rfl ?_); refine box_event ?hg (N := 10) ?hd (cs := #[.string (⟨#[]⟩ : ByteArray), .string (⟨#[]⟩ : ByteArray), .int .i64 0]) (t := 67) ?hr ?_; (case hd => rfl); (case hg => rfl); (case hr => first | (go_simp; done) | (go_simp; rfl)); intro gb114 hg w14 hbox hb; have n0_ := Aside0.mk (blk_below (g := gb112) (o := .cells #[.slice A0_0 l0_0.length c0_0, .slice (some ad113) l0_1.length c0_1] 25 (0, 0)) (by (with_reducible repeat (first | refine blk_drewN ?_ _ | refine blk_drew ?_ | refine blk_alloc ?_ _)); exact BK112.out) hb); have n1_ := Aside0.mk (below_step (by repeat (first | (with_reducible first | exact HB.out | apply below_alloc | apply pw_below_drewN | apply below_drew1 | refine below_set ?_ GE112.out) | exact HB.out)) hb); have n2_ := Aside0.mk (hbox); have n3_ := Aside0.mk ((by rw [hg]; exact (below_size (by repeat (first | (with_reducible first | exact HB.out | apply below_alloc | apply pw_below_drewN | apply below_drew1 | refine below_set ?_ GE112.out) | exact HB.out))) : w.heap.size ≤ gb114)); have n4_ := Aside0.mk ((by rw [hg]; exact (below_size (by repeat (first | (with_reducible first | exact HB.out | apply below_alloc | apply pw_below_drewN | apply below_drew1 | refine below_set ?_ GE112.out) | exact HB.out))) : w.heap.size ≤ gb114)); have n5_ := Aside0.mk ((by rw [hg]; exact Nat.ne_of_lt (blk_lt (g := gb112) (o := .cells #[.slice A0_0 l0_0.length c0_0, .slice (some ad113) l0_1.length c0_1] 25 (0, 0)) (by (with_reducible repeat (first | refine blk_drewN ?_ _ | refine blk_drew ?_ | refine blk_alloc ?_ _)); exact BK112.out)) : gb112 ≠ gb114)); have n6_ := Aside0.mk ((by rw [hg]; exact Nat.ne_of_gt (blk_lt (g := gb112) (o := .cells #[.slice A0_0 l0_0.length c0_0, .slice (some ad113) l0_1.length c0_1] 25 (0, 0)) (by (with_reducible repeat (first | refine blk_drewN ?_ _ | refine blk_drew ?_ | refine blk_alloc ?_ _)); exact BK112.out)) : gb114 ≠ gb112)); clear BK112; clear HB; have BK112 := n0_; have HB := n1_; have BK114 := n2_; have GW114 := n3_; have GE114 := n4_; have NB112_114 := n5_; have NB114_112 := n6_; clear n0_ n1_ n2_ n3_ n4_ n5_ n6_; clear hb hbox hg; have hnb15 := NB114_112.out; have hnc15 := NB112_114.out; have hcz16_0 : w14.cell? ⟨gb114, 0, none⟩ = some (.string (⟨#[]⟩ : ByteArray)) := (blk_cell BK114.out 0).trans rfl; have hcz16_1 : w14.cell? ⟨gb114, 1, none⟩ = some (.string (⟨#[]⟩ : ByteArray)) := (blk_cell BK114.out 1).trans rfl; have hcz16_2 : w14.cell? ⟨gb114, 2, none⟩ = some (.int .i64 0) := (blk_cell BK114.out 2).trans rfl; have hfz16_0 := blk_frozen BK114.out 0; have hfz16_1 := blk_frozen BK114.out 1; have hfz16_2 := blk_frozen BK114.out 2) | (go_at_call 66; (with_reducible refine (strings_HasPrefix.calls a1 ((rd_T67 l0_1 x15_1).f0) true _ A10.out).mono ?_); rintro e w' ⟨rfl, ⟨nd, rfl⟩⟩) | (go_at_call 66; (with_reducible refine (strings_HasPrefix.calls a2 ((rd_T67 l0_1 x15_1).f1) true _ A12.out).mono ?_); rintro e w' ⟨rfl, ⟨nd, rfl⟩⟩))
                  go_roundg k1
                  case measure => have := HK1.out; omega
                  case rel => exact ⟨((rd_T67 l0_1 x15_1).f2), (wrap64 ((wrap64 (100 * (((rd_T67 l0_1 x15_1).f0).size : Int))) + (((rd_T67 l0_1 x15_1).f1).size : Int))), (wrap64 (x15_1 + 1)), (by first | rfl | (simp; done) | (simp [*]; done)), (by first | rfl | (simp; done) | (simp [*]; done)), (by first | rfl | (simp; done) | (simp [*]; done)), H', ⟨by have := HK1.out; omega⟩, ⟨by (with_reducible repeat (first | refine blk_drewN ?_ _ | refine blk_drew ?_ | refine blk_alloc ?_ _)); refine blk_far ?_ NB112_114.out _; (with_reducible repeat (first | refine blk_drewN ?_ _ | refine blk_drew ?_ | refine blk_alloc ?_ _)); refine blk_far ?_ NB112_114.out _; (with_reducible repeat (first | refine blk_drewN ?_ _ | refine blk_drew ?_ | refine blk_alloc ?_ _)); refine blk_far ?_ NB112_114.out _; (with_reducible repeat (first | refine blk_drewN ?_ _ | refine blk_drew ?_ | refine blk_alloc ?_ _)); exact BK112.out⟩, ⟨by repeat (first | (with_reducible first | exact HB.out | apply below_alloc | apply pw_below_drewN | apply below_drew1 | refine below_set ?_ GE112.out | refine below_set ?_ GE114.out) | exact HB.out)⟩⟩
                · replace c13 := Bool.eq_false_iff.mpr c13
                  subst c13
                  have H1 : (tariff_zone.l0 k1 a1 a2 x7_1 x8_1 l0_1 (l0_1.length : Int) (wrap64 (x15_1 + 1))) = some r := by rw [if_neg (show ¬ (false = true) by decide)] at H; exact H
                  clear H
                  have H := H1
                  clear H1
                  have H' := Aside0.mk H
                  clear H
                  have p113 : 0 ≤ (x15_1 : Int) := of_decide_eq_true (by first | (with_reducible assumption) | assumption)
                  have q113 : x15_1 < (l0_1.length : Int) := of_decide_eq_true (by first | (with_reducible assumption) | assumption)
                  obtain ⟨ad113, e113, hx113_0, hx113_1, hx113_2⟩ := at_T67 HR0_1.out x15_1 p113 q113
                  cases e113
                  replace hx113_0 := (HB.out.cell (World.block_lt_of_cell? w _ hx113_0)).trans hx113_0
                  replace hx113_1 := (HB.out.cell (World.block_lt_of_cell? w _ hx113_1)).trans hx113_1
                  replace hx113_2 := (HB.out.cell (World.block_lt_of_cell? w _ hx113_2)).trans hx113_2
                  replace p113 := eq_true p113
                  replace q113 := eq_true q113
                  go_wp2_with (first | ((with_reducible refine gate_dst (N := 10) rfl ?_); refine box_event ?hg (N := 10) ?hd (cs := #[.string (⟨#[]⟩ : ByteArray), .string (⟨#[]⟩ : ByteArray), .int .i64 0]) (t := 67) ?hr ?_; (case hd => rfl); (case hg => rfl); (case hr => first | (go_simp; done) | (go_simp; rfl)); intro gb114 hg w17 hbox hb; have n0_ := Aside0.mk (blk_below (g := gb112) (o := .cells #[.slice A0_0 l0_0.length c0_0, .slice (some ad113) l0_1.length c0_1] 25 (0, 0)) (by (with_reducible repeat (first | refine blk_drewN ?_ _ | refine blk_drew ?_ | refine blk_alloc ?_ _)); exact BK112.out) hb); have n1_ := Aside0.mk (below_step (by repeat (first | (with_reducible first | exact HB.out | apply below_alloc | apply pw_below_drewN | apply below_drew1 | refine below_set ?_ GE112.out) | exact HB.out)) hb); have n2_ := Aside0.mk (hbox); have n3_ := Aside0.mk ((by rw [hg]; exact (below_size (by repeat (first | (with_reducible first | exact HB.out | apply below_alloc | apply pw_below_drewN | apply below_drew1 | refine below_set ?_ GE112.out) | exact HB.out))) : w.heap.size ≤ gb114)); have n4_ := Aside0.mk ((by rw [hg]; exact (below_size (by repeat (first | (with_reducible first | exact HB.out | apply below_alloc | apply pw_below_drewN | apply below_drew1 | refine below_set ?_ GE112.out) | exact HB.out))) : w.heap.size ≤ gb114)); have n5_ := Aside0.mk ((by rw [hg]; exact Nat.ne_of_lt (blk_lt (g := gb112) (o := .cells #[.slice A0_0 l0_0.length c0_0, .slice (some ad113) l0_1.length c0_1] 25 (0, 0)) (by (with_reducible repeat (first | refine blk_drewN ?_ _ | refine blk_drew ?_ | refine blk_alloc ?_ _)); exact BK112.out)) : gb112 ≠ gb114)); have n6_ := Aside0.mk ((by rw [hg]; exact Nat.ne_of_gt (blk_lt (g := gb112) (o := .cells #[.slice A0_0 l0_0.length c0_0, .slice (some ad113) l0_1.length c0_1] 25 (0, 0)) (by (with_reducible repeat (first | refine blk_drewN ?_ _ | refine blk_drew ?_ | refine blk_alloc ?_ _)); exact BK112.out)) : gb114 ≠ gb112)); clear BK112; clear HB; have BK112 := n0_; have HB := n1_; have BK114 := n2_; have GW114 := n3_; have GE114 := n4_; have NB112_114 := n5_; have NB114_112 := n6_; clear n0_ n1_ n2_ n3_ n4_ n5_ n6_; clear hb hbox hg; have hnb18 := NB114_112.out; have hnc18 := NB112_114.out; have hcz19_0 : w17.cell? ⟨gb114, 0, none⟩ = some (.string (⟨#[]⟩ : ByteArray)) := (blk_cell BK114.out 0).trans rfl; have hcz19_1 : w17.cell? ⟨gb114, 1, none⟩ = some (.string (⟨#[]⟩ : ByteArray)) := (blk_cell BK114.out 1).trans rfl; have hcz19_2 : w17.cell? ⟨gb114, 2, none⟩ = some (.int .i64 0) := (blk_cell BK114.out 2).trans rfl; have hfz19_0 := blk_frozen BK114.out 0; have hfz19_1 := blk_frozen BK114.out 1; have hfz19_2 := blk_frozen BK114.out 2) | (go_at_call 66; (with_reducible refine (strings_HasPrefix.calls a1 ((rd_T67 l0_1 x15_1).f0) true _ A10.out).mono ?_); rintro e w' ⟨rfl, ⟨nd, rfl⟩⟩) | (go_at_call 66; (with_reducible refine (strings_HasPrefix.calls a2 ((rd_T67 l0_1 x15_1).f1) false _ A12.out).mono ?_); rintro e w' ⟨rfl, ⟨nd, rfl⟩⟩))
                  go_roundg k1
                  case measure => have := HK1.out; omega
                  case rel => exact ⟨(x7_1), (x8_1), (wrap64 (x15_1 + 1)), (by first | rfl | (simp; done) | (simp [*]; done)), (by first | rfl | (simp; done) | (simp [*]; done)), (by first | rfl | (simp; done) | (simp [*]; done)), H', ⟨by have := HK1.out; omega⟩, ⟨by (with_reducible repeat (first | refine blk_drewN ?_ _ | refine blk_drew ?_ | refine blk_alloc ?_ _)); refine blk_far ?_ NB112_114.out _; (with_reducible repeat (first | refine blk_drewN ?_ _ | refine blk_drew ?_ | refine blk_alloc ?_ _)); refine blk_far ?_ NB112_114.out _; (with_reducible repeat (first | refine blk_drewN ?_ _ | refine blk_drew ?_ | refine blk_alloc ?_ _)); refine blk_far ?_ NB112_114.out _; (with_reducible repeat (first | refine blk_drewN ?_ _ | refine blk_drew ?_ | refine blk_alloc ?_ _)); exact BK112.out⟩, ⟨by repeat (first | (with_reducible first | exact HB.out | apply below_alloc | apply pw_below_drewN | apply below_drew1 | refine below_set ?_ GE112.out | refine below_set ?_ GE114.out) | exact HB.out)⟩⟩
              · replace c11 := Bool.eq_false_iff.mpr c11
                subst c11
                have H1 : (tariff_zone.l0 k1 a1 a2 x7_1 x8_1 l0_1 (l0_1.length : Int) (wrap64 (x15_1 + 1))) = some r := by rw [if_neg (show ¬ (false = true) by decide)] at H; exact H
                clear H
                have H := H1
                clear H1
                have H' := Aside0.mk H
                clear H
                have p113 : 0 ≤ (x15_1 : Int) := of_decide_eq_true (by first | (with_reducible assumption) | assumption)
                have q113 : x15_1 < (l0_1.length : Int) := of_decide_eq_true (by first | (with_reducible assumption) | assumption)
                obtain ⟨ad113, e113, hx113_0, hx113_1, hx113_2⟩ := at_T67 HR0_1.out x15_1 p113 q113
                cases e113
                replace hx113_0 := (HB.out.cell (World.block_lt_of_cell? w _ hx113_0)).trans hx113_0
                replace hx113_1 := (HB.out.cell (World.block_lt_of_cell? w _ hx113_1)).trans hx113_1
                replace hx113_2 := (HB.out.cell (World.block_lt_of_cell? w _ hx113_2)).trans hx113_2
                replace p113 := eq_true p113
                replace q113 := eq_true q113
                go_wp2_with (first | ((with_reducible refine gate_dst (N := 10) rfl ?_); refine box_event ?hg (N := 10) ?hd (cs := #[.string (⟨#[]⟩ : ByteArray), .string (⟨#[]⟩ : ByteArray), .int .i64 0]) (t := 67) ?hr ?_; (case hd => rfl); (case hg => rfl); (case hr => first | (go_simp; done) | (go_simp; rfl)); intro gb114 hg w20 hbox hb; have n0_ := Aside0.mk (blk_below (g := gb112) (o := .cells #[.slice A0_0 l0_0.length c0_0, .slice (some ad113) l0_1.length c0_1] 25 (0, 0)) (by (with_reducible repeat (first | refine blk_drewN ?_ _ | refine blk_drew ?_ | refine blk_alloc ?_ _)); exact BK112.out) hb); have n1_ := Aside0.mk (below_step (by repeat (first | (with_reducible first | exact HB.out | apply below_alloc | apply pw_below_drewN | apply below_drew1 | refine below_set ?_ GE112.out) | exact HB.out)) hb); have n2_ := Aside0.mk (hbox); have n3_ := Aside0.mk ((by rw [hg]; exact (below_size (by repeat (first | (with_reducible first | exact HB.out | apply below_alloc | apply pw_below_drewN | apply below_drew1 | refine below_set ?_ GE112.out) | exact HB.out))) : w.heap.size ≤ gb114)); have n4_ := Aside0.mk ((by rw [hg]; exact (below_size (by repeat (first | (with_reducible first | exact HB.out | apply below_alloc | apply pw_below_drewN | apply below_drew1 | refine below_set ?_ GE112.out) | exact HB.out))) : w.heap.size ≤ gb114)); have n5_ := Aside0.mk ((by rw [hg]; exact Nat.ne_of_lt (blk_lt (g := gb112) (o := .cells #[.slice A0_0 l0_0.length c0_0, .slice (some ad113) l0_1.length c0_1] 25 (0, 0)) (by (with_reducible repeat (first | refine blk_drewN ?_ _ | refine blk_drew ?_ | refine blk_alloc ?_ _)); exact BK112.out)) : gb112 ≠ gb114)); have n6_ := Aside0.mk ((by rw [hg]; exact Nat.ne_of_gt (blk_lt (g := gb112) (o := .cells #[.slice A0_0 l0_0.length c0_0, .slice (some ad113) l0_1.length c0_1] 25 (0, 0)) (by (with_reducible repeat (first | refine blk_drewN ?_ _ | refine blk_drew ?_ | refine blk_alloc ?_ _)); exact BK112.out)) : gb114 ≠ gb112)); clear BK112; clear HB; have BK112 := n0_; have HB := n1_; have BK114 := n2_; have GW114 := n3_; have GE114 := n4_; have NB112_114 := n5_; have NB114_112 := n6_; clear n0_ n1_ n2_ n3_ n4_ n5_ n6_; clear hb hbox hg; have hnb21 := NB114_112.out; have hnc21 := NB112_114.out; have hcz22_0 : w20.cell? ⟨gb114, 0, none⟩ = some (.string (⟨#[]⟩ : ByteArray)) := (blk_cell BK114.out 0).trans rfl; have hcz22_1 : w20.cell? ⟨gb114, 1, none⟩ = some (.string (⟨#[]⟩ : ByteArray)) := (blk_cell BK114.out 1).trans rfl; have hcz22_2 : w20.cell? ⟨gb114, 2, none⟩ = some (.int .i64 0) := (blk_cell BK114.out 2).trans rfl; have hfz22_0 := blk_frozen BK114.out 0; have hfz22_1 := blk_frozen BK114.out 1; have hfz22_2 := blk_frozen BK114.out 2) | (go_at_call 66; (with_reducible refine (strings_HasPrefix.calls a1 ((rd_T67 l0_1 x15_1).f0) false _ A10.out).mono ?_); rintro e w' ⟨rfl, ⟨nd, rfl⟩⟩))
                go_roundg k1
                case measure => have := HK1.out; omega
                case rel => exact ⟨(x7_1), (x8_1), (wrap64 (x15_1 + 1)), (by first | rfl | (simp; done) | (simp [*]; done)), (by first | rfl | (simp; done) | (simp [*]; done)), (by first | rfl | (simp; done) | (simp [*]; done)), H', ⟨by have := HK1.out; omega⟩, ⟨by (with_reducible repeat (first | refine blk_drewN ?_ _ | refine blk_drew ?_ | refine blk_alloc ?_ _)); refine blk_far ?_ NB112_114.out _; (with_reducible repeat (first | refine blk_drewN ?_ _ | refine blk_drew ?_ | refine blk_alloc ?_ _)); refine blk_far ?_ NB112_114.out _; (with_reducible repeat (first | refine blk_drewN ?_ _ | refine blk_drew ?_ | refine blk_alloc ?_ _)); refine blk_far ?_ NB112_114.out _; (with_reducible repeat (first | refine blk_drewN ?_ _ | refine blk_drew ?_ | refine blk_alloc ?_ _)); exact BK112.out⟩, ⟨by repeat (first | (with_reducible first | exact HB.out | apply below_alloc | apply pw_below_drewN | apply below_drew1 | refine below_set ?_ GE112.out | refine below_set ?_ GE114.out) | exact HB.out)⟩⟩
            · rw [if_neg c9] at H
              have c9b0 : decide (x8_1 < (wrap64 ((wrap64 (100 * (((rd_T67 l0_1 x15_1).f0).size : Int))) + (((rd_T67 l0_1 x15_1).f1).size : Int)))) = false := decide_eq_false c9
              clear c9
              have H' := Aside0.mk H
              clear H
              have p113 : 0 ≤ (x15_1 : Int) := of_decide_eq_true (by first | (with_reducible assumption) | assumption)
              have q113 : x15_1 < (l0_1.length : Int) := of_decide_eq_true (by first | (with_reducible assumption) | assumption)
              obtain ⟨ad113, e113, hx113_0, hx113_1, hx113_2⟩ := at_T67 HR0_1.out x15_1 p113 q113
              cases e113
              replace hx113_0 := (HB.out.cell (World.block_lt_of_cell? w _ hx113_0)).trans hx113_0
              replace hx113_1 := (HB.out.cell (World.block_lt_of_cell? w _ hx113_1)).trans hx113_1
              replace hx113_2 := (HB.out.cell (World.block_lt_of_cell? w _ hx113_2)).trans hx113_2
              replace p113 := eq_true p113
              replace q113 := eq_true q113
              go_wp2_with (first | ((with_reducible refine gate_dst (N := 10) rfl ?_); refine box_event ?hg (N := 10) ?hd (cs := #[.string (⟨#[]⟩ : ByteArray), .string (⟨#[]⟩ : ByteArray), .int .i64 0]) (t := 67) ?hr ?_; (case hd => rfl); (case hg => rfl); (case hr => first | (go_simp; done) | (go_simp; rfl)); intro gb114 hg w23 hbox hb; have n0_ := Aside0.mk (blk_below (g := gb112) (o := .cells #[.slice A0_0 l0_0.length c0_0, .slice (some ad113) l0_1.length c0_1] 25 (0, 0)) (by (with_reducible repeat (first | refine blk_drewN ?_ _ | refine blk_drew ?_ | refine blk_alloc ?_ _)); exact BK112.out) hb); have n1_ := Aside0.mk (below_step (by repeat (first | (with_reducible first | exact HB.out | apply below_alloc | apply pw_below_drewN | apply below_drew1 | refine below_set ?_ GE112.out) | exact HB.out)) hb); have n2_ := Aside0.mk (hbox); have n3_ := Aside0.mk ((by rw [hg]; exact (below_size (by repeat (first | (with_reducible first | exact HB.out | apply below_alloc | apply pw_below_drewN | apply below_drew1 | refine below_set ?_ GE112.out) | exact HB.out))) : w.heap.size ≤ gb114)); have n4_ := Aside0.mk ((by rw [hg]; exact (below_size (by repeat (first | (with_reducible first | exact HB.out | apply below_alloc | apply pw_below_drewN | apply below_drew1 | refine below_set ?_ GE112.out) | exact HB.out))) : w.heap.size ≤ gb114)); have n5_ := Aside0.mk ((by rw [hg]; exact Nat.ne_of_lt (blk_lt (g := gb112) (o := .cells #[.slice A0_0 l0_0.length c0_0, .slice (some ad113) l0_1.length c0_1] 25 (0, 0)) (by (with_reducible repeat (first | refine blk_drewN ?_ _ | refine blk_drew ?_ | refine blk_alloc ?_ _)); exact BK112.out)) : gb112 ≠ gb114)); have n6_ := Aside0.mk ((by rw [hg]; exact Nat.ne_of_gt (blk_lt (g := gb112) (o := .cells #[.slice A0_0 l0_0.length c0_0, .slice (some ad113) l0_1.length c0_1] 25 (0, 0)) (by (with_reducible repeat (first | refine blk_drewN ?_ _ | refine blk_drew ?_ | refine blk_alloc ?_ _)); exact BK112.out)) : gb114 ≠ gb112)); clear BK112; clear HB; have BK112 := n0_; have HB := n1_; have BK114 := n2_; have GW114 := n3_; have GE114 := n4_; have NB112_114 := n5_; have NB114_112 := n6_; clear n0_ n1_ n2_ n3_ n4_ n5_ n6_; clear hb hbox hg; have hnb24 := NB114_112.out; have hnc24 := NB112_114.out; have hcz25_0 : w23.cell? ⟨gb114, 0, none⟩ = some (.string (⟨#[]⟩ : ByteArray)) := (blk_cell BK114.out 0).trans rfl; have hcz25_1 : w23.cell? ⟨gb114, 1, none⟩ = some (.string (⟨#[]⟩ : ByteArray)) := (blk_cell BK114.out 1).trans rfl; have hcz25_2 : w23.cell? ⟨gb114, 2, none⟩ = some (.int .i64 0) := (blk_cell BK114.out 2).trans rfl; have hfz25_0 := blk_frozen BK114.out 0; have hfz25_1 := blk_frozen BK114.out 1; have hfz25_2 := blk_frozen BK114.out 2))
              go_roundg k1
              case measure => have := HK1.out; omega
              case rel => exact ⟨(x7_1), (x8_1), (wrap64 (x15_1 + 1)), (by first | rfl | (simp; done) | (simp [*]; done)), (by first | rfl | (simp; done) | (simp [*]; done)), (by first | rfl | (simp; done) | (simp [*]; done)), H', ⟨by have := HK1.out; omega⟩, ⟨by (with_reducible repeat (first | refine blk_drewN ?_ _ | refine blk_drew ?_ | refine blk_alloc ?_ _)); refine blk_far ?_ NB112_114.out _; (with_reducible repeat (first | refine blk_drewN ?_ _ | refine blk_drew ?_ | refine blk_alloc ?_ _)); refine blk_far ?_ NB112_114.out _; (with_reducible repeat (first | refine blk_drewN ?_ _ | refine blk_drew ?_ | refine blk_alloc ?_ _)); refine blk_far ?_ NB112_114.out _; (with_reducible repeat (first | refine blk_drewN ?_ _ | refine blk_drew ?_ | refine blk_alloc ?_ _)); exact BK112.out⟩, ⟨by repeat (first | (with_reducible first | exact HB.out | apply below_alloc | apply pw_below_drewN | apply below_drew1 | refine below_set ?_ GE112.out | refine below_set ?_ GE114.out) | exact HB.out)⟩⟩
          · rw [if_neg c8] at H
            exact absurd H (by simp)
        · rw [if_neg c7] at H
          exact absurd H (by simp)
      · rw [if_neg c6] at H
        have c6b0 : decide (x15_1 < (l0_1.length : Int)) = false := decide_eq_false c6
        clear c6
        obtain rfl := Option.some.inj H
        go_wp2
        go_ret
        exact ⟨by first | rfl | (simp [errW_none, errW_some] <;> rfl) | (simp [*, errW_none, errW_some] <;> rfl), by repeat (first | (with_reducible first | exact HB.out | apply below_alloc | apply pw_below_drewN | apply below_drew1 | refine below_set ?_ GE112.out) | exact HB.out)⟩
end Go.Proofs.YtfglcfbcdhjcdaaDoor.Q

namespace Go.Proofs.YtfglcfbcdhjcdaaDoor.Q
open Go.RowKit Go.Proofs.YtfglcfbcdhjcdaaDoorW.PrintWords Go.Proofs.YtfglcfbcdhjcdaaDoorW.PrintLast Go.Proofs.YtfglcfbcdhjcdaaDoorW.PrintMore
set_option linter.unusedVariables false
set_option linter.unusedSimpArgs false
def stepAt (g : Int) (l : List S61) : Int := match l.findIdx? (fun s => decide (g ≤ s.f0)) with | none => -1 | some i => (i : Int)
def tariff_price.f (a0_0 : Int) (l0_1 : List (S61)) (a0_2 : Int) (a1 : Int) (a2 : Int) : Option (Int × Int) :=
  if stepAt a2 l0_1 < 0 then some (0, 3) else if 1 ≤ a1 ∧ a1 ≤ ((rd_T61 l0_1 (stepAt a2 l0_1)).f1.length : Int) then some (rd (rd_T61 l0_1 (stepAt a2 l0_1)).f1 (a1 - 1), 0) else none
theorem priceFn.calls (g x : Int) (A : Option Addr) (n c B : Nat) (w : World) (hB : w.cell? ⟨B, 0, none⟩ = some (.int .i64 g)) :
    Calls Tryd.prog 65 #[.agg #[.int .i64 x, .slice A n c], .pointer (some ⟨B, 0, none⟩)] w fun e w' => e = .returned (.bool (decide (g ≤ x))) ∧ Below w.heap.size w w' := by
  have hlt : B < w.heap.size := World.block_lt_of_cell? w ⟨B, 0, none⟩ hB
  go_enter Tryd.func65, Tryd.ntmps65
  go_wp2
  go_ret
  exact ⟨rfl, (Below.refl _ _).alloc (Nat.le_refl _) _⟩
theorem stepAt_hit (g : Int) (l : List S61) (k : Nat) (hk : k < l.length) (h : g ≤ (rd_T61 l k).f0) (hb : ∀ j : Nat, j < k → (rd_T61 l j).f0 < g) : stepAt g l = (k : Int) := by
  unfold stepAt
  have : l.findIdx? (fun s => decide (g ≤ s.f0)) = some k := by
    rw [List.findIdx?_eq_some_iff_getElem]
    refine ⟨hk, ?_, fun j hj => ?_⟩
    · simpa [rd_T61, List.getD_eq_getElem?_getD, List.getElem?_eq_getElem hk] using h
    · have := Int.not_le.2 (hb j hj)
      simp [rd_T61, List.getD_eq_getElem?_getD, List.getElem?_eq_getElem (show j < l.length by omega)] at this
      simp; omega
  rw [this]
theorem stepAt_none (g : Int) (l : List S61) (hb : ∀ j : Nat, j < l.length → (rd_T61 l j).f0 < g) : stepAt g l = -1 := by
  unfold stepAt
  have : l.findIdx? (fun s => decide (g ≤ s.f0)) = none := by
    rw [List.findIdx?_eq_none_iff]
    intro x hx
    obtain ⟨j, hj, rfl⟩ := List.getElem_of_mem hx
    have := Int.not_le.2 (hb j hj)
    simp [rd_T61, List.getD_eq_getElem?_getD, List.getElem?_eq_getElem hj] at this
    simp; omega
  rw [this]
theorem stepAt_range (g : Int) (l : List S61) : -1 ≤ stepAt g l ∧ stepAt g l < l.length := by
  unfold stepAt
  split
  · omega
  · rename_i i h
    obtain ⟨h, _⟩ := List.findIdx?_eq_some_iff_getElem.1 h
    omega
set_option maxHeartbeats 1000000 in
theorem priceIdx.calls (g : Int) (A : Option Addr) (c : Nat) (l : List S61) (B : Nat) (w : World) (hr : Kd.C k61 w A l.length l) (hB : w.cell? ⟨B, 0, none⟩ = some (.int .i64 g)) :
    Calls Tryd.prog 64 #[.slice A l.length c, .func (.func 65) #[] #[.pointer (some ⟨B, 0, none⟩)]] w fun e w' => e = .returned (.int .i64 (stepAt g l)) ∧ Below w.heap.size w w' := by
  have hlt : B < w.heap.size := World.block_lt_of_cell? w ⟨B, 0, none⟩ hB
  have hle : l.length ≤ 9223372036854775807 := hr.2.1
  have HR := Aside0.mk hr
  have HBc := Aside0.mk hB
  clear hr hB
  generalize hn : l.length = n at *
  have HN := Aside0.mk hn
  clear hn
  go_enter Tryd.func64, Tryd.ntmps64
  go_wp2
  go_loopg [5, 8] n (fun gg _ s8 wr => ∃ kk : Nat, kk ≤ n ∧ n - kk ≤ gg ∧ s8 = .int .i64 kk ∧ Aside0 (Below w.heap.size w wr) ∧ Aside0 (∀ j : Nat, j < kk → (rd_T61 l j).f0 < g))
  case atStart => exact ⟨0, Nat.zero_le _, by omega, rfl, ⟨Below.refl _ w⟩, ⟨fun j hj => absurd hj (Nat.not_lt_zero _)⟩⟩
  case round =>
    obtain ⟨kk, hkk, hg, rfl, BW, HA⟩ := hrel
    by_cases hlt2 : kk < n
    · obtain ⟨ad, A1, c1, rfl, hc0, hc1, -, -⟩ := at_T61 (Kd.C_below HR.out BW.out) (kk : Int) (by omega) (by omega)
      simp only [Int.toNat_natCast] at hc0 hc1
      have hcall := priceFn.calls g (rd_T61 l kk).f0 A1 (rd_T61 l kk).f1.length c1 B wr ((BW.out.cell (p := ⟨B, 0, none⟩) hlt).trans HBc.out)
      by_cases hq : g ≤ (rd_T61 l kk).f0
      · rw [decide_eq_true hq] at hcall
        have HQ := Aside0.mk hq
        have HC := Aside0.mk hcall
        clear hq hcall
        go_wp2_with (go_at_call 65; refine HC.out.mono ?_; rintro e w' ⟨rfl, hb'⟩)
        go_ret
        refine ⟨?_, BW.out.trans (hb'.mono BW.out.size)⟩
        rw [stepAt_hit g l kk (by have := HN.out; omega) HQ.out (fun j hj => HA.out j hj)]
        rfl
      · rw [decide_eq_false hq] at hcall
        have HQ := Aside0.mk hq
        have HC := Aside0.mk hcall
        clear hq hcall
        go_wp2_with (go_at_call 65; refine HC.out.mono ?_; rintro e w' ⟨rfl, hb'⟩)
        go_roundg (n - (kk + 1))
        case measure => omega
        case rel => exact ⟨kk + 1, by omega, Nat.le_refl _, by go_num, ⟨BW.out.trans (hb'.mono BW.out.size)⟩, ⟨fun j hj => by
          rcases Nat.lt_or_ge j kk with h | h
          · exact HA.out j h
          · obtain rfl : j = kk := by omega
            have := HQ.out; omega⟩⟩
    · obtain rfl : n = kk := by omega
      go_wp2
      go_ret
      refine ⟨?_, BW.out⟩
      rw [stepAt_none g l (fun j hj => HA.out j (by have := HN.out; omega))]
      rfl
set_option maxHeartbeats 1000000 in
theorem tariff_price.calls (a0_0 : Int) (A0_1 : Option Addr) (c0_1 : Nat) (l0_1 : List (S61)) (a0_2 : Int) (a1 : Int) (a2 : Int) (r1 : Int) (r2 : Int) (w : World) (hr0_1 : Kd.C k61 w A0_1 l0_1.length l0_1) (hc0_1 : l0_1.length ≤ c0_1) (h : tariff_price.f a0_0 l0_1 a0_2 a1 a2 = some (r1, r2)) :
    Calls Tryd.prog 42 #[.agg #[.int .u8 a0_0, .slice A0_1 l0_1.length c0_1, .int .i64 a0_2], .int .i64 a1, .int .i64 a2] w fun e w' => e = .returned (.tuple #[.int .i64 r1, .int .i64 r2]) ∧ Below w.heap.size w w' := by
  unfold tariff_price.f at h
  have hrg := stepAt_range a2 l0_1
  have hcon : ∀ W : World, Below w.heap.size w W → W.cell? ⟨w.heap.size + 1, 0, none⟩ = some (.int .i64 a2) → _ := fun W hb hB => priceIdx.calls a2 A0_1 c0_1 l0_1 (w.heap.size + 1) W (Kd.C_below hr0_1 hb) hB
  have HCON := Aside0.mk hcon
  clear hcon
  have hle : l0_1.length ≤ 9223372036854775807 := hr0_1.2.1
  have HR := Aside0.mk hr0_1
  clear hr0_1
  split at h
  · rename_i hneg
    have hst : stepAt a2 l0_1 = -1 := by omega
    simp only [Option.some.injEq, Prod.mk.injEq] at h
    obtain ⟨rfl, rfl⟩ := h
    rw [hst] at HCON
    clear hneg hst hrg
    go_enter Tryd.func42, Tryd.ntmps42
    go_wp2_with (go_at_call 64; refine (HCON.out _ (((Below.refl _ _).alloc (Nat.le_refl _) _).alloc (by simp) _) (by simp)).mono ?_; rintro e w' ⟨rfl, hb'⟩)
    go_ret2
    exact ⟨rfl, below_then (((Below.refl _ _).alloc (Nat.le_refl _) _).alloc (by simp) _) (by simp; omega) hb'⟩
  · rename_i hneg
    split at h
    · rename_i hz
      obtain ⟨hz1, hz2⟩ := hz
      simp only [Option.some.injEq, Prod.mk.injEq] at h
      obtain ⟨rfl, rfl⟩ := h
      obtain ⟨i, hi⟩ : ∃ i : Nat, stepAt a2 l0_1 = (i : Int) := ⟨(stepAt a2 l0_1).toNat, by omega⟩
      rw [hi] at HCON hz2 hrg ⊢
      clear hneg
      have hil : i < l0_1.length := by omega
      have hcw := fun W (hb : Below w.heap.size w W) => at_T61 (Kd.C_below HR.out hb) (i : Int) (by omega) (by omega)
      have HC := Aside0.mk hcw
      clear hcw hi
      generalize rd_T61 l0_1 (i : Int) = s at *
      have hneg : decide ((i : Int) < 0) = false := by simp
      have hb2 : a1 ≤ 9223372036854775807 := by
        have := (HC.out w (Below.refl _ _)).choose_spec.choose_spec.choose_spec.2.2.2.2.2.1
        omega
      have hb3 : a1 - 1 < (s.f1.length : Int) := by omega
      clear hz2 hrg
      go_enter Tryd.func42, Tryd.ntmps42
      go_wp2_with (go_at_call 64; refine (HCON.out _ (((Below.refl _ _).alloc (Nat.le_refl _) _).alloc (by simp) _) (by simp)).mono ?_; rintro e w' ⟨rfl, hb'⟩; have hbw := Aside0.mk (below_then (((Below.refl w.heap.size w).alloc (Nat.le_refl _) _).alloc (by simp) _) (by simp; omega) hb'); obtain ⟨hcl, hfr⟩ := bcell hb'; obtain ⟨ad, A1, c1, rfl, hc0, hc1, hl1, hr1⟩ := HC.out w' hbw.out; simp only [Int.toNat_natCast] at hc0 hc1; obtain ⟨ad2, rfl, hc2⟩ := Kd.at_int hr1 (a1 - 1) (by omega) (by omega); rw [show (a1 - 1).toNat = a1.toNat - 1 from by omega] at hc2; clear hb' HCON HC)
      go_ret2
      exact ⟨rfl, hbw.out⟩
    · cases h
end Go.Proofs.YtfglcfbcdhjcdaaDoor.Q
