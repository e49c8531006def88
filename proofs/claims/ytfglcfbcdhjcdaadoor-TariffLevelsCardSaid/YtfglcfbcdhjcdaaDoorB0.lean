/- For every input letterbaglaw24's law returns true and leaves its arguments as they were; the card of this row. Conditions: none but those of the statement. -/
import Derived.Below
import Derived.Deep.Draws
import Derived.Deep.AppendLies
import Derived.Maps.AppendAt
import Derived.OwnWalk
import Derived.Laws.BytesArg
import Derived.Laws.MakeOwn
import Derived.Laws.OwnMore
import Derived.Deep.OwnRows
import Derived.Tactics
import Derived.Lib.ConvBytes
import Derived.Laws.Slices
import Derived.WalkKit
import Derived.KernelRfl
import Derived.RowKit3
import Derived.Deep.LoopGhost
import Derived.Deep.QuietTactic
import Derived.BigQuiet
import Derived.WideLaws
import Derived.Deep.DeepCutAuto
import Derived.Deep.CutBlock
import Derived.Deep.RegionHeld3
import Derived.Laws.Rows
import Derived.Lib.AppendStr
import Derived.ArgAppend
import Derived.Laws.IdiomCopy
import Derived.RowKit
import Derived.Test.YtfglcfbcdhjcdaaDoorProg
import Derived.OrdersHeld
import Derived.Laws.BitsLemmas
import Derived.Test.YtfglcfbcdhjcdaaDoorCards
import Derived.Test.YtfglcfbcdhjcdaaDoorTie
import Derived.ProofKit
import Derived.OpenShut
import Derived.ShutString
import Derived.ChangeOld
import Derived.SizedLaws
import Derived.Deep.DeepHandedRow
import Derived.Lib.LaidTab
import Derived.Test.YtfglcfbcdhjcdaaDoorA0
import Derived.Test.YtfglcfbcdhjcdaaDoorA1
import Derived.Test.YtfglcfbcdhjcdaaDoorA2
import Derived.Test.YtfglcfbcdhjcdaaDoorA3
import Derived.Test.YtfglcfbcdhjcdaaDoorA4
set_option linter.unusedVariables false
set_option linter.unusedSimpArgs false
namespace Go.Proofs.YtfglcfbcdhjcdaaDoorW.PrintWords
open Go.RowKit
theorem ReadsRow.inner_ {α : Type} {R : α → List Value → Prop} {size : Nat} {w : World} {ad : Addr} {n : Nat} {ps : List α} (h : ReadsRow R size w (some ad) n ps) :
  ∃ inner, Reps R size ps inner ∧ ∀ j u, inner[j]? = some u → w.cell? (ad.add j) = some u := by
 have key : ∀ m, m ≤ ps.length → ∃ inner, Reps R size (ps.take m) inner ∧ ∀ j u, inner[j]? = some u → w.cell? (ad.add j) = some u := by
  intro m
  induction m with
  | zero => exact fun _ => ⟨[], Reps.none _ _, fun j u hu => by simp at hu⟩
  | succ m ih =>
   intro hm
   obtain ⟨inner, hr, hc⟩ := ih (by omega)
   obtain ⟨ad', he, hcell⟩ := h.2.2 (by have := h.1; omega)
   injection he with he
   subst he
   obtain ⟨c, hcl, hp, hcc⟩ := hcell m _ (List.getElem?_eq_getElem (show m < ps.length by omega))
   refine ⟨inner ++ c, ?_, fun j u hu => ?_⟩
   ·rw [List.take_succ_eq_append_getElem (show m < ps.length by omega)]
    exact hr.snoc hp hcl
   ·have hil : inner.length = m * size := by rw [hr.1, List.length_take, Nat.min_eq_left (by omega)]
    rcases Nat.lt_or_ge j inner.length with hj | hj
    ·rw [List.getElem?_append_left hj] at hu
     exact hc j u hu
    ·rw [List.getElem?_append_right hj] at hu
     have := hcc (j - inner.length) u hu
     rwa [hil, Nat.add_sub_cancel' (by omega)] at this
 obtain ⟨inner, hr, hc⟩ := key ps.length (Nat.le_refl _)
 rw [List.take_length] at hr
 exact ⟨inner, hr, hc⟩
section
variable {w w1 : World} {base n size : Nat} {e : TypeId} {v : Value} {xs : List Value}
theorem setCells_far {g : Nat} : ∀ (vs : List Value) (o : Nat) {w : World} (k : Nat), k ≠ g → (w.setCells g o vs).heap[k]? = w.heap[k]?
 | [], _, _, _, _ => rfl
 | v :: r, o, w, k, hk => by
  rw [World.setCells, setCells_far r (o + 1) k hk]
  exact Below.heap_setCell w ⟨g, o, none⟩ v k hk
theorem setCells_same (g : Nat) : ∀ (vs : List Value) (o : Nat) (w : World), (w.setCells g o vs).os = w.os ∧ (w.setCells g o vs).tape = w.tape ∧ (w.setCells g o vs).output = w.output ∧ (w.setCells g o vs).heap.size = w.heap.size
 | [], _, _ => ⟨rfl, rfl, rfl, rfl⟩
 | v :: r, o, w => by
  obtain ⟨h1, h2, h3, h4⟩ := setCells_same g r (o + 1) (w.setCell ⟨g, o, none⟩ v)
  rw [World.setCells]
  exact ⟨h1, h2, h3, by rw [h4]; simp [World.setCell]⟩
theorem setCells_row {g : Nat} {e : TypeId} : ∀ (vs : List Value) (o : Nat) (w : World) (cur : Array Value), w.heap[g]? = some (.cells cur e (0, 0)) → o + vs.length ≤ cur.size →
  ∃ cur', (w.setCells g o vs).heap[g]? = some (.cells cur' e (0, 0)) ∧ cur'.size = cur.size ∧ cur'.toList = cur.toList.take o ++ vs ++ cur.toList.drop (o + vs.length)
 | [], o, w, cur, h, _ => ⟨cur, h, rfl, by simp⟩
 | v :: r, o, w, cur, h, hl => by
  have h2 := blk_set h o v
  simp only [List.length_cons] at hl
  obtain ⟨cur', h3, h4, h5⟩ := setCells_row r (o + 1) (w.setCell ⟨g, o, none⟩ v) _ h2 (by simp; omega)
  refine ⟨cur', h3, by rw [h4]; simp, ?_⟩
  rw [h5, Array.toList_setIfInBounds]
  have ho : o < cur.toList.length := by rw [Array.length_toList]; omega
  rw [List.take_set, List.drop_set_of_lt (by omega)]
  simp only [List.length_cons]
  rw [show o + 1 + r.length = o + (r.length + 1) by omega]
  congr 1
  rw [List.take_succ_eq_append_getElem ho, List.set_append_right _ _ (by rw [List.length_take]; omega)]
  have ho' : o < cur.size := by omega
  simp [Nat.min_eq_left (Nat.le_of_lt ho')]
end
theorem seg_get {α : Type} (a seg : List α) (o : Nat) (h : o + seg.length ≤ a.length) (q : Nat) :
  (a.take o ++ seg ++ a.drop (o + seg.length))[q]? = if q < o then a[q]? else if q < o + seg.length then seg[q - o]? else a[q]? := by
 have hl : (a.take o).length = o := by rw [List.length_take]; omega
 rw [List.append_assoc]
 by_cases h1 : q < o
 ·rw [if_pos h1, List.getElem?_append_left (by omega), List.getElem?_take, if_pos h1]
 ·rw [if_neg h1, List.getElem?_append_right (by omega), hl]
  by_cases h2 : q < o + seg.length
  ·rw [if_pos h2, List.getElem?_append_left (by omega)]
  ·rw [if_neg h2, List.getElem?_append_right (by omega), List.getElem?_drop]
   congr 1
   omega
namespace Kd
section
variable {α : Type} {d : Kd α} {e base g n cap : Nat} {ok okp : Nat → Prop} {W : World} {xs : List α}
theorem R_elem (h : d.R e W base ok (.slice (some ⟨g, 0, none⟩) n cap) xs) (z : α) (i : Int) (h0 : 0 ≤ i) (h1 : i < n) :
  ∃ c, c.length = d.sz ∧ d.M W base (fun k => ok k ∧ k ≠ g) (xs.getD i.toNat z) c ∧ (∀ j u, c[j]? = some u → W.cell? ⟨g, i.toNat * d.sz + j, none⟩ = some u) ∧ ∀ j, W.frozen? ⟨g, i.toNat * d.sz + j, none⟩ = false := by
 obtain ⟨hn, hnc, hC⟩ := R_reads' h
 obtain ⟨_, inner, ho, hr⟩ := h
 have hil : i.toNat < xs.length := by omega
 have hseg : i.toNat * d.sz + d.sz ≤ inner.length := by rw [hr.1, ← Nat.succ_mul]; exact Nat.mul_le_mul_right _ hil
 have hM := hr.2 i.toNat _ (List.getElem?_eq_getElem hil)
 refine ⟨(inner.drop (i.toNat * d.sz)).take d.sz, by rw [List.length_take, List.length_drop]; omega, ?_, fun j u hu => ?_, fun j => ?_⟩
 ·rw [List.getD_eq_getElem?_getD, List.getElem?_eq_getElem hil]
  exact d.M_mono (fun k hk => ⟨hk.1, fun he => hk.2 (by rw [he]; simp [Value.ownBlock])⟩) hM
 ·rw [List.getElem?_take] at hu
  split at hu
  ·rw [List.getElem?_drop] at hu
   have := ho.cells (g := g) (by simp [Value.ownBlock]) _ u hu
   rwa [add_plain] at this
  ·cases hu
 ·obtain ⟨cells, hc⟩ := own_typed ho g (by simp [Value.ownBlock])
  exact blk_frozen hc _
theorem R_seg (h : d.R e W base ok (.slice (some ⟨g, 0, none⟩) n cap) xs) (i : Int) (h0 : 0 ≤ i) (h1 : i < n) {c seg : List Value} {j : Nat} (hcl : c.length = d.sz) (hcc : ∀ j u, c[j]? = some u → W.cell? ⟨g, i.toNat * d.sz + j, none⟩ = some u)
  (hj : j + seg.length ≤ d.sz) {x' : α} (hM : d.M W base okp x' (c.take j ++ seg ++ c.drop (j + seg.length))) (hokp : ∀ k, okp k → ok k ∧ k ≠ g) :
  d.R e (W.setCells g (i.toNat * d.sz + j) seg) base ok (.slice (some ⟨g, 0, none⟩) n cap) (xs.set i.toNat x') ∧ W.grownBy (W.setCells g (i.toNat * d.sz + j) seg) (some g) := by
 obtain ⟨hn, hnc, _⟩ := R_reads' h
 obtain ⟨hok, inner, ho, hr⟩ := h
 have hil : i.toNat < xs.length := by omega
 have hseg : i.toNat * d.sz + d.sz ≤ inner.length := by rw [hr.1, ← Nat.succ_mul]; exact Nat.mul_le_mul_right _ hil
 have hin : inner.length = n * d.sz := by rw [hr.1, hn]
 obtain ⟨ho1, ho2⟩ := ho
 rcases ho2 with ⟨hv, _⟩ | ⟨g', cap', cur, hv, hb, hh, hnc', hcm, hcs, ht⟩
 ·cases hv
 injection hv with ha _ hc
 injection ha with ha
 injection ha with hg
 subst hg; subst hc
 have hfit : i.toNat * d.sz + j + seg.length ≤ cur.size := by
  have : n * d.sz ≤ cap * d.sz := Nat.mul_le_mul_right _ hnc
  omega
 obtain ⟨cur', h3, h4, h5⟩ := setCells_row seg (i.toNat * d.sz + j) W cur hh hfit
 obtain ⟨s1, s2, s3, s4⟩ := setCells_same g seg (i.toNat * d.sz + j) W
 have hfar : ∀ k, k ≠ g → (W.setCells g (i.toNat * d.sz + j) seg).heap[k]? = W.heap[k]? := fun k hk => setCells_far seg _ k hk

 have hcin : ∀ q, q < d.sz → c[q]? = inner[i.toNat * d.sz + q]? := by
  intro q hq
  have hq' : q < c.length := by omega
  have h6 := hcc q _ (List.getElem?_eq_getElem hq')
  rw [cell_of_row W g _ cur e (0, 0) hh] at h6
  rw [List.getElem?_eq_getElem hq', ← h6, ← ht, List.getElem?_take, if_pos (by rw [← hn]; omega), Array.getElem?_toList]
 refine ⟨⟨hok, inner.take (i.toNat * d.sz + j) ++ seg ++ inner.drop (i.toNat * d.sz + j + seg.length), ⟨?_, .inr ⟨g, cap, cur', by rw [List.length_set, hn], hb, h3, by rw [List.length_set, ← hn]; exact hnc, hcm, by rw [h4, hcs], ?_⟩⟩, ?_⟩,
  ⟨s1, s2, s3, by rw [s4]; exact Nat.le_refl _, fun k _ hk => hfar k (fun he => hk (by rw [he]))⟩⟩
 ·rw [List.length_set]
  simp only [List.length_append, List.length_take, List.length_drop]
  rw [hr.1] at hseg ⊢
  omega
 ·rw [List.length_set, ← hn]
  apply List.ext_getElem?
  intro q
  rw [List.getElem?_take, h5]
  rw [seg_get cur.toList seg (i.toNat * d.sz + j) (by rw [Array.length_toList]; omega) q, seg_get inner seg (i.toNat * d.sz + j) (by omega) q]
  have hcur : ∀ q, q < n * d.sz → cur.toList[q]? = inner[q]? := by
   intro q hq
   rw [← ht, List.getElem?_take, if_pos (by rw [← hn]; exact hq)]
  by_cases hq : q < n * d.sz
  ·rw [if_pos hq, hcur q hq]
  ·rw [if_neg hq, if_neg (by omega), if_neg (by omega), List.getElem?_eq_none (by omega)]
 ·refine ⟨?_, fun m p hm => ?_⟩
  ·rw [List.length_set]
   simp only [List.length_append, List.length_take, List.length_drop]
   rw [hr.1] at hseg ⊢
   omega
  ·have hml : m < xs.length := by
    have := (List.getElem?_eq_some_iff.1 hm).1
    rwa [List.length_set] at this
   have hmfit : m * d.sz + d.sz ≤ inner.length := by rw [hr.1, ← Nat.succ_mul]; exact Nat.mul_le_mul_right _ hml
   have hgo : some g = (Value.slice (some ⟨g, 0, none⟩) n cap).ownBlock := by simp [Value.ownBlock]
   by_cases hmi : m = i.toNat
   ·subst hmi
    rw [List.getElem?_set_self (by omega)] at hm
    injection hm with hm
    subst hm
    have hcells : ((inner.take (i.toNat * d.sz + j) ++ seg ++ inner.drop (i.toNat * d.sz + j + seg.length)).drop (i.toNat * d.sz)).take d.sz = c.take j ++ seg ++ c.drop (j + seg.length) := by
     apply List.ext_getElem?
     intro q
     rw [List.getElem?_take, List.getElem?_drop, seg_get inner seg _ (by omega), seg_get c seg j (by omega) q]
     by_cases hq : q < d.sz
     ·rw [if_pos hq, hcin q hq]
      by_cases hq1 : q < j
      ·rw [if_pos (by omega), if_pos hq1]
      ·rw [if_neg (by omega), if_neg hq1]
       by_cases hq2 : q < j + seg.length
       ·rw [if_pos (by omega), if_pos hq2]
        congr 1
        omega
       ·rw [if_neg (by omega), if_neg hq2]
     ·rw [if_neg hq, if_neg (by omega), if_neg (by omega), List.getElem?_eq_none (by omega)]
    rw [hcells]
    refine d.M_mono (fun k hk => ?_) (d.M_move (w1 := W.setCells g (i.toNat * d.sz + j) seg) (fun k hk => hfar k (hokp k hk).2) hM)
    exact ⟨(hokp k hk).1, fun he => (hokp k hk).2 (by rw [← hgo] at he; injection he)⟩
   ·rw [List.getElem?_set_ne (by omega)] at hm
    have hold := hr.2 m p hm
    have hcells : ((inner.take (i.toNat * d.sz + j) ++ seg ++ inner.drop (i.toNat * d.sz + j + seg.length)).drop (m * d.sz)).take d.sz = (inner.drop (m * d.sz)).take d.sz := by
     apply List.ext_getElem?
     intro q
     rw [List.getElem?_take, List.getElem?_take, List.getElem?_drop, List.getElem?_drop, seg_get inner seg _ (by omega)]
     by_cases hq : q < d.sz
     ·rw [if_pos hq, if_pos hq]
      rcases Nat.lt_or_gt_of_ne hmi with hlt | hgt
      ·have : m * d.sz + d.sz ≤ i.toNat * d.sz := by rw [← Nat.succ_mul]; exact Nat.mul_le_mul_right _ hlt
       rw [if_pos (by omega)]
      ·have : i.toNat * d.sz + d.sz ≤ m * d.sz := by rw [← Nat.succ_mul]; exact Nat.mul_le_mul_right _ hgt
       rw [if_neg (by omega), if_neg (by omega)]
     ·rw [if_neg hq, if_neg hq]
    rw [hcells]
    refine d.M_move (fun k hk => hfar k (fun he => hk.2 (by rw [he]; exact hgo))) hold
end
end Kd
namespace Kd
theorem reps_append {α : Type} {R : α → List Value → Prop} {size : Nat} {ps qs : List α} {cs ds : List Value} (h : Reps R size ps cs) (h' : Reps R size qs ds) : Reps R size (ps ++ qs) (cs ++ ds) := by
 refine ⟨by rw [List.length_append, List.length_append, h.1, h'.1, Nat.add_mul], fun j p hj => ?_⟩
 rcases Nat.lt_or_ge j ps.length with hlt | hge
 ·rw [List.getElem?_append_left hlt] at hj
  have hle : j * size + size ≤ cs.length := by rw [h.1, ← Nat.succ_mul]; exact Nat.mul_le_mul_right _ hlt
  rw [List.drop_append_of_le_length (by omega), List.take_append_of_le_length (by rw [List.length_drop]; omega)]
  exact h.2 j p hj
 ·rw [List.getElem?_append_right hge] at hj
  have h2 := h'.2 (j - ps.length) p hj
  have hle : ps.length * size ≤ j * size := Nat.mul_le_mul_right _ hge
  rw [List.drop_append, List.drop_eq_nil_of_le (by rw [h.1]; exact hle), List.nil_append, h.1, ← Nat.sub_mul]
  exact h2
section
variable {P : Program} {ops : Array Oper} {rest : List Oper} {o : Oper} {a : Act} {Q : Exit → Act → World → Prop} {α : Type}
theorem R_append_rows (d : Kd α) {Rr : α → List Value → Prop} {w0 W : World} (base : Nat) (hgd : o.guard = none) (s x : Operand) (t e : TypeId) (z : Value) (bytes : Nat)
  (ho : o.op = .call { callee := .builtin .append, args := #[s, x], argTypes := #[t, t] })
  (ht : P.underlying t = some (.slice e)) (hinfo : (P.info? e).map (fun i => (i.zero, i.size, i.bytes)) = some (some z, d.sz, bytes)) (hz : z.cells.size = d.sz) (hs0 : 0 < d.sz) (hb0 : 0 < bytes)
  (v : Value) (xs ys : List α) (A : Option Addr) (m c : Nat) (ok okp : Nat → Prop) (hs : a.eval s = v) (hx : a.eval x = .slice A m c)
  (HO : d.R e W base ok v xs) (HR : ReadsRow Rr d.sz W A m ys) (hKM : ∀ x cs, Rr x cs → d.M W base okp x cs) (hokp : ∀ k, okp k → ok k ∧ some k ≠ v.ownBlock) (hfresh : ∀ k, W.heap.size ≤ k → ok k)
  (HB : Below base w0 W) (hbase : base ≤ W.heap.size) (hl : (xs.length + m) * bytes ≤ 140737488355328)
  (h : ∀ v1 w1, d.R e w1 base ok v1 (xs ++ ys) → Below base w0 w1 → W.grownBy w1 v.ownBlock → (v1.ownBlock = v.ownBlock ∨ ∃ b, v1.ownBlock = some b ∧ W.heap.size ≤ b) → wpList P ops Q rest (a.put o.dst v1) w1) :
  wpList P ops Q (o :: rest) a W := by
 obtain ⟨i0, hi, hzz⟩ := Option.map_eq_some_iff.1 hinfo
 simp only [Prod.mk.injEq] at hzz
 obtain ⟨hz0, hz1, hz2⟩ := hzz
 have hm : ys.length = m := HR.1
 have hlen : xs.length + m ≤ 140737488355328 := Nat.le_trans (Nat.le_mul_of_pos_right _ hb0) hl
 obtain ⟨hok, inner, hown, hr⟩ := HO
 have hrun : ∃ v1 w1, (Builtin.append_ #[t, t] o.type #[v, .slice A m c]).run P W = .ok v1 w1 ∧ d.R e w1 base ok v1 (xs ++ ys) ∧ W.grownBy w1 v.ownBlock ∧ (v1.ownBlock = v.ownBlock ∨ ∃ b, v1.ownBlock = some b ∧ W.heap.size ≤ b) := by
  rcases A with _ | ad
  ·have h0 : m = 0 := by
    rcases Nat.eq_zero_or_pos m with h0 | h0
    ·exact h0
    ·obtain ⟨ad, h, _⟩ := HR.2.2 h0
     cases h
   subst h0
   obtain rfl : ys = [] := List.eq_nil_of_length_eq_zero hm
   refine ⟨v, W, ?_, by rw [List.append_nil]; exact ⟨hok, inner, hown, hr⟩, World.grownBy.refl W _, .inl rfl⟩
   rcases hown.2 with ⟨rfl, hn⟩ | ⟨g, cap, cur, rfl, _, _, hnc, _⟩
   ·simp [Builtin.append_, run_underlying ht, sizeOf, typeInfo, hi, Builtin.lenOf, Builtin.firstCells]
   ·simp [Builtin.append_, run_underlying ht, sizeOf, typeInfo, hi, Builtin.lenOf, Builtin.firstCells, hnc, storeCells]
  ·obtain ⟨news, hnr, hnc⟩ := ReadsRow.inner_ HR
   have hnM : Reps (d.M W base okp) d.sz ys news := hnr.imp_ (fun p c hp => hKM p c hp)
   have hone : ∀ u ∈ news, u.oneCell' = true := by
    intro u hu
    obtain ⟨q, hq, rfl⟩ := List.mem_iff_getElem.1 hu
    have hql : q / d.sz < ys.length := by
     rw [Nat.div_lt_iff_lt_mul hs0]
     rw [← hnM.1]
     exact hq
    have hc := hnM.2 (q / d.sz) _ (List.getElem?_eq_getElem hql)
    refine d.K_one (d.K_of_M hc) _ ?_
    rw [List.mem_iff_getElem?]
    refine ⟨q % d.sz, ?_⟩
    rw [List.getElem?_take, if_pos (Nat.mod_lt _ hs0), List.getElem?_drop, Nat.mul_comm, Nat.div_add_mod, List.getElem?_eq_getElem hq]
   obtain ⟨v1, w1, hrun, h2, hg, _, hat⟩ := run_append_own_at (P := P) W base t o.type e i0 z d.sz bytes ht hi hz0 hz1 hz2 hz hs0 v xs.length inner hown ad m c news (by rw [hnM.1, hm]) hnc hone (by simp only [maxLen]; omega) hl hbase
   have hat' : v1.ownBlock = v.ownBlock ∨ ∃ b, v1.ownBlock = some b ∧ W.heap.size ≤ b := by
    rcases hat with hat | hat
    ·exact .inl hat
    ·exact .inr ⟨_, hat, Nat.le_refl _⟩
   have hne : ∀ k, some k ≠ v.ownBlock → k < W.heap.size → some k ≠ v1.ownBlock := by
    intro k hk hlt
    rcases hat' with hat | ⟨b, hb, hle⟩
    ·rw [hat]; exact hk
    ·rw [hb]
     intro he
     injection he with he
     omega
   have step : ∀ {q : α} {c : List Value} {o : Nat → Prop}, d.M W base o q c → (∀ k, o k → ok k ∧ some k ≠ v.ownBlock) → d.M w1 base (fun k => ok k ∧ some k ≠ v1.ownBlock) q c := by
    intro q c o hq ho
    have h1 := d.M_move (w1 := w1) (fun k hk => hg.block k hk.2.2.1 (ho k hk.1).2) (d.M_bound hq)
    exact d.M_mono (fun k hk => ⟨(ho k hk.1).1, hne k (ho k hk.1).2 hk.2.2.1⟩) h1
   refine ⟨v1, w1, hrun, ⟨fun k hk => ?_, inner ++ news, by rw [List.length_append, hm]; exact h2, reps_append (hr.imp_ (fun _ _ hq => step hq (fun _ hk => hk))) (hnM.imp_ (fun _ _ hq => step hq hokp))⟩, hg, hat'⟩
   rcases hat' with hat | ⟨b, hb, hle⟩
   ·exact hok k (hat ▸ hk)
   ·rw [hb] at hk
    injection hk with hk
    exact hfresh k (by omega)
 obtain ⟨v1, w1, hr1, h1, hg, hat⟩ := hrun
 refine wpList_plain hgd fun K hK => ?_
 unfold Oper.wp execOp
 simp only [ho, resolve, invoke, builtin, Sem.run_bind, Sem.run_pure, Result.andThen_ok, List.map_toArray, List.map_cons, List.map_nil, hs, hx, hr1]
 exact hK _ _ (h v1 w1 h1 (HB.grown hg hbase (own_base hown)) hg hat)
end
end Kd
end Go.Proofs.YtfglcfbcdhjcdaaDoorW.PrintWords

namespace Go.Proofs.YtfglcfbcdhjcdaaDoor.Q
open Go.RowKit Go.Proofs.YtfglcfbcdhjcdaaDoorW.PrintWords Go.Proofs.YtfglcfbcdhjcdaaDoorW.PrintLast Go.Proofs.YtfglcfbcdhjcdaaDoorW.PrintMore
attribute [local go_sem] max2_int min2_int max_two min_two max_three min_three max_four min_four
set_option linter.unusedVariables false
set_option linter.unusedSimpArgs false
theorem k48_openM {w : World} {base : Nat} {ok : Nat → Prop} {x : S48} {cs : List Value} (h : k48.M w base ok x cs) : cs = [.int .i64 x.f0, .int .i64 x.f1, .string x.f2, .int .i64 x.f3, .bool x.f4] := by
 obtain ⟨_, _, rfl, rfl, ⟨_, _, rfl, rfl, ⟨_, _, rfl, rfl, ⟨_, _, rfl, rfl, rfl⟩⟩⟩⟩ := h
 exact rfl
theorem k54_openM {w : World} {base : Nat} {ok : Nat → Prop} {x : S54} {cs : List Value} (h : k54.M w base ok x cs) : ∃ v2, cs = [.string x.f0, .int .i64 x.f1, v2, .int .i64 x.f3, .int .i64 x.f4] ∧ k90.R 90 w base ok v2 x.f2 := by
 obtain ⟨_, _, rfl, rfl, ⟨_, _, rfl, rfl, ⟨_, _, rfl, ⟨v2, rfl, g2⟩, ⟨_, _, rfl, rfl, rfl⟩⟩⟩⟩ := h
 exact ⟨v2, rfl, g2⟩
end Go.Proofs.YtfglcfbcdhjcdaaDoor.Q

namespace Go.Proofs.YtfglcfbcdhjcdaaDoor.Q
open Go.RowKit Go.Proofs.YtfglcfbcdhjcdaaDoorW.PrintWords Go.Proofs.YtfglcfbcdhjcdaaDoorW.PrintLast Go.Proofs.YtfglcfbcdhjcdaaDoorW.PrintMore
attribute [local go_sem] max2_int min2_int max_two min_two max_three min_three max_four min_four
set_option linter.unusedVariables false
set_option linter.unusedSimpArgs false
set_option maxHeartbeats 8000000 in
set_option maxRecDepth 100000 in
theorem letterbagkit_CopyPieces.calls (A0 : Option Addr) (c0 : Nat) (l0 : List (S48)) (r : List (S48)) (w : World) (hr0 : Kd.C k48 w A0 l0.length l0) (hc0 : l0.length ≤ c0) (h : letterbagkit_CopyPieces.f l0 = some r) :
  Calls Tryd.prog 51 #[.slice A0 l0.length c0] w fun e w' => ∃ v0_ : Value, e = .returned (v0_) ∧ Kd.R k48 48 w' w.heap.size (fun _ => True) v0_ r ∧ Below w.heap.size w w' := by
 have HR0 := Aside0.mk hr0
 have HC0 := Aside0.mk hc0
 clear hr0 hc0
 have HB := Aside0.mk (Below.refl w.heap.size w)
 have H : (if ([] : List (S48)).length + l0.length < 2932031007402 then (some (([] : List (S48)) ++ l0)) else (none)) = some r := h
 clear h
 by_cases c2 : ([] : List (S48)).length + l0.length < 2932031007402
 ·rw [if_pos c2] at H
  have LMc2 := Aside0.mk c2
  clear c2
  obtain ⟨y410, hy410⟩ : ∃ y_ : List (S48), y_ = (([] : List (S48)) ++ l0) := ⟨_, rfl⟩
  replace H : (some y410) = some r := by first | (rw [hy410]; with_reducible exact H) | (have H2_ := (Option.bind_some _ _).symm.trans H; rw [hy410]; with_reducible exact H2_) | (have H2_ := (Option.bind_some _ _).symm.trans H; with_reducible exact H2_) | with_reducible exact H | (rw [hy410]; exact H) | exact H
  have Ny410 := Aside0.mk hy410
  clear hy410
  obtain rfl := Option.some.inj H
  go_enter Tryd.func51, Tryd.ntmps51
  go_wp2_with (first | ((with_reducible refine gate_builtin (b := .append) (xs := #[.tmp 4, .tmp 5]) rfl ?_); at_builtin; refine Kd.R_append_rows k48 (w0 := w) w.heap.size rfl (.tmp 4) (.tmp 5) 34 48 (.agg #[(.int .i64 0), (.int .i64 0), (.string ⟨#[]⟩), (.int .i64 0), (.bool false)]) 48 rfl Tryd.underlying34 info48 rfl (by decide) (by omega) (.slice none 0 0) ([] : List (S48)) l0 _ _ _ (fun _ => True) (fun _ => False) rfl rfl ?aO ?aR (fun _ _ h => h) (fun _ h => h.elim) ?aF ?aB ?aS ?aL ?_; (case aR => repeat (first | exact HR0.out | (with_reducible refine Kd.C_alloc ?_ _) | (with_reducible refine Kd.C_drewN ?_ _) | (with_reducible refine Kd.C_drew ?_))); (case aB => exact (by repeat (first | (with_reducible first | exact HB.out | apply below_alloc | apply pw_below_drewN | apply below_drew1) | exact HB.out))); (case aF => exact (fun _ _ => trivial)); (case aO => exact ((Kd.R_nil _ _ _ _ (fun _ => True)))); (case aS => exact (below_size (by repeat (first | (with_reducible first | exact HB.out | apply below_alloc | apply pw_below_drewN | apply below_drew1) | exact HB.out)))); (case aL => have := LMc2.out; omega); intro v411 w3 ho hb hg hat; rw [← Ny410.out] at ho; have n0_ := Aside0.mk (hb); have n1_ := Aside0.mk (ho); clear HB; have HB := n0_; have HO412 := n1_; clear n0_ n1_; clear ho hb hg hat))
  go_ret
  exact ⟨_, by first | rfl | (simp [errW_none, errW_some] <;> rfl) | (simp [*, errW_none, errW_some] <;> rfl), by (with_reducible repeat (first | apply Kd.R_alloc | apply Kd.R_drewN | apply Kd.R_drew)); exact HO412.out, by repeat (first | (with_reducible first | exact HB.out | apply below_alloc | apply pw_below_drewN | apply below_drew1) | exact HB.out)⟩
 ·rw [if_neg c2] at H
  exact absurd H (by simp)
set_option maxHeartbeats 8000000 in
set_option maxRecDepth 100000 in
theorem letterbagkit_CopyMailing.calls (a0_0 : Int) (a0_1 : Int) (a0_2 : ByteArray) (A0_3 : Option Addr) (c0_3 : Nat) (l0_3 : List (S48)) (r1 : Int) (r2 : Int) (r3 : ByteArray) (r4 : List (S48)) (w : World) (hr0_3 : Kd.C k48 w A0_3 l0_3.length l0_3) (hc0_3 : l0_3.length ≤ c0_3) (h : letterbagkit_CopyMailing.f a0_0 a0_1 a0_2 l0_3 = some (r1, r2, r3, r4)) :
  Calls Tryd.prog 26 #[.agg #[.int .u8 a0_0, .int .u8 a0_1, .string a0_2, .slice A0_3 l0_3.length c0_3]] w fun e w' => ∃ v3_ : Value, e = .returned (.agg #[.int .u8 r1, .int .u8 r2, .string r3, v3_]) ∧ Kd.R k48 48 w' w.heap.size (fun _ => True) v3_ r4 ∧ Below w.heap.size w w' := by
 have hu36 := Tryd.underlying36
 have HR0_3 := Aside0.mk hr0_3
 have HC0_3 := Aside0.mk hc0_3
 clear hr0_3 hc0_3
 have HB := Aside0.mk (Below.refl w.heap.size w)
 have H : ((letterbagkit_CopyPieces.f l0_3).bind fun t415 => (some (a0_0, a0_1, a0_2, t415))) = some (r1, r2, r3, r4) := h
 clear h
 replace H := Option.bind_eq_some_iff.mp H
 obtain ⟨t415, A20, H⟩ := H
 replace H : (some (a0_0, a0_1, a0_2, t415)) = some (r1, r2, r3, r4) := H
 have A2 := Aside0.mk A20
 clear A20
 simp only [Option.some.injEq, Prod.mk.injEq] at H
 obtain ⟨rfl, rfl, rfl, rfl⟩ := H
 go_enter Tryd.func26, Tryd.ntmps26
 go_wp2_with (first | ((with_reducible refine gate_dst (N := 1) rfl ?_); refine box_event ?hg (N := 1) ?hd (cs := #[.int .u8 a0_0, .int .u8 a0_1, .string a0_2, .slice A0_3 l0_3.length c0_3]) (t := 36) ?hr ?_; (case hd => rfl); (case hg => rfl); (case hr => first | (go_simp; done) | (go_simp; rfl)); intro gb413 hg w3 hbox hb; have n0_ := Aside0.mk (below_step (by repeat (first | (with_reducible first | exact HB.out | apply below_alloc | apply pw_below_drewN | apply below_drew1) | exact HB.out)) hb); have n1_ := Aside0.mk (hbox); have n2_ := Aside0.mk ((by rw [hg]; exact (below_size (by repeat (first | (with_reducible first | exact HB.out | apply below_alloc | apply pw_below_drewN | apply below_drew1) | exact HB.out))) : w.heap.size ≤ gb413)); have n3_ := Aside0.mk ((by rw [hg]; exact (below_size (by repeat (first | (with_reducible first | exact HB.out | apply below_alloc | apply pw_below_drewN | apply below_drew1) | exact HB.out))) : w.heap.size ≤ gb413)); clear HB; have HB := n0_; have BK413 := n1_; have GW413 := n2_; have GE413 := n3_; clear n0_ n1_ n2_ n3_; clear hb hbox hg) | ((with_reducible refine gate_dst (N := 2) rfl ?_); refine box_event ?hg (N := 2) ?hd (cs := #[.int .u8 0, .int .u8 0, .string (⟨#[]⟩ : ByteArray), .slice none 0 0]) (t := 36) ?hr ?_; (case hd => rfl); (case hg => rfl); (case hr => first | (go_simp; done) | (go_simp; rfl)); intro gb414 hg w4 hbox hb; have n0_ := Aside0.mk (blk_below (g := gb413) (o := .cells #[.int .u8 a0_0, .int .u8 a0_1, .string a0_2, .slice A0_3 l0_3.length c0_3] 36 (0, 0)) (by (with_reducible repeat (first | refine blk_drewN ?_ _ | refine blk_drew ?_ | refine blk_alloc ?_ _)); exact BK413.out) hb); have n1_ := Aside0.mk (below_step (by repeat (first | (with_reducible first | exact HB.out | apply below_alloc | apply pw_below_drewN | apply below_drew1 | refine below_set ?_ GE413.out) | exact HB.out)) hb); have n2_ := Aside0.mk (hbox); have n3_ := Aside0.mk ((by rw [hg]; exact (below_size (by repeat (first | (with_reducible first | exact HB.out | apply below_alloc | apply pw_below_drewN | apply below_drew1 | refine below_set ?_ GE413.out) | exact HB.out))) : w.heap.size ≤ gb414)); have n4_ := Aside0.mk ((by rw [hg]; exact (below_size (by repeat (first | (with_reducible first | exact HB.out | apply below_alloc | apply pw_below_drewN | apply below_drew1 | refine below_set ?_ GE413.out) | exact HB.out))) : w.heap.size ≤ gb414)); have n5_ := Aside0.mk ((by rw [hg]; exact Nat.ne_of_lt (blk_lt (g := gb413) (o := .cells #[.int .u8 a0_0, .int .u8 a0_1, .string a0_2, .slice A0_3 l0_3.length c0_3] 36 (0, 0)) (by (with_reducible repeat (first | refine blk_drewN ?_ _ | refine blk_drew ?_ | refine blk_alloc ?_ _)); exact BK413.out)) : gb413 ≠ gb414)); have n6_ := Aside0.mk ((by rw [hg]; exact Nat.ne_of_gt (blk_lt (g := gb413) (o := .cells #[.int .u8 a0_0, .int .u8 a0_1, .string a0_2, .slice A0_3 l0_3.length c0_3] 36 (0, 0)) (by (with_reducible repeat (first | refine blk_drewN ?_ _ | refine blk_drew ?_ | refine blk_alloc ?_ _)); exact BK413.out)) : gb414 ≠ gb413)); clear BK413; clear HB; have BK413 := n0_; have HB := n1_; have BK414 := n2_; have GW414 := n3_; have GE414 := n4_; have NB413_414 := n5_; have NB414_413 := n6_; clear n0_ n1_ n2_ n3_ n4_ n5_ n6_; clear hb hbox hg; have hnb5 := NB413_414.out; have hnc5 := NB414_413.out; have hcz6_0 : w4.cell? ⟨gb413, 0, none⟩ = some (.int .u8 a0_0) := (blk_cell BK413.out 0).trans rfl; have hcz6_1 : w4.cell? ⟨gb413, 1, none⟩ = some (.int .u8 a0_1) := (blk_cell BK413.out 1).trans rfl; have hcz6_2 : w4.cell? ⟨gb413, 2, none⟩ = some (.string a0_2) := (blk_cell BK413.out 2).trans rfl; have hcz6_3 : w4.cell? ⟨gb413, 3, none⟩ = some (.slice A0_3 l0_3.length c0_3) := (blk_cell BK413.out 3).trans rfl; have hfz6_0 := blk_frozen BK413.out 0; have hfz6_1 := blk_frozen BK413.out 1; have hfz6_2 := blk_frozen BK413.out 2; have hfz6_3 := blk_frozen BK413.out 3) | ((with_reducible refine gate_callee (f := 51) rfl ?_); refine goesL_ (some 5) rfl rfl Tryd.func51 (by kernel_rfl) rfl #[.slice A0_3 l0_3.length c0_3] rfl (by (try simp only [List.map_toArray, List.map_cons, List.map_nil]); first | done | rfl | (simp only [List.length_drop, List.length_take]; rfl)) ?_; (with_reducible refine (letterbagkit_CopyPieces.calls _ _ l0_3 t415 _ ?side1 ?side2 A2.out).mono ?_); (case side1 => repeat (first | exact (Kd.C_below HR0_3.out HB.out) | (with_reducible refine Kd.C_alloc ?_ _) | (with_reducible refine Kd.C_drewN ?_ _) | (with_reducible refine Kd.C_drew ?_))); (case side2 => exact HC0_3.out); rintro e w7 ⟨v416, rfl, ho0, hb⟩; refine ⟨_, rfl, ?_⟩; have n0_ := Aside0.mk (Kd.R_lower ho0 (below_size (by repeat (first | (with_reducible first | exact HB.out | apply below_alloc | apply pw_below_drewN | apply below_drew1 | refine below_set ?_ GE413.out | refine below_set ?_ GE414.out) | exact HB.out)))); have n1_ := Aside0.mk (blk_below (g := gb413) (o := .cells #[.int .u8 a0_0, .int .u8 a0_1, .string a0_2, .slice A0_3 l0_3.length c0_3] 36 (0, 0)) (by (with_reducible repeat (first | refine blk_drewN ?_ _ | refine blk_drew ?_ | refine blk_alloc ?_ _)); exact BK413.out) hb); have n2_ := Aside0.mk (blk_below (g := gb414) (o := .cells #[.int .u8 0, .int .u8 0, .string (⟨#[]⟩ : ByteArray), .slice none 0 0] 36 (0, 0)) (by (with_reducible repeat (first | refine blk_drewN ?_ _ | refine blk_drew ?_ | refine blk_alloc ?_ _)); exact BK414.out) hb); have n3_ := Aside0.mk (below_step (by repeat (first | (with_reducible first | exact HB.out | apply below_alloc | apply pw_below_drewN | apply below_drew1 | refine below_set ?_ GE413.out | refine below_set ?_ GE414.out) | exact HB.out)) hb); clear BK413; clear BK414; clear HB; have HO417 := n0_; have BK413 := n1_; have BK414 := n2_; have HB := n3_; clear n0_ n1_ n2_ n3_; (try clear hb); (try clear hb2); (try clear hk); (try clear hi); (try clear ho0); obtain ⟨Ao8, co8, eo8⟩ := Kd.R_slice HO417.out; subst eo8; have hcz9_0 : w7.cell? ⟨gb413, 0, none⟩ = some (.int .u8 a0_0) := (blk_cell BK413.out 0).trans rfl; have hcz9_1 : w7.cell? ⟨gb413, 1, none⟩ = some (.int .u8 a0_1) := (blk_cell BK413.out 1).trans rfl; have hcz9_2 : w7.cell? ⟨gb413, 2, none⟩ = some (.string a0_2) := (blk_cell BK413.out 2).trans rfl; have hcz9_3 : w7.cell? ⟨gb413, 3, none⟩ = some (.slice A0_3 l0_3.length c0_3) := (blk_cell BK413.out 3).trans rfl; have hfz9_0 := blk_frozen BK413.out 0; have hfz9_1 := blk_frozen BK413.out 1; have hfz9_2 := blk_frozen BK413.out 2; have hfz9_3 := blk_frozen BK413.out 3; have hcz10_0 : w7.cell? ⟨gb414, 0, none⟩ = some (.int .u8 0) := (blk_cell BK414.out 0).trans rfl; have hcz10_1 : w7.cell? ⟨gb414, 1, none⟩ = some (.int .u8 0) := (blk_cell BK414.out 1).trans rfl; have hcz10_2 : w7.cell? ⟨gb414, 2, none⟩ = some (.string (⟨#[]⟩ : ByteArray)) := (blk_cell BK414.out 2).trans rfl; have hcz10_3 : w7.cell? ⟨gb414, 3, none⟩ = some (.slice none 0 0) := (blk_cell BK414.out 3).trans rfl; have hfz10_0 := blk_frozen BK414.out 0; have hfz10_1 := blk_frozen BK414.out 1; have hfz10_2 := blk_frozen BK414.out 2; have hfz10_3 := blk_frozen BK414.out 3))
 refine bodyPost_ret (results_cell_row rfl _ _ gb414 36 #[.int .u8 a0_0, .int .u8 a0_1, .string a0_2, .slice Ao8 t415.length co8] (0, 0) _ rfl (by (with_reducible repeat (first | refine blk_drewN ?_ _ | refine blk_drew ?_ | refine blk_alloc ?_ _)); refine blk_put (cs := #[.int .u8 a0_0, .int .u8 a0_1, .string a0_2, .slice none 0 0]) ?_ 3 _ rfl; (with_reducible repeat (first | refine blk_drewN ?_ _ | refine blk_drew ?_ | refine blk_alloc ?_ _)); refine blk_put (cs := #[.int .u8 a0_0, .int .u8 a0_1, .string (⟨#[]⟩ : ByteArray), .slice none 0 0]) ?_ 2 _ rfl; (with_reducible repeat (first | refine blk_drewN ?_ _ | refine blk_drew ?_ | refine blk_alloc ?_ _)); refine blk_put (cs := #[.int .u8 a0_0, .int .u8 0, .string (⟨#[]⟩ : ByteArray), .slice none 0 0]) ?_ 1 _ rfl; (with_reducible repeat (first | refine blk_drewN ?_ _ | refine blk_drew ?_ | refine blk_alloc ?_ _)); refine blk_put (cs := #[.int .u8 0, .int .u8 0, .string (⟨#[]⟩ : ByteArray), .slice none 0 0]) ?_ 0 _ rfl; (with_reducible repeat (first | refine blk_drewN ?_ _ | refine blk_drew ?_ | refine blk_alloc ?_ _)); refine blk_far ?_ NB414_413.out _; (with_reducible repeat (first | refine blk_drewN ?_ _ | refine blk_drew ?_ | refine blk_alloc ?_ _)); exact BK414.out) Tryd.underlying36 rfl (by kernel_rfl)) rfl ?_
 exact ⟨_, by first | rfl | (simp [errW_none, errW_some] <;> rfl) | (simp [*, errW_none, errW_some] <;> rfl), by (with_reducible repeat (first | apply Kd.R_alloc | apply Kd.R_drewN | apply Kd.R_drew)); exact Kd.R_mono (Kd.R_far (p := ⟨gb414, 3, none⟩) (Kd.R_far (p := ⟨gb414, 2, none⟩) (Kd.R_far (p := ⟨gb414, 1, none⟩) (Kd.R_far (p := ⟨gb414, 0, none⟩) (Kd.R_far (p := ⟨gb413, 3, none⟩) (Kd.R_types (Kd.R_types HO417.out BK413.out (by decide)) BK414.out (by decide)) (fun _ hk => hk.1.2) (.slice Ao8 t415.length co8)) (fun _ hk => hk.2) (.int .u8 a0_0)) (fun _ hk => hk.2) (.int .u8 a0_1)) (fun _ hk => hk.2) (.string a0_2)) (fun _ hk => hk.2) (.slice Ao8 t415.length co8)) (fun _ hk => trivial), by repeat (first | (with_reducible first | exact HB.out | apply below_alloc | apply pw_below_drewN | apply below_drew1 | refine below_set ?_ GE413.out | refine below_set ?_ GE414.out) | exact HB.out)⟩
end Go.Proofs.YtfglcfbcdhjcdaaDoor.Q

namespace Go.Proofs.YtfglcfbcdhjcdaaDoor.Q
open Go.RowKit Go.Proofs.YtfglcfbcdhjcdaaDoorW.PrintWords Go.Proofs.YtfglcfbcdhjcdaaDoorW.PrintLast Go.Proofs.YtfglcfbcdhjcdaaDoorW.PrintMore
set_option linter.unusedVariables false
set_option linter.unusedSimpArgs false
theorem pc_get (P : List Pc) (i : Nat) (h : i < P.length) : rd_T48 P (i : Int) = P[i] := by
 unfold rd_T48
 rw [Int.toNat_natCast, List.getD_eq_getElem?_getD, List.getElem?_eq_getElem h]
 rfl
theorem lv_get (L : List Lv) (i : Nat) (h : i < L.length) : rd_T54 L (i : Int) = L[i] := by
 unfold rd_T54
 rw [Int.toNat_natCast, List.getD_eq_getElem?_getD, List.getElem?_eq_getElem h]
 rfl
theorem int_get (L : List Int) (i : Nat) (h : i < L.length) : rd L (i : Int) = L[i] := by
 unfold rd
 rw [Int.toNat_natCast, List.getD_eq_getElem?_getD, List.getElem?_eq_getElem h]
 rfl
def pieceOk (last : Int) (p : Pc) : Bool := !decide (p.f0 ≤ last) && (!decide (p.f0 > 999999) && (!decide (p.f1 < 0) && (!decide (p.f1 > 999999) && (!decide (p.f3 < 1) && (!decide (p.f3 > 50000) && codeB p.f2)))))
def piecesGo : Int → List Pc → Bool
 | _, [] => true
 | last, p :: ps => pieceOk last p && piecesGo p.f0 ps
theorem piecesGo_cons (last : Int) (p : Pc) (ps : List Pc) : piecesGo last (p :: ps) = (pieceOk last p && piecesGo p.f0 ps) := rfl
def mailingB (c co : Int) (o : ByteArray) (P : List Pc) : Bool := !decide (c = 0) && (!decide (co < 1) && (!decide (co > 3) && (codeB o && (!decide ((P.length : Int) > 2000) && piecesGo 0 P))))
theorem pieces_go (P : List Pc) (hs : ∀ p ∈ P, p.f2.size ≤ 9223372036854775807) (hl : P.length ≤ 100000) : ∀ d i : Nat, i + d = P.length → ∀ (k : Nat) (last : Int), d < k → tariff_Mailing.l0 k last P (P.length : Int) (i : Int) = some (piecesGo last (P.drop i)) := by
 intro d
 induction d with
 | zero =>
  intro i hi k last hk
  obtain ⟨k, rfl⟩ : ∃ m, k = m + 1 := ⟨k - 1, by omega⟩
  rw [tariff_Mailing.l0, if_neg (by omega), List.drop_of_length_le (by omega)]
  rfl
 | succ d ih =>
  intro i hi k last hk
  obtain ⟨k, rfl⟩ : ∃ m, k = m + 1 := ⟨k - 1, by omega⟩
  have hlt : i < P.length := by omega
  have hz := hs _ (List.getElem_mem hlt)
  rw [tariff_Mailing.l0, if_pos (by omega), if_pos (by omega), if_pos (by omega), pc_get P i hlt, List.drop_eq_getElem_cons hlt, wrap64_id ((i : Int) + 1) (by omega) (by omega), show ((i : Int) + 1) = ((i + 1 : Nat) : Int) by omega, ih (i + 1) (by omega) k _ (by omega)]
  rw [piecesGo_cons]
  unfold pieceOk
  generalize P[i] = p at *
  by_cases h1 : p.f0 ≤ last
  ·rw [if_pos h1, decide_eq_true h1]; rfl
  rw [if_neg h1, decide_eq_false h1]
  by_cases h2 : p.f0 > 999999
  ·rw [if_pos h2, decide_eq_true h2]; rfl
  rw [if_neg h2, decide_eq_false h2]
  by_cases h3 : p.f1 < 0
  ·rw [if_pos h3, decide_eq_true h3]; rfl
  rw [if_neg h3, decide_eq_false h3]
  by_cases h4 : p.f1 > 999999
  ·rw [if_pos h4, decide_eq_true h4]; rfl
  rw [if_neg h4, decide_eq_false h4]
  by_cases h5 : p.f3 < 1
  ·rw [if_pos h5, decide_eq_true h5]; rfl
  rw [if_neg h5, decide_eq_false h5]
  by_cases h6 : p.f3 > 50000
  ·rw [if_pos h6, decide_eq_true h6]; rfl
  rw [if_neg h6, decide_eq_false h6, code_is _ hz]
  simp only [Option.bind_some, Bool.not_false, Bool.true_and]
  cases codeB p.f2 <;> simp
theorem mailing_is (c co : Int) (o : ByteArray) (P : List Pc) (ho : o.size ≤ 9223372036854775807) (hs : ∀ p ∈ P, p.f2.size ≤ 9223372036854775807) (hl : P.length ≤ 100000) (k : Nat) (hk : P.length + 1 < k) : tariff_Mailing.f k c co o P = some (mailingB c co o P) := by
 obtain ⟨k, rfl⟩ : ∃ m, k = m + 1 := ⟨k - 1, by omega⟩
 have hg := pieces_go P hs hl P.length 0 (by omega) k 0 (by omega)
 rw [List.drop_zero] at hg
 unfold tariff_Mailing.f mailingB
 by_cases h1 : c = 0
 ·rw [if_pos h1, decide_eq_true h1]; rfl
 rw [if_neg h1, decide_eq_false h1]
 by_cases h2 : co < 1
 ·rw [if_pos h2, decide_eq_true h2]; rfl
 rw [if_neg h2, decide_eq_false h2]
 by_cases h3 : co > 3
 ·rw [if_pos h3, decide_eq_true h3]; rfl
 rw [if_neg h3, decide_eq_false h3, code_is _ ho]
 simp only [Option.bind_some]
 cases codeB o with
 | false => rfl
 | true =>
  by_cases h4 : (P.length : Int) > 2000
  ·rw [if_pos rfl, decide_eq_true h4]; rfl
  ·rw [if_pos rfl, decide_eq_false h4, tariff_Mailing.j0, if_neg (by simp)]
   exact hg.trans (by simp)
theorem mlPieces_drop (l : List Int) (k i : Nat) (h : i < k) : (mlPieces l k).drop i = mlPiece l i :: (mlPieces l k).drop (i + 1) := by
 have hlt : i < (mlPieces l k).length := by rw [mlPieces_len]; exact h
 rw [List.drop_eq_getElem_cons hlt, ← pc_get (mlPieces l k) i hlt, mlPieces_get l k i h]
theorem mlPieces_go (l : List Int) (hf : mlFits l = true) (k : Nat) (hk : k ≤ 2000) : ∀ d i : Nat, i + d = k → piecesGo (mlId l i : Int) ((mlPieces l k).drop i) = true := by
 intro d
 induction d with
 | zero =>
  intro i hi
  rw [List.drop_of_length_le (by rw [mlPieces_len]; omega)]
  rfl
 | succ d ih =>
  intro i hi
  rw [mlPieces_drop l k i (by omega), piecesGo_cons]
  have h1 := mlId_lt l i
  have h2 := mlId_le l (i + 1)
  have h3 := (mlX_is hf i).2
  have h4 := (isCode (mlX l i / 256) (by omega)).ok
  rw [show (mlPiece l i).f0 = (mlId l (i + 1) : Int) from rfl, ih (i + 1) (by omega), Bool.and_true]
  unfold pieceOk mlPiece
  rw [h4]
  simp only [Bool.and_true, Bool.and_eq_true, Bool.not_eq_true', decide_eq_false_iff_not]
  refine ⟨?_, ?_, ?_, ?_, ?_, ?_⟩ <;> omega
theorem mlPieces_mem {l : List Int} (hf : mlFits l = true) {k : Nat} {p : Pc} (h : p ∈ mlPieces l k) : ∃ i, i < k ∧ p = mlPiece l i ∧ mlX l i < 65536 := by
 unfold mlPieces at h
 obtain ⟨i, hi, rfl⟩ := List.mem_map.1 h
 exact ⟨i, List.mem_range.1 hi, rfl, (mlX_is hf i).2⟩
theorem mlPiece_size {l : List Int} (hf : mlFits l = true) {k : Nat} {p : Pc} (h : p ∈ mlPieces l k) : p.f2.size ≤ 1000 := by
 obtain ⟨i, hi, rfl, hx⟩ := mlPieces_mem hf h
 have := (isCode (mlX l i / 256) (by omega)).sz
 show (code5 _).size ≤ _
 omega
theorem made_mailing (l : List Int) (hf : mlFits l = true) (c : Int) (hc : c ≠ 0) : mailingB c 1 exFrom (mlPieces l (mlN l)) = true := by
 have h := mlPieces_go l hf (mlN l) (by unfold mlN; omega) (mlN l) 0 (by omega)
 rw [List.drop_zero] at h
 have ho : codeB exFrom = true := by decide +kernel
 unfold mailingB
 rw [show piecesGo 0 (mlPieces l (mlN l)) = true from h, ho, mlPieces_len]
 have : mlN l ≤ 2000 := by unfold mlN; omega
 simp only [Bool.and_true, Bool.true_and, Bool.and_eq_true, Bool.not_eq_true', decide_eq_false_iff_not]
 refine ⟨hc, ?_, ?_, ?_⟩ <;> omega
theorem bases_go (R : List Rt) (Z : List Zn) (c co : Int) (o : ByteArray) (P : List Pc) (rc : Int) (rs : List Sp) (rb : Int) (bs : Pc → Int) (hz : ∀ z ∈ Z, z.f0.size ≤ 1000 ∧ z.f1.size ≤ 1000) (hzl : Z.length ≤ 20) (hl : P.length ≤ 100000)
  (hp : ∀ p ∈ P, tariff_price.f rc rs rb (zoneB Z o p.f2) p.f3 = some (bs p, 0)) : ∀ d i : Nat, i + d = P.length → ∀ (k : Nat) (acc : List Int), d + 30 < k → acc.length = i →
  tariff_Bases.l0 k acc P (P.length : Int) (i : Int) R Z c co o P rc rs rb = some (acc ++ (P.drop i).map bs, 0) := by
 intro d
 induction d with
 | zero =>
  intro i hi k acc hk ha
  obtain ⟨k, rfl⟩ : ∃ m, k = m + 1 := ⟨k - 1, by omega⟩
  rw [tariff_Bases.l0, if_neg (by omega), List.drop_of_length_le (by omega), List.map_nil, List.append_nil]
 | succ d ih =>
  intro i hi k acc hk ha
  obtain ⟨k, rfl⟩ : ∃ m, k = m + 1 := ⟨k - 1, by omega⟩
  have hlt : i < P.length := by omega
  rw [tariff_Bases.l0, if_pos (by omega), if_pos (by omega), if_pos (by omega), pc_get P i hlt, zone_is R Z _ _ hz (by omega) k (by omega)]
  simp only [Option.bind_some]
  rw [hp _ (List.getElem_mem hlt)]
  simp only [Option.bind_some, if_true]
  rw [if_pos (by omega), wrap64_id ((i : Int) + 1) (by omega) (by omega), show ((i : Int) + 1) = ((i + 1 : Nat) : Int) by omega, ih (i + 1) (by omega) k _ (by omega) (by simp [ha]), List.drop_eq_getElem_cons hlt, List.map_cons, List.append_assoc]
  rfl
theorem bases_is (R : List Rt) (Z : List Zn) (c co : Int) (o : ByteArray) (P : List Pc) (rc : Int) (rs : List Sp) (rb : Int) (bs : Pc → Int) (hR : tariff_Right.f R Z = some true) (hz : ∀ z ∈ Z, z.f0.size ≤ 1000 ∧ z.f1.size ≤ 1000) (hzl : Z.length ≤ 20) (hl : P.length ≤ 100000)
  (ho : o.size ≤ 1000) (hs : ∀ p ∈ P, p.f2.size ≤ 1000) (hM : mailingB c co o P = true) (hr : ∀ f, 3 ≤ f → tariff_rate.f f R Z c = some (rc, rs, rb)) (hrc : rc ≠ 0)
  (hp : ∀ p ∈ P, tariff_price.f rc rs rb (zoneB Z o p.f2) p.f3 = some (bs p, 0)) (k : Nat) (hk : P.length + 40 < k) : tariff_Bases.f k R Z c co o P = some (P.map bs, 0) := by
 unfold tariff_Bases.f
 rw [hR]
 simp only [Option.bind_some, if_true]
 rw [mailing_is c co o P (by omega) (fun p h => by have := hs p h; omega) hl k (by omega), hM]
 simp only [Option.bind_some, Bool.not_true]
 obtain ⟨k, rfl⟩ : ∃ m, k = m + 1 := ⟨k - 1, by omega⟩
 rw [tariff_Bases.j0, if_neg (by simp), hr k (by omega)]
 simp only [Option.bind_some]
 rw [if_neg hrc, if_pos (by omega), if_pos (by omega)]
 have h := bases_go R Z c co o P rc rs rb bs hz hzl hl hp P.length 0 (by omega) k [] (by omega) rfl
 rw [List.drop_zero, List.nil_append] at h
 exact h
def mostOf (m : Int) (L : List Lv) : Int := L.foldl (fun m l => mx m l.f4) m
theorem fits_l0 (R : List Rt) (Z : List Zn) (L : List Lv) (hl : L.length ≤ 1000) (d : Nat) : ∀ (k i : Nat) (m : Int), i + d = L.length → tariff_Fits.l0 (k + d + 1) m L (L.length : Int) (i : Int) R Z = tariff_Fits.l1 k (mostOf m (L.drop i)) R (R.length : Int) 0 := by
 induction d with
 | zero =>
  intro k i m hi
  rw [Nat.add_zero, tariff_Fits.l0, if_neg (by omega), List.drop_of_length_le (by omega)]
  rfl
 | succ d ih =>
  intro k i m hi
  have hlt : i < L.length := by omega
  rw [show k + (d + 1) + 1 = (k + d + 1) + 1 by omega, tariff_Fits.l0, if_pos (by omega), if_pos (by omega), if_pos (by omega), lv_get L i hlt, wrap64_id ((i : Int) + 1) (by omega) (by omega), show ((i : Int) + 1) = ((i + 1 : Nat) : Int) by omega, ih k (i + 1) _ (by omega), List.drop_eq_getElem_cons hlt]
  rfl
def StepFits (most bar : Int) (s : Sp) : Prop := ∃ m, slices_Min_int_int.f s.f1 = some m ∧ most ≤ m - bar ∧ m - bar ≤ 9223372036854775807 ∧ -9223372036854775808 ≤ m - bar
theorem fits_l2 (most : Int) (R : List Rt) (x33 x34 : Int) (c : Int) (S S' : List Sp) (bar : Int) (hl : S.length ≤ 1000) (hf : ∀ s ∈ S, StepFits most bar s) (d : Nat) : ∀ k i : Nat, i + d = S.length →
  tariff_Fits.l2 (k + d + 1) most R x33 x34 S (S.length : Int) (i : Int) c S' bar = tariff_Fits.l1 k most R x33 (wrap64 (x34 + 1)) := by
 induction d with
 | zero =>
  intro k i hi
  rw [Nat.add_zero, tariff_Fits.l2, if_neg (by omega)]
 | succ d ih =>
  intro k i hi
  have hlt : i < S.length := by omega
  obtain ⟨m, h1, h2, h3, h4⟩ := hf _ (List.getElem_mem hlt)
  rw [show k + (d + 1) + 1 = (k + d + 1) + 1 by omega, tariff_Fits.l2, if_pos (by omega), if_pos (by omega), if_pos (by omega), st_get S i hlt, h1]
  simp only [Option.bind_some]
  rw [wrap64_id (m - bar) h4 h3, if_neg (by omega), wrap64_id ((i : Int) + 1) (by omega) (by omega), show ((i : Int) + 1) = ((i + 1 : Nat) : Int) by omega, ih k (i + 1) (by omega)]
theorem fits_l1 (most : Int) (R : List Rt) (n : Nat) (hn : n ≤ 1000) (hl : R.length ≤ 1000) (hf : ∀ r ∈ R, r.f1.length ≤ n ∧ ∀ s ∈ r.f1, StepFits most r.f2 s) (d : Nat) : ∀ k i : Nat, i + d = R.length → d * (n + 3) < k →
  tariff_Fits.l1 k most R (R.length : Int) (i : Int) = some true := by
 induction d with
 | zero =>
  intro k i hi hk
  obtain ⟨k, rfl⟩ : ∃ m, k = m + 1 := ⟨k - 1, by omega⟩
  rw [tariff_Fits.l1, if_neg (by omega)]
 | succ d ih =>
  intro k i hi hk
  have hlt : i < R.length := by omega
  obtain ⟨g1, g2⟩ := hf _ (List.getElem_mem hlt)
  rw [Nat.succ_mul] at hk
  obtain ⟨k, rfl⟩ : ∃ m, k = m + R[i].f1.length + 1 + 1 := ⟨k - R[i].f1.length - 2, by omega⟩
  rw [tariff_Fits.l1, if_pos (by omega), if_pos (by omega), if_pos (by omega), rt_get R i hlt]
  have h := fits_l2 most R (R.length : Int) (i : Int) R[i].f0 R[i].f1 R[i].f1 R[i].f2 (by omega) g2 R[i].f1.length k 0 (by omega)
  rw [show ((0 : Nat) : Int) = 0 from rfl] at h
  rw [h, wrap64_id ((i : Int) + 1) (by omega) (by omega), show ((i : Int) + 1) = ((i + 1 : Nat) : Int) by omega]
  exact ih k (i + 1) (by omega) (by omega)
theorem fits_true (R : List Rt) (Z : List Zn) (L : List Lv) (hR : tariff_Right.f R Z = some true) (hL : scheme_Right.f L = some true) (hll : L.length ≤ 6) (hl : R.length ≤ 3) (hf : ∀ r ∈ R, r.f1.length ≤ 3 ∧ ∀ s ∈ r.f1, StepFits (mostOf 0 L) r.f2 s) (k : Nat) (hk : 30 < k) :
  tariff_Fits.f k R Z L = some true := by
 unfold tariff_Fits.f
 rw [hR, hL]
 simp only [Option.bind_some, if_true, Bool.not_true]
 obtain ⟨k, rfl⟩ : ∃ m, k = m + L.length + 1 + 1 := ⟨k - L.length - 2, by omega⟩
 rw [tariff_Fits.j0, if_neg (by simp)]
 have h := fits_l0 R Z L (by omega) L.length k 0 0 (by omega)
 rw [List.drop_zero] at h
 rw [show ((0 : Nat) : Int) = 0 from rfl] at h
 rw [h]
 exact fits_l1 (mostOf 0 L) R 3 (by omega) (by omega) hf R.length k 0 (by omega) (by omega)
def postAt (L : List Lv) (bl plan : List Int) (bar : Int) (P : List Pc) (i : Nat) : Int := rd bl (i : Int) - (rd_T54 L (rd plan (i : Int))).f4 - (if (rd_T48 P (i : Int)).f4 = true then bar else 0)
def curAt (L : List Lv) (bl plan : List Int) (bar : Int) (P : List Pc) (n i : Nat) : List Int := (List.range n).map (fun j => if j < i then postAt L bl plan bar P j else rd bl (j : Int))
theorem curAt_len (L : List Lv) (bl plan : List Int) (bar : Int) (P : List Pc) (n i : Nat) : (curAt L bl plan bar P n i).length = n := by unfold curAt; rw [List.length_map, List.length_range]
theorem curAt_at (L : List Lv) (bl plan : List Int) (bar : Int) (P : List Pc) (n i j : Nat) (h : j < (curAt L bl plan bar P n i).length) : (curAt L bl plan bar P n i)[j] = if j < i then postAt L bl plan bar P j else rd bl (j : Int) := by
 have h2 : (curAt L bl plan bar P n i)[j]? = some (if j < i then postAt L bl plan bar P j else rd bl (j : Int)) := by
  rw [curAt_len] at h
  unfold curAt
  rw [List.getElem?_map, List.getElem?_range h]
  rfl
 exact Option.some.inj ((List.getElem?_eq_getElem h).symm.trans h2)
theorem curAt_rd (L : List Lv) (bl plan : List Int) (bar : Int) (P : List Pc) (n i : Nat) (h : i < n) : rd (curAt L bl plan bar P n i) (i : Int) = rd bl (i : Int) := by
 rw [int_get _ _ (by rw [curAt_len]; exact h), curAt_at, if_neg (by omega)]
theorem curAt_set (L : List Lv) (bl plan : List Int) (bar : Int) (P : List Pc) (n i : Nat) : (curAt L bl plan bar P n i).set i (postAt L bl plan bar P i) = curAt L bl plan bar P n (i + 1) := by
 refine List.ext_getElem (by rw [List.length_set, curAt_len, curAt_len]) (fun j h1 h2 => ?_)
 rw [List.getElem_set, curAt_at, curAt_at]
 by_cases e : i = j
 ·subst e
  rw [if_pos rfl, if_pos (by omega)]
 ·rw [if_neg e]
  by_cases h : j < i
  ·rw [if_pos h, if_pos (by omega)]
  ·rw [if_neg h, if_neg (by omega)]
theorem curAt_zero (L : List Lv) (bl plan : List Int) (bar : Int) (P : List Pc) : curAt L bl plan bar P bl.length 0 = bl := by
 refine List.ext_getElem (by rw [curAt_len]) (fun j h1 h2 => ?_)
 rw [curAt_at, if_neg (by omega), int_get _ _ h2]
structure PostOk (L : List Lv) (bl plan : List Int) (bar : Int) (P : List Pc) (n : Nat) : Prop where
 nP : P.length = n
 npl : plan.length = n
 nb : bl.length = n
 hn : n ≤ 100000
 pl : ∀ i : Nat, i < n → 0 ≤ rd plan (i : Int) ∧ rd plan (i : Int) < (L.length : Int)
 bb : ∀ i : Nat, i < n → 0 ≤ rd bl (i : Int) ∧ rd bl (i : Int) ≤ 1000000
 lb : ∀ i : Nat, i < L.length → 0 ≤ (rd_T54 L (i : Int)).f4 ∧ (rd_T54 L (i : Int)).f4 ≤ 1000000
 rb : 0 ≤ bar ∧ bar ≤ 1000000
theorem post_l0 (L : List Lv) (R : List Rt) (Z : List Zn) (c co : Int) (o : ByteArray) (P : List Pc) (plan : List Int) (n : Nat) (hn : plan.length = n) (hn2 : n ≤ 100000) (hp : ∀ i : Nat, i < n → 0 ≤ rd plan (i : Int) ∧ rd plan (i : Int) < (L.length : Int)) (d : Nat) : ∀ k i : Nat, i + d = n →
  tariff_Postage.l0 (k + d + 1) L plan plan (n : Int) (i : Int) R Z c co o P = ((tariff_Bases.f k R Z c co o P).bind fun bt178 => (if bt178.2 = 0 then ((tariff_rate.f k R Z c).bind fun bt182 => (tariff_Postage.l1 k L bt178.1 bt182.2.2 plan (plan.length : Int) 0 c co o P)) else (some (([] : List Int), bt178.2)))) := by
 induction d with
 | zero =>
  intro k i hi
  rw [Nat.add_zero, tariff_Postage.l0, if_neg (by omega)]
 | succ d ih =>
  intro k i hi
  obtain ⟨h1, h2⟩ := hp i (by omega)
  rw [show k + (d + 1) + 1 = (k + d + 1) + 1 by omega, tariff_Postage.l0, if_pos (by omega), if_pos (by omega), if_pos (by omega), if_neg (by omega), if_neg (by omega), wrap64_id ((i : Int) + 1) (by omega) (by omega), show ((i : Int) + 1) = ((i + 1 : Nat) : Int) by omega, ih k (i + 1) (by omega)]
theorem post_l1 {L : List Lv} {bl plan : List Int} {bar : Int} {P : List Pc} {n : Nat} (h : PostOk L bl plan bar P n) (c co : Int) (o : ByteArray) (d : Nat) : ∀ k i : Nat, i + d = n → d < k →
  tariff_Postage.l1 k L (curAt L bl plan bar P n i) bar plan (n : Int) (i : Int) c co o P = some (curAt L bl plan bar P n n, 0) := by
 have hn := h.hn
 have h1 := h.nP
 have h2 := h.npl
 induction d with
 | zero =>
  intro k i hi hk
  obtain ⟨k, rfl⟩ : ∃ m, k = m + 1 := ⟨k - 1, by omega⟩
  rw [tariff_Postage.l1, if_neg (by omega), show i = n by omega]
 | succ d ih =>
  intro k i hi hk
  obtain ⟨k, rfl⟩ : ∃ m, k = m + 1 := ⟨k - 1, by omega⟩
  have hlt : i < n := by omega
  obtain ⟨p0, p1⟩ := h.pl i hlt
  obtain ⟨b0, b1⟩ := h.bb i hlt
  obtain ⟨j, hj⟩ : ∃ j : Nat, rd plan (i : Int) = (j : Int) := ⟨(rd plan (i : Int)).toNat, by omega⟩
  obtain ⟨c0, c1⟩ := h.lb j (by omega)
  obtain ⟨r0, r1⟩ := h.rb
  have hset := curAt_set L bl plan bar P n i
  have hat : postAt L bl plan bar P i = rd bl (i : Int) - (rd_T54 L (rd plan (i : Int))).f4 - (if (rd_T48 P (i : Int)).f4 = true then bar else 0) := rfl
  rw [tariff_Postage.l1, if_pos (by omega), if_pos (by omega), if_pos (by omega), if_pos (by rw [curAt_len]; omega), if_pos p0, if_pos p1, curAt_rd _ _ _ _ _ _ _ hlt, Int.toNat_natCast]
  rw [hj] at hat ⊢
  simp only [Option.bind_some]
  rw [if_pos (by omega), wrap64_id (rd bl (i : Int) - _) (by omega) (by omega), wrap64_id ((i : Int) + 1) (by omega) (by omega), show ((i : Int) + 1) = ((i + 1 : Nat) : Int) by omega]
  by_cases hb : (rd_T48 P (i : Int)).f4 = true
  ·rw [if_pos hb] at hat ⊢
   rw [wrap64_id (rd bl (i : Int) - _ - bar) (by omega) (by omega), ← hat, List.set_set, hset]
   exact ih k (i + 1) (by omega) (by omega)
  ·rw [if_neg hb] at hat ⊢
   rw [Int.sub_zero] at hat
   rw [← hat, hset]
   exact ih k (i + 1) (by omega) (by omega)
def postOf (L : List Lv) (bl plan : List Int) (bar : Int) (P : List Pc) (n : Nat) : List Int := (List.range n).map (postAt L bl plan bar P)
theorem postOf_is (L : List Lv) (bl plan : List Int) (bar : Int) (P : List Pc) (n : Nat) : curAt L bl plan bar P n n = postOf L bl plan bar P n := by
 unfold curAt postOf
 refine List.map_congr_left (fun j hj => ?_)
 rw [if_pos (List.mem_range.1 hj)]
theorem postOf_len (L : List Lv) (bl plan : List Int) (bar : Int) (P : List Pc) (n : Nat) : (postOf L bl plan bar P n).length = n := by unfold postOf; rw [List.length_map, List.length_range]
theorem postOf_rd (L : List Lv) (bl plan : List Int) (bar : Int) (P : List Pc) (n i : Nat) (h : i < n) : rd (postOf L bl plan bar P n) (i : Int) = postAt L bl plan bar P i := by
 rw [int_get _ _ (by rw [postOf_len]; exact h)]
 unfold postOf
 rw [List.getElem_map, List.getElem_range]
theorem postage_is {L : List Lv} {bl plan : List Int} {bar : Int} {P : List Pc} {n : Nat} (h : PostOk L bl plan bar P n) (R : List Rt) (Z : List Zn) (c co : Int) (o : ByteArray) (rc : Int) (rs : List Sp) (hF : ∀ f, 30 < f → tariff_Fits.f f R Z L = some true) (hB : ∀ f, n + 40 < f → tariff_Bases.f f R Z c co o P = some (bl, 0))
  (hr : ∀ f, 3 ≤ f → tariff_rate.f f R Z c = some (rc, rs, bar)) (k : Nat) (hk : n + n + 60 < k) : tariff_Postage.f k R Z L c co o P plan = some (postOf L bl plan bar P n, 0) := by
 have h1 := h.nP
 have h2 := h.npl
 unfold tariff_Postage.f
 rw [if_pos (by omega), hF k (by omega)]
 simp only [Option.bind_some, Bool.not_true]
 obtain ⟨k, rfl⟩ : ∃ m, k = m + n + 1 + 1 := ⟨k - n - 2, by omega⟩
 rw [tariff_Postage.j0, if_neg (by simp), h2]
 have h0 := post_l0 L R Z c co o P plan n h2 h.hn h.pl n k 0 (by omega)
 rw [show ((0 : Nat) : Int) = 0 from rfl] at h0
 rw [h0, hB k (by omega)]
 simp only [Option.bind_some, if_true]
 rw [hr k (by omega)]
 simp only [Option.bind_some]
 have h3 := post_l1 h c co o n k 0 (by omega) (by omega)
 have h4 := curAt_zero L bl plan bar P
 rw [h.nb] at h4
 rw [h4, postOf_is, show ((0 : Nat) : Int) = 0 from rfl] at h3
 rw [h2]
 exact h3
def lvAt (l : List Int) (many i : Nat) : Nat := if l.length = 0 then 0 else (l.getD (i % l.length) 0).toNat % many
def planOf (l : List Int) (many n : Nat) : List Int := (List.range n).map (fun i => ((lvAt l many i : Nat) : Int))
theorem planOf_len (l : List Int) (many n : Nat) : (planOf l many n).length = n := by unfold planOf; rw [List.length_map, List.length_range]
theorem planOf_rd (l : List Int) (many n i : Nat) (h : i < n) : rd (planOf l many n) (i : Int) = (lvAt l many i : Int) := by
 rw [int_get _ _ (by rw [planOf_len]; exact h)]
 unfold planOf
 rw [List.getElem_map, List.getElem_range]
theorem lvAt_lt (l : List Int) (many i : Nat) (h : 1 ≤ many) : lvAt l many i < many := by
 unfold lvAt
 split
 ·omega
 ·exact Nat.mod_lt _ (by omega)
theorem planOf_next (l : List Int) (many n : Nat) : planOf l many n ++ [(lvAt l many n : Int)] = planOf l many (n + 1) := by
 unfold planOf
 rw [List.range_succ, List.map_append]
 rfl
theorem levels_go (l : List Int) (hf : mdFits l = true) (hl : l.length ≤ 9223372036854775807) (many : Nat) (hm : 1 ≤ many) (n : Nat) (hn : n ≤ 100000) : ∀ d i : Nat, i + d = n → ∀ k : Nat, d < k → letterbaglaw24_levels.l0 k (many : Int) l (planOf l many i) (n : Int) (i : Int) = some (planOf l many n) := by
 intro d
 induction d with
 | zero =>
  intro i hi k hk
  obtain ⟨k, rfl⟩ : ∃ m, k = m + 1 := ⟨k - 1, by omega⟩
  rw [letterbaglaw24_levels.l0, if_neg (by omega), show i = n by omega]
 | succ d ih =>
  intro i hi k hk
  obtain ⟨k, rfl⟩ : ∃ m, k = m + 1 := ⟨k - 1, by omega⟩
  have hlen := planOf_len l many i
  have hnext := planOf_next l many i
  rw [letterbaglaw24_levels.l0, if_pos (by omega), wrap64_id ((i : Int) + 1) (by omega) (by omega), show ((i : Int) + 1) = ((i + 1 : Nat) : Int) by omega]
  by_cases h0 : l.length = 0
  ·have e : lvAt l many i = 0 := by unfold lvAt; rw [if_pos h0]
   rw [e] at hnext
   rw [if_neg (by omega), if_pos (by omega), show ([0] : List Int) = [((0 : Nat) : Int)] from rfl, hnext]
   exact ih (i + 1) (by omega) k (by omega)
  ·have hlt : i % l.length < l.length := Nat.mod_lt _ (by omega)
   have hrem : Int.tmod (i : Int) (l.length : Int) = ((i % l.length : Nat) : Int) := (Int.ofNat_tmod _ _).symm
   have hg := getD_range hf (i % l.length)
   have e : lvAt l many i = (l.getD (i % l.length) 0).toNat % many := by unfold lvAt; rw [if_neg h0]
   have hrd : rd l ((i % l.length : Nat) : Int) = l.getD (i % l.length) 0 := by unfold rd; rw [Int.toNat_natCast]
   rw [hrem, if_pos (by omega), if_neg (by omega), if_pos (by omega), if_pos (by omega), if_neg (by omega), if_pos (by omega), hrd]
   obtain ⟨q, hq⟩ : ∃ q : Nat, l.getD (i % l.length) 0 = (q : Int) := ⟨(l.getD (i % l.length) 0).toNat, by omega⟩
   rw [hq] at e hg ⊢
   rw [Int.toNat_natCast] at e
   rw [wrap64_id (q : Int) (by omega) (by omega), show Int.tmod (q : Int) (many : Int) = ((q % many : Nat) : Int) from (Int.ofNat_tmod _ _).symm, ← e, hnext]
   exact ih (i + 1) (by omega) k (by omega)
theorem levels_is (l : List Int) (hf : mdFits l = true) (hl : l.length ≤ 9223372036854775807) (many : Nat) (hm : 1 ≤ many) (c co : Int) (o : ByteArray) (P : List Pc) (hn : P.length ≤ 100000) (k : Nat) (hk : P.length < k) : letterbaglaw24_levels.f k c co o P (many : Int) l = some (planOf l many P.length) :=
 levels_go l hf hl many hm P.length hn P.length 0 (by omega) k hk
theorem same_go (a : List Int) (hl : a.length ≤ 1000000) : ∀ d i : Nat, i + d = a.length → ∀ k : Nat, d < k → letterbagkit_SameInts.l0 k a a (i : Int) = some true := by
 intro d
 induction d with
 | zero =>
  intro i hi k hk
  obtain ⟨k, rfl⟩ : ∃ m, k = m + 1 := ⟨k - 1, by omega⟩
  rw [letterbagkit_SameInts.l0, if_neg (by omega)]
 | succ d ih =>
  intro i hi k hk
  obtain ⟨k, rfl⟩ : ∃ m, k = m + 1 := ⟨k - 1, by omega⟩
  rw [letterbagkit_SameInts.l0, if_pos (by omega), if_pos (by omega), if_pos (by omega), if_pos rfl, wrap64_id ((i : Int) + 1) (by omega) (by omega), show ((i : Int) + 1) = ((i + 1 : Nat) : Int) by omega]
  exact ih (i + 1) (by omega) k (by omega)
theorem same_refl (a : List Int) (hl : a.length ≤ 1000000) (k : Nat) (hk : a.length < k) : letterbagkit_SameInts.f k a a = some true := by
 unfold letterbagkit_SameInts.f
 rw [if_pos rfl]
 exact same_go a hl a.length 0 (by omega) k hk
end Go.Proofs.YtfglcfbcdhjcdaaDoor.Q

namespace Go.Proofs.YtfglcfbcdhjcdaaDoor.Q
open Go.RowKit Go.Proofs.YtfglcfbcdhjcdaaDoorW.PrintWords Go.Proofs.YtfglcfbcdhjcdaaDoorW.PrintLast Go.Proofs.YtfglcfbcdhjcdaaDoorW.PrintMore
set_option linter.unusedVariables false
set_option linter.unusedSimpArgs false
theorem minTo_range (l : List Int) (lo hi : Int) (h : ∀ x ∈ l, lo ≤ x ∧ x ≤ hi) : ∀ k, k < l.length → lo ≤ minTo l k ∧ minTo l k ≤ hi
 | 0, hk => by
  have : rd l 0 = l[0] := int_get l 0 hk
  unfold minTo
  rw [this]
  exact h _ (List.getElem_mem hk)
 | k + 1, hk => by
  have ih := minTo_range l lo hi h k (by omega)
  have : rd l ((k + 1 : Nat) : Int) = l[k + 1] := int_get l (k + 1) hk
  have h2 := h _ (List.getElem_mem hk)
  unfold minTo
  rw [this]
  generalize l[k + 1] = y at *
  unfold mn
  split <;> omega
theorem mdStep_min {l : List Int} (h : mdFits l = true) (nz c s : Nat) (hz : 1 ≤ nz) : ∃ m, slices_Min_int_int.f (mdStep l nz c s).f1 = some m ∧ 300 ≤ m ∧ m ≤ 555 := by
 have hl := mdStep_len l nz c s
 have hr := minTo_range (mdStep l nz c s).f1 300 555 (fun x hx => by
  unfold mdStep at hx
  obtain ⟨z, -, rfl⟩ := List.mem_map.1 hx
  exact mdPrice_range h _) ((mdStep l nz c s).f1.length - 1) (by omega)
 refine ⟨_, ?_, hr⟩
 unfold slices_Min_int_int.f
 rw [if_neg (by intro e; rw [e] at hl; simp at hl; omega)]
theorem made_rate_mem {N : Nat} {l : List Int} {r : Rt} (h : r ∈ madeR N l) : ∃ c, c < mdC N ∧ r = mdRate l (mdZ N) (mdS N) (mdBar N) c := by
 unfold madeR mdRates at h
 obtain ⟨c, hc, rfl⟩ := List.mem_map.1 h
 exact ⟨c, List.mem_range.1 hc, rfl⟩
theorem made_stepfits (N : Nat) {l : List Int} (hf : mdFits l = true) (most : Int) (hm : most ≤ 269) : ∀ r ∈ madeR N l, r.f1.length ≤ 3 ∧ ∀ s ∈ r.f1, StepFits most r.f2 s := by
 intro r hr
 obtain ⟨c, hc, rfl⟩ := made_rate_mem hr
 have hs := mdS_range N
 have hz := mdZ_range N
 have hb := mdBar_range N
 refine ⟨by show ((List.range (mdS N)).map _).length ≤ 3; rw [List.length_map, List.length_range]; omega, fun s hs2 => ?_⟩
 obtain ⟨j, -, rfl⟩ := List.mem_map.1 (show s ∈ (List.range (mdS N)).map (mdStep l (mdZ N) c) from hs2)
 obtain ⟨m, h1, h2, h3⟩ := mdStep_min hf (mdZ N) c j hz.1
 refine ⟨m, h1, ?_, ?_, ?_⟩ <;> (show _ ≤ _; have : (mdRate l (mdZ N) (mdS N) (mdBar N) c).f2 = (mdBar N : Int) := rfl; omega)
theorem mostOf_le : ∀ (L : List Lv) (m b : Int), m ≤ b → (∀ x ∈ L, x.f4 ≤ b) → mostOf m L ≤ b
 | [], m, b, h, _ => h
 | x :: xs, m, b, h, hx => by
  have h1 := hx x List.mem_cons_self
  refine mostOf_le xs (mx m x.f4) b ?_ (fun y hy => hx y (List.mem_cons_of_mem _ hy))
  unfold mx
  split <;> omega
theorem made23_cents (n : Nat) (le ce : List Int) (hce : mdFits ce = true) : ∀ x ∈ made23 n le ce, 0 ≤ x.f4 ∧ x.f4 ≤ 255 := by
 have h := getD_range hce
 have ha : ∀ (b : Bool) (out : List Lv) (nm : ByteArray) (p : Int) (labs : List Lb), (∀ x ∈ out, 0 ≤ x.f4 ∧ x.f4 ≤ 255) → ∀ x ∈ m3Add le ce b out nm p labs, 0 ≤ x.f4 ∧ x.f4 ≤ 255 := by
  intro b out nm p labs ho x hx
  unfold m3Add at hx
  split at hx
  ·rcases List.mem_append.1 hx with h1 | h1
   ·exact ho x h1
   ·obtain rfl := List.mem_singleton.1 h1
    exact h _
  ·exact ho x hx
 intro x hx
 unfold made23 at hx
 rcases List.mem_append.1 hx with h1 | h1
 ·exact ha _ _ _ _ _ (ha _ _ _ _ _ (ha _ _ _ _ _ (fun y hy => by cases hy))) x h1
 ·obtain rfl := List.mem_singleton.1 h1
  exact h _
set_option maxRecDepth 100000 in
theorem m3_fit5 : ∀ x ∈ List.range 32, levelFitsB ⟨txFive, 0, m3Pick m3Five x 5, 0, 0⟩ = true := by decide +kernel
set_option maxRecDepth 100000 in
theorem m3_fit3 : ∀ x ∈ List.range 64, levelFitsB ⟨txThree, 0, m3Pick m3Three x 6, 0, 0⟩ = true := by decide +kernel
set_option maxRecDepth 100000 in
theorem m3_fit1 : ∀ x ∈ List.range 8, levelFitsB ⟨txOne, 0, m3Pick m3One x 3, 0, 0⟩ = true := by decide +kernel
theorem made23_fits (n : Nat) (le ce : List Int) : (made23 n le ce).all levelFitsB = true := by
 have f5 := m3_fit5 _ (List.mem_range.2 (show n / 8 % 32 < 32 by omega))
 have f3 := m3_fit3 _ (List.mem_range.2 (show n / 256 % 64 < 64 by omega))
 have f1 := m3_fit1 _ (List.mem_range.2 (show n / 16384 % 8 < 8 by omega))
 have ha : ∀ (b : Bool) (out : List Lv) (nm : ByteArray) (p : Int) (labs : List Lb), levelFitsB ⟨nm, 0, labs, 0, 0⟩ = true → out.all levelFitsB = true → (m3Add le ce b out nm p labs).all levelFitsB = true := by
  intro b out nm p labs h1 ho
  unfold m3Add
  split
  ·rw [List.all_append, ho, Bool.true_and, List.all_cons, List.all_nil, Bool.and_true]
   exact h1
  ·exact ho
 unfold made23
 rw [List.all_append, show (m3C n le ce).all levelFitsB = true from ha _ _ _ _ _ f1 (ha _ _ _ _ _ f3 (ha _ _ _ _ _ f5 rfl)), Bool.true_and, List.all_cons, List.all_nil, Bool.and_true]
 exact (by decide +kernel : levelFitsB ⟨txAll, 0, [], 0, 0⟩ = true)
theorem made23_right_f (n : Nat) (le ce : List Int) (hle : mdFits le = true) (hce : mdFits ce = true) : scheme_Right.f (made23 n le ce) = some true := by
 unfold scheme_Right.f
 rw [if_pos (made23_fits n le ce), made23_right n le ce hle hce]
theorem made_fits (N : Nat) {l : List Int} (hf : mdFits l = true) (L : List Lv) (hL : scheme_Right.f L = some true) (hll : L.length ≤ 6) (hm : mostOf 0 L ≤ 269) (k : Nat) (hk : 30 < k) : tariff_Fits.f k (madeR N l) (madeZ N) L = some true :=
 fits_true _ _ _ (made_right_f N l hf) hL hll (by rw [madeR_length]; exact (mdC_range N).2) (made_stepfits N hf _ hm) k hk
theorem made_fits23 (N S : Nat) {l : List Int} (hf : mdFits l = true) (le ce : List Int) (hle : mdFits le = true) (hce : mdFits ce = true) (k : Nat) (hk : 30 < k) : tariff_Fits.f k (madeR N l) (madeZ N) (made23 S le ce) = some true :=
 made_fits N hf _ (made23_right_f S le ce hle hce) (by have := made23_length S le ce; omega) (by have := mostOf_le (made23 S le ce) 0 255 (by omega) (fun x hx => (made23_cents S le ce hce x hx).2); omega) k hk
theorem zoneStep_range (a b : ByteArray) (n : Int) : ∀ (Z : List Zn) (s : Int × Int), (∀ z ∈ Z, 1 ≤ z.f2 ∧ z.f2 ≤ n) → 1 ≤ s.1 → s.1 ≤ n → 1 ≤ (Z.foldl (zoneStep a b) s).1 ∧ (Z.foldl (zoneStep a b) s).1 ≤ n
 | [], s, _, h1, h2 => ⟨h1, h2⟩
 | z :: zs, s, hz, h1, h2 => by
  have hz1 := hz z List.mem_cons_self
  rw [List.foldl_cons]
  refine zoneStep_range a b n zs _ (fun y hy => hz y (List.mem_cons_of_mem _ hy)) ?_ ?_
  all_goals (unfold zoneStep; split)
  ·exact hz1.1
  ·exact h1
  ·exact hz1.2
  ·exact h2
theorem prefB_nil (a : ByteArray) : prefB a (mdText []) = true := by
 unfold prefB
 rw [show (mdText []).size = 0 from rfl, show a.extract 0 0 = ByteArray.empty from ByteArray.extract_eq_empty_iff.2 (by simp)]
 rw [show mdText [] = ByteArray.empty from rfl]
 simp
theorem mdRows_head (nz x : Nat) : ∀ k, ∃ T, mdRows nz x k = ⟨mdText [], mdText [], 1⟩ :: T ∧ ∀ z ∈ T, 1 ≤ z.f2 ∧ (1 ≤ nz → z.f2 ≤ (nz : Int))
 | 0 => ⟨[], rfl, fun z hz => by cases hz⟩
 | k + 1 => by
  obtain ⟨T, h1, h2⟩ := mdRows_head nz x k
  refine ⟨T ++ (if x.testBit k then [mdRow nz k] else []), by unfold mdRows; rw [h1]; rfl, fun z hz => ?_⟩
  rcases List.mem_append.1 hz with h | h
  ·exact h2 z h
  ·split at h
   ·obtain rfl := List.mem_singleton.1 h
    refine ⟨?_, fun hn => ?_⟩
    ·show (1 : Int) ≤ 1 + ((k % nz : Nat) : Int)
     omega
    ·show 1 + ((k % nz : Nat) : Int) ≤ (nz : Int)
     have := Nat.mod_lt k (show 0 < nz by omega)
     omega
   ·cases h
theorem made_zone (N : Nat) (a b : ByteArray) : 1 ≤ zoneB (madeZ N) a b ∧ zoneB (madeZ N) a b ≤ (mdZ N : Int) := by
 have hz := mdZ_range N
 obtain ⟨T, h1, h2⟩ := mdRows_head (mdZ N) (mdX N) 9
 unfold zoneB madeZ
 rw [h1, List.foldl_cons]
 have hs : zoneStep a b (0, -1) ⟨mdText [], mdText [], 1⟩ = (1, 0) := by
  unfold zoneStep
  rw [if_pos ⟨by show (-1 : Int) < 100 * ((mdText []).size : Int) + ((mdText []).size : Int); decide, prefB_nil a, prefB_nil b⟩]
  rfl
 rw [hs]
 exact zoneStep_range a b (mdZ N) T (1, 0) (fun z hz2 => ⟨(h2 z hz2).1, (h2 z hz2).2 hz.1⟩) (by decide) (by show (1 : Int) ≤ _; omega)
def mdBase (l : List Int) (N ci : Nat) (p : Pc) : Int := mdPrice l (17 * ci + 5 * 0 + ((zoneB (madeZ N) exFrom p.f2).toNat - 1))
theorem mdBase_range {l : List Int} (hf : mdFits l = true) (N ci : Nat) (p : Pc) : 300 ≤ mdBase l N ci p ∧ mdBase l N ci p ≤ 555 := mdPrice_range hf _
theorem stAns_light (l : List Int) (ns ci z : Nat) (g : Int) (hs : 1 ≤ ns) (h : g ≤ 20) : stAns l ns ci z g = (mdPrice l (17 * ci + 5 * 0 + z), 0) := by
 have : stAt g = 0 := by unfold stAt; rw [if_pos h]
 unfold stAns
 rw [this, if_pos (by omega)]
theorem base_price (N : Nat) (l : List Int) (ci : Nat) (p : Pc) (h : p.f3 ≤ 20) : tariff_price.f ((ci : Int) + 1) ((List.range (mdS N)).map (mdStep l (mdZ N) ci)) (mdBar N : Int) (zoneB (madeZ N) exFrom p.f2) p.f3 = some (mdBase l N ci p, 0) := by
 have hz := made_zone N exFrom p.f2
 have hs := mdS_range N
 have h1 := price_steps l (mdZ N) (mdS N) ci ((zoneB (madeZ N) exFrom p.f2).toNat - 1) ((ci : Int) + 1) (mdBar N : Int) p.f3 hs.1 hs.2 (by omega)
 rw [show (((zoneB (madeZ N) exFrom p.f2).toNat - 1 : Nat) : Int) + 1 = zoneB (madeZ N) exFrom p.f2 by omega] at h1
 rw [h1, stAns_light l (mdS N) ci _ p.f3 hs.1 h]
 rfl
theorem mlPiece_grams {l : List Int} (hf : mlFits l = true) {k : Nat} {p : Pc} (h : p ∈ mlPieces l k) : 1 ≤ p.f3 ∧ p.f3 ≤ 20 := by
 obtain ⟨i, hi, rfl, hx⟩ := mlPieces_mem hf h
 show 1 ≤ 1 + ((mlX l i / 4 % 20 : Nat) : Int) ∧ 1 + ((mlX l i / 4 % 20 : Nat) : Int) ≤ 20
 omega
theorem mlN_le (l : List Int) : mlN l ≤ 2000 := by unfold mlN; omega
theorem bases_made (N : Nat) {l : List Int} (hf : mdFits l = true) (ci : Nat) (hc : ci < mdC N) {ml : List Int} (hm : mlFits ml = true) (k : Nat) (hk : mlN ml + 40 < k) :
  tariff_Bases.f k (madeR N l) (madeZ N) ((ci : Int) + 1) 1 exFrom (mlPieces ml (mlN ml)) = some ((mlPieces ml (mlN ml)).map (mdBase l N ci), 0) := by
 have hc3 := (mdC_range N).2
 have hn := mlN_le ml
 refine bases_is (madeR N l) (madeZ N) ((ci : Int) + 1) 1 exFrom (mlPieces ml (mlN ml)) ((ci : Int) + 1) ((List.range (mdS N)).map (mdStep l (mdZ N) ci)) (mdBar N : Int) (mdBase l N ci) (made_right_f N l hf) (fun z hz => by have := made_short N z hz; omega) (by obtain ⟨-, -, h3, -⟩ := made_rows N; omega) (by rw [mlPieces_len]; omega) (by decide)
  (fun p hp => mlPiece_size hm hp) (made_mailing ml hm _ (by omega)) (fun f h3 => rate_made l (mdZ N) (mdS N) (mdBar N) (mdC N) ci hc hc3 (madeZ N) f h3) (by omega) (fun p hp => base_price N l ci p (mlPiece_grams hm hp).2) k (by rw [mlPieces_len]; exact hk)
theorem basesL_rd (l : List Int) (N ci : Nat) (ml : List Int) (i : Nat) (h : i < mlN ml) : rd ((mlPieces ml (mlN ml)).map (mdBase l N ci)) (i : Int) = mdBase l N ci (mlPiece ml i) := by
 rw [int_get _ _ (by rw [List.length_map, mlPieces_len]; exact h), List.getElem_map]
 have h2 := mlPieces_get ml (mlN ml) i h
 rw [pc_get _ _ (by rw [mlPieces_len]; exact h)] at h2
 rw [h2]
theorem postOk_made (N : Nat) {l : List Int} (hf : mdFits l = true) (ci : Nat) (ml : List Int) (L : List Lv) (hL : ∀ x ∈ L, 0 ≤ x.f4 ∧ x.f4 ≤ 1000000) (plan : List Int) (hp : plan.length = mlN ml) (hpl : ∀ i : Nat, i < mlN ml → 0 ≤ rd plan (i : Int) ∧ rd plan (i : Int) < (L.length : Int)) (P : List Pc) (hP : P.length = mlN ml) :
  PostOk L ((mlPieces ml (mlN ml)).map (mdBase l N ci)) plan (mdBar N : Int) P (mlN ml) where
 nP := hP
 npl := hp
 nb := by rw [List.length_map, mlPieces_len]
 hn := by have := mlN_le ml; omega
 pl := hpl
 bb := fun i hi => by have := mdBase_range hf N ci (mlPiece ml i); rw [basesL_rd l N ci ml i hi]; omega
 lb := fun i hi => by rw [lv_get L i hi]; exact hL _ (List.getElem_mem hi)
 rb := by have := mdBar_range N; omega
theorem plan_ok (plan : List Int) (many n : Nat) (h : 1 ≤ many) : ∀ i : Nat, i < n → 0 ≤ rd (planOf plan many n) (i : Int) ∧ rd (planOf plan many n) (i : Int) < (many : Int) := by
 intro i hi
 rw [planOf_rd plan many n i hi]
 have := lvAt_lt plan many i h
 omega
end Go.Proofs.YtfglcfbcdhjcdaaDoor.Q

namespace Go.Proofs.YtfglcfbcdhjcdaaDoor.Q
open Go.RowKit Go.Proofs.YtfglcfbcdhjcdaaDoorW.PrintWords Go.Proofs.YtfglcfbcdhjcdaaDoorW.PrintLast Go.Proofs.YtfglcfbcdhjcdaaDoorW.PrintMore
set_option linter.unusedVariables false
set_option linter.unusedSimpArgs false
def plainP (p : Pc) : Pc := ⟨p.f0, p.f1, p.f2, p.f3, false⟩
def freeL (x : Lv) : Lv := ⟨x.f0, x.f1, x.f2, x.f3, 0⟩
def upTo {α : Type} (f : α → α) (i : Nat) (xs : List α) : List α := (xs.take i).map f ++ xs.drop i
theorem upTo_zero {α : Type} (f : α → α) (xs : List α) : upTo f 0 xs = xs := by simp [upTo]
theorem upTo_all {α : Type} (f : α → α) (xs : List α) : upTo f xs.length xs = xs.map f := by simp [upTo]
theorem upTo_len {α : Type} (f : α → α) (i : Nat) (xs : List α) : (upTo f i xs).length = xs.length := by
 unfold upTo
 rw [List.length_append, List.length_map, List.length_take, List.length_drop]
 omega
theorem upTo_get {α : Type} (f : α → α) (i : Nat) (xs : List α) (z : α) (h : i < xs.length) : (upTo f i xs).getD i z = xs.getD i z := by
 unfold upTo
 rw [List.getD_eq_getElem?_getD, List.getD_eq_getElem?_getD, List.getElem?_append_right (by rw [List.length_map, List.length_take]; omega), List.length_map, List.length_take, List.getElem?_drop, show i + (i - min i xs.length) = i by omega]
theorem upTo_set {α : Type} (f : α → α) (i : Nat) (xs : List α) (z : α) (h : i < xs.length) : (upTo f i xs).set i (f (xs.getD i z)) = upTo f (i + 1) xs := by
 unfold upTo
 rw [List.set_append_right _ _ (by rw [List.length_map, List.length_take]; omega), List.length_map, List.length_take, show i - min i xs.length = 0 by omega, List.drop_eq_getElem_cons h, List.set_cons_zero, List.take_succ_eq_append_getElem h, List.map_append, List.append_assoc, List.getD_eq_getElem?_getD, List.getElem?_eq_getElem h]
 rfl
theorem free23 (n : Nat) (le ce : List Int) : (made23 n le ce).map freeL = made23 n le [] := by
 have ha : ∀ (b : Bool) (o o' : List Lv) (nm : ByteArray) (p : Int) (labs : List Lb), o.map freeL = o' → (m3Add le ce b o nm p labs).map freeL = m3Add le [] b o' nm p labs ∧ (m3Add le ce b o nm p labs).length = (m3Add le [] b o' nm p labs).length := by
  intro b o o' nm p labs h
  subst h
  unfold m3Add
  split
  ·refine ⟨?_, by simp⟩
   rw [List.map_append, List.length_map]
   rfl
  ·exact ⟨rfl, by simp⟩
 have h1 := ha (n.testBit 0) [] [] txFive 5 (m3L5 n) rfl
 have h2 := ha (n.testBit 1) _ _ txThree 3 (m3L3 n) h1.1
 have h3 := ha (n.testBit 2) _ _ txOne 1 (m3L1 n) h2.1
 unfold made23
 rw [List.map_append]
 unfold m3C m3B m3A
 rw [h3.1]
 rfl
theorem free_cents (n : Nat) (x : Lv) (h : x ∈ made23 n [] []) : x.f4 = 0 := by
 rw [← free23 n [] []] at h
 obtain ⟨y, -, rfl⟩ := List.mem_map.1 h
 rfl
theorem pieces_plain : ∀ (P : List Pc) (last : Int), piecesGo last (P.map plainP) = piecesGo last P
 | [], _ => rfl
 | p :: ps, last => by
  rw [List.map_cons, piecesGo_cons, piecesGo_cons, pieces_plain ps]
  rfl
theorem mailing_plain (c co : Int) (o : ByteArray) (P : List Pc) : mailingB c co o (P.map plainP) = mailingB c co o P := by
 unfold mailingB
 rw [pieces_plain, List.length_map]
theorem bases_plain (N : Nat) {l : List Int} (hf : mdFits l = true) (ci : Nat) (hc : ci < mdC N) {ml : List Int} (hm : mlFits ml = true) (k : Nat) (hk : mlN ml + 40 < k) :
  tariff_Bases.f k (madeR N l) (madeZ N) ((ci : Int) + 1) 1 exFrom ((mlPieces ml (mlN ml)).map plainP) = some ((mlPieces ml (mlN ml)).map (mdBase l N ci), 0) := by
 have hc3 := (mdC_range N).2
 have hn := mlN_le ml
 have h := bases_is (madeR N l) (madeZ N) ((ci : Int) + 1) 1 exFrom ((mlPieces ml (mlN ml)).map plainP) ((ci : Int) + 1) ((List.range (mdS N)).map (mdStep l (mdZ N) ci)) (mdBar N : Int) (mdBase l N ci) (made_right_f N l hf) (fun z hz => by have := made_short N z hz; omega) (by obtain ⟨-, -, h3, -⟩ := made_rows N; omega) (by rw [List.length_map, mlPieces_len]; omega) (by decide)
  (fun p hp => by obtain ⟨q, hq, rfl⟩ := List.mem_map.1 hp; exact (show q.f2.size ≤ 1000 from mlPiece_size hm hq)) (by rw [mailing_plain]; exact made_mailing ml hm _ (by omega)) (fun f h3 => rate_made l (mdZ N) (mdS N) (mdBar N) (mdC N) ci hc hc3 (madeZ N) f h3) (by omega) (fun p hp => by obtain ⟨q, hq, rfl⟩ := List.mem_map.1 hp; exact base_price N l ci (plainP q) (show q.f3 ≤ 20 from (mlPiece_grams hm hq).2)) k (by rw [List.length_map, mlPieces_len]; exact hk)
 rw [List.map_map] at h
 exact h
theorem plain_rd (P : List Pc) (i : Nat) (h : i < P.length) : rd_T48 (P.map plainP) (i : Int) = plainP (rd_T48 P (i : Int)) := by
 rw [pc_get _ _ (by rw [List.length_map]; exact h), pc_get _ _ h, List.getElem_map]
theorem free_rd (L : List Lv) (i : Nat) (h : i < L.length) : rd_T54 (L.map freeL) (i : Int) = freeL (rd_T54 L (i : Int)) := by
 rw [lv_get _ _ (by rw [List.length_map]; exact h), lv_get _ _ h, List.getElem_map]
theorem post_plain (L : List Lv) (bl plan : List Int) (bar : Int) (P : List Pc) (n : Nat) (hP : P.length = n) (hb : bl.length = n) (hp : ∀ i : Nat, i < n → 0 ≤ rd plan (i : Int) ∧ rd plan (i : Int) < (L.length : Int)) : postOf (L.map freeL) bl plan bar (P.map plainP) n = bl := by
 refine List.ext_getElem (by rw [postOf_len, hb]) (fun i h1 h2 => ?_)
 have hi : i < n := by omega
 have h := postOf_rd (L.map freeL) bl plan bar (P.map plainP) n i hi
 rw [int_get _ _ h1] at h
 obtain ⟨j, hj⟩ : ∃ j : Nat, rd plan (i : Int) = (j : Int) := ⟨(rd plan (i : Int)).toNat, by have := (hp i hi).1; omega⟩
 have hj2 := (hp i hi).2
 rw [h]
 unfold postAt
 rw [plain_rd P i (by omega), hj, free_rd L j (by omega), int_get _ _ h2]
 show bl[i] - 0 - (if false = true then bar else 0) = bl[i]
 simp
end Go.Proofs.YtfglcfbcdhjcdaaDoor.Q

namespace Go.Proofs.YtfglcfbcdhjcdaaDoor.Q
open Go.RowKit Go.Proofs.YtfglcfbcdhjcdaaDoorW.PrintWords Go.Proofs.YtfglcfbcdhjcdaaDoorW.PrintLast Go.Proofs.YtfglcfbcdhjcdaaDoorW.PrintMore
set_option linter.unusedVariables false
set_option linter.unusedSimpArgs false
set_option maxHeartbeats 4000000 in
set_option maxRecDepth 100000 in
theorem m3add.calls (A : Option Addr) (c : Nat) (le : List Int) (hle : mdFits le = true) (B : Option Addr) (d : Nat) (ce : List Int) (hce : mdFits ce = true) (bl bc bo : Nat) (hbl : bl < bo) (hbc : bc < bo) (W : World)
  (hl : W.heap[bl]? = some (.cells #[.slice A le.length c] 29 (0, 0))) (hlC : Kd.C (Kd.int .u8) W A le.length le) (hc : W.heap[bc]? = some (.cells #[.slice B ce.length d] 29 (0, 0))) (hcC : Kd.C (Kd.int .u8) W B ce.length ce)
  (L : List Lv) (hL : L.length ≤ 3) (hO : Holds k54 54 32 bo (fun v => #[v]) L W) (nm : ByteArray) (p : Int) (labs : List Lb) (vL : Value) (hV : Kd.R k90 90 W (bo + 1) (fun _ => True) vL labs) :
  Calls Tryd.prog 40 #[.agg #[.string nm, .int .i64 p, vL, .int .i64 0, .int .i64 0], .pointer (some ⟨bo, 0, none⟩), .pointer (some ⟨bl, 0, none⟩), .pointer (some ⟨bc, 0, none⟩)] W
   fun e W' => e = .returned (.tuple #[]) ∧ Below bo W W' ∧ Holds k54 54 32 bo (fun v => #[v]) (L ++ [m3Lv le ce L.length nm p labs]) W' := by
 obtain ⟨vO, hob, hoR⟩ := hO
 obtain ⟨Ao, co, eo⟩ := Kd.R_slice hoR
 subst eo
 obtain ⟨Av, cv, ev⟩ := Kd.R_slice hV
 subst ev
 have HLV : Aside0 (m3Lv le ce L.length nm p labs = ⟨nm, p, labs, 1 + le.getD L.length 0, ce.getD L.length 0⟩) := ⟨rfl⟩
 have HG1 := getD_range hle L.length
 have HG2 := getD_range hce L.length
 have hbo := blk_lt hob
 have hbl2 := blk_lt hl
 have hbc2 := blk_lt hc
 have o0 : W.cell? ⟨bo, 0, none⟩ = some (.slice Ao L.length co) := (blk_cell hob 0).trans rfl
 have l0 : W.cell? ⟨bl, 0, none⟩ = some (.slice A le.length c) := (blk_cell hl 0).trans rfl
 have c0 : W.cell? ⟨bc, 0, none⟩ = some (.slice B ce.length d) := (blk_cell hc 0).trans rfl
 have HOB := Aside0.mk hob
 have HOR := Aside0.mk hoR
 have HV := Aside0.mk hV
 have HLC := Aside0.mk hlC
 have HCC := Aside0.mk hcC
 have HM1 := Kd.C_max hlC
 have HM2 := Kd.C_max hcC
 clear hob hoR hV hlC hcC hl hc hle hce
 generalize hn : L.length = n at *
 generalize hm1 : le.length = m1 at *
 generalize hm2 : ce.length = m2 at *
 have HN := Aside0.mk hn
 have HE1 := Aside0.mk hm1
 have HE2 := Aside0.mk hm2
 clear hn hm1 hm2
 by_cases h1 : n < m1
 ·obtain ⟨ad1, cs, rfl, -, hk, hcell⟩ := Kd.C_get HLC.out 0 (n : Int) (by omega) (by omega)
  rw [Int.toNat_natCast] at hk hcell
  have hcs2 : cs = [.int .u8 (le.getD n 0)] := hk
  subst hcs2
  have k1 := hcell 0 _ rfl
  rw [show (Kd.int .u8).sz = 1 from rfl, Nat.mul_one, Nat.add_zero] at k1
  have k1b := World.block_lt_of_cell? _ _ k1
  generalize le.getD n 0 = x1 at *
  clear hcell hk
  by_cases h2 : n < m2
  ·obtain ⟨ad2, cs, rfl, -, hk, hcell⟩ := Kd.C_get HCC.out 0 (n : Int) (by omega) (by omega)
   rw [Int.toNat_natCast] at hk hcell
   have hcs2 : cs = [.int .u8 (ce.getD n 0)] := hk
   subst hcs2
   have k2 := hcell 0 _ rfl
   rw [show (Kd.int .u8).sz = 1 from rfl, Nat.mul_one, Nat.add_zero] at k2
   have k2b := World.block_lt_of_cell? _ _ k2
   generalize ce.getD n 0 = x2 at *
   clear hcell hk
   have HOR2 := Aside0.mk (Kd.R_alloc HOR.out (.cells #[.string nm, .int .i64 p, .slice Av labs.length cv, .int .i64 (1 + x1), .int .i64 x2] 54 (0, 0)))
   have HV2 := Aside0.mk (Kd.R_apartR (Kd.R_alloc HV.out (.cells #[.string nm, .int .i64 p, .slice Av labs.length cv, .int .i64 (1 + x1), .int .i64 x2] 54 (0, 0))) HOR2.out (by decide))
   have HOB2 := Aside0.mk (blk_alloc HOB.out (.cells #[.string nm, .int .i64 p, .slice Av labs.length cv, .int .i64 (1 + x1), .int .i64 x2] 54 (0, 0)))
   have HBA := Aside0.mk (below_alloc (Below.refl W.heap.size W) (.cells #[.string nm, .int .i64 p, .slice Av labs.length cv, .int .i64 (1 + x1), .int .i64 x2] 54 (0, 0)))
   have hsz2 : (W.alloc (.cells #[.string nm, .int .i64 p, .slice Av labs.length cv, .int .i64 (1 + x1), .int .i64 x2] 54 (0, 0))).heap.size = W.heap.size + 1 := by simp
   go_enter Tryd.func40, Tryd.ntmps40
   go_wp2_with (first | ((with_reducible refine gate_builtin (b := .append) (xs := #[.tmp 30, .tmp 32]) rfl ?_); at_builtin; refine Kd.R_append k54 (w0 := (W.alloc (.cells #[.string nm, .int .i64 p, .slice Av labs.length cv, .int .i64 (1 + x1), .int .i64 x2] 54 (0, 0)))) (bo + 1) rfl (.tmp 30) (.tmp 32) 32 54 (.agg #[.string ⟨#[]⟩, .int .i64 0, .slice none 0 0, .int .i64 0, .int .i64 0]) 64 rfl Tryd.underlying32 info54 rfl (by decide) (by omega) (.slice Ao n co) _ (⟨nm, p, labs, (1 + x1), x2⟩ : Lv) [.string nm, .int .i64 p, .slice Av labs.length cv, .int .i64 (1 + x1), .int .i64 x2] (fun _ => True) (fun k => True ∧ some k ≠ (Value.slice Ao n co).ownBlock) rfl (by rw [hsz2]; rfl) (k54_mkM _ _ _ (⟨nm, p, labs, (1 + x1), x2⟩ : Lv) HV2.out) (fun _ hk => hk) (fun _ _ => trivial) HOR2.out (Below.refl _ _) (by omega) (by rw [HN.out]; omega) ?_; intro v1 w1 ho hb hg hat; obtain ⟨Aw, cw, ew⟩ := Kd.R_slice ho; generalize (L ++ [(⟨nm, p, labs, (1 + x1), x2⟩ : Lv)]).length = lw at ew; subst ew; have hrb1 := (hb.block bo (Nat.lt_succ_self _)).trans HOB2.out; have r2 : w1.cell? ⟨bo, 0, none⟩ = some (.slice Ao n co) := (blk_cell hrb1 0).trans rfl; have f2 := blk_frozen hrb1 0; have HRB := Aside0.mk hrb1; have HO := Aside0.mk ho; have HBB := Aside0.mk hb; clear ho hb hg hat hrb1))
   go_end0
   refine ⟨rfl, ((HBA.out.mono (Nat.le_of_lt hbo)).trans (HBB.out.mono (Nat.le_succ _))).setCell (p := ⟨bo, 0, none⟩) (Nat.le_refl _) _, ?_⟩
   rw [HLV.out]
   exact Holds.put (f := fun v => #[v]) HRB.out HO.out 0 rfl
  ·have e2 : ce.getD n 0 = 0 := by rw [List.getD_eq_getElem?_getD, List.getElem?_eq_none (by have := HE2.out; omega)]; rfl
   rw [e2] at HLV
   clear HG2 e2
   have HOR2 := Aside0.mk (Kd.R_alloc HOR.out (.cells #[.string nm, .int .i64 p, .slice Av labs.length cv, .int .i64 (1 + x1), .int .i64 0] 54 (0, 0)))
   have HV2 := Aside0.mk (Kd.R_apartR (Kd.R_alloc HV.out (.cells #[.string nm, .int .i64 p, .slice Av labs.length cv, .int .i64 (1 + x1), .int .i64 0] 54 (0, 0))) HOR2.out (by decide))
   have HOB2 := Aside0.mk (blk_alloc HOB.out (.cells #[.string nm, .int .i64 p, .slice Av labs.length cv, .int .i64 (1 + x1), .int .i64 0] 54 (0, 0)))
   have HBA := Aside0.mk (below_alloc (Below.refl W.heap.size W) (.cells #[.string nm, .int .i64 p, .slice Av labs.length cv, .int .i64 (1 + x1), .int .i64 0] 54 (0, 0)))
   have hsz2 : (W.alloc (.cells #[.string nm, .int .i64 p, .slice Av labs.length cv, .int .i64 (1 + x1), .int .i64 0] 54 (0, 0))).heap.size = W.heap.size + 1 := by simp
   go_enter Tryd.func40, Tryd.ntmps40
   go_wp2_with (first | ((with_reducible refine gate_builtin (b := .append) (xs := #[.tmp 30, .tmp 32]) rfl ?_); at_builtin; refine Kd.R_append k54 (w0 := (W.alloc (.cells #[.string nm, .int .i64 p, .slice Av labs.length cv, .int .i64 (1 + x1), .int .i64 0] 54 (0, 0)))) (bo + 1) rfl (.tmp 30) (.tmp 32) 32 54 (.agg #[.string ⟨#[]⟩, .int .i64 0, .slice none 0 0, .int .i64 0, .int .i64 0]) 64 rfl Tryd.underlying32 info54 rfl (by decide) (by omega) (.slice Ao n co) _ (⟨nm, p, labs, (1 + x1), 0⟩ : Lv) [.string nm, .int .i64 p, .slice Av labs.length cv, .int .i64 (1 + x1), .int .i64 0] (fun _ => True) (fun k => True ∧ some k ≠ (Value.slice Ao n co).ownBlock) rfl (by rw [hsz2]; rfl) (k54_mkM _ _ _ (⟨nm, p, labs, (1 + x1), 0⟩ : Lv) HV2.out) (fun _ hk => hk) (fun _ _ => trivial) HOR2.out (Below.refl _ _) (by omega) (by rw [HN.out]; omega) ?_; intro v1 w1 ho hb hg hat; obtain ⟨Aw, cw, ew⟩ := Kd.R_slice ho; generalize (L ++ [(⟨nm, p, labs, (1 + x1), 0⟩ : Lv)]).length = lw at ew; subst ew; have hrb1 := (hb.block bo (Nat.lt_succ_self _)).trans HOB2.out; have r2 : w1.cell? ⟨bo, 0, none⟩ = some (.slice Ao n co) := (blk_cell hrb1 0).trans rfl; have f2 := blk_frozen hrb1 0; have HRB := Aside0.mk hrb1; have HO := Aside0.mk ho; have HBB := Aside0.mk hb; clear ho hb hg hat hrb1))
   go_end0
   refine ⟨rfl, ((HBA.out.mono (Nat.le_of_lt hbo)).trans (HBB.out.mono (Nat.le_succ _))).setCell (p := ⟨bo, 0, none⟩) (Nat.le_refl _) _, ?_⟩
   rw [HLV.out]
   exact Holds.put (f := fun v => #[v]) HRB.out HO.out 0 rfl
 ·have e1 : le.getD n 0 = 0 := by rw [List.getD_eq_getElem?_getD, List.getElem?_eq_none (by have := HE1.out; omega)]; rfl
  rw [e1, Int.add_zero] at HLV
  clear HG1 e1
  by_cases h2 : n < m2
  ·obtain ⟨ad2, cs, rfl, -, hk, hcell⟩ := Kd.C_get HCC.out 0 (n : Int) (by omega) (by omega)
   rw [Int.toNat_natCast] at hk hcell
   have hcs2 : cs = [.int .u8 (ce.getD n 0)] := hk
   subst hcs2
   have k2 := hcell 0 _ rfl
   rw [show (Kd.int .u8).sz = 1 from rfl, Nat.mul_one, Nat.add_zero] at k2
   have k2b := World.block_lt_of_cell? _ _ k2
   generalize ce.getD n 0 = x2 at *
   clear hcell hk
   have HOR2 := Aside0.mk (Kd.R_alloc HOR.out (.cells #[.string nm, .int .i64 p, .slice Av labs.length cv, .int .i64 1, .int .i64 x2] 54 (0, 0)))
   have HV2 := Aside0.mk (Kd.R_apartR (Kd.R_alloc HV.out (.cells #[.string nm, .int .i64 p, .slice Av labs.length cv, .int .i64 1, .int .i64 x2] 54 (0, 0))) HOR2.out (by decide))
   have HOB2 := Aside0.mk (blk_alloc HOB.out (.cells #[.string nm, .int .i64 p, .slice Av labs.length cv, .int .i64 1, .int .i64 x2] 54 (0, 0)))
   have HBA := Aside0.mk (below_alloc (Below.refl W.heap.size W) (.cells #[.string nm, .int .i64 p, .slice Av labs.length cv, .int .i64 1, .int .i64 x2] 54 (0, 0)))
   have hsz2 : (W.alloc (.cells #[.string nm, .int .i64 p, .slice Av labs.length cv, .int .i64 1, .int .i64 x2] 54 (0, 0))).heap.size = W.heap.size + 1 := by simp
   go_enter Tryd.func40, Tryd.ntmps40
   go_wp2_with (first | ((with_reducible refine gate_builtin (b := .append) (xs := #[.tmp 30, .tmp 32]) rfl ?_); at_builtin; refine Kd.R_append k54 (w0 := (W.alloc (.cells #[.string nm, .int .i64 p, .slice Av labs.length cv, .int .i64 1, .int .i64 x2] 54 (0, 0)))) (bo + 1) rfl (.tmp 30) (.tmp 32) 32 54 (.agg #[.string ⟨#[]⟩, .int .i64 0, .slice none 0 0, .int .i64 0, .int .i64 0]) 64 rfl Tryd.underlying32 info54 rfl (by decide) (by omega) (.slice Ao n co) _ (⟨nm, p, labs, 1, x2⟩ : Lv) [.string nm, .int .i64 p, .slice Av labs.length cv, .int .i64 1, .int .i64 x2] (fun _ => True) (fun k => True ∧ some k ≠ (Value.slice Ao n co).ownBlock) rfl (by rw [hsz2]; rfl) (k54_mkM _ _ _ (⟨nm, p, labs, 1, x2⟩ : Lv) HV2.out) (fun _ hk => hk) (fun _ _ => trivial) HOR2.out (Below.refl _ _) (by omega) (by rw [HN.out]; omega) ?_; intro v1 w1 ho hb hg hat; obtain ⟨Aw, cw, ew⟩ := Kd.R_slice ho; generalize (L ++ [(⟨nm, p, labs, 1, x2⟩ : Lv)]).length = lw at ew; subst ew; have hrb1 := (hb.block bo (Nat.lt_succ_self _)).trans HOB2.out; have r2 : w1.cell? ⟨bo, 0, none⟩ = some (.slice Ao n co) := (blk_cell hrb1 0).trans rfl; have f2 := blk_frozen hrb1 0; have HRB := Aside0.mk hrb1; have HO := Aside0.mk ho; have HBB := Aside0.mk hb; clear ho hb hg hat hrb1))
   go_end0
   refine ⟨rfl, ((HBA.out.mono (Nat.le_of_lt hbo)).trans (HBB.out.mono (Nat.le_succ _))).setCell (p := ⟨bo, 0, none⟩) (Nat.le_refl _) _, ?_⟩
   rw [HLV.out]
   exact Holds.put (f := fun v => #[v]) HRB.out HO.out 0 rfl
  ·have e2 : ce.getD n 0 = 0 := by rw [List.getD_eq_getElem?_getD, List.getElem?_eq_none (by have := HE2.out; omega)]; rfl
   rw [e2] at HLV
   clear HG2 e2
   have HOR2 := Aside0.mk (Kd.R_alloc HOR.out (.cells #[.string nm, .int .i64 p, .slice Av labs.length cv, .int .i64 1, .int .i64 0] 54 (0, 0)))
   have HV2 := Aside0.mk (Kd.R_apartR (Kd.R_alloc HV.out (.cells #[.string nm, .int .i64 p, .slice Av labs.length cv, .int .i64 1, .int .i64 0] 54 (0, 0))) HOR2.out (by decide))
   have HOB2 := Aside0.mk (blk_alloc HOB.out (.cells #[.string nm, .int .i64 p, .slice Av labs.length cv, .int .i64 1, .int .i64 0] 54 (0, 0)))
   have HBA := Aside0.mk (below_alloc (Below.refl W.heap.size W) (.cells #[.string nm, .int .i64 p, .slice Av labs.length cv, .int .i64 1, .int .i64 0] 54 (0, 0)))
   have hsz2 : (W.alloc (.cells #[.string nm, .int .i64 p, .slice Av labs.length cv, .int .i64 1, .int .i64 0] 54 (0, 0))).heap.size = W.heap.size + 1 := by simp
   go_enter Tryd.func40, Tryd.ntmps40
   go_wp2_with (first | ((with_reducible refine gate_builtin (b := .append) (xs := #[.tmp 30, .tmp 32]) rfl ?_); at_builtin; refine Kd.R_append k54 (w0 := (W.alloc (.cells #[.string nm, .int .i64 p, .slice Av labs.length cv, .int .i64 1, .int .i64 0] 54 (0, 0)))) (bo + 1) rfl (.tmp 30) (.tmp 32) 32 54 (.agg #[.string ⟨#[]⟩, .int .i64 0, .slice none 0 0, .int .i64 0, .int .i64 0]) 64 rfl Tryd.underlying32 info54 rfl (by decide) (by omega) (.slice Ao n co) _ (⟨nm, p, labs, 1, 0⟩ : Lv) [.string nm, .int .i64 p, .slice Av labs.length cv, .int .i64 1, .int .i64 0] (fun _ => True) (fun k => True ∧ some k ≠ (Value.slice Ao n co).ownBlock) rfl (by rw [hsz2]; rfl) (k54_mkM _ _ _ (⟨nm, p, labs, 1, 0⟩ : Lv) HV2.out) (fun _ hk => hk) (fun _ _ => trivial) HOR2.out (Below.refl _ _) (by omega) (by rw [HN.out]; omega) ?_; intro v1 w1 ho hb hg hat; obtain ⟨Aw, cw, ew⟩ := Kd.R_slice ho; generalize (L ++ [(⟨nm, p, labs, 1, 0⟩ : Lv)]).length = lw at ew; subst ew; have hrb1 := (hb.block bo (Nat.lt_succ_self _)).trans HOB2.out; have r2 : w1.cell? ⟨bo, 0, none⟩ = some (.slice Ao n co) := (blk_cell hrb1 0).trans rfl; have f2 := blk_frozen hrb1 0; have HRB := Aside0.mk hrb1; have HO := Aside0.mk ho; have HBB := Aside0.mk hb; clear ho hb hg hat hrb1))
   go_end0
   refine ⟨rfl, ((HBA.out.mono (Nat.le_of_lt hbo)).trans (HBB.out.mono (Nat.le_succ _))).setCell (p := ⟨bo, 0, none⟩) (Nat.le_refl _) _, ?_⟩
   rw [HLV.out]
   exact Holds.put (f := fun v => #[v]) HRB.out HO.out 0 rfl
theorem and_pow (n i : Nat) : n &&& 2 ^ i = if n.testBit i then 2 ^ i else 0 := by
 refine Nat.eq_of_testBit_eq (fun j => ?_)
 rw [Nat.testBit_and, Nat.testBit_two_pow]
 by_cases h : i = j
 ·subst h
  cases n.testBit i <;> simp [Nat.testBit_two_pow_self]
 ·cases n.testBit i <;> simp [h, Nat.testBit_two_pow]
theorem m3bit (N : Nat) (hN : N < 4294967296) (i : Nat) (hi : i ≤ 2) : bits .and .u32 (N : Int) ((2 ^ i : Nat) : Int) = if N.testBit i then ((2 ^ i : Nat) : Int) else 0 := by
 have h2 : 2 ^ i ≤ 4 := Nat.pow_le_pow_right (n := 2) (by decide) hi
 rw [(bits_nat .u32 32 (by decide) (fun n h0 h1 => by rw [IntKind.wrap_u32]; omega) N (2 ^ i) (by simpa using hN) (by omega)).1, and_pow]
 cases N.testBit i <;> simp
theorem m3bits (N : Nat) (hN : N < 4294967296) (s m i : Nat) (hi : i < m) : bits .and .u32 ((N : Int) / 2 ^ (s + i)) 1 = if (N / 2 ^ s % 2 ^ m).testBit i then 1 else 0 := by
 have hp : ((2 : Int) ^ (s + i)) = ((2 ^ (s + i) : Nat) : Int) := by simp
 rw [hp, ← Int.natCast_ediv]
 have hle : N / 2 ^ (s + i) ≤ N := Nat.div_le_self _ _
 have e : (N / 2 ^ s % 2 ^ m).testBit i = decide (N / 2 ^ (s + i) % 2 = 1) := by
  rw [Nat.testBit_mod_two_pow, decide_eq_true hi, Bool.true_and, Nat.testBit_eq_decide_div_mod_eq, Nat.div_div_eq_div_mul, ← Nat.pow_add]
 rw [e]
 generalize N / 2 ^ (s + i) = q at *
 rw [u32_and1 _ (by omega) (by omega)]
 by_cases h : q % 2 = 1
 ·simp [h]
  omega
 ·have h0 : q % 2 = 0 := by omega
  simp [h0]
  omega
structure M3Inv (A : Option Addr) (c : Nat) (le : List Int) (B : Option Addr) (d : Nat) (ce : List Int) (w : World) (L : List Lv) (W : World) : Prop where
 bel : Below w.heap.size w W
 hl : W.heap[w.heap.size]? = some (.cells #[.slice A le.length c] 29 (0, 0))
 hc : W.heap[w.heap.size + 1]? = some (.cells #[.slice B ce.length d] 29 (0, 0))
 ho : Holds k54 54 32 (w.heap.size + 2) (fun v => #[v]) L W
structure M3In (nm : ByteArray) (p : Int) (tab : Array Value) (f : Nat → Lb) (x : Nat) (w : World) (i : Nat) (W : World) : Prop where
 bel : Below w.heap.size w W
 tb : W.heap[w.heap.size + 1]? = some (.cells tab 9 (0, 0))
 lv : Holds k90 90 54 w.heap.size (fun v => #[.string nm, .int .i64 p, v, .int .i64 0, .int .i64 0]) (m3Pick f x i) W
section
variable {nm : ByteArray} {p : Int} {tab : Array Value} {f : Nat → Lb} {x : Nat} {w : World} {i : Nat} {W W1 : World}
theorem M3In.skip (h : M3In nm p tab f x w i W) (hx : x.testBit i = false) : M3In nm p tab f x w (i + 1) W := ⟨h.bel, h.tb, by unfold m3Pick; rw [hx]; simpa using h.lv⟩
theorem M3In.below (h : M3In nm p tab f x w i W) (hb : Below W.heap.size W W1) : M3In nm p tab f x w i W1 := ⟨h.bel.trans (hb.mono h.bel.size), (hb.block _ (blk_lt h.tb)).trans h.tb, h.lv.below hb⟩
theorem M3In.put {v v1 : Value} (h : M3In nm p tab f x w i W) (hx : x.testBit i = true) (hlb : W.heap[w.heap.size]? = some (.cells #[.string nm, .int .i64 p, v, .int .i64 0, .int .i64 0] 54 (0, 0))) (hlR : Kd.R k90 90 W (w.heap.size + 1) (fun _ => True) v (m3Pick f x i))
  (ho : Kd.R k90 90 W1 (w.heap.size + 1) (fun _ => True) v1 (m3Pick f x i ++ [f i])) (hb : Below (w.heap.size + 1) W W1) (hg : W.grownBy W1 v.ownBlock) : M3In nm p tab f x w (i + 1) (W1.setCell ⟨w.heap.size, 2, none⟩ v1) := by
 refine ⟨(h.bel.trans (hb.mono (Nat.le_succ _))).setCell (p := ⟨w.heap.size, 2, none⟩) (Nat.le_refl _) _, ?_, ?_⟩
 ·exact (Below.heap_setCell _ _ _ _ (by show w.heap.size + 1 ≠ w.heap.size; omega)).trans ((hg.block _ (blk_lt h.tb) (Kd.R_ne hlR h.tb (by decide))).trans h.tb)
 ·unfold m3Pick
  rw [hx, if_pos rfl]
  exact Holds.put (f := fun v => #[.string nm, .int .i64 p, v, .int .i64 0, .int .i64 0]) ((hb.block _ (Nat.lt_succ_self _)).trans hlb) ho 2 rfl
end
section
variable {A : Option Addr} {c : Nat} {le : List Int} {B : Option Addr} {d : Nat} {ce : List Int} {w : World} {L : List Lv} {W W1 : World}
theorem M3Inv.below (h : M3Inv A c le B d ce w L W) (hb : Below W.heap.size W W1) : M3Inv A c le B d ce w L W1 := ⟨h.bel.trans (hb.mono h.bel.size), (hb.block _ (blk_lt h.hl)).trans h.hl, (hb.block _ (blk_lt h.hc)).trans h.hc, h.ho.below hb⟩
end
theorem m3_lens (N : Nat) (le ce : List Int) : (m3A N le ce).length ≤ 3 ∧ (m3B N le ce).length ≤ 3 ∧ (m3C N le ce).length ≤ 3 := by
 unfold m3C m3B m3A m3Add
 refine ⟨?_, ?_, ?_⟩
 all_goals (repeat' split)
 all_goals simp
theorem m3Pick_len (f : Nat → Lb) (x : Nat) : ∀ k, (m3Pick f x k).length ≤ k
 | 0 => Nat.le_refl _
 | k + 1 => by
  have := m3Pick_len f x k
  unfold m3Pick
  rw [List.length_append]
  split <;> simp <;> omega
def m3TabA : Array Value := #[.string ⟨#[49, 48, 48, 48, 48]⟩, .string ⟨#[49, 48, 48, 48, 49]⟩, .string ⟨#[49, 48, 48, 49, 48]⟩, .string ⟨#[49, 49, 48, 48, 48]⟩, .string ⟨#[50, 48, 48, 48, 48]⟩]
theorem m3TabA_at (i : Nat) (h : i < 5) : m3TabA[i]? = some (.string (m3Five i).f0) ∧ 3 ≤ (m3Five i).f0.size ∧ (⟨#[72]⟩ : ByteArray) ++ (m3Five i).f0.extract 0 3 = (m3Five i).f1 := by
 obtain rfl | rfl | rfl | rfl | rfl : i = 0 ∨ i = 1 ∨ i = 2 ∨ i = 3 ∨ i = 4 := by omega
 all_goals exact ⟨rfl, by decide, by decide +kernel⟩
def m3TabB : Array Value := #[.string ⟨#[49, 48, 48]⟩, .string ⟨#[49, 48, 49]⟩, .string ⟨#[49, 49, 48]⟩, .string ⟨#[50, 48, 48]⟩, .string ⟨#[50, 48, 49]⟩, .string ⟨#[51, 48, 48]⟩]
theorem m3TabB_at (i : Nat) (h : i < 6) : m3TabB[i]? = some (.string (m3Three i).f0) ∧ 1 ≤ (m3Three i).f0.size ∧ (⟨#[71]⟩ : ByteArray) ++ (m3Three i).f0.extract 0 1 = (m3Three i).f1 := by
 obtain rfl | rfl | rfl | rfl | rfl | rfl : i = 0 ∨ i = 1 ∨ i = 2 ∨ i = 3 ∨ i = 4 ∨ i = 5 := by omega
 all_goals exact ⟨rfl, by decide, by decide +kernel⟩
def m3TabC : Array Value := #[.string ⟨#[49]⟩, .string ⟨#[50]⟩, .string ⟨#[51]⟩]
theorem m3TabC_at (i : Nat) (h : i < 3) : m3TabC[i]? = some (.string (m3One i).f0) ∧ 0 ≤ (m3One i).f0.size ∧ (⟨#[90]⟩ : ByteArray) = (m3One i).f1 := by
 obtain rfl | rfl | rfl : i = 0 ∨ i = 1 ∨ i = 2 := by omega
 all_goals exact ⟨rfl, by decide, by decide +kernel⟩
set_option maxHeartbeats 16000000 in
set_option maxRecDepth 100000 in
theorem made23.calls0 (N : Nat) (hN : N < 4294967296) (A : Option Addr) (c : Nat) (le : List Int) (hle : mdFits le = true) (B : Option Addr) (d : Nat) (ce : List Int) (hce : mdFits ce = true) (w : World) (hr1 : Kd.C (Kd.int .u8) w A le.length le) (hr2 : Kd.C (Kd.int .u8) w B ce.length ce) :
  Calls Tryd.prog 13 #[.int .u32 (N : Int), .slice A le.length c, .slice B ce.length d] w fun e w' => ∃ v : Value, e = .returned v ∧ Kd.R k54 54 w' w.heap.size (fun _ => True) v (made23 N le ce) ∧ Below w.heap.size w w' := by
 have HR1 := Aside0.mk hr1
 have HR2 := Aside0.mk hr2
 have HM1 := Kd.C_max hr1
 have HM2 := Kd.C_max hr2
 have HADD : Aside0 (∀ (W : World) (L : List Lv), M3Inv A c le B d ce w L W → L.length ≤ 3 → ∀ (nm : ByteArray) (p : Int) (labs : List Lb) (vL : Value), Kd.R k90 90 W (w.heap.size + 3) (fun _ => True) vL labs →
  Calls Tryd.prog 40 #[.agg #[.string nm, .int .i64 p, vL, .int .i64 0, .int .i64 0], .pointer (some ⟨w.heap.size + 1 + 1, 0, none⟩), .pointer (some ⟨w.heap.size, 0, none⟩), .pointer (some ⟨w.heap.size + 1, 0, none⟩)] W
   fun e W' => e = .returned (.tuple #[]) ∧ M3Inv A c le B d ce w (L ++ [m3Lv le ce L.length nm p labs]) W') := ⟨fun W L h hL nm p labs vL hV =>
  (m3add.calls A c le hle B d ce hce w.heap.size (w.heap.size + 1) (w.heap.size + 2) (by omega) (by omega) W h.hl (Kd.C_below hr1 h.bel) h.hc (Kd.C_below hr2 h.bel) L hL h.ho nm p labs vL hV).mono (fun e W' h2 => ⟨h2.1, h.bel.trans (h2.2.1.mono (by omega)), (h2.2.1.block _ (by omega)).trans h.hl, (h2.2.1.block _ (by omega)).trans h.hc, h2.2.2⟩)⟩
 clear hr1 hr2
 have HBT : Aside0 (∀ s m i : Nat, i < m → bits .and .u32 ((N : Int) / 2 ^ (s + i)) 1 = if (N / 2 ^ s % 2 ^ m).testBit i then 1 else 0) := ⟨fun s m i hi => m3bits N hN s m i hi⟩
 have HBB : Aside0 (∀ i : Nat, i ≤ 2 → bits .and .u32 (N : Int) ((2 ^ i : Nat) : Int) = if N.testBit i then ((2 ^ i : Nat) : Int) else 0) := ⟨fun i hi => m3bit N hN i hi⟩
 have hIl := Aside0.mk hle
 have hIc := Aside0.mk hce
 clear hle hce
 generalize hm1 : le.length = m1 at *
 generalize hm2 : ce.length = m2 at *
 have HE1 := Aside0.mk hm1
 have HE2 := Aside0.mk hm2
 clear hm1 hm2
 go_enter Tryd.func13, Tryd.ntmps13
 go_upto_region 2 with fail
 go_cut [8] (fun s8 wx => s8 = .func (.func 40) #[] #[.pointer (some ⟨w.heap.size + 1 + 1, 0, none⟩), .pointer (some ⟨w.heap.size, 0, none⟩), .pointer (some ⟨w.heap.size + 1, 0, none⟩)] ∧ Aside0 (M3Inv A c le B d ce w [] wx))
 case first =>
  go_wp2_with fail
  go_meet
  refine ⟨rfl, ⟨⟨?_, ?_, ?_, .slice none 0 0, ?_, Kd.R_nil _ _ _ _ _⟩⟩⟩
  ·exact ((below_alloc (Below.refl _ _) _).alloc (by simp) _).alloc (by simp only [World.size_alloc]; omega) _
  ·rw [HE1.out]
   exact blk_alloc (blk_alloc (heap_alloc_new _ _) _) _
  ·rw [HE2.out]
   exact blk_alloc (by simpa using heap_alloc_new (w.alloc (.cells #[.slice A m1 c] 29 (0, 0))) (.cells #[.slice B m2 d] 29 (0, 0))) _
  ·simpa using heap_alloc_new ((w.alloc (.cells #[.slice A m1 c] 29 (0, 0))).alloc (.cells #[.slice B m2 d] 29 (0, 0))) (.cells #[.slice none 0 0] 32 (0, 0))
 case rest =>
  obtain ⟨rfl, HC⟩ := hcut
  rename World => W0
  go_upto_if 22 with fail
  go_cut [] (fun wx => Aside0 (M3Inv A c le B d ce w (m3A N le ce) wx))
  case first =>
   have hbb := HBB.out 0 (by omega)
   rw [show ((2 ^ 0 : Nat) : Int) = 1 from rfl] at hbb
   cases htb : N.testBit 0 with
   | false =>
    rw [htb] at hbb
    simp only [Bool.false_eq_true, if_false] at hbb
    go_wp2_with fail
    go_meet
    exact ⟨by unfold m3A m3Add; rw [htb]; exact HC.out⟩
   | true =>
    rw [htb] at hbb
    simp only [if_true] at hbb
    simp only [hbb]
    rw [show decide ((0 : Int) < 1) = true from rfl]
    clear hbb
    go_wp2_with fail
    go_loopg [26] 5 (fun gg s26 W => ∃ i : Nat, i ≤ 5 ∧ 5 - i ≤ gg ∧ s26 = .int .i64 i ∧ Aside0 (M3In txFive 5 m3TabA m3Five (N / 2 ^ 3 % 2 ^ 5) W0 i W))
    case atStart =>
     have hb1 := below_alloc (Below.refl W0.heap.size W0) (.cells #[.string ⟨#[102, 105, 118, 101]⟩, .int .i64 5, .slice none 0 0, .int .i64 0, .int .i64 0] 54 (0, 0))
     refine ⟨0, by omega, by omega, rfl, ⟨⟨hb1.alloc (by simp) _, by have h := heap_alloc_new (W0.alloc (.cells #[.string ⟨#[102, 105, 118, 101]⟩, .int .i64 5, .slice none 0 0, .int .i64 0, .int .i64 0] 54 (0, 0))) (.cells m3TabA 9 (0, 0)); rw [World.size_alloc] at h; exact h, .slice none 0 0, blk_alloc (heap_alloc_new W0 (.cells #[.string ⟨#[102, 105, 118, 101]⟩, .int .i64 5, .slice none 0 0, .int .i64 0, .int .i64 0] 54 (0, 0))) _, Kd.R_nil _ _ _ _ _⟩⟩⟩
    case round =>
     obtain ⟨i, hi, hgi, rfl, HI⟩ := hrel
     by_cases hlt : i < 5
     ·have hki : (i : Int) < 5 := by omega
      obtain ⟨q1, hsz, hgrp⟩ := m3TabA_at i hlt
      have c1 := (blk_cell HI.out.tb i).trans q1
      have hbit := HBT.out 3 5 i hlt
      have HIT : Aside0 (m3Five i = ⟨(m3Five i).f0, (m3Five i).f1⟩) := ⟨rfl⟩
      generalize (m3Five i).f0 = p1 at *
      generalize (m3Five i).f1 = g1 at *
      clear q1
      cases hxb : (N / 2 ^ 3 % 2 ^ 5).testBit i with
      | false =>
       rw [hxb] at hbit
       simp only [Bool.false_eq_true, if_false] at hbit
       go_wp2_with fail
       go_roundg (5 - (i + 1))
       case measure => omega
       case rel => exact ⟨i + 1, by omega, Nat.le_refl _, by go_num, ⟨HI.out.skip hxb⟩⟩
      | true =>
       rw [hxb] at hbit
       simp only [if_true] at hbit
       obtain ⟨vS, hlb, hlR⟩ := HI.out.lv
       obtain ⟨As, cs, es⟩ := Kd.R_slice hlR
       have hlen := m3Pick_len m3Five (N / 2 ^ 3 % 2 ^ 5) i
       have HPQ : Aside0 (m3Pick m3Five (N / 2 ^ 3 % 2 ^ 5) i ++ [(⟨p1, g1⟩ : Lb)] = m3Pick m3Five (N / 2 ^ 3 % 2 ^ 5) (i + 1)) := ⟨by rw [← HIT.out]; show _ = m3Pick m3Five (N / 2 ^ 3 % 2 ^ 5) i ++ _; rw [hxb, if_pos rfl]⟩
       generalize hls : (m3Pick m3Five (N / 2 ^ 3 % 2 ^ 5) i).length = ls at es hlen
       subst es
       have hlsz := blk_lt hlb
       have hszi : (3 : Int) ≤ (p1.size : Int) := by omega
       have r1 : wr.cell? ⟨W0.heap.size, 2, none⟩ = some (.slice As ls cs) := (blk_cell hlb 2).trans rfl
       have HLB := Aside0.mk hlb
       have HLR := Aside0.mk hlR
       have HLS := Aside0.mk hls
       clear hlb hlR hls
       have HI2 := Aside0.mk (HI.out.below (below_drew (Below.refl wr.heap.size wr)))
       have HLBd : Aside0 (wr.drew.heap[W0.heap.size]? = _) := ⟨HLB.out⟩
       have HLRd := Aside0.mk (Kd.R_drew HLR.out)
       have hszd : W0.heap.size < wr.drew.heap.size := hlsz
       have r1d : wr.drew.cell? ⟨W0.heap.size, 2, none⟩ = some (.slice As ls cs) := r1
       have r1a : (wr.alloc (.cells #[.string p1, .string g1] 90 (0, 0))).drew.cell? ⟨W0.heap.size, 2, none⟩ = some (.slice As ls cs) := ((below_alloc (Below.refl wr.drew.heap.size wr.drew) (.cells #[.string p1, .string g1] 90 (0, 0))).cell (p := ⟨W0.heap.size, 2, none⟩) hszd).trans r1d
       go_wp2_with fail
       refine wp_region_held_drew (S := (fun _ => True)) (by kernel_rfl) ?_ (fun hHeld => ?_)
       ·((try dsimp only); (try trivial))
       refine takeT 0 ?_ rfl (by kernel_rfl) (by kernel_rfl) (by kernel_rfl) (fun _ _ _ h => h) (by rfl) ?_ (by assumption) ?_
       rotate_left
       ·(intro w hSw; (try dsimp only at hSw); go_simp; (try with_reducible rfl))
       try simp only [Act.put, sl1, sl2, sl3]
       refine takeT 2 ?_ rfl (by kernel_rfl) (by kernel_rfl) (by kernel_rfl) (fun _ _ _ h => h) (by rfl) ?_ (by assumption) ?_
       rotate_left
       ·(intro w hSw; (try dsimp only at hSw); go_simp; (try with_reducible rfl))
       try simp only [Act.put, sl1, sl2, sl3]
       refine takeT 3 ?_ rfl (by kernel_rfl) (by kernel_rfl) (by kernel_rfl) (fun _ _ _ h => h) (by rfl) ?_ (by assumption) ?_
       rotate_left
       ·(intro w hSw; (try dsimp only at hSw); go_simp; (try with_reducible rfl))
       try simp only [Act.put, sl1, sl2, sl3]
       refine takeT 4 ?_ rfl (by kernel_rfl) (by kernel_rfl) (by kernel_rfl) (fun _ _ _ h => h) (by rfl) ?_ (by assumption) ?_
       rotate_left
       ·(intro w hSw; (try dsimp only at hSw); go_simp; (try with_reducible rfl))
       try simp only [Act.put, sl1, sl2, sl3]
       refine takeT 5 ?_ rfl (by kernel_rfl) (by kernel_rfl) (by kernel_rfl) (fun _ _ _ h => h) (by rfl) ?_ (by assumption) ?_
       rotate_left
       ·(intro w hSw; (try dsimp only at hSw); go_simp; (try with_reducible rfl))
       try simp only [Act.put, sl1, sl2, sl3]
       refine takeT 6 ?_ rfl (by kernel_rfl) (by kernel_rfl) (by kernel_rfl) (fun _ _ _ h => h) (by rfl) ?_ (by assumption) ?_
       rotate_left
       ·(intro w hSw; (try dsimp only at hSw); go_simp; (try with_reducible rfl))
       try simp only [Act.put, sl1, sl2, sl3]
       apply bothWays
       intro hrest
       refine takeC2 1 7 rfl rfl (by kernel_rfl) (by rfl) (by rfl) (fun K hK => ?_) (fun K hK => ?_)
       ·go_simp
        skip
        (try go_wp2_with fail)
        refine hK.out _ _ ?_ (fun hHeld => ?_)
        ·((try dsimp only); (try trivial))
        clear hK K
        try simp only [Act.put, sl1, sl2, sl3]
        refine takeC 7 rfl (by kernel_rfl) (by rfl) (fun K hK => ?_)
        go_simp
        skip
        (try go_wp2_with fail)
        refine hK.out _ _ ?_ (fun hHeld => ?_)
        ·((try dsimp only); (try trivial))
        clear hK K
        try simp only [Act.put, sl1, sl2, sl3]
        refine takeApp k90 8 (w0 := wr.drew) (W0.heap.size + 1) rfl (by kernel_rfl) (by rfl) (.tmp 38) (.tmp 44) 52 90 (.agg #[(.string ⟨#[]⟩), (.string ⟨#[]⟩)]) 32 rfl Tryd.underlying52 info90 rfl (by decide) (by omega) (.slice As ls cs) _ (m3Five i) [.string p1, .string g1] (fun _ => True) (fun _ => False) rfl rfl (by rw [HIT.out]; exact k90_mkM _ _ _ ⟨p1, g1⟩) (fun _ hk => hk.elim) (fun _ _ => trivial) HLRd.out (Below.refl _ _) (by omega) (by rw [HLS.out]; omega) ?_
        intro v1 w1 ho hb hg hat
        obtain ⟨Av, cv, ev⟩ := Kd.R_slice ho
        generalize (m3Pick m3Five (N / 2 ^ 3 % 2 ^ 5) i ++ [m3Five i]).length = len at ev
        subst ev
        refine ⟨trivial, fun hHeld => ?_⟩
        have xb1 := (hb.block W0.heap.size (Nat.lt_succ_self _)).trans HLBd.out
        have x1 : w1.cell? ⟨W0.heap.size, 2, none⟩ = some (.slice As ls cs) := (blk_cell xb1 2).trans rfl
        have f1 := blk_frozen xb1 2
        try simp only [Act.put, sl1, sl2, sl3]
        refine takeT 9 ?_ rfl (by kernel_rfl) (by kernel_rfl) (by kernel_rfl) (fun _ _ _ h => h) (by rfl) ?_ (by assumption) ?_
        rotate_left
        ·(intro w hSw; (try dsimp only at hSw); go_simp; (try with_reducible rfl))
        try simp only [Act.put, sl1, sl2, sl3]
        refine takeC 10 rfl (by kernel_rfl) (by rfl) (fun K hK => ?_)
        go_simp
        skip
        (try go_wp2_with fail)
        refine hK.out _ _ ?_ (fun hHeld => ?_)
        ·((try dsimp only); (try trivial))
        clear hK K
        try simp only [Act.put, sl1, sl2, sl3]
        refine wpAnyH_done (by kernel_rfl) ?_ _
        have HF := Aside0.mk (HI2.out.put hxb HLBd.out HLRd.out ho hb hg); clear ho hb hg hat xb1 x1 f1 hHeld; generalize w1.setCell ⟨W0.heap.size, 2, none⟩ (.slice Av len cv) = W2 at HF ⊢; clear w1; revert HF W2 cv len Av
        exact hrest.out
       ·go_simp
        skip
        (try go_wp2_with fail)
        refine hK.out _ _ ?_ (fun hHeld => ?_)
        ·((try dsimp only); (try trivial))
        clear hK K
        try simp only [Act.put, sl1, sl2, sl3]
        refine takeC 1 rfl (by kernel_rfl) (by rfl) (fun K hK => ?_)
        go_simp
        skip
        (try go_wp2_with fail)
        refine hK.out _ _ ?_ (fun hHeld => ?_)
        ·((try dsimp only); (try trivial))
        clear hK K
        try simp only [Act.put, sl1, sl2, sl3]
        refine takeApp k90 8 (w0 := wr.drew) (W0.heap.size + 1) rfl (by kernel_rfl) (by rfl) (.tmp 38) (.tmp 44) 52 90 (.agg #[(.string ⟨#[]⟩), (.string ⟨#[]⟩)]) 32 rfl Tryd.underlying52 info90 rfl (by decide) (by omega) (.slice As ls cs) _ (m3Five i) [.string p1, .string g1] (fun _ => True) (fun _ => False) rfl rfl (by rw [HIT.out]; exact k90_mkM _ _ _ ⟨p1, g1⟩) (fun _ hk => hk.elim) (fun _ _ => trivial) HLRd.out (Below.refl _ _) (by omega) (by rw [HLS.out]; omega) ?_
        intro v1 w1 ho hb hg hat
        obtain ⟨Av, cv, ev⟩ := Kd.R_slice ho
        generalize (m3Pick m3Five (N / 2 ^ 3 % 2 ^ 5) i ++ [m3Five i]).length = len at ev
        subst ev
        refine ⟨trivial, fun hHeld => ?_⟩
        have xb1 := (hb.block W0.heap.size (Nat.lt_succ_self _)).trans HLBd.out
        have x1 : w1.cell? ⟨W0.heap.size, 2, none⟩ = some (.slice As ls cs) := (blk_cell xb1 2).trans rfl
        have f1 := blk_frozen xb1 2
        try simp only [Act.put, sl1, sl2, sl3]
        refine takeT 9 ?_ rfl (by kernel_rfl) (by kernel_rfl) (by kernel_rfl) (fun _ _ _ h => h) (by rfl) ?_ (by assumption) ?_
        rotate_left
        ·(intro w hSw; (try dsimp only at hSw); go_simp; (try with_reducible rfl))
        try simp only [Act.put, sl1, sl2, sl3]
        refine takeC 10 rfl (by kernel_rfl) (by rfl) (fun K hK => ?_)
        go_simp
        skip
        (try go_wp2_with fail)
        refine hK.out _ _ ?_ (fun hHeld => ?_)
        ·((try dsimp only); (try trivial))
        clear hK K
        try simp only [Act.put, sl1, sl2, sl3]
        refine wpAnyH_done (by kernel_rfl) ?_ _
        have HF := Aside0.mk (HI2.out.put hxb HLBd.out HLRd.out ho hb hg); clear ho hb hg hat xb1 x1 f1 hHeld; generalize w1.setCell ⟨W0.heap.size, 2, none⟩ (.slice Av len cv) = W2 at HF ⊢; clear w1; revert HF W2 cv len Av
        exact hrest.out
       intro Av cv len W2 HF
       go_wp2_with fail
       go_roundg (5 - (i + 1))
       case measure => omega
       case rel => exact ⟨i + 1, by omega, Nat.le_refl _, by go_num, HF⟩
     ·have hki : ¬ (i : Int) < 5 := by omega
      obtain rfl : i = 5 := by omega
      obtain ⟨ibel, itb, vS, hlb, hlR⟩ := HI.out
      have s0 : wr.cell? ⟨W0.heap.size, 0, none⟩ = some (.string txFive) := (blk_cell hlb 0).trans rfl
      have s1 : wr.cell? ⟨W0.heap.size, 1, none⟩ = some (.int .i64 5) := (blk_cell hlb 1).trans rfl
      have s2 : wr.cell? ⟨W0.heap.size, 2, none⟩ = some vS := (blk_cell hlb 2).trans rfl
      have s3 : wr.cell? ⟨W0.heap.size, 3, none⟩ = some (.int .i64 0) := (blk_cell hlb 3).trans rfl
      have s4 : wr.cell? ⟨W0.heap.size, 4, none⟩ = some (.int .i64 0) := (blk_cell hlb 4).trans rfl
      have hsz3 : w.heap.size + 2 < W0.heap.size := blk_lt HC.out.ho.choose_spec.1
      have hcon := HADD.out wr ([]) (HC.out.below ibel) (by simp) txFive 5 (m3Pick m3Five (N / 2 ^ 3 % 2 ^ 5) 5) vS (Kd.R_lower hlR (by omega))
      have HCON := Aside0.mk hcon
      clear hcon hlb hlR itb ibel
      go_wp2_with (refine HCON.out.mono ?_; rintro e wF ⟨rfl, hF⟩; have HF := Aside0.mk hF; clear hF)
      go_meet
      exact ⟨by unfold m3A m3Add; rw [htb]; exact HF.out⟩
  case rest =>
   have HC := hcut
   clear hcut
   rename World => W0
   go_upto_if 53 with fail
   go_cut [] (fun wx => Aside0 (M3Inv A c le B d ce w (m3B N le ce) wx))
   case first =>
    have hbb := HBB.out 1 (by omega)
    rw [show ((2 ^ 1 : Nat) : Int) = 2 from rfl] at hbb
    cases htb : N.testBit 1 with
    | false =>
     rw [htb] at hbb
     simp only [Bool.false_eq_true, if_false] at hbb
     go_wp2_with fail
     go_meet
     exact ⟨by unfold m3B m3Add; rw [htb]; exact HC.out⟩
    | true =>
     rw [htb] at hbb
     simp only [if_true] at hbb
     simp only [hbb]
     rw [show decide ((0 : Int) < 2) = true from rfl]
     clear hbb
     go_wp2_with fail
     go_loopg [57] 6 (fun gg s57 W => ∃ i : Nat, i ≤ 6 ∧ 6 - i ≤ gg ∧ s57 = .int .i64 i ∧ Aside0 (M3In txThree 3 m3TabB m3Three (N / 2 ^ 8 % 2 ^ 6) W0 i W))
     case atStart =>
      have hb1 := below_alloc (Below.refl W0.heap.size W0) (.cells #[.string ⟨#[116, 104, 114, 101, 101]⟩, .int .i64 3, .slice none 0 0, .int .i64 0, .int .i64 0] 54 (0, 0))
      refine ⟨0, by omega, by omega, rfl, ⟨⟨hb1.alloc (by simp) _, by have h := heap_alloc_new (W0.alloc (.cells #[.string ⟨#[116, 104, 114, 101, 101]⟩, .int .i64 3, .slice none 0 0, .int .i64 0, .int .i64 0] 54 (0, 0))) (.cells m3TabB 9 (0, 0)); rw [World.size_alloc] at h; exact h, .slice none 0 0, blk_alloc (heap_alloc_new W0 (.cells #[.string ⟨#[116, 104, 114, 101, 101]⟩, .int .i64 3, .slice none 0 0, .int .i64 0, .int .i64 0] 54 (0, 0))) _, Kd.R_nil _ _ _ _ _⟩⟩⟩
     case round =>
      obtain ⟨i, hi, hgi, rfl, HI⟩ := hrel
      by_cases hlt : i < 6
      ·have hki : (i : Int) < 6 := by omega
       obtain ⟨q1, hsz, hgrp⟩ := m3TabB_at i hlt
       have c1 := (blk_cell HI.out.tb i).trans q1
       have hbit := HBT.out 8 6 i hlt
       have HIT : Aside0 (m3Three i = ⟨(m3Three i).f0, (m3Three i).f1⟩) := ⟨rfl⟩
       generalize (m3Three i).f0 = p1 at *
       generalize (m3Three i).f1 = g1 at *
       clear q1
       cases hxb : (N / 2 ^ 8 % 2 ^ 6).testBit i with
       | false =>
        rw [hxb] at hbit
        simp only [Bool.false_eq_true, if_false] at hbit
        go_wp2_with fail
        go_roundg (6 - (i + 1))
        case measure => omega
        case rel => exact ⟨i + 1, by omega, Nat.le_refl _, by go_num, ⟨HI.out.skip hxb⟩⟩
       | true =>
        rw [hxb] at hbit
        simp only [if_true] at hbit
        obtain ⟨vS, hlb, hlR⟩ := HI.out.lv
        obtain ⟨As, cs, es⟩ := Kd.R_slice hlR
        have hlen := m3Pick_len m3Three (N / 2 ^ 8 % 2 ^ 6) i
        have HPQ : Aside0 (m3Pick m3Three (N / 2 ^ 8 % 2 ^ 6) i ++ [(⟨p1, g1⟩ : Lb)] = m3Pick m3Three (N / 2 ^ 8 % 2 ^ 6) (i + 1)) := ⟨by rw [← HIT.out]; show _ = m3Pick m3Three (N / 2 ^ 8 % 2 ^ 6) i ++ _; rw [hxb, if_pos rfl]⟩
        generalize hls : (m3Pick m3Three (N / 2 ^ 8 % 2 ^ 6) i).length = ls at es hlen
        subst es
        have hlsz := blk_lt hlb
        have hszi : (1 : Int) ≤ (p1.size : Int) := by omega
        have r1 : wr.cell? ⟨W0.heap.size, 2, none⟩ = some (.slice As ls cs) := (blk_cell hlb 2).trans rfl
        have HLB := Aside0.mk hlb
        have HLR := Aside0.mk hlR
        have HLS := Aside0.mk hls
        clear hlb hlR hls
        have HI2 := Aside0.mk (HI.out.below (below_drew (Below.refl wr.heap.size wr)))
        have HLBd : Aside0 (wr.drew.heap[W0.heap.size]? = _) := ⟨HLB.out⟩
        have HLRd := Aside0.mk (Kd.R_drew HLR.out)
        have hszd : W0.heap.size < wr.drew.heap.size := hlsz
        have r1d : wr.drew.cell? ⟨W0.heap.size, 2, none⟩ = some (.slice As ls cs) := r1
        have r1a : (wr.alloc (.cells #[.string p1, .string g1] 90 (0, 0))).drew.cell? ⟨W0.heap.size, 2, none⟩ = some (.slice As ls cs) := ((below_alloc (Below.refl wr.drew.heap.size wr.drew) (.cells #[.string p1, .string g1] 90 (0, 0))).cell (p := ⟨W0.heap.size, 2, none⟩) hszd).trans r1d
        go_wp2_with fail
        refine wp_region_held_drew (S := (fun _ => True)) (by kernel_rfl) ?_ (fun hHeld => ?_)
        ·((try dsimp only); (try trivial))
        refine takeT 0 ?_ rfl (by kernel_rfl) (by kernel_rfl) (by kernel_rfl) (fun _ _ _ h => h) (by rfl) ?_ (by assumption) ?_
        rotate_left
        ·(intro w hSw; (try dsimp only at hSw); go_simp; (try with_reducible rfl))
        try simp only [Act.put, sl1, sl2, sl3]
        refine takeT 2 ?_ rfl (by kernel_rfl) (by kernel_rfl) (by kernel_rfl) (fun _ _ _ h => h) (by rfl) ?_ (by assumption) ?_
        rotate_left
        ·(intro w hSw; (try dsimp only at hSw); go_simp; (try with_reducible rfl))
        try simp only [Act.put, sl1, sl2, sl3]
        refine takeT 3 ?_ rfl (by kernel_rfl) (by kernel_rfl) (by kernel_rfl) (fun _ _ _ h => h) (by rfl) ?_ (by assumption) ?_
        rotate_left
        ·(intro w hSw; (try dsimp only at hSw); go_simp; (try with_reducible rfl))
        try simp only [Act.put, sl1, sl2, sl3]
        refine takeT 4 ?_ rfl (by kernel_rfl) (by kernel_rfl) (by kernel_rfl) (fun _ _ _ h => h) (by rfl) ?_ (by assumption) ?_
        rotate_left
        ·(intro w hSw; (try dsimp only at hSw); go_simp; (try with_reducible rfl))
        try simp only [Act.put, sl1, sl2, sl3]
        refine takeT 5 ?_ rfl (by kernel_rfl) (by kernel_rfl) (by kernel_rfl) (fun _ _ _ h => h) (by rfl) ?_ (by assumption) ?_
        rotate_left
        ·(intro w hSw; (try dsimp only at hSw); go_simp; (try with_reducible rfl))
        try simp only [Act.put, sl1, sl2, sl3]
        refine takeT 6 ?_ rfl (by kernel_rfl) (by kernel_rfl) (by kernel_rfl) (fun _ _ _ h => h) (by rfl) ?_ (by assumption) ?_
        rotate_left
        ·(intro w hSw; (try dsimp only at hSw); go_simp; (try with_reducible rfl))
        try simp only [Act.put, sl1, sl2, sl3]
        apply bothWays
        intro hrest
        refine takeC2 1 7 rfl rfl (by kernel_rfl) (by rfl) (by rfl) (fun K hK => ?_) (fun K hK => ?_)
        ·go_simp
         skip
         (try go_wp2_with fail)
         refine hK.out _ _ ?_ (fun hHeld => ?_)
         ·((try dsimp only); (try trivial))
         clear hK K
         try simp only [Act.put, sl1, sl2, sl3]
         refine takeC 7 rfl (by kernel_rfl) (by rfl) (fun K hK => ?_)
         go_simp
         skip
         (try go_wp2_with fail)
         refine hK.out _ _ ?_ (fun hHeld => ?_)
         ·((try dsimp only); (try trivial))
         clear hK K
         try simp only [Act.put, sl1, sl2, sl3]
         refine takeApp k90 8 (w0 := wr.drew) (W0.heap.size + 1) rfl (by kernel_rfl) (by rfl) (.tmp 69) (.tmp 75) 52 90 (.agg #[(.string ⟨#[]⟩), (.string ⟨#[]⟩)]) 32 rfl Tryd.underlying52 info90 rfl (by decide) (by omega) (.slice As ls cs) _ (m3Three i) [.string p1, .string g1] (fun _ => True) (fun _ => False) rfl rfl (by rw [HIT.out]; exact k90_mkM _ _ _ ⟨p1, g1⟩) (fun _ hk => hk.elim) (fun _ _ => trivial) HLRd.out (Below.refl _ _) (by omega) (by rw [HLS.out]; omega) ?_
         intro v1 w1 ho hb hg hat
         obtain ⟨Av, cv, ev⟩ := Kd.R_slice ho
         generalize (m3Pick m3Three (N / 2 ^ 8 % 2 ^ 6) i ++ [m3Three i]).length = len at ev
         subst ev
         refine ⟨trivial, fun hHeld => ?_⟩
         have xb1 := (hb.block W0.heap.size (Nat.lt_succ_self _)).trans HLBd.out
         have x1 : w1.cell? ⟨W0.heap.size, 2, none⟩ = some (.slice As ls cs) := (blk_cell xb1 2).trans rfl
         have f1 := blk_frozen xb1 2
         try simp only [Act.put, sl1, sl2, sl3]
         refine takeT 9 ?_ rfl (by kernel_rfl) (by kernel_rfl) (by kernel_rfl) (fun _ _ _ h => h) (by rfl) ?_ (by assumption) ?_
         rotate_left
         ·(intro w hSw; (try dsimp only at hSw); go_simp; (try with_reducible rfl))
         try simp only [Act.put, sl1, sl2, sl3]
         refine takeC 10 rfl (by kernel_rfl) (by rfl) (fun K hK => ?_)
         go_simp
         skip
         (try go_wp2_with fail)
         refine hK.out _ _ ?_ (fun hHeld => ?_)
         ·((try dsimp only); (try trivial))
         clear hK K
         try simp only [Act.put, sl1, sl2, sl3]
         refine wpAnyH_done (by kernel_rfl) ?_ _
         have HF := Aside0.mk (HI2.out.put hxb HLBd.out HLRd.out ho hb hg); clear ho hb hg hat xb1 x1 f1 hHeld; generalize w1.setCell ⟨W0.heap.size, 2, none⟩ (.slice Av len cv) = W2 at HF ⊢; clear w1; revert HF W2 cv len Av
         exact hrest.out
        ·go_simp
         skip
         (try go_wp2_with fail)
         refine hK.out _ _ ?_ (fun hHeld => ?_)
         ·((try dsimp only); (try trivial))
         clear hK K
         try simp only [Act.put, sl1, sl2, sl3]
         refine takeC 1 rfl (by kernel_rfl) (by rfl) (fun K hK => ?_)
         go_simp
         skip
         (try go_wp2_with fail)
         refine hK.out _ _ ?_ (fun hHeld => ?_)
         ·((try dsimp only); (try trivial))
         clear hK K
         try simp only [Act.put, sl1, sl2, sl3]
         refine takeApp k90 8 (w0 := wr.drew) (W0.heap.size + 1) rfl (by kernel_rfl) (by rfl) (.tmp 69) (.tmp 75) 52 90 (.agg #[(.string ⟨#[]⟩), (.string ⟨#[]⟩)]) 32 rfl Tryd.underlying52 info90 rfl (by decide) (by omega) (.slice As ls cs) _ (m3Three i) [.string p1, .string g1] (fun _ => True) (fun _ => False) rfl rfl (by rw [HIT.out]; exact k90_mkM _ _ _ ⟨p1, g1⟩) (fun _ hk => hk.elim) (fun _ _ => trivial) HLRd.out (Below.refl _ _) (by omega) (by rw [HLS.out]; omega) ?_
         intro v1 w1 ho hb hg hat
         obtain ⟨Av, cv, ev⟩ := Kd.R_slice ho
         generalize (m3Pick m3Three (N / 2 ^ 8 % 2 ^ 6) i ++ [m3Three i]).length = len at ev
         subst ev
         refine ⟨trivial, fun hHeld => ?_⟩
         have xb1 := (hb.block W0.heap.size (Nat.lt_succ_self _)).trans HLBd.out
         have x1 : w1.cell? ⟨W0.heap.size, 2, none⟩ = some (.slice As ls cs) := (blk_cell xb1 2).trans rfl
         have f1 := blk_frozen xb1 2
         try simp only [Act.put, sl1, sl2, sl3]
         refine takeT 9 ?_ rfl (by kernel_rfl) (by kernel_rfl) (by kernel_rfl) (fun _ _ _ h => h) (by rfl) ?_ (by assumption) ?_
         rotate_left
         ·(intro w hSw; (try dsimp only at hSw); go_simp; (try with_reducible rfl))
         try simp only [Act.put, sl1, sl2, sl3]
         refine takeC 10 rfl (by kernel_rfl) (by rfl) (fun K hK => ?_)
         go_simp
         skip
         (try go_wp2_with fail)
         refine hK.out _ _ ?_ (fun hHeld => ?_)
         ·((try dsimp only); (try trivial))
         clear hK K
         try simp only [Act.put, sl1, sl2, sl3]
         refine wpAnyH_done (by kernel_rfl) ?_ _
         have HF := Aside0.mk (HI2.out.put hxb HLBd.out HLRd.out ho hb hg); clear ho hb hg hat xb1 x1 f1 hHeld; generalize w1.setCell ⟨W0.heap.size, 2, none⟩ (.slice Av len cv) = W2 at HF ⊢; clear w1; revert HF W2 cv len Av
         exact hrest.out
        intro Av cv len W2 HF
        go_wp2_with fail
        go_roundg (6 - (i + 1))
        case measure => omega
        case rel => exact ⟨i + 1, by omega, Nat.le_refl _, by go_num, HF⟩
      ·have hki : ¬ (i : Int) < 6 := by omega
       obtain rfl : i = 6 := by omega
       obtain ⟨ibel, itb, vS, hlb, hlR⟩ := HI.out
       have s0 : wr.cell? ⟨W0.heap.size, 0, none⟩ = some (.string txThree) := (blk_cell hlb 0).trans rfl
       have s1 : wr.cell? ⟨W0.heap.size, 1, none⟩ = some (.int .i64 3) := (blk_cell hlb 1).trans rfl
       have s2 : wr.cell? ⟨W0.heap.size, 2, none⟩ = some vS := (blk_cell hlb 2).trans rfl
       have s3 : wr.cell? ⟨W0.heap.size, 3, none⟩ = some (.int .i64 0) := (blk_cell hlb 3).trans rfl
       have s4 : wr.cell? ⟨W0.heap.size, 4, none⟩ = some (.int .i64 0) := (blk_cell hlb 4).trans rfl
       have hsz3 : w.heap.size + 2 < W0.heap.size := blk_lt HC.out.ho.choose_spec.1
       have hcon := HADD.out wr (m3A N le ce) (HC.out.below ibel) (m3_lens N le ce).1 txThree 3 (m3Pick m3Three (N / 2 ^ 8 % 2 ^ 6) 6) vS (Kd.R_lower hlR (by omega))
       have HCON := Aside0.mk hcon
       clear hcon hlb hlR itb ibel
       go_wp2_with (refine HCON.out.mono ?_; rintro e wF ⟨rfl, hF⟩; have HF := Aside0.mk hF; clear hF)
       go_meet
       exact ⟨by unfold m3B m3Add; rw [htb]; exact HF.out⟩
   case rest =>
    have HC := hcut
    clear hcut
    rename World => W0
    go_upto_if 84 with fail
    go_cut [] (fun wx => Aside0 (M3Inv A c le B d ce w (m3C N le ce) wx))
    case first =>
     have hbb := HBB.out 2 (by omega)
     rw [show ((2 ^ 2 : Nat) : Int) = 4 from rfl] at hbb
     cases htb : N.testBit 2 with
     | false =>
      rw [htb] at hbb
      simp only [Bool.false_eq_true, if_false] at hbb
      go_wp2_with fail
      go_meet
      exact ⟨by unfold m3C m3Add; rw [htb]; exact HC.out⟩
     | true =>
      rw [htb] at hbb
      simp only [if_true] at hbb
      simp only [hbb]
      rw [show decide ((0 : Int) < 4) = true from rfl]
      clear hbb
      go_wp2_with fail
      go_loopg [88] 3 (fun gg s88 W => ∃ i : Nat, i ≤ 3 ∧ 3 - i ≤ gg ∧ s88 = .int .i64 i ∧ Aside0 (M3In txOne 1 m3TabC m3One (N / 2 ^ 14 % 2 ^ 3) W0 i W))
      case atStart =>
       have hb1 := below_alloc (Below.refl W0.heap.size W0) (.cells #[.string ⟨#[111, 110, 101]⟩, .int .i64 1, .slice none 0 0, .int .i64 0, .int .i64 0] 54 (0, 0))
       refine ⟨0, by omega, by omega, rfl, ⟨⟨hb1.alloc (by simp) _, by have h := heap_alloc_new (W0.alloc (.cells #[.string ⟨#[111, 110, 101]⟩, .int .i64 1, .slice none 0 0, .int .i64 0, .int .i64 0] 54 (0, 0))) (.cells m3TabC 9 (0, 0)); rw [World.size_alloc] at h; exact h, .slice none 0 0, blk_alloc (heap_alloc_new W0 (.cells #[.string ⟨#[111, 110, 101]⟩, .int .i64 1, .slice none 0 0, .int .i64 0, .int .i64 0] 54 (0, 0))) _, Kd.R_nil _ _ _ _ _⟩⟩⟩
      case round =>
       obtain ⟨i, hi, hgi, rfl, HI⟩ := hrel
       by_cases hlt : i < 3
       ·have hki : (i : Int) < 3 := by omega
        obtain ⟨q1, hsz, hgrp⟩ := m3TabC_at i hlt
        have c1 := (blk_cell HI.out.tb i).trans q1
        have hbit := HBT.out 14 3 i hlt
        have HIT : Aside0 (m3One i = ⟨(m3One i).f0, (m3One i).f1⟩) := ⟨rfl⟩
        generalize (m3One i).f0 = p1 at *
        generalize (m3One i).f1 = g1 at *
        clear q1
        cases hxb : (N / 2 ^ 14 % 2 ^ 3).testBit i with
        | false =>
         rw [hxb] at hbit
         simp only [Bool.false_eq_true, if_false] at hbit
         go_wp2_with fail
         go_roundg (3 - (i + 1))
         case measure => omega
         case rel => exact ⟨i + 1, by omega, Nat.le_refl _, by go_num, ⟨HI.out.skip hxb⟩⟩
        | true =>
         rw [hxb] at hbit
         simp only [if_true] at hbit
         obtain ⟨vS, hlb, hlR⟩ := HI.out.lv
         obtain ⟨As, cs, es⟩ := Kd.R_slice hlR
         have hlen := m3Pick_len m3One (N / 2 ^ 14 % 2 ^ 3) i
         have HPQ : Aside0 (m3Pick m3One (N / 2 ^ 14 % 2 ^ 3) i ++ [(⟨p1, g1⟩ : Lb)] = m3Pick m3One (N / 2 ^ 14 % 2 ^ 3) (i + 1)) := ⟨by rw [← HIT.out]; show _ = m3Pick m3One (N / 2 ^ 14 % 2 ^ 3) i ++ _; rw [hxb, if_pos rfl]⟩
         generalize hls : (m3Pick m3One (N / 2 ^ 14 % 2 ^ 3) i).length = ls at es hlen
         subst es
         have hlsz := blk_lt hlb
         have hszi : (0 : Int) ≤ (p1.size : Int) := by omega
         have r1 : wr.cell? ⟨W0.heap.size, 2, none⟩ = some (.slice As ls cs) := (blk_cell hlb 2).trans rfl
         have HLB := Aside0.mk hlb
         have HLR := Aside0.mk hlR
         have HLS := Aside0.mk hls
         clear hlb hlR hls
         go_wp2_with (first | ((with_reducible refine gate_builtin (b := .append) (xs := #[.tmp 100, .tmp 103]) rfl ?_); at_builtin; refine Kd.R_append k90 (w0 := wr) (W0.heap.size + 1) rfl (.tmp 100) (.tmp 103) 52 90 (.agg #[(.string ⟨#[]⟩), (.string ⟨#[]⟩)]) 32 rfl Tryd.underlying52 info90 rfl (by decide) (by omega) (.slice As ls cs) _ (m3One i) [.string p1, .string g1] (fun _ => True) (fun _ => False) rfl rfl (by rw [HIT.out]; exact k90_mkM _ _ _ ⟨p1, g1⟩) (fun _ hk => hk.elim) (fun _ _ => trivial) HLR.out (Below.refl _ _) (by omega) (by rw [HLS.out]; omega) ?_; intro v1 w1 ho hb hg hat; obtain ⟨Av, cv, ev⟩ := Kd.R_slice ho; generalize (m3Pick m3One (N / 2 ^ 14 % 2 ^ 3) i ++ [m3One i]).length = len at ev; subst ev; have xb1 := (hb.block W0.heap.size (Nat.lt_succ_self _)).trans HLB.out; have x1 : w1.cell? ⟨W0.heap.size, 2, none⟩ = some (.slice As ls cs) := (blk_cell xb1 2).trans rfl; have f1 := blk_frozen xb1 2; have HF := Aside0.mk (HI.out.put hxb HLB.out HLR.out ho hb hg); clear ho hb hg hat xb1))
         go_roundg (3 - (i + 1))
         case measure => omega
         case rel => exact ⟨i + 1, by omega, Nat.le_refl _, by go_num, HF⟩
       ·have hki : ¬ (i : Int) < 3 := by omega
        obtain rfl : i = 3 := by omega
        obtain ⟨ibel, itb, vS, hlb, hlR⟩ := HI.out
        have s0 : wr.cell? ⟨W0.heap.size, 0, none⟩ = some (.string txOne) := (blk_cell hlb 0).trans rfl
        have s1 : wr.cell? ⟨W0.heap.size, 1, none⟩ = some (.int .i64 1) := (blk_cell hlb 1).trans rfl
        have s2 : wr.cell? ⟨W0.heap.size, 2, none⟩ = some vS := (blk_cell hlb 2).trans rfl
        have s3 : wr.cell? ⟨W0.heap.size, 3, none⟩ = some (.int .i64 0) := (blk_cell hlb 3).trans rfl
        have s4 : wr.cell? ⟨W0.heap.size, 4, none⟩ = some (.int .i64 0) := (blk_cell hlb 4).trans rfl
        have hsz3 : w.heap.size + 2 < W0.heap.size := blk_lt HC.out.ho.choose_spec.1
        have hcon := HADD.out wr (m3B N le ce) (HC.out.below ibel) (m3_lens N le ce).2.1 txOne 1 (m3Pick m3One (N / 2 ^ 14 % 2 ^ 3) 3) vS (Kd.R_lower hlR (by omega))
        have HCON := Aside0.mk hcon
        clear hcon hlb hlR itb ibel
        go_wp2_with (refine HCON.out.mono ?_; rintro e wF ⟨rfl, hF⟩; have HF := Aside0.mk hF; clear hF)
        go_meet
        exact ⟨by unfold m3C m3Add; rw [htb]; exact HF.out⟩
    case rest =>
     have HC := hcut
     clear hcut
     rename World => W0
     have HLL : (m3C N le ce).length ≤ 3 := (m3_lens N le ce).2.2
     have HLV : Aside0 (made23 N le ce = m3C N le ce ++ [⟨txAll, 0, [], 0, ce.getD (m3C N le ce).length 0⟩]) := ⟨rfl⟩
     obtain ⟨ibel, -, ihc, vO, hob, hoR⟩ := HC.out
     have HBI := Aside0.mk ibel
     obtain ⟨Ao, co, eo⟩ := Kd.R_slice hoR
     have HCC := Aside0.mk (Kd.C_below HR2.out ibel)
     have HG2 := getD_range hIc.out (m3C N le ce).length
     generalize hn : (m3C N le ce).length = n at *
     subst eo
     have HN := Aside0.mk hn
     rw [HE2.out] at ihc
     have hbo := blk_lt hob
     have hbc2 := blk_lt ihc
     have hszw := ibel.size
     have o0 : W0.cell? ⟨w.heap.size + 1 + 1, 0, none⟩ = some (.slice Ao n co) := (blk_cell hob 0).trans rfl
     have c0 : W0.cell? ⟨w.heap.size + 1, 0, none⟩ = some (.slice B m2 d) := (blk_cell ihc 0).trans rfl
     have HOR := Aside0.mk (show Kd.R k54 54 W0 (w.heap.size + 3) (fun _ => True) (.slice Ao n co) (m3C N le ce) from hoR)
     clear hn hob ihc hoR ibel HC
     by_cases h2 : n < m2
     ·obtain ⟨ad2, cs, rfl, -, hk, hcell⟩ := Kd.C_get HCC.out 0 (n : Int) (by omega) (by omega)
      rw [Int.toNat_natCast] at hk hcell
      have hcs2 : cs = [.int .u8 (ce.getD n 0)] := hk
      subst hcs2
      have k2 := hcell 0 _ rfl
      rw [show (Kd.int .u8).sz = 1 from rfl, Nat.mul_one, Nat.add_zero] at k2
      have k2b := World.block_lt_of_cell? _ _ k2
      generalize ce.getD n 0 = x2 at *
      clear hcell hk
      have HOR2 := Aside0.mk (Kd.R_alloc HOR.out (.cells #[.string ⟨#[97, 108, 108]⟩, .int .i64 0, .slice none 0 0, .int .i64 0, .int .i64 x2] 54 (0, 0)))
      have HBA := Aside0.mk (below_alloc (Below.refl W0.heap.size W0) (.cells #[.string ⟨#[97, 108, 108]⟩, .int .i64 0, .slice none 0 0, .int .i64 0, .int .i64 x2] 54 (0, 0)))
      have hsz2 : (W0.alloc (.cells #[.string ⟨#[97, 108, 108]⟩, .int .i64 0, .slice none 0 0, .int .i64 0, .int .i64 x2] 54 (0, 0))).heap.size = W0.heap.size + 1 := by simp
      go_wp2_with (first | ((with_reducible refine gate_builtin (b := .append) (xs := #[.tmp 123, .tmp 125]) rfl ?_); at_builtin; refine Kd.R_append k54 (w0 := (W0.alloc (.cells #[.string ⟨#[97, 108, 108]⟩, .int .i64 0, .slice none 0 0, .int .i64 0, .int .i64 x2] 54 (0, 0)))) (w.heap.size + 3) rfl (.tmp 123) (.tmp 125) 32 54 (.agg #[.string ⟨#[]⟩, .int .i64 0, .slice none 0 0, .int .i64 0, .int .i64 0]) 64 rfl Tryd.underlying32 info54 rfl (by decide) (by omega) (.slice Ao n co) _ (⟨txAll, 0, [], 0, x2⟩ : Lv) [.string ⟨#[97, 108, 108]⟩, .int .i64 0, .slice none 0 0, .int .i64 0, .int .i64 x2] (fun _ => True) (fun _ => False) rfl (by rw [hsz2]; rfl) (k54_mkM _ _ _ (⟨txAll, 0, [], 0, x2⟩ : Lv) (Kd.R_nil _ _ _ _ _)) (fun _ hk => hk.elim) (fun _ _ => trivial) HOR2.out (Below.refl _ _) (by omega) (by rw [HN.out]; omega) ?_; intro v1 w1 ho hb hg hat; obtain ⟨Aw, cw, ew⟩ := Kd.R_slice ho; generalize (m3C N le ce ++ [(⟨txAll, 0, [], 0, x2⟩ : Lv)]).length = lw at ew; subst ew; have HO := Aside0.mk ho; have HBL := Aside0.mk hb; clear ho hb hg hat))
      go_ret
      refine ⟨_, rfl, ?_, (HBI.out.trans (HBA.out.mono HBI.out.size)).trans (HBL.out.mono (by omega))⟩
      rw [HLV.out]
      exact Kd.R_lower HO.out (by omega)
     ·have e2 : ce.getD n 0 = 0 := by rw [List.getD_eq_getElem?_getD, List.getElem?_eq_none (by have := HE2.out; omega)]; rfl
      rw [e2] at HLV
      clear HG2 e2
      have HOR2 := Aside0.mk (Kd.R_alloc HOR.out (.cells #[.string ⟨#[97, 108, 108]⟩, .int .i64 0, .slice none 0 0, .int .i64 0, .int .i64 0] 54 (0, 0)))
      have HBA := Aside0.mk (below_alloc (Below.refl W0.heap.size W0) (.cells #[.string ⟨#[97, 108, 108]⟩, .int .i64 0, .slice none 0 0, .int .i64 0, .int .i64 0] 54 (0, 0)))
      have hsz2 : (W0.alloc (.cells #[.string ⟨#[97, 108, 108]⟩, .int .i64 0, .slice none 0 0, .int .i64 0, .int .i64 0] 54 (0, 0))).heap.size = W0.heap.size + 1 := by simp
      go_wp2_with (first | ((with_reducible refine gate_builtin (b := .append) (xs := #[.tmp 123, .tmp 125]) rfl ?_); at_builtin; refine Kd.R_append k54 (w0 := (W0.alloc (.cells #[.string ⟨#[97, 108, 108]⟩, .int .i64 0, .slice none 0 0, .int .i64 0, .int .i64 0] 54 (0, 0)))) (w.heap.size + 3) rfl (.tmp 123) (.tmp 125) 32 54 (.agg #[.string ⟨#[]⟩, .int .i64 0, .slice none 0 0, .int .i64 0, .int .i64 0]) 64 rfl Tryd.underlying32 info54 rfl (by decide) (by omega) (.slice Ao n co) _ (⟨txAll, 0, [], 0, 0⟩ : Lv) [.string ⟨#[97, 108, 108]⟩, .int .i64 0, .slice none 0 0, .int .i64 0, .int .i64 0] (fun _ => True) (fun _ => False) rfl (by rw [hsz2]; rfl) (k54_mkM _ _ _ (⟨txAll, 0, [], 0, 0⟩ : Lv) (Kd.R_nil _ _ _ _ _)) (fun _ hk => hk.elim) (fun _ _ => trivial) HOR2.out (Below.refl _ _) (by omega) (by rw [HN.out]; omega) ?_; intro v1 w1 ho hb hg hat; obtain ⟨Aw, cw, ew⟩ := Kd.R_slice ho; generalize (m3C N le ce ++ [(⟨txAll, 0, [], 0, 0⟩ : Lv)]).length = lw at ew; subst ew; have HO := Aside0.mk ho; have HBL := Aside0.mk hb; clear ho hb hg hat))
      go_ret
      refine ⟨_, rfl, ?_, (HBI.out.trans (HBA.out.mono HBI.out.size)).trans (HBL.out.mono (by omega))⟩
      rw [HLV.out]
      exact Kd.R_lower HO.out (by omega)
end Go.Proofs.YtfglcfbcdhjcdaaDoor.Q

namespace Go.Proofs.YtfglcfbcdhjcdaaDoor.Q
open Go.RowKit Go.Proofs.YtfglcfbcdhjcdaaDoorW.PrintWords Go.Proofs.YtfglcfbcdhjcdaaDoorW.PrintLast Go.Proofs.YtfglcfbcdhjcdaaDoorW.PrintMore
set_option linter.unusedVariables false
set_option linter.unusedSimpArgs false
theorem plan_C (w : World) (x : Int) : Kd.C (Kd.int .i64) (w.alloc (.cells #[.int .i64 x] 3 (0, 0))) (some ⟨w.heap.size, 0, none⟩) 1 [x] :=
 (Kd.R_reads' (R_one (d := Kd.int .i64) (cs := [.int .i64 x]) (ok := fun _ => True) (okp := fun _ => False) (p := x) (base := 0) (heap_alloc_new w (.cells #[.int .i64 x] 3 (0, 0))) (Nat.zero_le _) rfl (fun _ hk => hk.elim) trivial)).2.2
set_option maxHeartbeats 8000000 in
set_option maxRecDepth 100000 in
theorem awake.calls0 (w : World) : Calls Tryd.prog 10 #[] w fun e w' => e = .returned (.bool true) ∧ Below w.heap.size w w' := by
 go_enter Tryd.func10, Tryd.ntmps10
 go_wp2_with fail
 refine (letterbaglaw24_Example.calls _ _ w ex_t).mono ?_
 rintro e w1 ⟨v0, v1, rfl, hn0, hn1, hb1⟩
 obtain ⟨A0, c0, rfl, hc0, hr0⟩ := Kd.N_reads hn0
 obtain ⟨A1, c1, rfl, hc1, hr1⟩ := Kd.R_reads hn1
 have HC0 := Aside0.mk hc0
 have HC1 := Aside0.mk hc1
 have hba := below_alloc (Below.refl w1.heap.size w1) (.cells #[.slice A0 exR.length c0, .slice A1 exZ.length c1] 25 (0, 0))
 have HT := Aside0.mk (heap_alloc_new w1 (.cells #[.slice A0 exR.length c0, .slice A1 exZ.length c1] 25 (0, 0)))
 have HR0 := Aside0.mk (Kd.C_below hr0 hba)
 have HR1 := Aside0.mk (Kd.C_below hr1 hba)
 have HW := Aside0.mk (hb1.trans (hba.mono hb1.size))
 have t0 := (blk_cell HT.out 0).trans rfl
 have t1 := (blk_cell HT.out 1).trans rfl
 clear hn0 hn1 hb1 hr0 hr1 hba hc0 hc1
 have hlt := blk_lt HT.out
 have HB := Aside0.mk (Below.refl (w1.alloc (.cells #[.slice A0 exR.length c0, .slice A1 exZ.length c1] 25 (0, 0))).heap.size (w1.alloc (.cells #[.slice A0 exR.length c0, .slice A1 exZ.length c1] 25 (0, 0))))
 go_wp2_with fail
 generalize w1.alloc (.cells #[.slice A0 exR.length c0, .slice A1 exZ.length c1] 25 (0, 0)) = W1 at *
 generalize w1.heap.size = tb at *
 refine (tariff_Zone.calls 100 A0 c0 exR A1 c1 exZ exFrom exNear 1 0 _ (Kd.C_below HR0.out HB.out) HC0.out (Kd.C_below HR1.out HB.out) HC1.out ex_a).mono ?_
 rintro e wA ⟨rfl, hbA⟩
 have HB := Aside0.mk (HB.out.trans (hbA.mono HB.out.size))
 have t0 : wA.cell? ⟨tb, 0, none⟩ = some (.slice A0 exR.length c0) := (blk_cell ((HB.out.block tb hlt).trans HT.out) 0).trans rfl
 have t1 : wA.cell? ⟨tb, 1, none⟩ = some (.slice A1 exZ.length c1) := (blk_cell ((HB.out.block tb hlt).trans HT.out) 1).trans rfl
 clear hbA
 go_wp2_with fail
 refine (tariff_Zone.calls 100 A0 c0 exR A1 c1 exZ exFrom exFar 2 0 _ (Kd.C_below HR0.out HB.out) HC0.out (Kd.C_below HR1.out HB.out) HC1.out ex_b).mono ?_
 rintro e wB ⟨rfl, hbA⟩
 have HB := Aside0.mk (HB.out.trans (hbA.mono HB.out.size))
 have t0 : wB.cell? ⟨tb, 0, none⟩ = some (.slice A0 exR.length c0) := (blk_cell ((HB.out.block tb hlt).trans HT.out) 0).trans rfl
 have t1 : wB.cell? ⟨tb, 1, none⟩ = some (.slice A1 exZ.length c1) := (blk_cell ((HB.out.block tb hlt).trans HT.out) 1).trans rfl
 clear hbA
 go_wp2_with fail
 refine (tariff_Price.calls 100 A0 c0 exR A1 c1 exZ 1 2 21 200 0 _ (Kd.C_below HR0.out HB.out) HC0.out (Kd.C_below HR1.out HB.out) HC1.out ex_c).mono ?_
 rintro e wC ⟨rfl, hbA⟩
 have HB := Aside0.mk (HB.out.trans (hbA.mono HB.out.size))
 have t0 : wC.cell? ⟨tb, 0, none⟩ = some (.slice A0 exR.length c0) := (blk_cell ((HB.out.block tb hlt).trans HT.out) 0).trans rfl
 have t1 : wC.cell? ⟨tb, 1, none⟩ = some (.slice A1 exZ.length c1) := (blk_cell ((HB.out.block tb hlt).trans HT.out) 1).trans rfl
 clear hbA
 go_wp2_with fail
 refine (tariff_Price.calls 100 A0 c0 exR A1 c1 exZ 1 2 51 0 3 _ (Kd.C_below HR0.out HB.out) HC0.out (Kd.C_below HR1.out HB.out) HC1.out ex_h).mono ?_
 rintro e wD ⟨rfl, hbA⟩
 have HB := Aside0.mk (HB.out.trans (hbA.mono HB.out.size))
 have t0 : wD.cell? ⟨tb, 0, none⟩ = some (.slice A0 exR.length c0) := (blk_cell ((HB.out.block tb hlt).trans HT.out) 0).trans rfl
 have t1 : wD.cell? ⟨tb, 1, none⟩ = some (.slice A1 exZ.length c1) := (blk_cell ((HB.out.block tb hlt).trans HT.out) 1).trans rfl
 clear hbA
 go_wp2_with fail
 refine (tariff_Price.calls 100 A0 c0 exR A1 c1 exZ 2 2 51 0 6 _ (Kd.C_below HR0.out HB.out) HC0.out (Kd.C_below HR1.out HB.out) HC1.out ex_i).mono ?_
 rintro e wE ⟨rfl, hbA⟩
 have HB := Aside0.mk (HB.out.trans (hbA.mono HB.out.size))
 have t0 : wE.cell? ⟨tb, 0, none⟩ = some (.slice A0 exR.length c0) := (blk_cell ((HB.out.block tb hlt).trans HT.out) 0).trans rfl
 have t1 : wE.cell? ⟨tb, 1, none⟩ = some (.slice A1 exZ.length c1) := (blk_cell ((HB.out.block tb hlt).trans HT.out) 1).trans rfl
 clear hbA
 go_wp2_with fail
 have HB := Aside0.mk HB.out.drew
 refine wp_region_held_drew (S := (fun w' => w'.cell? ⟨tb, 0, none⟩ = some (.slice A0 exR.length c0) ∧ w'.cell? ⟨tb, 1, none⟩ = some (.slice A1 exZ.length c1))) (by kernel_rfl) ?_ (fun hHeld => ?_)
 ·((try dsimp only); exact ⟨t0, t1⟩)
 refine takeT 0 ?_ rfl (by kernel_rfl) (by kernel_rfl) (by kernel_rfl) (fun _ _ _ h => h) (by rfl) ?_ (by assumption) ?_
 rotate_left
 ·(intro w hSw; (try dsimp only at hSw); go_simp; (try with_reducible rfl))
 try simp only [Act.put, sl1, sl2, sl3]
 refine takeT 1 ?_ rfl (by kernel_rfl) (by kernel_rfl) (by kernel_rfl) (fun _ _ _ h => h) (by rfl) ?_ (by assumption) ?_
 rotate_left
 ·(intro w hSw; (try dsimp only at hSw); go_simp; (try with_reducible rfl))
 try simp only [Act.put, sl1, sl2, sl3]
 refine takeT 2 ?_ rfl (by kernel_rfl) (by kernel_rfl) (by kernel_rfl) (fun _ _ _ h => h) (by rfl) ?_ (by assumption) ?_
 rotate_left
 ·(intro w hSw; (try dsimp only at hSw); go_simp; (try with_reducible rfl))
 try simp only [Act.put, sl1, sl2, sl3]
 refine takeT 3 ?_ rfl (by kernel_rfl) (by kernel_rfl) (by kernel_rfl) (fun _ _ _ h => h) (by rfl) ?_ (by assumption) ?_
 rotate_left
 ·(intro w hSw; (try dsimp only at hSw); go_simp; (try with_reducible rfl))
 try simp only [Act.put, sl1, sl2, sl3]
 refine takeT 4 ?_ rfl (by kernel_rfl) (by kernel_rfl) (by kernel_rfl) (fun _ _ _ h => h) (by rfl) ?_ (by assumption) ?_
 rotate_left
 ·(intro w hSw; (try dsimp only at hSw); go_simp; (try with_reducible rfl))
 try simp only [Act.put, sl1, sl2, sl3]
 refine takeT 5 ?_ rfl (by kernel_rfl) (by kernel_rfl) (by kernel_rfl) (fun _ _ _ h => h) (by rfl) ?_ (by assumption) ?_
 rotate_left
 ·(intro w hSw; (try dsimp only at hSw); go_simp; (try with_reducible rfl))
 try simp only [Act.put, sl1, sl2, sl3]
 refine takeT 6 ?_ rfl (by kernel_rfl) (by kernel_rfl) (by kernel_rfl) (fun _ _ _ h => h) (by rfl) ?_ (by assumption) ?_
 rotate_left
 ·(intro w hSw; (try dsimp only at hSw); go_simp; (try with_reducible rfl))
 try simp only [Act.put, sl1, sl2, sl3]
 refine takeT 7 ?_ rfl (by kernel_rfl) (by kernel_rfl) (by kernel_rfl) (fun _ _ _ h => h) (by rfl) ?_ (by assumption) ?_
 rotate_left
 ·(intro w hSw; (try dsimp only at hSw); go_simp; (try with_reducible rfl))
 try simp only [Act.put, sl1, sl2, sl3]
 refine takeT 8 ?_ rfl (by kernel_rfl) (by kernel_rfl) (by kernel_rfl) (fun _ _ _ h => h) (by rfl) ?_ (by assumption) ?_
 rotate_left
 ·(intro w hSw; (try dsimp only at hSw); go_simp; (try with_reducible rfl))
 try simp only [Act.put, sl1, sl2, sl3]
 refine takeT 9 ?_ rfl (by kernel_rfl) (by kernel_rfl) (by kernel_rfl) (fun _ _ _ h => h) (by rfl) ?_ (by assumption) ?_
 rotate_left
 ·(intro w hSw; (try dsimp only at hSw); go_simp; (try with_reducible rfl))
 try simp only [Act.put, sl1, sl2, sl3]
 refine takeT 10 ?_ rfl (by kernel_rfl) (by kernel_rfl) (by kernel_rfl) (fun _ _ _ h => h) (by rfl) ?_ (by assumption) ?_
 rotate_left
 ·(intro w hSw; (try dsimp only at hSw); go_simp; (try with_reducible rfl))
 try simp only [Act.put, sl1, sl2, sl3]
 refine takeT 11 ?_ rfl (by kernel_rfl) (by kernel_rfl) (by kernel_rfl) (fun _ _ _ h => h) (by rfl) ?_ (by assumption) ?_
 rotate_left
 ·(intro w hSw; (try dsimp only at hSw); go_simp; (try with_reducible rfl))
 try simp only [Act.put, sl1, sl2, sl3]
 refine takeT 12 ?_ rfl (by kernel_rfl) (by kernel_rfl) (by kernel_rfl) (fun _ _ _ h => h) (by rfl) ?_ (by assumption) ?_
 rotate_left
 ·(intro w hSw; (try dsimp only at hSw); go_simp; (try with_reducible rfl))
 try simp only [Act.put, sl1, sl2, sl3]
 refine takeT 13 ?_ rfl (by kernel_rfl) (by kernel_rfl) (by kernel_rfl) (fun _ _ _ h => h) (by rfl) ?_ (by assumption) ?_
 rotate_left
 ·(intro w hSw; (try dsimp only at hSw); go_simp; (try with_reducible rfl))
 try simp only [Act.put, sl1, sl2, sl3]
 refine takeT 14 ?_ rfl (by kernel_rfl) (by kernel_rfl) (by kernel_rfl) (fun _ _ _ h => h) (by rfl) ?_ (by assumption) ?_
 rotate_left
 ·(intro w hSw; (try dsimp only at hSw); go_simp; (try with_reducible rfl))
 try simp only [Act.put, sl1, sl2, sl3]
 refine takeT 15 ?_ rfl (by kernel_rfl) (by kernel_rfl) (by kernel_rfl) (fun _ _ _ h => h) (by rfl) ?_ (by assumption) ?_
 rotate_left
 ·(intro w hSw; (try dsimp only at hSw); go_simp; (try with_reducible rfl))
 try simp only [Act.put, sl1, sl2, sl3]
 refine takeT 16 ?_ rfl (by kernel_rfl) (by kernel_rfl) (by kernel_rfl) (fun _ _ _ h => h) (by rfl) ?_ (by assumption) ?_
 rotate_left
 ·(intro w hSw; (try dsimp only at hSw); go_simp; (try with_reducible rfl))
 try simp only [Act.put, sl1, sl2, sl3]
 refine takeT 17 ?_ rfl (by kernel_rfl) (by kernel_rfl) (by kernel_rfl) (fun _ _ _ h => h) (by rfl) ?_ (by assumption) ?_
 rotate_left
 ·(intro w hSw; (try dsimp only at hSw); go_simp; (try with_reducible rfl))
 try simp only [Act.put, sl1, sl2, sl3]
 refine takeT 18 ?_ rfl (by kernel_rfl) (by kernel_rfl) (by kernel_rfl) (fun _ _ _ h => h) (by rfl) ?_ (by assumption) ?_
 rotate_left
 ·(intro w hSw; (try dsimp only at hSw); go_simp; (try with_reducible rfl))
 try simp only [Act.put, sl1, sl2, sl3]
 refine takeT 19 ?_ rfl (by kernel_rfl) (by kernel_rfl) (by kernel_rfl) (fun _ _ _ h => h) (by rfl) ?_ (by assumption) ?_
 rotate_left
 ·(intro w hSw; (try dsimp only at hSw); go_simp; (try with_reducible rfl))
 try simp only [Act.put, sl1, sl2, sl3]
 refine takeT 20 ?_ rfl (by kernel_rfl) (by kernel_rfl) (by kernel_rfl) (fun _ _ _ h => h) (by rfl) ?_ (by assumption) ?_
 rotate_left
 ·(intro w hSw; (try dsimp only at hSw); go_simp; (try with_reducible rfl))
 try simp only [Act.put, sl1, sl2, sl3]
 refine takeT 21 ?_ rfl (by kernel_rfl) (by kernel_rfl) (by kernel_rfl) (fun _ _ _ h => h) (by rfl) ?_ (by assumption) ?_
 rotate_left
 ·(intro w hSw; (try dsimp only at hSw); go_simp; (try with_reducible rfl))
 try simp only [Act.put, sl1, sl2, sl3]
 refine takeT 22 ?_ rfl (by kernel_rfl) (by kernel_rfl) (by kernel_rfl) (fun _ _ _ h => h) (by rfl) ?_ (by assumption) ?_
 rotate_left
 ·(intro w hSw; (try dsimp only at hSw); go_simp; (try with_reducible rfl))
 try simp only [Act.put, sl1, sl2, sl3]
 refine takeT 23 ?_ rfl (by kernel_rfl) (by kernel_rfl) (by kernel_rfl) (fun _ _ _ h => h) (by rfl) ?_ (by assumption) ?_
 rotate_left
 ·(intro w hSw; (try dsimp only at hSw); go_simp; (try with_reducible rfl))
 try simp only [Act.put, sl1, sl2, sl3]
 refine takeT 24 ?_ rfl (by kernel_rfl) (by kernel_rfl) (by kernel_rfl) (fun _ _ _ h => h) (by rfl) ?_ (by assumption) ?_
 rotate_left
 ·(intro w hSw; (try dsimp only at hSw); go_simp; (try with_reducible rfl))
 try simp only [Act.put, sl1, sl2, sl3]
 refine takeT 25 ?_ rfl (by kernel_rfl) (by kernel_rfl) (by kernel_rfl) (fun _ _ _ h => h) (by rfl) ?_ (by assumption) ?_
 rotate_left
 ·(intro w hSw; (try dsimp only at hSw); go_simp; (try with_reducible rfl))
 try simp only [Act.put, sl1, sl2, sl3]
 refine takeT 26 ?_ rfl (by kernel_rfl) (by kernel_rfl) (by kernel_rfl) (fun _ _ _ h => h) (by rfl) ?_ (by assumption) ?_
 rotate_left
 ·(intro w hSw; (try dsimp only at hSw); go_simp; (try with_reducible rfl))
 try simp only [Act.put, sl1, sl2, sl3]
 refine takeT 27 ?_ rfl (by kernel_rfl) (by kernel_rfl) (by kernel_rfl) (fun _ _ _ h => h) (by rfl) ?_ (by assumption) ?_
 rotate_left
 ·(intro w hSw; (try dsimp only at hSw); go_simp; (try with_reducible rfl))
 try simp only [Act.put, sl1, sl2, sl3]
 refine takeC 28 rfl (by kernel_rfl) (by rfl) (fun K hK => ?_)
 go_simp
 (refine (letterbaglaw23_Example.calls _ _ ex_x).mono ?_; rintro e wF ⟨v2, rfl, hn2, hbA⟩; obtain ⟨A2, c2, rfl, hc2, hr2⟩ := Kd.N_reads hn2; have HC2 := Aside0.mk hc2; have HR2 := Aside0.mk hr2; have HB := Aside0.mk (HB.out.trans (hbA.mono HB.out.size)); have t0 : wF.cell? ⟨tb, 0, none⟩ = some (.slice A0 exR.length c0) := (blk_cell ((HB.out.block tb hlt).trans HT.out) 0).trans rfl; have t1 : wF.cell? ⟨tb, 1, none⟩ = some (.slice A1 exZ.length c1) := (blk_cell ((HB.out.block tb hlt).trans HT.out) 1).trans rfl; clear hbA hn2 hc2 hr2)
 (try go_wp2_with fail)
 refine hK.out _ _ ?_ (fun hHeld => ?_)
 ·((try dsimp only); exact ⟨t0, t1⟩)
 clear hK K
 try simp only [Act.put, sl1, sl2, sl3]
 refine takeC 29 rfl (by kernel_rfl) (by rfl) (fun K hK => ?_)
 go_simp
 (refine (tariff_Fits.calls 100 A0 c0 exR A1 c1 exZ A2 c2 exL true _ (Kd.C_below HR0.out HB.out) HC0.out (Kd.C_below HR1.out HB.out) HC1.out HR2.out HC2.out ex_fits).mono ?_; rintro e wG ⟨rfl, hbA⟩; have HB := Aside0.mk (HB.out.trans (hbA.mono HB.out.size)); have t0 : wG.cell? ⟨tb, 0, none⟩ = some (.slice A0 exR.length c0) := (blk_cell ((HB.out.block tb hlt).trans HT.out) 0).trans rfl; have t1 : wG.cell? ⟨tb, 1, none⟩ = some (.slice A1 exZ.length c1) := (blk_cell ((HB.out.block tb hlt).trans HT.out) 1).trans rfl; clear hbA)
 (try go_wp2_with fail)
 refine hK.out _ _ ?_ (fun hHeld => ?_)
 ·((try dsimp only); exact ⟨t0, t1⟩)
 clear hK K
 try simp only [Act.put, sl1, sl2, sl3]
 refine takeT 30 ?_ rfl (by kernel_rfl) (by kernel_rfl) (by kernel_rfl) (fun _ _ _ h => h) (by rfl) ?_ (by assumption) ?_
 rotate_left
 ·(intro w hSw; (try dsimp only at hSw); go_simp; (try with_reducible rfl))
 try simp only [Act.put, sl1, sl2, sl3]
 refine takeT 31 ?_ rfl (by kernel_rfl) (by kernel_rfl) (by kernel_rfl) (fun _ _ _ h => h) (by rfl) ?_ (by assumption) ?_
 rotate_left
 ·(intro w hSw; (try dsimp only at hSw); go_simp; (try with_reducible rfl))
 try simp only [Act.put, sl1, sl2, sl3]
 refine wpAnyH_done (by kernel_rfl) ?_ _
 clear HR2 HC2
 go_wp2_with fail
 refine (letterbaglaw24_Piece.calls exFar 20 true 1 1 exFrom exP _ ex_m).mono ?_
 rintro e wH ⟨v3, rfl, hn3, hbA⟩
 obtain ⟨A3, c3, rfl, hc3, hr3⟩ := Kd.R_reads hn3
 have HC3 := Aside0.mk hc3
 have HB := Aside0.mk (HB.out.trans (hbA.mono HB.out.size))
 have t0 : wH.cell? ⟨tb, 0, none⟩ = some (.slice A0 exR.length c0) := (blk_cell ((HB.out.block tb hlt).trans HT.out) 0).trans rfl
 have t1 : wH.cell? ⟨tb, 1, none⟩ = some (.slice A1 exZ.length c1) := (blk_cell ((HB.out.block tb hlt).trans HT.out) 1).trans rfl
 clear hbA
 have hba := below_alloc (Below.refl wH.heap.size wH) (.cells #[.int .u8 1, .int .u8 1, .string exFrom, .slice A3 exP.length c3] 36 (0, 0))
 have HMB := Aside0.mk (heap_alloc_new wH (.cells #[.int .u8 1, .int .u8 1, .string exFrom, .slice A3 exP.length c3] 36 (0, 0)))
 have HR3 := Aside0.mk (Kd.C_below hr3 hba)
 have HB := Aside0.mk (HB.out.trans (hba.mono HB.out.size))
 have t0 : (wH.alloc (.cells #[.int .u8 1, .int .u8 1, .string exFrom, .slice A3 exP.length c3] 36 (0, 0))).cell? ⟨tb, 0, none⟩ = some (.slice A0 exR.length c0) := (blk_cell ((HB.out.block tb hlt).trans HT.out) 0).trans rfl
 have t1 : (wH.alloc (.cells #[.int .u8 1, .int .u8 1, .string exFrom, .slice A3 exP.length c3] 36 (0, 0))).cell? ⟨tb, 1, none⟩ = some (.slice A1 exZ.length c1) := (blk_cell ((HB.out.block tb hlt).trans HT.out) 1).trans rfl
 have hlm := blk_lt HMB.out
 have HM := Aside0.mk (Below.refl (wH.alloc (.cells #[.int .u8 1, .int .u8 1, .string exFrom, .slice A3 exP.length c3] 36 (0, 0))).heap.size (wH.alloc (.cells #[.int .u8 1, .int .u8 1, .string exFrom, .slice A3 exP.length c3] 36 (0, 0))))
 have m0 : (wH.alloc (.cells #[.int .u8 1, .int .u8 1, .string exFrom, .slice A3 exP.length c3] 36 (0, 0))).cell? ⟨wH.heap.size, 0, none⟩ = some (.int .u8 1) := (blk_cell HMB.out 0).trans rfl
 have m1 : (wH.alloc (.cells #[.int .u8 1, .int .u8 1, .string exFrom, .slice A3 exP.length c3] 36 (0, 0))).cell? ⟨wH.heap.size, 1, none⟩ = some (.int .u8 1) := (blk_cell HMB.out 1).trans rfl
 have m2 : (wH.alloc (.cells #[.int .u8 1, .int .u8 1, .string exFrom, .slice A3 exP.length c3] 36 (0, 0))).cell? ⟨wH.heap.size, 2, none⟩ = some (.string exFrom) := (blk_cell HMB.out 2).trans rfl
 have m3 : (wH.alloc (.cells #[.int .u8 1, .int .u8 1, .string exFrom, .slice A3 exP.length c3] 36 (0, 0))).cell? ⟨wH.heap.size, 3, none⟩ = some (.slice A3 exP.length c3) := (blk_cell HMB.out 3).trans rfl
 clear hn3 hc3 hr3 hba
 go_wp2_with fail
 generalize (wH.alloc (.cells #[.int .u8 1, .int .u8 1, .string exFrom, .slice A3 exP.length c3] 36 (0, 0))) = WM at *
 generalize wH.heap.size = mb at *
 refine (tariff_Bases.calls 100 A0 c0 exR A1 c1 exZ 1 1 exFrom A3 c3 exP [150] 0 _ (Kd.C_below HR0.out HB.out) HC0.out (Kd.C_below HR1.out HB.out) HC1.out (Kd.C_below HR3.out HM.out) HC3.out ex_bases).mono ?_
 rintro e wI ⟨v4, rfl, hn4, hbA⟩
 obtain ⟨A4, c4, rfl, hc4, hr4⟩ := Kd.R_reads hn4
 have HC4 := Aside0.mk hc4
 have HR4 := Aside0.mk hr4
 have HB := Aside0.mk (HB.out.trans (hbA.mono HB.out.size))
 have t0 : wI.cell? ⟨tb, 0, none⟩ = some (.slice A0 exR.length c0) := (blk_cell ((HB.out.block tb hlt).trans HT.out) 0).trans rfl
 have t1 : wI.cell? ⟨tb, 1, none⟩ = some (.slice A1 exZ.length c1) := (blk_cell ((HB.out.block tb hlt).trans HT.out) 1).trans rfl
 have HM := Aside0.mk (HM.out.trans (hbA.mono HM.out.size))
 have m0 : wI.cell? ⟨mb, 0, none⟩ = some (.int .u8 1) := (blk_cell ((HM.out.block mb hlm).trans HMB.out) 0).trans rfl
 have m1 : wI.cell? ⟨mb, 1, none⟩ = some (.int .u8 1) := (blk_cell ((HM.out.block mb hlm).trans HMB.out) 1).trans rfl
 have m2 : wI.cell? ⟨mb, 2, none⟩ = some (.string exFrom) := (blk_cell ((HM.out.block mb hlm).trans HMB.out) 2).trans rfl
 have m3 : wI.cell? ⟨mb, 3, none⟩ = some (.slice A3 exP.length c3) := (blk_cell ((HM.out.block mb hlm).trans HMB.out) 3).trans rfl
 have HX := Aside0.mk (Below.refl wI.heap.size wI)
 clear hbA hn4 hc4 hr4
 go_wp2_with fail
 replace HB := Aside0.mk HB.out.drew
 replace HM := Aside0.mk HM.out.drew
 replace HX := Aside0.mk HX.out.drew
 refine wp_region_held_drew (S := (fun w' => w'.cell? ⟨tb, 0, none⟩ = some (.slice A0 exR.length c0) ∧ w'.cell? ⟨tb, 1, none⟩ = some (.slice A1 exZ.length c1) ∧ w'.cell? ⟨mb, 0, none⟩ = some (.int .u8 1) ∧ w'.cell? ⟨mb, 1, none⟩ = some (.int .u8 1) ∧ w'.cell? ⟨mb, 2, none⟩ = some (.string exFrom) ∧ w'.cell? ⟨mb, 3, none⟩ = some (.slice A3 exP.length c3))) (by kernel_rfl) ?_ (fun hHeld => ?_)
 ·((try dsimp only); exact ⟨t0, t1, m0, m1, m2, m3⟩)
 refine takeT 0 ?_ rfl (by kernel_rfl) (by kernel_rfl) (by kernel_rfl) (fun _ _ _ h => h) (by rfl) ?_ (by assumption) ?_
 rotate_left
 ·(intro w hSw; (try dsimp only at hSw); go_simp; (try with_reducible rfl))
 try simp only [Act.put, sl1, sl2, sl3]
 refine takeT 2 ?_ rfl (by kernel_rfl) (by kernel_rfl) (by kernel_rfl) (fun _ _ _ h => h) (by rfl) ?_ (by assumption) ?_
 rotate_left
 ·(intro w hSw; (try dsimp only at hSw); go_simp; (try with_reducible rfl))
 try simp only [Act.put, sl1, sl2, sl3]
 apply bothWays
 intro hrest
 refine takeC2 1 3 rfl rfl (by kernel_rfl) (by rfl) (by rfl) (fun K hK => ?_) (fun K hK => ?_)
 ·go_simp
  (refine (letterbaglaw23_Example.calls _ _ ex_x).mono ?_; rintro e wJ ⟨v5, rfl, hn5, hbA⟩; obtain ⟨A5, c5, rfl, hc5, hr5⟩ := Kd.N_reads hn5; have HC5 := Aside0.mk hc5; have HR5 := Aside0.mk hr5; have HB := Aside0.mk (HB.out.trans (hbA.mono HB.out.size)); have t0 : wJ.cell? ⟨tb, 0, none⟩ = some (.slice A0 exR.length c0) := (blk_cell ((HB.out.block tb hlt).trans HT.out) 0).trans rfl; have t1 : wJ.cell? ⟨tb, 1, none⟩ = some (.slice A1 exZ.length c1) := (blk_cell ((HB.out.block tb hlt).trans HT.out) 1).trans rfl; have HM := Aside0.mk (HM.out.trans (hbA.mono HM.out.size)); have m0 : wJ.cell? ⟨mb, 0, none⟩ = some (.int .u8 1) := (blk_cell ((HM.out.block mb hlm).trans HMB.out) 0).trans rfl; have m1 : wJ.cell? ⟨mb, 1, none⟩ = some (.int .u8 1) := (blk_cell ((HM.out.block mb hlm).trans HMB.out) 1).trans rfl; have m2 : wJ.cell? ⟨mb, 2, none⟩ = some (.string exFrom) := (blk_cell ((HM.out.block mb hlm).trans HMB.out) 2).trans rfl; have m3 : wJ.cell? ⟨mb, 3, none⟩ = some (.slice A3 exP.length c3) := (blk_cell ((HM.out.block mb hlm).trans HMB.out) 3).trans rfl; have HX := Aside0.mk (HX.out.trans (hbA.mono HX.out.size)); clear hbA hn5 hc5 hr5)
  (try go_wp2_with fail)
  refine hK.out _ _ ?_ (fun hHeld => ?_)
  ·((try dsimp only); exact ⟨t0, t1, m0, m1, m2, m3⟩)
  clear hK K
  try simp only [Act.put, sl1, sl2, sl3]
  refine takeC 3 rfl (by kernel_rfl) (by rfl) (fun K hK => ?_)
  go_simp
  (have hba := below_alloc (Below.refl wJ.heap.size wJ) (.cells #[.int .i64 1] 3 (0, 0)); replace HR5 := Aside0.mk (Kd.C_below HR5.out hba); have HPL := Aside0.mk (plan_C wJ 1); have HB := Aside0.mk (HB.out.trans (hba.mono HB.out.size)); have t0 : (wJ.alloc (.cells #[.int .i64 1] 3 (0, 0))).cell? ⟨tb, 0, none⟩ = some (.slice A0 exR.length c0) := (blk_cell ((HB.out.block tb hlt).trans HT.out) 0).trans rfl; have t1 : (wJ.alloc (.cells #[.int .i64 1] 3 (0, 0))).cell? ⟨tb, 1, none⟩ = some (.slice A1 exZ.length c1) := (blk_cell ((HB.out.block tb hlt).trans HT.out) 1).trans rfl; have HM := Aside0.mk (HM.out.trans (hba.mono HM.out.size)); have m0 : (wJ.alloc (.cells #[.int .i64 1] 3 (0, 0))).cell? ⟨mb, 0, none⟩ = some (.int .u8 1) := (blk_cell ((HM.out.block mb hlm).trans HMB.out) 0).trans rfl; have m1 : (wJ.alloc (.cells #[.int .i64 1] 3 (0, 0))).cell? ⟨mb, 1, none⟩ = some (.int .u8 1) := (blk_cell ((HM.out.block mb hlm).trans HMB.out) 1).trans rfl; have m2 : (wJ.alloc (.cells #[.int .i64 1] 3 (0, 0))).cell? ⟨mb, 2, none⟩ = some (.string exFrom) := (blk_cell ((HM.out.block mb hlm).trans HMB.out) 2).trans rfl; have m3 : (wJ.alloc (.cells #[.int .i64 1] 3 (0, 0))).cell? ⟨mb, 3, none⟩ = some (.slice A3 exP.length c3) := (blk_cell ((HM.out.block mb hlm).trans HMB.out) 3).trans rfl; have HX := Aside0.mk (HX.out.trans (hba.mono HX.out.size)); clear hba)
  (try go_wp2_with fail)
  refine hK.out _ _ ?_ (fun hHeld => ?_)
  ·((try dsimp only); exact ⟨t0, t1, m0, m1, m2, m3⟩)
  clear hK K
  try simp only [Act.put, sl1, sl2, sl3]
  refine takeC 4 rfl (by kernel_rfl) (by rfl) (fun K hK => ?_)
  go_simp
  (refine (tariff_Postage.calls 100 A0 c0 exR A1 c1 exZ A5 c5 exL 1 1 exFrom A3 c3 exP (some ⟨wJ.heap.size, 0, none⟩) 1 [1] [135] 0 _ (Kd.C_below HR0.out HB.out) HC0.out (Kd.C_below HR1.out HB.out) HC1.out HR5.out HC5.out (Kd.C_below HR3.out HM.out) HC3.out HPL.out (by decide) ex_post).mono ?_; rintro e wK ⟨v6, rfl, hn6, hbA⟩; obtain ⟨A6, c6, rfl, hc6, hr6⟩ := Kd.R_reads hn6; have HC6 := Aside0.mk hc6; have HR6 := Aside0.mk hr6; have HB := Aside0.mk (HB.out.trans (hbA.mono HB.out.size)); have t0 : wK.cell? ⟨tb, 0, none⟩ = some (.slice A0 exR.length c0) := (blk_cell ((HB.out.block tb hlt).trans HT.out) 0).trans rfl; have t1 : wK.cell? ⟨tb, 1, none⟩ = some (.slice A1 exZ.length c1) := (blk_cell ((HB.out.block tb hlt).trans HT.out) 1).trans rfl; have HM := Aside0.mk (HM.out.trans (hbA.mono HM.out.size)); have m0 : wK.cell? ⟨mb, 0, none⟩ = some (.int .u8 1) := (blk_cell ((HM.out.block mb hlm).trans HMB.out) 0).trans rfl; have m1 : wK.cell? ⟨mb, 1, none⟩ = some (.int .u8 1) := (blk_cell ((HM.out.block mb hlm).trans HMB.out) 1).trans rfl; have m2 : wK.cell? ⟨mb, 2, none⟩ = some (.string exFrom) := (blk_cell ((HM.out.block mb hlm).trans HMB.out) 2).trans rfl; have m3 : wK.cell? ⟨mb, 3, none⟩ = some (.slice A3 exP.length c3) := (blk_cell ((HM.out.block mb hlm).trans HMB.out) 3).trans rfl; have HX := Aside0.mk (HX.out.trans (hbA.mono HX.out.size)); clear hbA hn6 hc6 hr6)
  (try go_wp2_with fail)
  refine hK.out _ _ ?_ (fun hHeld => ?_)
  ·((try dsimp only); exact ⟨t0, t1, m0, m1, m2, m3⟩)
  clear hK K
  try simp only [Act.put, sl1, sl2, sl3]
  refine takeT 5 ?_ rfl (by kernel_rfl) (by kernel_rfl) (by kernel_rfl) (fun _ _ _ h => h) (by rfl) ?_ (by assumption) ?_
  rotate_left
  ·(intro w hSw; (try dsimp only at hSw); go_simp; (try with_reducible rfl))
  try simp only [Act.put, sl1, sl2, sl3]
  refine takeT 6 ?_ rfl (by kernel_rfl) (by kernel_rfl) (by kernel_rfl) (fun _ _ _ h => h) (by rfl) ?_ (by assumption) ?_
  rotate_left
  ·(intro w hSw; (try dsimp only at hSw); go_simp; (try with_reducible rfl))
  try simp only [Act.put, sl1, sl2, sl3]
  refine takeT 7 ?_ rfl (by kernel_rfl) (by kernel_rfl) (by kernel_rfl) (fun _ _ _ h => h) (by rfl) ?_ (by assumption) ?_
  rotate_left
  ·(intro w hSw; (try dsimp only at hSw); go_simp; (try with_reducible rfl))
  try simp only [Act.put, sl1, sl2, sl3]
  refine takeT 8 ?_ rfl (by kernel_rfl) (by kernel_rfl) (by kernel_rfl) (fun _ _ _ h => h) (by rfl) ?_ (by assumption) ?_
  rotate_left
  ·(intro w hSw; (try dsimp only at hSw); go_simp; (try with_reducible rfl))
  try simp only [Act.put, sl1, sl2, sl3]
  refine takeT 9 ?_ rfl (by kernel_rfl) (by kernel_rfl) (by kernel_rfl) (fun _ _ _ h => h) (by rfl) ?_ (by assumption) ?_
  rotate_left
  ·(intro w hSw; (try dsimp only at hSw); go_simp; (try with_reducible rfl))
  try simp only [Act.put, sl1, sl2, sl3]
  refine wpAnyH_done (by kernel_rfl) ?_ _
  have HF : Aside0 (Below W1.heap.size W1 wK ∧ Below WM.heap.size WM wK ∧ Below wI.heap.size wI wK ∧ Kd.C (Kd.int .i64) wK A6 [(135 : Int)].length [135] ∧ [(135 : Int)].length ≤ c6) := ⟨⟨HB.out, HM.out, HX.out, HR6.out, HC6.out⟩⟩
  clear t0 t1 m0 m1 m2 m3 HB HM HX HR6 HC6 HR5 HC5 HPL hHeld
  generalize wJ.heap.size = nb
  revert HF c6 A6 c5 A5 nb wK
  exact hrest.out
 ·go_simp
  (have hba : Below wI.drew.heap.size wI.drew ((wI.alloc (.cells #[.int .i64 1] 3 (0, 0))).drew) := below_alloc (Below.refl wI.drew.heap.size wI.drew) (.cells #[.int .i64 1] 3 (0, 0)); have HPL := Aside0.mk (Kd.C_below (plan_C wI 1) (below_drew (Below.refl _ _))); have HB := Aside0.mk (HB.out.trans (hba.mono HB.out.size)); have t0 : ((wI.alloc (.cells #[.int .i64 1] 3 (0, 0))).drew).cell? ⟨tb, 0, none⟩ = some (.slice A0 exR.length c0) := (blk_cell ((HB.out.block tb hlt).trans HT.out) 0).trans rfl; have t1 : ((wI.alloc (.cells #[.int .i64 1] 3 (0, 0))).drew).cell? ⟨tb, 1, none⟩ = some (.slice A1 exZ.length c1) := (blk_cell ((HB.out.block tb hlt).trans HT.out) 1).trans rfl; have HM := Aside0.mk (HM.out.trans (hba.mono HM.out.size)); have m0 : ((wI.alloc (.cells #[.int .i64 1] 3 (0, 0))).drew).cell? ⟨mb, 0, none⟩ = some (.int .u8 1) := (blk_cell ((HM.out.block mb hlm).trans HMB.out) 0).trans rfl; have m1 : ((wI.alloc (.cells #[.int .i64 1] 3 (0, 0))).drew).cell? ⟨mb, 1, none⟩ = some (.int .u8 1) := (blk_cell ((HM.out.block mb hlm).trans HMB.out) 1).trans rfl; have m2 : ((wI.alloc (.cells #[.int .i64 1] 3 (0, 0))).drew).cell? ⟨mb, 2, none⟩ = some (.string exFrom) := (blk_cell ((HM.out.block mb hlm).trans HMB.out) 2).trans rfl; have m3 : ((wI.alloc (.cells #[.int .i64 1] 3 (0, 0))).drew).cell? ⟨mb, 3, none⟩ = some (.slice A3 exP.length c3) := (blk_cell ((HM.out.block mb hlm).trans HMB.out) 3).trans rfl; have HX := Aside0.mk (HX.out.trans (hba.mono HX.out.size)); clear hba)
  (try go_wp2_with fail)
  refine hK.out _ _ ?_ (fun hHeld => ?_)
  ·((try dsimp only); exact ⟨t0, t1, m0, m1, m2, m3⟩)
  clear hK K
  try simp only [Act.put, sl1, sl2, sl3]
  refine takeC 1 rfl (by kernel_rfl) (by rfl) (fun K hK => ?_)
  go_simp
  (refine (letterbaglaw23_Example.calls _ _ ex_x).mono ?_; rintro e wJ ⟨v5, rfl, hn5, hbA⟩; obtain ⟨A5, c5, rfl, hc5, hr5⟩ := Kd.N_reads hn5; have HC5 := Aside0.mk hc5; have HR5 := Aside0.mk hr5; replace HPL := Aside0.mk (Kd.C_below HPL.out hbA); have HB := Aside0.mk (HB.out.trans (hbA.mono HB.out.size)); have t0 : wJ.cell? ⟨tb, 0, none⟩ = some (.slice A0 exR.length c0) := (blk_cell ((HB.out.block tb hlt).trans HT.out) 0).trans rfl; have t1 : wJ.cell? ⟨tb, 1, none⟩ = some (.slice A1 exZ.length c1) := (blk_cell ((HB.out.block tb hlt).trans HT.out) 1).trans rfl; have HM := Aside0.mk (HM.out.trans (hbA.mono HM.out.size)); have m0 : wJ.cell? ⟨mb, 0, none⟩ = some (.int .u8 1) := (blk_cell ((HM.out.block mb hlm).trans HMB.out) 0).trans rfl; have m1 : wJ.cell? ⟨mb, 1, none⟩ = some (.int .u8 1) := (blk_cell ((HM.out.block mb hlm).trans HMB.out) 1).trans rfl; have m2 : wJ.cell? ⟨mb, 2, none⟩ = some (.string exFrom) := (blk_cell ((HM.out.block mb hlm).trans HMB.out) 2).trans rfl; have m3 : wJ.cell? ⟨mb, 3, none⟩ = some (.slice A3 exP.length c3) := (blk_cell ((HM.out.block mb hlm).trans HMB.out) 3).trans rfl; have HX := Aside0.mk (HX.out.trans (hbA.mono HX.out.size)); clear hbA hn5 hc5 hr5)
  (try go_wp2_with fail)
  refine hK.out _ _ ?_ (fun hHeld => ?_)
  ·((try dsimp only); exact ⟨t0, t1, m0, m1, m2, m3⟩)
  clear hK K
  try simp only [Act.put, sl1, sl2, sl3]
  refine takeC 4 rfl (by kernel_rfl) (by rfl) (fun K hK => ?_)
  go_simp
  (refine (tariff_Postage.calls 100 A0 c0 exR A1 c1 exZ A5 c5 exL 1 1 exFrom A3 c3 exP (some ⟨wI.heap.size, 0, none⟩) 1 [1] [135] 0 _ (Kd.C_below HR0.out HB.out) HC0.out (Kd.C_below HR1.out HB.out) HC1.out HR5.out HC5.out (Kd.C_below HR3.out HM.out) HC3.out HPL.out (by decide) ex_post).mono ?_; rintro e wK ⟨v6, rfl, hn6, hbA⟩; obtain ⟨A6, c6, rfl, hc6, hr6⟩ := Kd.R_reads hn6; have HC6 := Aside0.mk hc6; have HR6 := Aside0.mk hr6; have HB := Aside0.mk (HB.out.trans (hbA.mono HB.out.size)); have t0 : wK.cell? ⟨tb, 0, none⟩ = some (.slice A0 exR.length c0) := (blk_cell ((HB.out.block tb hlt).trans HT.out) 0).trans rfl; have t1 : wK.cell? ⟨tb, 1, none⟩ = some (.slice A1 exZ.length c1) := (blk_cell ((HB.out.block tb hlt).trans HT.out) 1).trans rfl; have HM := Aside0.mk (HM.out.trans (hbA.mono HM.out.size)); have m0 : wK.cell? ⟨mb, 0, none⟩ = some (.int .u8 1) := (blk_cell ((HM.out.block mb hlm).trans HMB.out) 0).trans rfl; have m1 : wK.cell? ⟨mb, 1, none⟩ = some (.int .u8 1) := (blk_cell ((HM.out.block mb hlm).trans HMB.out) 1).trans rfl; have m2 : wK.cell? ⟨mb, 2, none⟩ = some (.string exFrom) := (blk_cell ((HM.out.block mb hlm).trans HMB.out) 2).trans rfl; have m3 : wK.cell? ⟨mb, 3, none⟩ = some (.slice A3 exP.length c3) := (blk_cell ((HM.out.block mb hlm).trans HMB.out) 3).trans rfl; have HX := Aside0.mk (HX.out.trans (hbA.mono HX.out.size)); clear hbA hn6 hc6 hr6)
  (try go_wp2_with fail)
  refine hK.out _ _ ?_ (fun hHeld => ?_)
  ·((try dsimp only); exact ⟨t0, t1, m0, m1, m2, m3⟩)
  clear hK K
  try simp only [Act.put, sl1, sl2, sl3]
  refine takeT 5 ?_ rfl (by kernel_rfl) (by kernel_rfl) (by kernel_rfl) (fun _ _ _ h => h) (by rfl) ?_ (by assumption) ?_
  rotate_left
  ·(intro w hSw; (try dsimp only at hSw); go_simp; (try with_reducible rfl))
  try simp only [Act.put, sl1, sl2, sl3]
  refine takeT 6 ?_ rfl (by kernel_rfl) (by kernel_rfl) (by kernel_rfl) (fun _ _ _ h => h) (by rfl) ?_ (by assumption) ?_
  rotate_left
  ·(intro w hSw; (try dsimp only at hSw); go_simp; (try with_reducible rfl))
  try simp only [Act.put, sl1, sl2, sl3]
  refine takeT 7 ?_ rfl (by kernel_rfl) (by kernel_rfl) (by kernel_rfl) (fun _ _ _ h => h) (by rfl) ?_ (by assumption) ?_
  rotate_left
  ·(intro w hSw; (try dsimp only at hSw); go_simp; (try with_reducible rfl))
  try simp only [Act.put, sl1, sl2, sl3]
  refine takeT 8 ?_ rfl (by kernel_rfl) (by kernel_rfl) (by kernel_rfl) (fun _ _ _ h => h) (by rfl) ?_ (by assumption) ?_
  rotate_left
  ·(intro w hSw; (try dsimp only at hSw); go_simp; (try with_reducible rfl))
  try simp only [Act.put, sl1, sl2, sl3]
  refine takeT 9 ?_ rfl (by kernel_rfl) (by kernel_rfl) (by kernel_rfl) (fun _ _ _ h => h) (by rfl) ?_ (by assumption) ?_
  rotate_left
  ·(intro w hSw; (try dsimp only at hSw); go_simp; (try with_reducible rfl))
  try simp only [Act.put, sl1, sl2, sl3]
  refine wpAnyH_done (by kernel_rfl) ?_ _
  have HF : Aside0 (Below W1.heap.size W1 wK ∧ Below WM.heap.size WM wK ∧ Below wI.heap.size wI wK ∧ Kd.C (Kd.int .i64) wK A6 [(135 : Int)].length [135] ∧ [(135 : Int)].length ≤ c6) := ⟨⟨HB.out, HM.out, HX.out, HR6.out, HC6.out⟩⟩
  clear t0 t1 m0 m1 m2 m3 HB HM HX HR6 HC6 HR5 HC5 HPL hHeld
  generalize wI.heap.size = nb
  revert HF c6 A6 c5 A5 nb wK
  exact hrest.out
 intro A5 c5 wK A6 c6 HF nb
 obtain ⟨q1, q2, q3, q4, q5⟩ := HF.out
 replace HB := Aside0.mk q1
 replace HM := Aside0.mk q2
 replace HX := Aside0.mk q3
 have HR6 := Aside0.mk q4
 have HC6 := Aside0.mk q5
 have HY := Aside0.mk (Below.refl wK.heap.size wK)
 clear HF q1 q2 q3 q4 q5
 go_wp2_with fail
 have hba := below_alloc (Below.refl wK.heap.size wK) (.cells #[.int .i64 150] 3 (0, 0))
 have HPL := Aside0.mk (plan_C wK 150)
 have HB := Aside0.mk (HB.out.trans (hba.mono HB.out.size))
 have t0 : (wK.alloc (.cells #[.int .i64 150] 3 (0, 0))).cell? ⟨tb, 0, none⟩ = some (.slice A0 exR.length c0) := (blk_cell ((HB.out.block tb hlt).trans HT.out) 0).trans rfl
 have t1 : (wK.alloc (.cells #[.int .i64 150] 3 (0, 0))).cell? ⟨tb, 1, none⟩ = some (.slice A1 exZ.length c1) := (blk_cell ((HB.out.block tb hlt).trans HT.out) 1).trans rfl
 have HM := Aside0.mk (HM.out.trans (hba.mono HM.out.size))
 have m0 : (wK.alloc (.cells #[.int .i64 150] 3 (0, 0))).cell? ⟨mb, 0, none⟩ = some (.int .u8 1) := (blk_cell ((HM.out.block mb hlm).trans HMB.out) 0).trans rfl
 have m1 : (wK.alloc (.cells #[.int .i64 150] 3 (0, 0))).cell? ⟨mb, 1, none⟩ = some (.int .u8 1) := (blk_cell ((HM.out.block mb hlm).trans HMB.out) 1).trans rfl
 have m2 : (wK.alloc (.cells #[.int .i64 150] 3 (0, 0))).cell? ⟨mb, 2, none⟩ = some (.string exFrom) := (blk_cell ((HM.out.block mb hlm).trans HMB.out) 2).trans rfl
 have m3 : (wK.alloc (.cells #[.int .i64 150] 3 (0, 0))).cell? ⟨mb, 3, none⟩ = some (.slice A3 exP.length c3) := (blk_cell ((HM.out.block mb hlm).trans HMB.out) 3).trans rfl
 have HX := Aside0.mk (HX.out.trans (hba.mono HX.out.size))
 replace HY := Aside0.mk (HY.out.trans (hba.mono HY.out.size))
 clear hba
 refine (letterbagkit_SameInts.calls 100 A4 c4 [150] (some ⟨wK.heap.size, 0, none⟩) 1 [150] true _ (Kd.C_below HR4.out HX.out) HC4.out HPL.out (by decide) ex_s1).mono ?_
 rintro e wL ⟨rfl, hdA⟩
 have hbA := hdA.below
 have HB := Aside0.mk (HB.out.trans (hbA.mono HB.out.size))
 have t0 : wL.cell? ⟨tb, 0, none⟩ = some (.slice A0 exR.length c0) := (blk_cell ((HB.out.block tb hlt).trans HT.out) 0).trans rfl
 have t1 : wL.cell? ⟨tb, 1, none⟩ = some (.slice A1 exZ.length c1) := (blk_cell ((HB.out.block tb hlt).trans HT.out) 1).trans rfl
 have HM := Aside0.mk (HM.out.trans (hbA.mono HM.out.size))
 have m0 : wL.cell? ⟨mb, 0, none⟩ = some (.int .u8 1) := (blk_cell ((HM.out.block mb hlm).trans HMB.out) 0).trans rfl
 have m1 : wL.cell? ⟨mb, 1, none⟩ = some (.int .u8 1) := (blk_cell ((HM.out.block mb hlm).trans HMB.out) 1).trans rfl
 have m2 : wL.cell? ⟨mb, 2, none⟩ = some (.string exFrom) := (blk_cell ((HM.out.block mb hlm).trans HMB.out) 2).trans rfl
 have m3 : wL.cell? ⟨mb, 3, none⟩ = some (.slice A3 exP.length c3) := (blk_cell ((HM.out.block mb hlm).trans HMB.out) 3).trans rfl
 have HX := Aside0.mk (HX.out.trans (hbA.mono HX.out.size))
 replace HY := Aside0.mk (HY.out.trans (hbA.mono HY.out.size))
 clear hbA hdA HPL
 go_wp2_with fail
 have hba := below_alloc (Below.refl wL.heap.size wL) (.cells #[.int .i64 135] 3 (0, 0))
 have HPL := Aside0.mk (plan_C wL 135)
 have HB := Aside0.mk (HB.out.trans (hba.mono HB.out.size))
 have t0 : (wL.alloc (.cells #[.int .i64 135] 3 (0, 0))).cell? ⟨tb, 0, none⟩ = some (.slice A0 exR.length c0) := (blk_cell ((HB.out.block tb hlt).trans HT.out) 0).trans rfl
 have t1 : (wL.alloc (.cells #[.int .i64 135] 3 (0, 0))).cell? ⟨tb, 1, none⟩ = some (.slice A1 exZ.length c1) := (blk_cell ((HB.out.block tb hlt).trans HT.out) 1).trans rfl
 have HM := Aside0.mk (HM.out.trans (hba.mono HM.out.size))
 have m0 : (wL.alloc (.cells #[.int .i64 135] 3 (0, 0))).cell? ⟨mb, 0, none⟩ = some (.int .u8 1) := (blk_cell ((HM.out.block mb hlm).trans HMB.out) 0).trans rfl
 have m1 : (wL.alloc (.cells #[.int .i64 135] 3 (0, 0))).cell? ⟨mb, 1, none⟩ = some (.int .u8 1) := (blk_cell ((HM.out.block mb hlm).trans HMB.out) 1).trans rfl
 have m2 : (wL.alloc (.cells #[.int .i64 135] 3 (0, 0))).cell? ⟨mb, 2, none⟩ = some (.string exFrom) := (blk_cell ((HM.out.block mb hlm).trans HMB.out) 2).trans rfl
 have m3 : (wL.alloc (.cells #[.int .i64 135] 3 (0, 0))).cell? ⟨mb, 3, none⟩ = some (.slice A3 exP.length c3) := (blk_cell ((HM.out.block mb hlm).trans HMB.out) 3).trans rfl
 have HX := Aside0.mk (HX.out.trans (hba.mono HX.out.size))
 replace HY := Aside0.mk (HY.out.trans (hba.mono HY.out.size))
 clear hba
 refine (letterbagkit_SameInts.calls 100 A6 c6 [135] (some ⟨wL.heap.size, 0, none⟩) 1 [135] true _ (Kd.C_below HR6.out HY.out) HC6.out HPL.out (by decide) ex_s2).mono ?_
 rintro e wN ⟨rfl, hdA⟩
 have hbA := hdA.below
 have HB := Aside0.mk (HB.out.trans (hbA.mono HB.out.size))
 have t0 : wN.cell? ⟨tb, 0, none⟩ = some (.slice A0 exR.length c0) := (blk_cell ((HB.out.block tb hlt).trans HT.out) 0).trans rfl
 have t1 : wN.cell? ⟨tb, 1, none⟩ = some (.slice A1 exZ.length c1) := (blk_cell ((HB.out.block tb hlt).trans HT.out) 1).trans rfl
 have HM := Aside0.mk (HM.out.trans (hbA.mono HM.out.size))
 have m0 : wN.cell? ⟨mb, 0, none⟩ = some (.int .u8 1) := (blk_cell ((HM.out.block mb hlm).trans HMB.out) 0).trans rfl
 have m1 : wN.cell? ⟨mb, 1, none⟩ = some (.int .u8 1) := (blk_cell ((HM.out.block mb hlm).trans HMB.out) 1).trans rfl
 have m2 : wN.cell? ⟨mb, 2, none⟩ = some (.string exFrom) := (blk_cell ((HM.out.block mb hlm).trans HMB.out) 2).trans rfl
 have m3 : wN.cell? ⟨mb, 3, none⟩ = some (.slice A3 exP.length c3) := (blk_cell ((HM.out.block mb hlm).trans HMB.out) 3).trans rfl
 have HX := Aside0.mk (HX.out.trans (hbA.mono HX.out.size))
 clear hbA hdA HPL HY
 go_wp2_with fail
 refine (tariff_Mailing.calls 100 1 1 exFrom A3 c3 exP true _ (Kd.C_below HR3.out HM.out) HC3.out ex_mail).mono ?_
 rintro e wO ⟨rfl, hbA⟩
 have HB := Aside0.mk (HB.out.trans (hbA.mono HB.out.size))
 have t0 : wO.cell? ⟨tb, 0, none⟩ = some (.slice A0 exR.length c0) := (blk_cell ((HB.out.block tb hlt).trans HT.out) 0).trans rfl
 have t1 : wO.cell? ⟨tb, 1, none⟩ = some (.slice A1 exZ.length c1) := (blk_cell ((HB.out.block tb hlt).trans HT.out) 1).trans rfl
 clear hbA
 go_wp2_with fail
 refine (tariff_Right.calls A0 c0 exR A1 c1 exZ true _ (Kd.C_below HR0.out HB.out) HC0.out (Kd.C_below HR1.out HB.out) HC1.out ex_right).mono ?_
 rintro e wP ⟨rfl, hbA⟩
 have HB := Aside0.mk (HB.out.trans (hbA.mono HB.out.size))
 have t0 : wP.cell? ⟨tb, 0, none⟩ = some (.slice A0 exR.length c0) := (blk_cell ((HB.out.block tb hlt).trans HT.out) 0).trans rfl
 have t1 : wP.cell? ⟨tb, 1, none⟩ = some (.slice A1 exZ.length c1) := (blk_cell ((HB.out.block tb hlt).trans HT.out) 1).trans rfl
 go_wp2_with fail
 go_ret
 exact ⟨rfl, HW.out.trans (HB.out.mono HW.out.size)⟩
def letterbaglaw24_awake.f : Option Bool := some true
end Go.Proofs.YtfglcfbcdhjcdaaDoor.Q

namespace Go.Proofs.YtfglcfbcdhjcdaaDoor.Q
open Go.RowKit Go.Proofs.YtfglcfbcdhjcdaaDoorW.PrintWords Go.Proofs.YtfglcfbcdhjcdaaDoorW.PrintLast Go.Proofs.YtfglcfbcdhjcdaaDoorW.PrintMore
set_option linter.unusedVariables false
set_option linter.unusedSimpArgs false
theorem made_f (N : Nat) (hN : N < 4294967296) (l : List Int) (hf : mdFits l = true) : letterbaglaw24_Made.f (N : Int) l = some (madeR N l, madeZ N) := by
 unfold letterbaglaw24_Made.f
 rw [if_pos (by rw [hf]; simp; omega), Int.toNat_natCast]
end Go.Proofs.YtfglcfbcdhjcdaaDoor.Q

namespace Go.Proofs.YtfglcfbcdhjcdaaDoor.Q
open Go.RowKit Go.Proofs.YtfglcfbcdhjcdaaDoorW.PrintWords
set_option linter.unusedVariables false
theorem R_but {α : Type} {d : Kd α} {e base : Nat} {ok : Nat → Prop} {W W1 : World} {v : Value} {xs : List α} (h : Kd.R d e W base ok v xs) {g t : Nat} {cells : Array Value} (hb : W.heap[g]? = some (.cells cells t (0, 0))) (ht : ∀ q, q ∈ e :: d.E → q ≠ t) (hm : ∀ k, k ≠ g → W1.heap[k]? = W.heap[k]?) : Kd.R d e W1 base ok v xs :=
 Kd.R_mono (Kd.R_move (Kd.R_types h hb ht) (fun k hk => hm k hk.2)) (fun k hk => hk.1)
theorem R_put1 {α : Type} {d : Kd α} {e n cap base : Nat} {ok okp : Nat → Prop} {W : World} {g : Nat} {xs : List α} (h : Kd.R d e W base ok (.slice (some ⟨g, 0, none⟩) n cap) xs) (i : Nat) (h1 : i < n) {c : List Value} {j : Nat} {u : Value} (hcl : c.length = d.sz) (hcc : ∀ j u, c[j]? = some u → W.cell? ⟨g, i * d.sz + j, none⟩ = some u)
  (hj : j + 1 ≤ d.sz) {x' : α} (hM : d.M W base okp x' (c.take j ++ [u] ++ c.drop (j + 1))) (hokp : ∀ k, okp k → ok k ∧ k ≠ g) :
  Kd.R d e (W.setCell ⟨g, i * d.sz + j, none⟩ u) base ok (.slice (some ⟨g, 0, none⟩) n cap) (xs.set i x') ∧ W.grownBy (W.setCell ⟨g, i * d.sz + j, none⟩ u) (some g) := by
 have h2 := Kd.R_seg h (i : Int) (by omega) (by omega) (c := c) (seg := [u]) (j := j) hcl (by rw [Int.toNat_natCast]; exact hcc) hj hM hokp
 rw [Int.toNat_natCast] at h2
 exact h2
end Go.Proofs.YtfglcfbcdhjcdaaDoor.Q

namespace Go.Proofs.YtfglcfbcdhjcdaaDoor.Q
open Go.RowKit Go.Proofs.YtfglcfbcdhjcdaaDoorW.PrintWords Go.Proofs.YtfglcfbcdhjcdaaDoorW.PrintLast Go.Proofs.YtfglcfbcdhjcdaaDoorW.PrintMore
set_option linter.unusedVariables false
set_option linter.unusedSimpArgs false
set_option maxHeartbeats 16000000 in
set_option maxRecDepth 100000 in
theorem levelsLaw.calls0 (N : Nat) (hN : N < 4294967296) (S : Nat) (hS : S < 4294967296) (B : Option Addr) (d : Nat) (ce : List Int) (hce : mdFits ce = true) (D : Option Addr) (dd : Nat) (pl : List Int) (hpl : mdFits pl = true) (E : Option Addr) (de : Nat) (ql : List Int) (hql : mdFits ql = true) (M : Option Addr) (mc : Nat) (ml : List Int) (hml : mlFits ml = true) (w : World)
  (hr2 : Kd.C (Kd.int .u8) w B ce.length ce) (hc2 : ce.length ≤ d) (hr3 : Kd.C (Kd.int .u8) w D pl.length pl) (hc3 : pl.length ≤ dd) (hr5 : Kd.C (Kd.int .u8) w E ql.length ql) (hc5 : ql.length ≤ de) (hr4 : Kd.C (Kd.int .u16) w M ml.length ml) (hc4 : ml.length ≤ mc) :
  Calls Tryd.prog 7 #[.int .u32 (N : Int), .int .u32 (S : Int), .slice B ce.length d, .slice D pl.length dd, .slice E ql.length de, .slice M ml.length mc] w fun e w' => e = .returned (.bool true) ∧ Below w.heap.size w w' := by
 have HMF := Aside0.mk (made_f N hN [] rfl)
 have HR2 := Aside0.mk hr2
 have HR3 := Aside0.mk hr3
 have HR5 := Aside0.mk hr5
 have HR4 := Aside0.mk hr4
 clear hr2 hr3 hr4 hr5
 have HML : Aside0 (letterbaglaw24_Mail.f 3000 0 ml = some (1, 1, exFrom, mlPieces ml (mlN ml))) := ⟨mail_is 0 (by omega) (by omega) ml hml 3000 (by have := mlN_le ml; omega)⟩
 go_enter Tryd.func7, Tryd.ntmps7
 go_wp2_with fail
 refine (awake.calls0 w).mono ?_
 rintro e W0 ⟨rfl, hb⟩
 have HB := Aside0.mk hb
 clear hb
 go_wp2_with fail
 refine (letterbaglaw24_Made.calls (N : Int) none 0 [] (madeR N []) (madeZ N) W0 (Kd.C_nil _ _) (Nat.le_refl _) HMF.out).mono ?_
 rintro e W1 ⟨v0, v1, rfl, hn0, hn1, hb⟩
 have HR := Aside0.mk (Kd.R_lower hn0 HB.out.size)
 have HZ := Aside0.mk (Kd.R_lower hn1 HB.out.size)
 replace HB := Aside0.mk (HB.out.trans (hb.mono HB.out.size))
 clear hn0 hn1 hb W0
 go_wp2_with fail
 refine (made23.calls0 S hS none 0 [] rfl B d ce hce W1 (Kd.C_nil _ _) (Kd.C_below HR2.out HB.out)).mono ?_
 rintro e W2 ⟨v2, rfl, hn0, hb⟩
 have HX := Aside0.mk (Kd.R_lower hn0 HB.out.size)
 replace HB := Aside0.mk (HB.out.trans (hb.mono HB.out.size))
 replace HR := Aside0.mk (Kd.R_below HR.out hb)
 replace HZ := Aside0.mk (Kd.R_below HZ.out hb)
 clear hn0 hb W1
 go_wp2_with fail
 refine (letterbaglaw24_Mail.calls 3000 0 M mc ml 1 1 exFrom (mlPieces ml (mlN ml)) W2 (Kd.C_below HR4.out HB.out) hc4 HML.out).mono ?_
 rintro e W3 ⟨v3, rfl, hn0, hb⟩
 have HM := Aside0.mk (Kd.R_lower hn0 HB.out.size)
 replace HB := Aside0.mk (HB.out.trans (hb.mono HB.out.size))
 replace HR := Aside0.mk (Kd.R_below HR.out hb)
 replace HZ := Aside0.mk (Kd.R_below HZ.out hb)
 replace HX := Aside0.mk (Kd.R_below HX.out hb)
 clear hn0 hb W2
 obtain ⟨AR, cR, rfl, lR, -⟩ := Kd.R_reads HR.out
 obtain ⟨AZ, cZ, rfl, lZ, -⟩ := Kd.R_reads HZ.out
 obtain ⟨AX, cX, rfl, lX, -⟩ := Kd.R_reads HX.out
 obtain ⟨AM, cM, rfl, lM, -⟩ := Kd.R_reads HM.out
 have LR := Aside0.mk lR
 have LZ := Aside0.mk lZ
 have LX := Aside0.mk lX
 have LM := Aside0.mk lM
 clear lR lZ lX lM
 go_wp2_with fail
 have hb := (below_alloc (Below.refl W3.heap.size W3) (.cells #[.slice AR (madeR N []).length cR, .slice AZ (madeZ N).length cZ] 25 (0, 0))).alloc (by simp) (.cells #[.int .u8 1, .int .u8 1, .string exFrom, .slice AM (mlPieces ml (mlN ml)).length cM] 36 (0, 0))
 have HTB := Aside0.mk (blk_alloc (heap_alloc_new W3 (.cells #[.slice AR (madeR N []).length cR, .slice AZ (madeZ N).length cZ] 25 (0, 0))) (.cells #[.int .u8 1, .int .u8 1, .string exFrom, .slice AM (mlPieces ml (mlN ml)).length cM] 36 (0, 0)))
 have HMB : Aside0 (((W3.alloc (.cells #[.slice AR (madeR N []).length cR, .slice AZ (madeZ N).length cZ] 25 (0, 0))).alloc (.cells #[.int .u8 1, .int .u8 1, .string exFrom, .slice AM (mlPieces ml (mlN ml)).length cM] 36 (0, 0))).heap[W3.heap.size + 1]? = some (.cells #[.int .u8 1, .int .u8 1, .string exFrom, .slice AM (mlPieces ml (mlN ml)).length cM] 36 (0, 0))) := ⟨by have h := heap_alloc_new (W3.alloc (.cells #[.slice AR (madeR N []).length cR, .slice AZ (madeZ N).length cZ] 25 (0, 0))) (.cells #[.int .u8 1, .int .u8 1, .string exFrom, .slice AM (mlPieces ml (mlN ml)).length cM] 36 (0, 0)); rw [World.size_alloc] at h; exact h⟩
 replace HB := Aside0.mk (HB.out.trans (hb.mono HB.out.size))
 replace HR := Aside0.mk (Kd.R_below HR.out hb)
 replace HZ := Aside0.mk (Kd.R_below HZ.out hb)
 replace HX := Aside0.mk (Kd.R_below HX.out hb)
 replace HM := Aside0.mk (Kd.R_below HM.out hb)
 clear hb
 generalize (W3.alloc (.cells #[.slice AR (madeR N []).length cR, .slice AZ (madeZ N).length cZ] 25 (0, 0))).alloc (.cells #[.int .u8 1, .int .u8 1, .string exFrom, .slice AM (mlPieces ml (mlN ml)).length cM] 36 (0, 0)) = W4 at *
 generalize W3.heap.size + 1 = mb at *
 generalize W3.heap.size = tb at *
 clear W3
 have hb := below_drew (Below.refl W4.heap.size W4)
 replace HB := Aside0.mk (HB.out.trans (hb.mono HB.out.size))
 replace HR := Aside0.mk (Kd.R_below HR.out hb)
 replace HZ := Aside0.mk (Kd.R_below HZ.out hb)
 replace HX := Aside0.mk (Kd.R_below HX.out hb)
 replace HM := Aside0.mk (Kd.R_below HM.out hb)
 replace HTB := Aside0.mk (blk_below HTB.out hb)
 replace HMB := Aside0.mk (blk_below HMB.out hb)
 clear hb
 have m0 : W4.drew.cell? ⟨mb, 0, none⟩ = some (.int .u8 1) := (blk_cell HMB.out 0).trans rfl
 have m1 : W4.drew.cell? ⟨mb, 1, none⟩ = some (.int .u8 1) := (blk_cell HMB.out 1).trans rfl
 have m2 : W4.drew.cell? ⟨mb, 2, none⟩ = some (.string exFrom) := (blk_cell HMB.out 2).trans rfl
 have m3 : W4.drew.cell? ⟨mb, 3, none⟩ = some (.slice AM (mlPieces ml (mlN ml)).length cM) := (blk_cell HMB.out 3).trans rfl
 refine wp_region_held_drew (S := fun w' => w'.cell? ⟨mb, 0, none⟩ = some (.int .u8 1) ∧ w'.cell? ⟨mb, 1, none⟩ = some (.int .u8 1) ∧ w'.cell? ⟨mb, 2, none⟩ = some (.string exFrom) ∧ w'.cell? ⟨mb, 3, none⟩ = some (.slice AM (mlPieces ml (mlN ml)).length cM)) (by kernel_rfl) ?_ (fun hHeld => ?_)
 ·exact ⟨m0, m1, m2, m3⟩
 clear m0 m1 m2 m3
 generalize W4.drew = W5 at *
 clear W4
 refine takeT 0 ?_ rfl (by kernel_rfl) (by kernel_rfl) (by kernel_rfl) (fun _ _ _ h => h) (by rfl) ?_ (by assumption) ?_
 rotate_left
 ·(intro w hSw; (try dsimp only at hSw); go_simp; (try with_reducible rfl))
 try simp only [Act.put, sl1, sl2, sl3]
 refine takeT 1 ?_ rfl (by kernel_rfl) (by kernel_rfl) (by kernel_rfl) (fun _ _ _ h => h) (by rfl) ?_ (by assumption) ?_
 rotate_left
 ·(intro w hSw; (try dsimp only at hSw); go_simp; (try with_reducible rfl))
 try simp only [Act.put, sl1, sl2, sl3]
 refine takeT 2 ?_ rfl (by kernel_rfl) (by kernel_rfl) (by kernel_rfl) (fun _ _ _ h => h) (by rfl) ?_ (by assumption) ?_
 rotate_left
 ·(intro w hSw; (try dsimp only at hSw); go_simp; (try with_reducible rfl))
 try simp only [Act.put, sl1, sl2, sl3]
 refine takeT 3 ?_ rfl (by kernel_rfl) (by kernel_rfl) (by kernel_rfl) (fun _ _ _ h => h) (by rfl) ?_ (by assumption) ?_
 rotate_left
 ·(intro w hSw; (try dsimp only at hSw); go_simp; (try with_reducible rfl))
 try simp only [Act.put, sl1, sl2, sl3]
 refine takeT 5 ?_ rfl (by kernel_rfl) (by kernel_rfl) (by kernel_rfl) (fun _ _ _ h => h) (by rfl) ?_ (by assumption) ?_
 rotate_left
 ·(intro w hSw; (try dsimp only at hSw); go_simp; (try with_reducible rfl))
 try simp only [Act.put, sl1, sl2, sl3]
 refine takeT 6 ?_ rfl (by kernel_rfl) (by kernel_rfl) (by kernel_rfl) (fun _ _ _ h => h) (by rfl) ?_ (by assumption) ?_
 rotate_left
 ·(intro w hSw; (try dsimp only at hSw); go_simp; (try with_reducible rfl))
 try simp only [Act.put, sl1, sl2, sl3]
 refine takeT 7 ?_ rfl (by kernel_rfl) (by kernel_rfl) (by kernel_rfl) (fun _ _ _ h => h) (by rfl) ?_ (by assumption) ?_
 rotate_left
 ·(intro w hSw; (try dsimp only at hSw); go_simp; (try with_reducible rfl))
 try simp only [Act.put, sl1, sl2, sl3]
 refine takeT 8 ?_ rfl (by kernel_rfl) (by kernel_rfl) (by kernel_rfl) (fun _ _ _ h => h) (by rfl) ?_ (by assumption) ?_
 rotate_left
 ·(intro w hSw; (try dsimp only at hSw); go_simp; (try with_reducible rfl))
 try simp only [Act.put, sl1, sl2, sl3]
 have h23 := made23_length S [] ce
 have hmn := mlN_le ml
 have HPL := Aside0.mk (levels_is pl hpl (Kd.C_max HR3.out) (made23 S [] ce).length (by omega) 1 1 exFrom (mlPieces ml (mlN ml)) (by rw [mlPieces_len]; omega) 3000 (by rw [mlPieces_len]; omega))
 have HQL := Aside0.mk (levels_is ql hql (Kd.C_max HR5.out) (made23 S [] ce).length (by omega) 1 1 exFrom (mlPieces ml (mlN ml)) (by rw [mlPieces_len]; omega) 3000 (by rw [mlPieces_len]; omega))
 refine takeC 4 rfl (by kernel_rfl) (by rfl) (fun K hK => ?_)
 go_simp
 refine (letterbaglaw24_levels.calls 3000 1 1 exFrom AM cM (mlPieces ml (mlN ml)) ((made23 S [] ce).length : Int) D dd pl _ W5 (Kd.R_reads' HM.out).2.2 LM.out (Kd.C_below HR3.out HB.out) hc3 HPL.out).mono ?_
 rintro e W6 ⟨vP, rfl, hn, hb⟩
 have HP := Aside0.mk (Kd.R_lower hn HB.out.size)
 replace HB := Aside0.mk (HB.out.trans (hb.mono HB.out.size))
 replace HR := Aside0.mk (Kd.R_below HR.out hb)
 replace HZ := Aside0.mk (Kd.R_below HZ.out hb)
 replace HX := Aside0.mk (Kd.R_below HX.out hb)
 replace HM := Aside0.mk (Kd.R_below HM.out hb)
 replace HTB := Aside0.mk (blk_below HTB.out hb)
 replace HMB := Aside0.mk (blk_below HMB.out hb)
 clear hn hb
 have m0 : W6.cell? ⟨mb, 0, none⟩ = some (.int .u8 1) := (blk_cell HMB.out 0).trans rfl
 have m1 : W6.cell? ⟨mb, 1, none⟩ = some (.int .u8 1) := (blk_cell HMB.out 1).trans rfl
 have m2 : W6.cell? ⟨mb, 2, none⟩ = some (.string exFrom) := (blk_cell HMB.out 2).trans rfl
 have m3 : W6.cell? ⟨mb, 3, none⟩ = some (.slice AM (mlPieces ml (mlN ml)).length cM) := (blk_cell HMB.out 3).trans rfl
 (try go_wp2_with fail)
 refine hK.out _ _ ?_ (fun hHeld => ?_)
 ·exact ⟨m0, m1, m2, m3⟩
 clear hK K
 try simp only [Act.put, sl1, sl2, sl3]
 clear m0 m1 m2 m3
 refine takeC 9 rfl (by kernel_rfl) (by rfl) (fun K hK => ?_)
 go_simp
 refine (letterbaglaw24_levels.calls 3000 1 1 exFrom AM cM (mlPieces ml (mlN ml)) ((made23 S [] ce).length : Int) E de ql _ W6 (Kd.R_reads' HM.out).2.2 LM.out (Kd.C_below HR5.out HB.out) hc5 HQL.out).mono ?_
 rintro e W7 ⟨vQ, rfl, hn, hb⟩
 have HQ := Aside0.mk (Kd.R_lower hn HB.out.size)
 replace HB := Aside0.mk (HB.out.trans (hb.mono HB.out.size))
 replace HR := Aside0.mk (Kd.R_below HR.out hb)
 replace HZ := Aside0.mk (Kd.R_below HZ.out hb)
 replace HX := Aside0.mk (Kd.R_below HX.out hb)
 replace HM := Aside0.mk (Kd.R_below HM.out hb)
 replace HTB := Aside0.mk (blk_below HTB.out hb)
 replace HMB := Aside0.mk (blk_below HMB.out hb)
 replace HP := Aside0.mk (Kd.R_below HP.out hb)
 clear hn hb
 have m0 : W7.cell? ⟨mb, 0, none⟩ = some (.int .u8 1) := (blk_cell HMB.out 0).trans rfl
 have m1 : W7.cell? ⟨mb, 1, none⟩ = some (.int .u8 1) := (blk_cell HMB.out 1).trans rfl
 have m2 : W7.cell? ⟨mb, 2, none⟩ = some (.string exFrom) := (blk_cell HMB.out 2).trans rfl
 have m3 : W7.cell? ⟨mb, 3, none⟩ = some (.slice AM (mlPieces ml (mlN ml)).length cM) := (blk_cell HMB.out 3).trans rfl
 (try go_wp2_with fail)
 refine hK.out _ _ ?_ (fun hHeld => ?_)
 ·exact ⟨m0, m1, m2, m3⟩
 clear hK K
 try simp only [Act.put, sl1, sl2, sl3]
 clear m0 m1 m2 m3
 refine takeT 10 ?_ rfl (by kernel_rfl) (by kernel_rfl) (by kernel_rfl) (fun _ _ _ h => h) (by rfl) ?_ (by assumption) ?_
 rotate_left
 ·(intro w hSw; (try dsimp only at hSw); go_simp; (try with_reducible rfl))
 try simp only [Act.put, sl1, sl2, sl3]
 refine takeT 11 ?_ rfl (by kernel_rfl) (by kernel_rfl) (by kernel_rfl) (fun _ _ _ h => h) (by rfl) ?_ (by assumption) ?_
 rotate_left
 ·(intro w hSw; (try dsimp only at hSw); go_simp; (try with_reducible rfl))
 try simp only [Act.put, sl1, sl2, sl3]
 refine wpAnyH_done (by kernel_rfl) ?_ _
 have hl1 := mlPieces_len ml (mlN ml)
 rw [hl1] at HP HQ
 obtain ⟨AP, cP, rfl, lP, -⟩ := Kd.R_reads HP.out
 obtain ⟨AQ, cQ, rfl, lQ, -⟩ := Kd.R_reads HQ.out
 rw [planOf_len] at lP lQ
 simp only [planOf_len] at HP HQ
 rw [planOf_len, planOf_len]
 have LP := Aside0.mk lP
 have LQ := Aside0.mk lQ
 clear lP lQ hHeld
 have HOK1 := Aside0.mk (postOk_made N (l := []) rfl 0 ml (made23 S [] ce) (fun x hx => by have := made23_cents S [] ce hce x hx; omega) (planOf pl (made23 S [] ce).length (mlN ml)) (planOf_len _ _ _) (plan_ok pl _ _ (by omega)) (mlPieces ml (mlN ml)) (mlPieces_len ml _))
 have HOK2 := Aside0.mk (postOk_made N (l := []) rfl 0 ml (made23 S [] ce) (fun x hx => by have := made23_cents S [] ce hce x hx; omega) (planOf ql (made23 S [] ce).length (mlN ml)) (planOf_len _ _ _) (plan_ok ql _ _ (by omega)) (mlPieces ml (mlN ml)) (mlPieces_len ml _))
 have HPO1 := Aside0.mk (postage_is HOK1.out (madeR N []) (madeZ N) 1 1 exFrom 1 ((List.range (mdS N)).map (mdStep [] (mdZ N) 0)) (fun f h => made_fits23 N S rfl [] ce rfl hce f h) (fun f h => bases_made N rfl 0 (mdC_range N).1 hml f h) (fun f h => rate_made [] (mdZ N) (mdS N) (mdBar N) (mdC N) 0 (mdC_range N).1 (mdC_range N).2 (madeZ N) f h) 6000 (by omega))
 have HPO2 := Aside0.mk (postage_is HOK2.out (madeR N []) (madeZ N) 1 1 exFrom 1 ((List.range (mdS N)).map (mdStep [] (mdZ N) 0)) (fun f h => made_fits23 N S rfl [] ce rfl hce f h) (fun f h => bases_made N rfl 0 (mdC_range N).1 hml f h) (fun f h => rate_made [] (mdZ N) (mdS N) (mdBar N) (mdC N) 0 (mdC_range N).1 (mdC_range N).2 (madeZ N) f h) 6000 (by omega))
 have hlP := planOf_len pl (made23 S [] ce).length (mlN ml)
 have hlQ := planOf_len ql (made23 S [] ce).length (mlN ml)
 have LM2 : Aside0 (mlN ml ≤ cM) := ⟨by have := LM.out; omega⟩
 simp only [hl1] at HM HMB
 have HMz := HM
 have t0 : W7.cell? ⟨tb, 0, none⟩ = some (.slice AR (madeR N []).length cR) := (blk_cell HTB.out 0).trans rfl
 have t1 : W7.cell? ⟨tb, 1, none⟩ = some (.slice AZ (madeZ N).length cZ) := (blk_cell HTB.out 1).trans rfl
 have m0 : W7.cell? ⟨mb, 0, none⟩ = some (.int .u8 1) := (blk_cell HMB.out 0).trans rfl
 have m1 : W7.cell? ⟨mb, 1, none⟩ = some (.int .u8 1) := (blk_cell HMB.out 1).trans rfl
 have m2 : W7.cell? ⟨mb, 2, none⟩ = some (.string exFrom) := (blk_cell HMB.out 2).trans rfl
 have m3 : W7.cell? ⟨mb, 3, none⟩ = some (.slice AM (mlN ml) cM) := (blk_cell HMB.out 3).trans rfl
 go_wp2_with fail
 clear t0 t1 m0 m1 m2 m3
 have HCMx : Aside0 (Kd.C k48 W7 AM (mlPieces ml (mlN ml)).length (mlPieces ml (mlN ml))) := ⟨(Kd.R_reads' HM.out).2.2⟩
 have HCPx : Aside0 (Kd.C (Kd.int .i64) W7 AP (planOf pl (made23 S [] ce).length (mlN ml)).length (planOf pl (made23 S [] ce).length (mlN ml))) := ⟨(Kd.R_reads' HP.out).2.2⟩
 have hcon := tariff_Postage.calls 6000 AR cR (madeR N []) AZ cZ (madeZ N) AX cX (made23 S [] ce) 1 1 exFrom AM cM (mlPieces ml (mlN ml)) AP cP (planOf pl (made23 S [] ce).length (mlN ml)) _ 0 W7 (Kd.R_reads' HR.out).2.2 LR.out (Kd.R_reads' HZ.out).2.2 LZ.out (Kd.R_reads' HX.out).2.2 LX.out HCMx.out LM.out HCPx.out (by rw [planOf_len]; exact LP.out) HPO1.out
 simp only [hl1, hlP, hlQ] at hcon
 have HCON := Aside0.mk hcon
 clear hcon HCMx HCPx
 refine HCON.out.mono ?_
 rintro e W8 ⟨v, rfl, hn, hb⟩
 clear HCON
 have HG := Aside0.mk (Kd.R_lower hn HB.out.size)
 replace HB := Aside0.mk (HB.out.trans (hb.mono HB.out.size))
 replace HR := Aside0.mk (Kd.R_below HR.out hb)
 replace HZ := Aside0.mk (Kd.R_below HZ.out hb)
 replace HX := Aside0.mk (Kd.R_below HX.out hb)
 replace HM := Aside0.mk (Kd.R_below HM.out hb)
 replace HTB := Aside0.mk (blk_below HTB.out hb)
 replace HMB := Aside0.mk (blk_below HMB.out hb)
 replace HP := Aside0.mk (Kd.R_below HP.out hb)
 replace HQ := Aside0.mk (Kd.R_below HQ.out hb)
 clear hn hb
 obtain ⟨AG, cG, rfl, -, -⟩ := Kd.R_reads HG.out
 have t0 : W8.cell? ⟨tb, 0, none⟩ = some (.slice AR (madeR N []).length cR) := (blk_cell HTB.out 0).trans rfl
 have t1 : W8.cell? ⟨tb, 1, none⟩ = some (.slice AZ (madeZ N).length cZ) := (blk_cell HTB.out 1).trans rfl
 have m0 : W8.cell? ⟨mb, 0, none⟩ = some (.int .u8 1) := (blk_cell HMB.out 0).trans rfl
 have m1 : W8.cell? ⟨mb, 1, none⟩ = some (.int .u8 1) := (blk_cell HMB.out 1).trans rfl
 have m2 : W8.cell? ⟨mb, 2, none⟩ = some (.string exFrom) := (blk_cell HMB.out 2).trans rfl
 have m3 : W8.cell? ⟨mb, 3, none⟩ = some (.slice AM (mlN ml) cM) := (blk_cell HMB.out 3).trans rfl
 go_wp2_with fail
 clear t0 t1 m0 m1 m2 m3
 have HCMx : Aside0 (Kd.C k48 W8 AM (mlPieces ml (mlN ml)).length (mlPieces ml (mlN ml))) := ⟨(Kd.R_reads' HM.out).2.2⟩
 have HCPx : Aside0 (Kd.C (Kd.int .i64) W8 AQ (planOf ql (made23 S [] ce).length (mlN ml)).length (planOf ql (made23 S [] ce).length (mlN ml))) := ⟨(Kd.R_reads' HQ.out).2.2⟩
 have hcon := tariff_Postage.calls 6000 AR cR (madeR N []) AZ cZ (madeZ N) AX cX (made23 S [] ce) 1 1 exFrom AM cM (mlPieces ml (mlN ml)) AQ cQ (planOf ql (made23 S [] ce).length (mlN ml)) _ 0 W8 (Kd.R_reads' HR.out).2.2 LR.out (Kd.R_reads' HZ.out).2.2 LZ.out (Kd.R_reads' HX.out).2.2 LX.out HCMx.out LM.out HCPx.out (by rw [planOf_len]; exact LQ.out) HPO2.out
 simp only [hl1, hlP, hlQ] at hcon
 have HCON := Aside0.mk hcon
 clear hcon HCMx HCPx
 refine HCON.out.mono ?_
 rintro e W9 ⟨v, rfl, hn, hb⟩
 clear HCON
 have HH := Aside0.mk (Kd.R_lower hn HB.out.size)
 replace HB := Aside0.mk (HB.out.trans (hb.mono HB.out.size))
 replace HR := Aside0.mk (Kd.R_below HR.out hb)
 replace HZ := Aside0.mk (Kd.R_below HZ.out hb)
 replace HX := Aside0.mk (Kd.R_below HX.out hb)
 replace HM := Aside0.mk (Kd.R_below HM.out hb)
 replace HTB := Aside0.mk (blk_below HTB.out hb)
 replace HMB := Aside0.mk (blk_below HMB.out hb)
 replace HP := Aside0.mk (Kd.R_below HP.out hb)
 replace HQ := Aside0.mk (Kd.R_below HQ.out hb)
 replace HG := Aside0.mk (Kd.R_below HG.out hb)
 clear hn hb
 obtain ⟨AH, cH, rfl, -, -⟩ := Kd.R_reads HH.out
 have hl3 := postOf_len (made23 S [] ce) ((mlPieces ml (mlN ml)).map (mdBase [] N 0)) (planOf pl (made23 S [] ce).length (mlN ml)) (mdBar N : Int) (mlPieces ml (mlN ml)) (mlN ml)
 have hl4 := postOf_len (made23 S [] ce) ((mlPieces ml (mlN ml)).map (mdBase [] N 0)) (planOf ql (made23 S [] ce).length (mlN ml)) (mdBar N : Int) (mlPieces ml (mlN ml)) (mlN ml)
 simp only [hl3] at HG
 simp only [hl4] at HH
 go_wp2_with fail
 clear hl3 hl4
 go_loopg [79] (mlN ml) (fun gg s79 W => ∃ i : Nat, i ≤ mlN ml ∧ mlN ml - i ≤ gg ∧ s79 = .int .i64 i ∧ Aside0 (Below W9.heap.size W9 W))
 case atStart => exact ⟨0, Nat.zero_le _, by omega, rfl, ⟨Below.refl _ _⟩⟩
 case round =>
  obtain ⟨i, hi, hgi, rfl, HBI⟩ := hrel
  by_cases hlt : i < mlN ml
  ·have hki : (i : Int) < (mlN ml : Int) := by omega
   have hi0 : (0 : Int) ≤ (i : Int) := by omega
   have hlp := lvAt_lt pl (made23 S [] ce).length i h23.1
   have hlq := lvAt_lt ql (made23 S [] ce).length i h23.1
   obtain ⟨aG, eG, k1⟩ := Kd.at_int (Kd.C_below (Kd.R_reads' HG.out).2.2 (below_drew HBI.out)) (i : Int) hi0 (by rw [postOf_len]; exact hki)
   cases eG
   obtain ⟨aH, eH, k2⟩ := Kd.at_int (Kd.C_below (Kd.R_reads' HH.out).2.2 (below_drew HBI.out)) (i : Int) hi0 (by rw [postOf_len]; exact hki)
   cases eH
   obtain ⟨aP, eP, k3⟩ := Kd.at_int (Kd.C_below (Kd.R_reads' HP.out).2.2 (below_drew HBI.out)) (i : Int) hi0 (by rw [planOf_len]; exact hki)
   cases eP
   obtain ⟨aQ, eQ, k4⟩ := Kd.at_int (Kd.C_below (Kd.R_reads' HQ.out).2.2 (below_drew HBI.out)) (i : Int) hi0 (by rw [planOf_len]; exact hki)
   cases eQ
   obtain ⟨aX, A2, c2, eX, -, -, -, -, k5, -, -⟩ := at_T54 (Kd.C_below (Kd.R_reads' HX.out).2.2 (below_drew HBI.out)) (lvAt pl (made23 S [] ce).length i : Int) (by omega) (by omega)
   cases eX
   obtain ⟨aX2, A3, c3, eX, -, -, -, -, k6, -, -⟩ := at_T54 (Kd.C_below (Kd.R_reads' HX.out).2.2 (below_drew HBI.out)) (lvAt ql (made23 S [] ce).length i : Int) (by omega) (by omega)
   cases eX
   have hct := made23_cents S [] ce hce _ (List.getElem_mem (l := made23 S [] ce) hlp)
   rw [← lv_get _ _ hlp] at hct
   have hcq := made23_cents S [] ce hce _ (List.getElem_mem (l := made23 S [] ce) hlq)
   rw [← lv_get _ _ hlq] at hcq
   have hpr := mdBase_range (l := []) rfl N 0 (mlPiece ml i)
   have hbar := mdBar_range N
   rw [postOf_rd _ _ _ _ _ _ i hlt] at k1 k2
   rw [planOf_rd _ _ _ i hlt] at k3 k4
   unfold postAt at k1 k2
   rw [planOf_rd _ _ _ i hlt, basesL_rd [] N 0 ml i hlt] at k1 k2
   rw [Int.toNat_natCast] at k1 k2 k3 k4 k5 k6
   generalize hbr : (if (rd_T48 (mlPieces ml (mlN ml)) (i : Int)).f4 = true then (mdBar N : Int) else 0) = br at *
   have hbr2 : 0 ≤ br ∧ br ≤ 31 := by rw [← hbr]; split <;> omega
   clear hbr
   generalize (rd_T54 (made23 S [] ce) (lvAt pl (made23 S [] ce).length i : Int)).f4 = cp at *
   generalize (rd_T54 (made23 S [] ce) (lvAt ql (made23 S [] ce).length i : Int)).f4 = cq at *
   generalize mdBase [] N 0 (mlPiece ml i) = x at *
   generalize lvAt pl (made23 S [] ce).length i = jp at *
   generalize lvAt ql (made23 S [] ce).length i = jq at *
   obtain ⟨ga, hga⟩ : ∃ ga, ga = x - cp - br := ⟨_, rfl⟩
   obtain ⟨gb, hgb⟩ : ∃ gb, gb = x - cq - br := ⟨_, rfl⟩
   rw [← hga] at k1
   rw [← hgb] at k2
   have hw1 : IntKind.i64.wrap (ga - gb) = cq - cp := by rw [wrap_i64_int (by omega) (by omega)]; omega
   have hw2 : IntKind.i64.wrap (cq - cp) = cq - cp := wrap_i64_int (by omega) (by omega)
   have hjp : (jp : Int) < ((made23 S [] ce).length : Int) := by omega
   have hjq : (jq : Int) < ((made23 S [] ce).length : Int) := by omega
   have HBJ := Aside0.mk (below_drew HBI.out)
   clear hga hgb hct hcq hpr
   go_wp2_with fail
   refine wp_region_held_drew (S := fun w' => w'.cell? (aG.add i) = some (.int .i64 ga) ∧ w'.cell? (aH.add i) = some (.int .i64 gb) ∧ w'.cell? (aP.add i) = some (.int .i64 (jp : Int)) ∧ w'.cell? (aQ.add i) = some (.int .i64 (jq : Int)) ∧ w'.cell? ⟨(aX.add (jp * 5)).block, (aX.add (jp * 5)).off + 4, none⟩ = some (.int .i64 cp) ∧ w'.cell? ⟨(aX.add (jq * 5)).block, (aX.add (jq * 5)).off + 4, none⟩ = some (.int .i64 cq)) (by kernel_rfl) ?_ (fun hHeld => ?_)
   ·exact ⟨k1, k2, k3, k4, k5, k6⟩
   clear k1 k2 k3 k4 k5 k6
   generalize wr.drew = wd at *
   refine takeT 0 ?_ rfl (by kernel_rfl) (by kernel_rfl) (by kernel_rfl) (fun _ _ _ h => h) (by rfl) ?_ (by assumption) ?_
   rotate_left
   ·(intro w hSw; (try dsimp only at hSw); go_simp; (try with_reducible rfl))
   try simp only [Act.put, sl1, sl2, sl3]
   refine takeT 1 ?_ rfl (by kernel_rfl) (by kernel_rfl) (by kernel_rfl) (fun _ _ _ h => h) (by rfl) ?_ (by assumption) ?_
   rotate_left
   ·(intro w hSw; (try dsimp only at hSw); go_simp; (try with_reducible rfl))
   try simp only [Act.put, sl1, sl2, sl3]
   refine takeT 2 ?_ rfl (by kernel_rfl) (by kernel_rfl) (by kernel_rfl) (fun _ _ _ h => h) (by rfl) ?_ (by assumption) ?_
   rotate_left
   ·(intro w hSw; (try dsimp only at hSw); go_simp; (try with_reducible rfl))
   try simp only [Act.put, sl1, sl2, sl3]
   refine takeT 3 ?_ rfl (by kernel_rfl) (by kernel_rfl) (by kernel_rfl) (fun _ _ _ h => h) (by rfl) ?_ (by assumption) ?_
   rotate_left
   ·(intro w hSw; (try dsimp only at hSw); go_simp; (try with_reducible rfl))
   try simp only [Act.put, sl1, sl2, sl3]
   refine takeT 4 ?_ rfl (by kernel_rfl) (by kernel_rfl) (by kernel_rfl) (fun _ _ _ h => h) (by rfl) ?_ (by assumption) ?_
   rotate_left
   ·(intro w hSw; (try dsimp only at hSw); go_simp; (try with_reducible rfl))
   try simp only [Act.put, sl1, sl2, sl3]
   refine takeT 5 ?_ rfl (by kernel_rfl) (by kernel_rfl) (by kernel_rfl) (fun _ _ _ h => h) (by rfl) ?_ (by assumption) ?_
   rotate_left
   ·(intro w hSw; (try dsimp only at hSw); go_simp; (try with_reducible rfl))
   try simp only [Act.put, sl1, sl2, sl3]
   refine takeT 6 ?_ rfl (by kernel_rfl) (by kernel_rfl) (by kernel_rfl) (fun _ _ _ h => h) (by rfl) ?_ (by assumption) ?_
   rotate_left
   ·(intro w hSw; (try dsimp only at hSw); go_simp; (try with_reducible rfl))
   try simp only [Act.put, sl1, sl2, sl3]
   refine takeT 7 ?_ rfl (by kernel_rfl) (by kernel_rfl) (by kernel_rfl) (fun _ _ _ h => h) (by rfl) ?_ (by assumption) ?_
   rotate_left
   ·(intro w hSw; (try dsimp only at hSw); go_simp; (try with_reducible rfl))
   try simp only [Act.put, sl1, sl2, sl3]
   refine takeT 8 ?_ rfl (by kernel_rfl) (by kernel_rfl) (by kernel_rfl) (fun _ _ _ h => h) (by rfl) ?_ (by assumption) ?_
   rotate_left
   ·(intro w hSw; (try dsimp only at hSw); go_simp; (try with_reducible rfl))
   try simp only [Act.put, sl1, sl2, sl3]
   refine takeT 9 ?_ rfl (by kernel_rfl) (by kernel_rfl) (by kernel_rfl) (fun _ _ _ h => h) (by rfl) ?_ (by assumption) ?_
   rotate_left
   ·(intro w hSw; (try dsimp only at hSw); go_simp; (try with_reducible rfl))
   try simp only [Act.put, sl1, sl2, sl3]
   refine takeT 10 ?_ rfl (by kernel_rfl) (by kernel_rfl) (by kernel_rfl) (fun _ _ _ h => h) (by rfl) ?_ (by assumption) ?_
   rotate_left
   ·(intro w hSw; (try dsimp only at hSw); go_simp; (try with_reducible rfl))
   try simp only [Act.put, sl1, sl2, sl3]
   refine takeT 11 ?_ rfl (by kernel_rfl) (by kernel_rfl) (by kernel_rfl) (fun _ _ _ h => h) (by rfl) ?_ (by assumption) ?_
   rotate_left
   ·(intro w hSw; (try dsimp only at hSw); go_simp; (try with_reducible rfl))
   try simp only [Act.put, sl1, sl2, sl3]
   refine takeT 12 ?_ rfl (by kernel_rfl) (by kernel_rfl) (by kernel_rfl) (fun _ _ _ h => h) (by rfl) ?_ (by assumption) ?_
   rotate_left
   ·(intro w hSw; (try dsimp only at hSw); go_simp; (try with_reducible rfl))
   try simp only [Act.put, sl1, sl2, sl3]
   refine takeT 13 ?_ rfl (by kernel_rfl) (by kernel_rfl) (by kernel_rfl) (fun _ _ _ h => h) (by rfl) ?_ (by assumption) ?_
   rotate_left
   ·(intro w hSw; (try dsimp only at hSw); go_simp; (try with_reducible rfl))
   try simp only [Act.put, sl1, sl2, sl3]
   refine takeT 14 ?_ rfl (by kernel_rfl) (by kernel_rfl) (by kernel_rfl) (fun _ _ _ h => h) (by rfl) ?_ (by assumption) ?_
   rotate_left
   ·(intro w hSw; (try dsimp only at hSw); go_simp; (try with_reducible rfl))
   try simp only [Act.put, sl1, sl2, sl3]
   refine takeT 15 ?_ rfl (by kernel_rfl) (by kernel_rfl) (by kernel_rfl) (fun _ _ _ h => h) (by rfl) ?_ (by assumption) ?_
   rotate_left
   ·(intro w hSw; (try dsimp only at hSw); go_simp; (try with_reducible rfl))
   try simp only [Act.put, sl1, sl2, sl3]
   refine takeT 16 ?_ rfl (by kernel_rfl) (by kernel_rfl) (by kernel_rfl) (fun _ _ _ h => h) (by rfl) ?_ (by assumption) ?_
   rotate_left
   ·(intro w hSw; (try dsimp only at hSw); go_simp; (try with_reducible rfl))
   try simp only [Act.put, sl1, sl2, sl3]
   refine takeT 17 ?_ rfl (by kernel_rfl) (by kernel_rfl) (by kernel_rfl) (fun _ _ _ h => h) (by rfl) ?_ (by assumption) ?_
   rotate_left
   ·(intro w hSw; (try dsimp only at hSw); go_simp; (try with_reducible rfl))
   try simp only [Act.put, sl1, sl2, sl3]
   refine takeT 18 ?_ rfl (by kernel_rfl) (by kernel_rfl) (by kernel_rfl) (fun _ _ _ h => h) (by rfl) ?_ (by assumption) ?_
   rotate_left
   ·(intro w hSw; (try dsimp only at hSw); go_simp; (try with_reducible rfl))
   try simp only [Act.put, sl1, sl2, sl3]
   refine takeT 19 ?_ rfl (by kernel_rfl) (by kernel_rfl) (by kernel_rfl) (fun _ _ _ h => h) (by rfl) ?_ (by assumption) ?_
   rotate_left
   ·(intro w hSw; (try dsimp only at hSw); go_simp; (try with_reducible rfl))
   try simp only [Act.put, sl1, sl2, sl3]
   refine takeT 20 ?_ rfl (by kernel_rfl) (by kernel_rfl) (by kernel_rfl) (fun _ _ _ h => h) (by rfl) ?_ (by assumption) ?_
   rotate_left
   ·(intro w hSw; (try dsimp only at hSw); go_simp; (try with_reducible rfl))
   try simp only [Act.put, sl1, sl2, sl3]
   refine takeT 21 ?_ rfl (by kernel_rfl) (by kernel_rfl) (by kernel_rfl) (fun _ _ _ h => h) (by rfl) ?_ (by assumption) ?_
   rotate_left
   ·(intro w hSw; (try dsimp only at hSw); go_simp; (try with_reducible rfl))
   try simp only [Act.put, sl1, sl2, sl3]
   refine takeT 22 ?_ rfl (by kernel_rfl) (by kernel_rfl) (by kernel_rfl) (fun _ _ _ h => h) (by rfl) ?_ (by assumption) ?_
   rotate_left
   ·(intro w hSw; (try dsimp only at hSw); go_simp; (try with_reducible rfl))
   try simp only [Act.put, sl1, sl2, sl3]
   refine takeT 23 ?_ rfl (by kernel_rfl) (by kernel_rfl) (by kernel_rfl) (fun _ _ _ h => h) (by rfl) ?_ (by assumption) ?_
   rotate_left
   ·(intro w hSw; (try dsimp only at hSw); go_simp; (try with_reducible rfl))
   try simp only [Act.put, sl1, sl2, sl3]
   refine takeT 24 ?_ rfl (by kernel_rfl) (by kernel_rfl) (by kernel_rfl) (fun _ _ _ h => h) (by rfl) ?_ (by assumption) ?_
   rotate_left
   ·(intro w hSw; (try dsimp only at hSw); go_simp; (try with_reducible rfl))
   try simp only [Act.put, sl1, sl2, sl3]
   refine takeT 25 ?_ rfl (by kernel_rfl) (by kernel_rfl) (by kernel_rfl) (fun _ _ _ h => h) (by rfl) ?_ (by assumption) ?_
   rotate_left
   ·(intro w hSw; (try dsimp only at hSw); go_simp; (try with_reducible rfl))
   try simp only [Act.put, sl1, sl2, sl3]
   refine takeT 26 ?_ rfl (by kernel_rfl) (by kernel_rfl) (by kernel_rfl) (fun _ _ _ h => h) (by rfl) ?_ (by assumption) ?_
   rotate_left
   ·(intro w hSw; (try dsimp only at hSw); go_simp; (try with_reducible rfl))
   try simp only [Act.put, sl1, sl2, sl3]
   refine wpAnyH_done (by kernel_rfl) ?_ _
   go_wp2_with fail
   go_roundg (mlN ml - (i + 1))
   case measure => omega
   case rel => exact ⟨i + 1, by omega, Nat.le_refl _, by go_num, HBJ⟩
  ·have hki : ¬ (i : Int) < (mlN ml : Int) := by omega
   rename World => Wa
   have hb := HBI.out
   replace HB := Aside0.mk (HB.out.trans (hb.mono HB.out.size))
   replace HR := Aside0.mk (Kd.R_below HR.out hb)
   replace HZ := Aside0.mk (Kd.R_below HZ.out hb)
   replace HX := Aside0.mk (Kd.R_below HX.out hb)
   replace HM := Aside0.mk (Kd.R_below HM.out hb)
   replace HTB := Aside0.mk (blk_below HTB.out hb)
   replace HMB := Aside0.mk (blk_below HMB.out hb)
   replace HP := Aside0.mk (Kd.R_below HP.out hb)
   replace HQ := Aside0.mk (Kd.R_below HQ.out hb)
   replace HG := Aside0.mk (Kd.R_below HG.out hb)
   replace HH := Aside0.mk (Kd.R_below HH.out hb)
   clear hb HBI
   have HB0 : Aside0 (w.heap.size ≤ Wa.heap.size) := ⟨HB.out.size⟩
   have t0 : Wa.cell? ⟨tb, 0, none⟩ = some (.slice AR (madeR N []).length cR) := (blk_cell HTB.out 0).trans rfl
   have t1 : Wa.cell? ⟨tb, 1, none⟩ = some (.slice AZ (madeZ N).length cZ) := (blk_cell HTB.out 1).trans rfl
   have m0 : Wa.cell? ⟨mb, 0, none⟩ = some (.int .u8 1) := (blk_cell HMB.out 0).trans rfl
   have m1 : Wa.cell? ⟨mb, 1, none⟩ = some (.int .u8 1) := (blk_cell HMB.out 1).trans rfl
   have m2 : Wa.cell? ⟨mb, 2, none⟩ = some (.string exFrom) := (blk_cell HMB.out 2).trans rfl
   have m3 : Wa.cell? ⟨mb, 3, none⟩ = some (.slice AM (mlN ml) cM) := (blk_cell HMB.out 3).trans rfl
   go_wp2_with fail
   clear t0 t1 m0 m1 m2 m3
   have HCO : letterbagkit_CopyMailing.f 1 1 exFrom (mlPieces ml (mlN ml)) = some (1, 1, exFrom, (mlPieces ml (mlN ml))) := by
     unfold letterbagkit_CopyMailing.f letterbagkit_CopyPieces.f
     rw [if_pos (by rw [hl1]; simp; omega)]
     rfl
   have hcon := letterbagkit_CopyMailing.calls 1 1 exFrom AM cM (mlPieces ml (mlN ml)) 1 1 exFrom (mlPieces ml (mlN ml)) Wa (Kd.R_reads' HM.out).2.2 LM.out HCO
   simp only [hl1] at hcon
   have HCON := Aside0.mk hcon
   clear hcon HCO
   refine HCON.out.mono ?_
   rintro e Wc ⟨vN, rfl, hn, hb⟩
   clear HCON
   have HN := Aside0.mk hn
   obtain ⟨AN, cN, rfl, -, -⟩ := Kd.R_reads hn
   have HBc := Aside0.mk hb
   rw [hl1] at HN
   clear hn hb
   rw [hl1]
   go_wp2_with fail
   have hbx := below_alloc (Below.refl Wc.heap.size Wc) (.cells #[.int .u8 1, .int .u8 1, .string exFrom, .slice AN (mlN ml) cN] 36 (0, 0))
   have HNB := Aside0.mk (heap_alloc_new Wc (.cells #[.int .u8 1, .int .u8 1, .string exFrom, .slice AN (mlN ml) cN] 36 (0, 0)))
   replace HN := Aside0.mk (Kd.R_below HN.out hbx)
   replace HBc := Aside0.mk (HBc.out.trans (hbx.mono HBc.out.size))
   skip
   clear hbx
   generalize Wc.alloc (.cells #[.int .u8 1, .int .u8 1, .string exFrom, .slice AN (mlN ml) cN] 36 (0, 0)) = Wd at *
   generalize Wc.heap.size = nb at *
   go_loopg [115] (mlN ml) (fun gg s115 W => ∃ i : Nat, i ≤ mlN ml ∧ mlN ml - i ≤ gg ∧ s115 = .int .i64 i ∧ Aside0 (Below Wa.heap.size Wa W) ∧ Aside0 (W.heap[nb]? = some (.cells #[.int .u8 1, .int .u8 1, .string exFrom, .slice AN (mlN ml) cN] 36 (0, 0))) ∧ Aside0 (Kd.R k48 48 W Wa.heap.size (fun _ => True) (.slice AN (mlN ml) cN) (upTo plainP i (mlPieces ml (mlN ml)))))
   case atStart => exact ⟨0, Nat.zero_le _, by omega, rfl, HBc, HNB, ⟨by rw [upTo_zero]; exact HN.out⟩⟩
   case round =>
    obtain ⟨i, hi, hgi, rfl, I1, I2, I3⟩ := hrel
    skip
    by_cases hlt : i < mlN ml
    ·have hki : (i : Int) < (mlN ml : Int) := by omega
     have hi0 : (0 : Int) ≤ (i : Int) := by omega
     have hul := upTo_len plainP i (mlPieces ml (mlN ml))
     obtain ⟨g, cap, ev, hgb, hgl, cells_, hgc⟩ := Kd.R_form I3.out (by omega)
     injection ev with e1 e2 e3
     subst e1 e3
     obtain ⟨c, hcl, hM, hcc, hfz⟩ := Kd.R_elem I3.out z48 (i : Int) hi0 hki
     rw [Int.toNat_natCast] at hM hcc hfz
     have hset := upTo_set plainP i (mlPieces ml (mlN ml)) z48 (by omega)
     rw [upTo_get plainP i (mlPieces ml (mlN ml)) z48 (by omega)] at hM
     generalize (mlPieces ml (mlN ml)).getD i z48 = pp at *
     have hc5 := k48_openM hM
     subst hc5
     have s4 := hcc 4 _ rfl
     have f4 := hfz 4
     rw [show (k48).sz = 5 from rfl] at s4 f4
     have HPUT := Aside0.mk (R_put1 (okp := fun _ => False) (x' := plainP pp) (u := .bool false) I3.out i hlt (j := 4) hcl hcc (by decide) (k48_mkM _ _ _ (plainP pp)) (fun _ hk => hk.elim)).1
     rw [hset] at HPUT
     have HGC := Aside0.mk hgc
     have HGG := Aside0.mk hgb
     have hnbl := blk_lt I2.out
     have q3 : wr.cell? ⟨nb, 3, none⟩ = some (.slice (some ⟨g, 0, none⟩) (mlN ml) cN) := (blk_cell I2.out 3).trans rfl
     clear hset hM hcc hfz hcl hgc hgb hul e2
     go_wp2_with fail
     go_roundg (mlN ml - (i + 1))
     case measure => omega
     case rel => exact ⟨i + 1, by omega, Nat.le_refl _, by go_num, ⟨I1.out.setCell (p := ⟨g, i * 5 + 4, none⟩) HGG.out _⟩, ⟨blk_far I2.out (blk_ne I2.out HGC.out (by decide)) _⟩, HPUT⟩
    ·have hki : ¬ (i : Int) < (mlN ml : Int) := by omega
     obtain rfl : i = mlN ml := by omega
     have hb := I1.out
     replace HB := Aside0.mk (HB.out.trans (hb.mono HB.out.size))
     replace HR := Aside0.mk (Kd.R_below HR.out hb)
     replace HZ := Aside0.mk (Kd.R_below HZ.out hb)
     replace HX := Aside0.mk (Kd.R_below HX.out hb)
     replace HM := Aside0.mk (Kd.R_below HM.out hb)
     replace HTB := Aside0.mk (blk_below HTB.out hb)
     replace HMB := Aside0.mk (blk_below HMB.out hb)
     replace HP := Aside0.mk (Kd.R_below HP.out hb)
     replace HQ := Aside0.mk (Kd.R_below HQ.out hb)
     clear hb
     have HN2 := Aside0.mk (Kd.R_lower I3.out HB0.out)
     have hup := upTo_all plainP (mlPieces ml (mlN ml))
     rw [hl1] at hup
     rw [hup] at HN2
     have HNB2 := I2
     clear hup I1 I2 I3 HNB HN HBc HG HH
     go_wp2_with fail
     rename World => We
     go_loopg [126] (made23 S [] ce).length (fun gg s126 W => ∃ j : Nat, j ≤ (made23 S [] ce).length ∧ (made23 S [] ce).length - j ≤ gg ∧ s126 = .int .i64 j ∧ Aside0 (Below w.heap.size w W) ∧ Aside0 (Kd.R k57 57 W w.heap.size (fun _ => True) (.slice AR (madeR N []).length cR) (madeR N [])) ∧ Aside0 (Kd.R k67 67 W w.heap.size (fun _ => True) (.slice AZ (madeZ N).length cZ) (madeZ N)) ∧ Aside0 (Kd.R k48 48 W w.heap.size (fun _ => True) (.slice AM (mlN ml) cM) (mlPieces ml (mlN ml))) ∧ Aside0 (Kd.R (Kd.int .i64) 3 W w.heap.size (fun _ => True) (.slice AP (mlN ml) cP) (planOf pl (made23 S [] ce).length (mlN ml))) ∧ Aside0 (Kd.R (Kd.int .i64) 3 W w.heap.size (fun _ => True) (.slice AQ (mlN ml) cQ) (planOf ql (made23 S [] ce).length (mlN ml))) ∧ Aside0 (Kd.R k48 48 W w.heap.size (fun _ => True) (.slice AN (mlN ml) cN) ((mlPieces ml (mlN ml)).map plainP)) ∧ Aside0 (W.heap[tb]? = some (.cells #[.slice AR (madeR N []).length cR, .slice AZ (madeZ N).length cZ] 25 (0, 0))) ∧ Aside0 (W.heap[mb]? = some (.cells #[.int .u8 1, .int .u8 1, .string exFrom, .slice AM (mlN ml) cM] 36 (0, 0))) ∧ Aside0 (W.heap[nb]? = some (.cells #[.int .u8 1, .int .u8 1, .string exFrom, .slice AN (mlN ml) cN] 36 (0, 0))) ∧ Aside0 (Kd.R k54 54 W w.heap.size (fun _ => True) (.slice AX (made23 S [] ce).length cX) (upTo freeL j (made23 S [] ce))))
     case atStart => exact ⟨0, Nat.zero_le _, by omega, rfl, HB, HR, HZ, HM, HP, HQ, HN2, HTB, HMB, HNB2, ⟨by rw [upTo_zero]; exact HX.out⟩⟩
     case round =>
      obtain ⟨j, hj, hgj, rfl, JB, JR, JZ, JM, JP, JQ, JN2, JTB, JMB, JNB2, JX⟩ := hrel
      by_cases hlt : j < (made23 S [] ce).length
      ·have hkj : (j : Int) < ((made23 S [] ce).length : Int) := by omega
       have hj0 : (0 : Int) ≤ (j : Int) := by omega
       have hul := upTo_len freeL j (made23 S [] ce)
       obtain ⟨g, cap, ev, hgb, hgl, cells_, hgc⟩ := Kd.R_form JX.out (by omega)
       injection ev with e1 e2 e3
       subst e1 e3
       obtain ⟨c, hcl, hM, hcc, hfz⟩ := Kd.R_elem JX.out z54 (j : Int) hj0 hkj
       rw [Int.toNat_natCast] at hM hcc hfz
       have hset := upTo_set freeL j (made23 S [] ce) z54 (by omega)
       rw [upTo_get freeL j (made23 S [] ce) z54 (by omega)] at hM
       generalize (made23 S [] ce).getD j z54 = ll at *
       obtain ⟨v2, hc5, hR2⟩ := k54_openM hM
       subst hc5
       have s4 := hcc 4 _ rfl
       have f4 := hfz 4
       rw [show (k54).sz = 5 from rfl] at s4 f4
       have HPUT := Aside0.mk (R_put1 (okp := fun k => True ∧ k ≠ g) (x' := freeL ll) (u := .int .i64 0) JX.out j hlt (j := 4) hcl hcc (by decide) (k54_mkM _ _ _ (freeL ll) hR2) (fun _ hk => hk)).1
       rw [hset] at HPUT
       have HGC := Aside0.mk hgc
       have HGG := Aside0.mk hgb
       clear hset hM hcc hfz hcl hgc hgb hul e2 hR2
       go_wp2_with fail
       go_roundg ((made23 S [] ce).length - (j + 1))
       case measure => omega
       case rel => exact ⟨j + 1, by omega, Nat.le_refl _, by go_num, ⟨JB.out.setCell (p := ⟨g, j * 5 + 4, none⟩) HGG.out _⟩, ⟨R_but JR.out HGC.out (by decide) (fun k hk => Below.heap_setCell _ _ _ _ hk)⟩, ⟨R_but JZ.out HGC.out (by decide) (fun k hk => Below.heap_setCell _ _ _ _ hk)⟩, ⟨R_but JM.out HGC.out (by decide) (fun k hk => Below.heap_setCell _ _ _ _ hk)⟩, ⟨R_but JP.out HGC.out (by decide) (fun k hk => Below.heap_setCell _ _ _ _ hk)⟩, ⟨R_but JQ.out HGC.out (by decide) (fun k hk => Below.heap_setCell _ _ _ _ hk)⟩, ⟨R_but JN2.out HGC.out (by decide) (fun k hk => Below.heap_setCell _ _ _ _ hk)⟩, ⟨blk_far JTB.out (blk_ne JTB.out HGC.out (by decide)) _⟩, ⟨blk_far JMB.out (blk_ne JMB.out HGC.out (by decide)) _⟩, ⟨blk_far JNB2.out (blk_ne JNB2.out HGC.out (by decide)) _⟩, HPUT⟩
      ·have hkj : ¬ (j : Int) < ((made23 S [] ce).length : Int) := by omega
       obtain rfl : j = (made23 S [] ce).length := by omega
       clear HB HR HZ HM HP HQ HN2 HTB HMB HNB2 HX
       have HB := JB
       have HR := JR
       have HZ := JZ
       have HM := JM
       have HP := JP
       have HQ := JQ
       have HN2 := JN2
       have HTB := JTB
       have HMB := JMB
       have HNB2 := JNB2
       have HX0 := JX
       rw [upTo_all, free23] at HX0
       clear JB JR JZ JM JP JQ JN2 JTB JMB JNB2 JX
       rename World => Wf
       have hL0 : (made23 S [] []).length = (made23 S [] ce).length := by rw [← free23 S [] ce, List.length_map]
       have LX0 : Aside0 ((made23 S [] []).length ≤ cX) := ⟨by rw [hL0]; exact LX.out⟩
       have LN2 : Aside0 (((mlPieces ml (mlN ml)).map plainP).length ≤ cN) := ⟨by rw [List.length_map, hl1]; exact (Kd.R_reads' HN2.out).2.1⟩
       have t0 : Wf.cell? ⟨tb, 0, none⟩ = some (.slice AR (madeR N []).length cR) := (blk_cell HTB.out 0).trans rfl
       have t1 : Wf.cell? ⟨tb, 1, none⟩ = some (.slice AZ (madeZ N).length cZ) := (blk_cell HTB.out 1).trans rfl
       have m0 : Wf.cell? ⟨mb, 0, none⟩ = some (.int .u8 1) := (blk_cell HMB.out 0).trans rfl
       have m1 : Wf.cell? ⟨mb, 1, none⟩ = some (.int .u8 1) := (blk_cell HMB.out 1).trans rfl
       have m2 : Wf.cell? ⟨mb, 2, none⟩ = some (.string exFrom) := (blk_cell HMB.out 2).trans rfl
       have m3 : Wf.cell? ⟨mb, 3, none⟩ = some (.slice AM (mlN ml) cM) := (blk_cell HMB.out 3).trans rfl
       go_wp2_with fail
       clear t0 t1 m0 m1 m2 m3
       have hcon := tariff_Bases.calls 3000 AR cR (madeR N []) AZ cZ (madeZ N) 1 1 exFrom AM cM (mlPieces ml (mlN ml)) _ 0 Wf (Kd.R_reads' HR.out).2.2 LR.out (Kd.R_reads' HZ.out).2.2 LZ.out (Kd.R_reads' HM.out).2.2 LM.out (bases_made N (l := []) rfl 0 (mdC_range N).1 hml 3000 (by omega))
       simp only [hl1] at hcon
       have HCON := Aside0.mk hcon
       clear hcon
       refine HCON.out.mono ?_
       rintro e Wg ⟨v, rfl, hn, hb⟩
       clear HCON
       have HBs := Aside0.mk (Kd.R_lower hn HB.out.size)
       replace HB := Aside0.mk (HB.out.trans (hb.mono HB.out.size))
       replace HR := Aside0.mk (Kd.R_below HR.out hb)
       replace HZ := Aside0.mk (Kd.R_below HZ.out hb)
       replace HM := Aside0.mk (Kd.R_below HM.out hb)
       replace HP := Aside0.mk (Kd.R_below HP.out hb)
       replace HQ := Aside0.mk (Kd.R_below HQ.out hb)
       replace HN2 := Aside0.mk (Kd.R_below HN2.out hb)
       replace HTB := Aside0.mk (blk_below HTB.out hb)
       replace HMB := Aside0.mk (blk_below HMB.out hb)
       replace HNB2 := Aside0.mk (blk_below HNB2.out hb)
       replace HX0 := Aside0.mk (Kd.R_below HX0.out hb)
       clear hn hb
       obtain ⟨AB, cB, rfl, -, -⟩ := Kd.R_reads HBs.out
       simp only [List.length_map, hl1] at HBs
       have HOK3 := Aside0.mk (postOk_made N (l := []) rfl 0 ml (made23 S [] []) (fun x hx => by have := made23_cents S [] [] rfl x hx; omega) (planOf pl (made23 S [] ce).length (mlN ml)) (planOf_len _ _ _) (by rw [hL0]; exact plan_ok pl _ _ (by omega)) ((mlPieces ml (mlN ml)).map plainP) (by rw [List.length_map, hl1]))
       have HOK4 := Aside0.mk (postOk_made N (l := []) rfl 0 ml (made23 S [] []) (fun x hx => by have := made23_cents S [] [] rfl x hx; omega) (planOf ql (made23 S [] ce).length (mlN ml)) (planOf_len _ _ _) (by rw [hL0]; exact plan_ok ql _ _ (by omega)) (mlPieces ml (mlN ml)) (mlPieces_len ml _))
       have HPO3 := Aside0.mk (postage_is HOK3.out (madeR N []) (madeZ N) 1 1 exFrom 1 ((List.range (mdS N)).map (mdStep [] (mdZ N) 0)) (fun f h => made_fits23 N S rfl [] [] rfl rfl f h) (fun f h => bases_plain N rfl 0 (mdC_range N).1 hml f h) (fun f h => rate_made [] (mdZ N) (mdS N) (mdBar N) (mdC N) 0 (mdC_range N).1 (mdC_range N).2 (madeZ N) f h) 6000 (by omega))
       have HPO4 := Aside0.mk (postage_is HOK4.out (madeR N []) (madeZ N) 1 1 exFrom 1 ((List.range (mdS N)).map (mdStep [] (mdZ N) 0)) (fun f h => made_fits23 N S rfl [] [] rfl rfl f h) (fun f h => bases_made N rfl 0 (mdC_range N).1 hml f h) (fun f h => rate_made [] (mdZ N) (mdS N) (mdBar N) (mdC N) 0 (mdC_range N).1 (mdC_range N).2 (madeZ N) f h) 6000 (by omega))
       have hpp := post_plain (made23 S [] ce) ((mlPieces ml (mlN ml)).map (mdBase [] N 0)) (planOf pl (made23 S [] ce).length (mlN ml)) (mdBar N : Int) (mlPieces ml (mlN ml)) (mlN ml) hl1 (by rw [List.length_map, hl1]) (plan_ok pl _ _ (by omega))
       rw [free23] at hpp
       rw [hpp] at HPO3
       clear hpp
       have t0 : Wg.cell? ⟨tb, 0, none⟩ = some (.slice AR (madeR N []).length cR) := (blk_cell HTB.out 0).trans rfl
       have t1 : Wg.cell? ⟨tb, 1, none⟩ = some (.slice AZ (madeZ N).length cZ) := (blk_cell HTB.out 1).trans rfl
       have n0 : Wg.cell? ⟨nb, 0, none⟩ = some (.int .u8 1) := (blk_cell HNB2.out 0).trans rfl
       have n1 : Wg.cell? ⟨nb, 1, none⟩ = some (.int .u8 1) := (blk_cell HNB2.out 1).trans rfl
       have n2 : Wg.cell? ⟨nb, 2, none⟩ = some (.string exFrom) := (blk_cell HNB2.out 2).trans rfl
       have n3 : Wg.cell? ⟨nb, 3, none⟩ = some (.slice AN (mlN ml) cN) := (blk_cell HNB2.out 3).trans rfl
       go_wp2_with fail
       clear t0 t1 n0 n1 n2 n3
       have HCMx : Aside0 (Kd.C k48 Wg AN ((mlPieces ml (mlN ml)).map plainP).length ((mlPieces ml (mlN ml)).map plainP)) := ⟨(Kd.R_reads' HN2.out).2.2⟩
       have HCPx : Aside0 (Kd.C (Kd.int .i64) Wg AP (planOf pl (made23 S [] ce).length (mlN ml)).length (planOf pl (made23 S [] ce).length (mlN ml))) := ⟨(Kd.R_reads' HP.out).2.2⟩
       have hcon := tariff_Postage.calls 6000 AR cR (madeR N []) AZ cZ (madeZ N) AX cX (made23 S [] []) 1 1 exFrom AN cN ((mlPieces ml (mlN ml)).map plainP) AP cP (planOf pl (made23 S [] ce).length (mlN ml)) _ 0 Wg (Kd.R_reads' HR.out).2.2 LR.out (Kd.R_reads' HZ.out).2.2 LZ.out (Kd.R_reads' HX0.out).2.2 LX0.out HCMx.out LN2.out HCPx.out (by rw [planOf_len]; exact LP.out) HPO3.out
       simp only [List.length_map, hl1, hlP, hlQ, hL0] at hcon
       have HCON := Aside0.mk hcon
       clear hcon HCMx HCPx
       refine HCON.out.mono ?_
       rintro e Wh ⟨v, rfl, hn, hb⟩
       clear HCON
       have HCs := Aside0.mk (Kd.R_lower hn HB.out.size)
       replace HB := Aside0.mk (HB.out.trans (hb.mono HB.out.size))
       replace HR := Aside0.mk (Kd.R_below HR.out hb)
       replace HZ := Aside0.mk (Kd.R_below HZ.out hb)
       replace HM := Aside0.mk (Kd.R_below HM.out hb)
       replace HP := Aside0.mk (Kd.R_below HP.out hb)
       replace HQ := Aside0.mk (Kd.R_below HQ.out hb)
       replace HN2 := Aside0.mk (Kd.R_below HN2.out hb)
       replace HTB := Aside0.mk (blk_below HTB.out hb)
       replace HMB := Aside0.mk (blk_below HMB.out hb)
       replace HNB2 := Aside0.mk (blk_below HNB2.out hb)
       replace HX0 := Aside0.mk (Kd.R_below HX0.out hb)
       replace HBs := Aside0.mk (Kd.R_below HBs.out hb)
       clear hn hb
       obtain ⟨AC, cC, rfl, -, -⟩ := Kd.R_reads HCs.out
       simp only [List.length_map, hl1] at HCs
       have t0 : Wh.cell? ⟨tb, 0, none⟩ = some (.slice AR (madeR N []).length cR) := (blk_cell HTB.out 0).trans rfl
       have t1 : Wh.cell? ⟨tb, 1, none⟩ = some (.slice AZ (madeZ N).length cZ) := (blk_cell HTB.out 1).trans rfl
       have m0 : Wh.cell? ⟨mb, 0, none⟩ = some (.int .u8 1) := (blk_cell HMB.out 0).trans rfl
       have m1 : Wh.cell? ⟨mb, 1, none⟩ = some (.int .u8 1) := (blk_cell HMB.out 1).trans rfl
       have m2 : Wh.cell? ⟨mb, 2, none⟩ = some (.string exFrom) := (blk_cell HMB.out 2).trans rfl
       have m3 : Wh.cell? ⟨mb, 3, none⟩ = some (.slice AM (mlN ml) cM) := (blk_cell HMB.out 3).trans rfl
       go_wp2_with fail
       clear t0 t1 m0 m1 m2 m3
       have HCMx : Aside0 (Kd.C k48 Wh AM (mlPieces ml (mlN ml)).length (mlPieces ml (mlN ml))) := ⟨(Kd.R_reads' HM.out).2.2⟩
       have HCPx : Aside0 (Kd.C (Kd.int .i64) Wh AQ (planOf ql (made23 S [] ce).length (mlN ml)).length (planOf ql (made23 S [] ce).length (mlN ml))) := ⟨(Kd.R_reads' HQ.out).2.2⟩
       have hcon := tariff_Postage.calls 6000 AR cR (madeR N []) AZ cZ (madeZ N) AX cX (made23 S [] []) 1 1 exFrom AM cM (mlPieces ml (mlN ml)) AQ cQ (planOf ql (made23 S [] ce).length (mlN ml)) _ 0 Wh (Kd.R_reads' HR.out).2.2 LR.out (Kd.R_reads' HZ.out).2.2 LZ.out (Kd.R_reads' HX0.out).2.2 LX0.out HCMx.out LM.out HCPx.out (by rw [planOf_len]; exact LQ.out) HPO4.out
       simp only [hl1, hlP, hlQ, hL0] at hcon
       have HCON := Aside0.mk hcon
       clear hcon HCMx HCPx
       refine HCON.out.mono ?_
       rintro e Wi ⟨v, rfl, hn, hb⟩
       clear HCON
       have HDs := Aside0.mk (Kd.R_lower hn HB.out.size)
       replace HB := Aside0.mk (HB.out.trans (hb.mono HB.out.size))
       replace HR := Aside0.mk (Kd.R_below HR.out hb)
       replace HZ := Aside0.mk (Kd.R_below HZ.out hb)
       replace HM := Aside0.mk (Kd.R_below HM.out hb)
       replace HP := Aside0.mk (Kd.R_below HP.out hb)
       replace HQ := Aside0.mk (Kd.R_below HQ.out hb)
       replace HN2 := Aside0.mk (Kd.R_below HN2.out hb)
       replace HTB := Aside0.mk (blk_below HTB.out hb)
       replace HMB := Aside0.mk (blk_below HMB.out hb)
       replace HNB2 := Aside0.mk (blk_below HNB2.out hb)
       replace HX0 := Aside0.mk (Kd.R_below HX0.out hb)
       replace HBs := Aside0.mk (Kd.R_below HBs.out hb)
       replace HCs := Aside0.mk (Kd.R_below HCs.out hb)
       clear hn hb
       obtain ⟨AD, cD, rfl, -, -⟩ := Kd.R_reads HDs.out
       have hl5 := postOf_len (made23 S [] []) ((mlPieces ml (mlN ml)).map (mdBase [] N 0)) (planOf ql (made23 S [] ce).length (mlN ml)) (mdBar N : Int) (mlPieces ml (mlN ml)) (mlN ml)
       simp only [hl5] at HDs
       go_wp2_with fail
       have hcon := letterbagkit_SameInts.calls 3000 AB cB ((mlPieces ml (mlN ml)).map (mdBase [] N 0)) AC cC ((mlPieces ml (mlN ml)).map (mdBase [] N 0)) true Wi (Kd.R_reads' HBs.out).2.2 (by have := (Kd.R_reads' HBs.out).2.1; rw [List.length_map, hl1]; exact this) (Kd.R_reads' HCs.out).2.2 (by have := (Kd.R_reads' HCs.out).2.1; rw [List.length_map, hl1]; exact this) (same_refl _ (by rw [List.length_map, hl1]; omega) 3000 (by rw [List.length_map, hl1]; omega))
       simp only [List.length_map, hl1] at hcon
       have HCON := Aside0.mk hcon
       clear hcon
       refine HCON.out.mono ?_
       rintro e Wj ⟨rfl, hdA⟩
       clear HCON
       have hb := hdA.below
       replace HB := Aside0.mk (HB.out.trans (hb.mono HB.out.size))
       replace HR := Aside0.mk (Kd.R_below HR.out hb)
       replace HZ := Aside0.mk (Kd.R_below HZ.out hb)
       replace HM := Aside0.mk (Kd.R_below HM.out hb)
       replace HP := Aside0.mk (Kd.R_below HP.out hb)
       replace HQ := Aside0.mk (Kd.R_below HQ.out hb)
       replace HN2 := Aside0.mk (Kd.R_below HN2.out hb)
       replace HTB := Aside0.mk (blk_below HTB.out hb)
       replace HMB := Aside0.mk (blk_below HMB.out hb)
       replace HNB2 := Aside0.mk (blk_below HNB2.out hb)
       replace HX0 := Aside0.mk (Kd.R_below HX0.out hb)
       replace HBs := Aside0.mk (Kd.R_below HBs.out hb)
       replace HCs := Aside0.mk (Kd.R_below HCs.out hb)
       replace HDs := Aside0.mk (Kd.R_below HDs.out hb)
       clear hb hdA
       go_wp2_with fail
       go_loopg [170] (mlN ml) (fun gg s170 W => ∃ i : Nat, i ≤ mlN ml ∧ mlN ml - i ≤ gg ∧ s170 = .int .i64 i ∧ Aside0 (Below Wj.heap.size Wj W))
       case atStart => exact ⟨0, Nat.zero_le _, by omega, rfl, ⟨Below.refl _ _⟩⟩
       case round =>
        obtain ⟨i, hi, hgi, rfl, HBI⟩ := hrel
        by_cases hlt : i < mlN ml
        ·have hki : (i : Int) < (mlN ml : Int) := by omega
         have hi0 : (0 : Int) ≤ (i : Int) := by omega
         have hlq := lvAt_lt ql (made23 S [] ce).length i h23.1
         have hc1 := (mdC_range N).1
         obtain ⟨aD, eD, k1⟩ := Kd.at_int (Kd.C_below (Kd.R_reads' HDs.out).2.2 (below_drew HBI.out)) (i : Int) hi0 (by rw [postOf_len]; exact hki)
         cases eD
         obtain ⟨aB, eB, k2⟩ := Kd.at_int (Kd.C_below (Kd.R_reads' HBs.out).2.2 (below_drew HBI.out)) (i : Int) hi0 (by rw [List.length_map, hl1]; exact hki)
         cases eB
         obtain ⟨aM, eM, -, -, -, -, k3⟩ := at_T48 (Kd.C_below (Kd.R_reads' HM.out).2.2 (below_drew HBI.out)) (i : Int) hi0 (by rw [hl1]; exact hki)
         cases eM
         obtain ⟨aR, A3, c3, eR, -, -, k5, -, -⟩ := at_T57 (Kd.C_below (Kd.R_reads' HR.out).2.2 (below_drew HBI.out)) 0 (by omega) (by rw [madeR_length]; omega)
         cases eR
         rw [postOf_rd _ _ _ _ _ _ i hlt] at k1
         unfold postAt at k1
         rw [planOf_rd _ _ _ i hlt, basesL_rd [] N 0 ml i hlt] at k1
         rw [basesL_rd [] N 0 ml i hlt] at k2
         rw [show (rd_T54 (made23 S [] []) (lvAt ql (made23 S [] ce).length i : Int)).f4 = 0 by rw [lv_get _ _ (by omega)]; exact free_cents S _ (List.getElem_mem _), Int.sub_zero] at k1
         rw [show rd_T57 (madeR N []) 0 = mdRate [] (mdZ N) (mdS N) (mdBar N) 0 from rates_rd [] (mdZ N) (mdS N) (mdBar N) (mdC N) 0 (by omega)] at k5
         change wr.drew.cell? _ = some (.int .i64 (mdBar N : Int)) at k5
         rw [show ((0 : Int)).toNat * 3 = 0 from rfl, Addr.add_zero'] at k5
         rw [Int.toNat_natCast] at k1 k2 k3
         have hpr := mdBase_range (l := []) rfl N 0 (mlPiece ml i)
         have hbar := mdBar_range N
         generalize (rd_T48 (mlPieces ml (mlN ml)) (i : Int)).f4 = q4 at *
         generalize mdBase [] N 0 (mlPiece ml i) = x at *
         have hw1 : IntKind.i64.wrap (x - (mdBar N : Int)) = x - (mdBar N : Int) := wrap_i64_int (by omega) (by omega)
         have hRl : (0 : Int) < ((madeR N []).length : Int) := by rw [madeR_length]; omega
         have hRl2 : 0 < (madeR N []).length := by rw [madeR_length]; omega
         have HBJ := Aside0.mk (below_drew HBI.out)
         have m3 : wr.drew.cell? ⟨mb, 3, none⟩ = some (.slice (some aM) (mlN ml) cM) := (blk_cell (blk_below HMB.out HBJ.out) 3).trans rfl
         have t0 : wr.drew.cell? ⟨tb, 0, none⟩ = some (.slice (some aR) (madeR N []).length cR) := (blk_cell (blk_below HTB.out HBJ.out) 0).trans rfl
         clear hpr
         go_wp2_with fail
         cases q4 with
         | true =>
          simp only [if_true] at k1
          refine wp_region_held_drew (S := fun w' => w'.cell? (aD.add i) = some (.int .i64 (x - (mdBar N : Int))) ∧ w'.cell? (aB.add i) = some (.int .i64 x) ∧ w'.cell? ⟨(aM.add (i * 5)).block, (aM.add (i * 5)).off + 4, none⟩ = some (.bool true) ∧ w'.cell? ⟨mb, 3, none⟩ = some (.slice (some aM) (mlN ml) cM) ∧ w'.cell? ⟨tb, 0, none⟩ = some (.slice (some aR) (madeR N []).length cR) ∧ w'.cell? ⟨aR.block, aR.off + 2, none⟩ = some (.int .i64 (mdBar N : Int))) (by kernel_rfl) ?_ (fun hHeld => ?_)
          ·exact ⟨k1, k2, k3, m3, t0, k5⟩
          clear k1 k2 k3 m3 t0 k5
          generalize wr.drew = wd at *
          refine takeT 0 ?_ rfl (by kernel_rfl) (by kernel_rfl) (by kernel_rfl) (fun _ _ _ h => h) (by rfl) ?_ (by assumption) ?_
          rotate_left
          ·(intro w hSw; (try dsimp only at hSw); go_simp; (try with_reducible rfl))
          try simp only [Act.put, sl1, sl2, sl3]
          refine takeT 1 ?_ rfl (by kernel_rfl) (by kernel_rfl) (by kernel_rfl) (fun _ _ _ h => h) (by rfl) ?_ (by assumption) ?_
          rotate_left
          ·(intro w hSw; (try dsimp only at hSw); go_simp; (try with_reducible rfl))
          try simp only [Act.put, sl1, sl2, sl3]
          refine takeT 2 ?_ rfl (by kernel_rfl) (by kernel_rfl) (by kernel_rfl) (fun _ _ _ h => h) (by rfl) ?_ (by assumption) ?_
          rotate_left
          ·(intro w hSw; (try dsimp only at hSw); go_simp; (try with_reducible rfl))
          try simp only [Act.put, sl1, sl2, sl3]
          refine takeT 3 ?_ rfl (by kernel_rfl) (by kernel_rfl) (by kernel_rfl) (fun _ _ _ h => h) (by rfl) ?_ (by assumption) ?_
          rotate_left
          ·(intro w hSw; (try dsimp only at hSw); go_simp; (try with_reducible rfl))
          try simp only [Act.put, sl1, sl2, sl3]
          refine takeT 4 ?_ rfl (by kernel_rfl) (by kernel_rfl) (by kernel_rfl) (fun _ _ _ h => h) (by rfl) ?_ (by assumption) ?_
          rotate_left
          ·(intro w hSw; (try dsimp only at hSw); go_simp; (try with_reducible rfl))
          try simp only [Act.put, sl1, sl2, sl3]
          refine takeT 5 ?_ rfl (by kernel_rfl) (by kernel_rfl) (by kernel_rfl) (fun _ _ _ h => h) (by rfl) ?_ (by assumption) ?_
          rotate_left
          ·(intro w hSw; (try dsimp only at hSw); go_simp; (try with_reducible rfl))
          try simp only [Act.put, sl1, sl2, sl3]
          refine takeT 6 ?_ rfl (by kernel_rfl) (by kernel_rfl) (by kernel_rfl) (fun _ _ _ h => h) (by rfl) ?_ (by assumption) ?_
          rotate_left
          ·(intro w hSw; (try dsimp only at hSw); go_simp; (try with_reducible rfl))
          try simp only [Act.put, sl1, sl2, sl3]
          refine takeT 7 ?_ rfl (by kernel_rfl) (by kernel_rfl) (by kernel_rfl) (fun _ _ _ h => h) (by rfl) ?_ (by assumption) ?_
          rotate_left
          ·(intro w hSw; (try dsimp only at hSw); go_simp; (try with_reducible rfl))
          try simp only [Act.put, sl1, sl2, sl3]
          refine takeT 8 ?_ rfl (by kernel_rfl) (by kernel_rfl) (by kernel_rfl) (fun _ _ _ h => h) (by rfl) ?_ (by assumption) ?_
          rotate_left
          ·(intro w hSw; (try dsimp only at hSw); go_simp; (try with_reducible rfl))
          try simp only [Act.put, sl1, sl2, sl3]
          refine takeT 9 ?_ rfl (by kernel_rfl) (by kernel_rfl) (by kernel_rfl) (fun _ _ _ h => h) (by rfl) ?_ (by assumption) ?_
          rotate_left
          ·(intro w hSw; (try dsimp only at hSw); go_simp; (try with_reducible rfl))
          try simp only [Act.put, sl1, sl2, sl3]
          refine takeT 10 ?_ rfl (by kernel_rfl) (by kernel_rfl) (by kernel_rfl) (fun _ _ _ h => h) (by rfl) ?_ (by assumption) ?_
          rotate_left
          ·(intro w hSw; (try dsimp only at hSw); go_simp; (try with_reducible rfl))
          try simp only [Act.put, sl1, sl2, sl3]
          refine takeT 11 ?_ rfl (by kernel_rfl) (by kernel_rfl) (by kernel_rfl) (fun _ _ _ h => h) (by rfl) ?_ (by assumption) ?_
          rotate_left
          ·(intro w hSw; (try dsimp only at hSw); go_simp; (try with_reducible rfl))
          try simp only [Act.put, sl1, sl2, sl3]
          refine takeT 12 ?_ rfl (by kernel_rfl) (by kernel_rfl) (by kernel_rfl) (fun _ _ _ h => h) (by rfl) ?_ (by assumption) ?_
          rotate_left
          ·(intro w hSw; (try dsimp only at hSw); go_simp; (try with_reducible rfl))
          try simp only [Act.put, sl1, sl2, sl3]
          refine takeT 13 ?_ rfl (by kernel_rfl) (by kernel_rfl) (by kernel_rfl) (fun _ _ _ h => h) (by rfl) ?_ (by assumption) ?_
          rotate_left
          ·(intro w hSw; (try dsimp only at hSw); go_simp; (try with_reducible rfl))
          try simp only [Act.put, sl1, sl2, sl3]
          refine takeT 14 ?_ rfl (by kernel_rfl) (by kernel_rfl) (by kernel_rfl) (fun _ _ _ h => h) (by rfl) ?_ (by assumption) ?_
          rotate_left
          ·(intro w hSw; (try dsimp only at hSw); go_simp; (try with_reducible rfl))
          try simp only [Act.put, sl1, sl2, sl3]
          refine takeT 15 ?_ rfl (by kernel_rfl) (by kernel_rfl) (by kernel_rfl) (fun _ _ _ h => h) (by rfl) ?_ (by assumption) ?_
          rotate_left
          ·(intro w hSw; (try dsimp only at hSw); go_simp; (try with_reducible rfl))
          try simp only [Act.put, sl1, sl2, sl3]
          refine takeT 16 ?_ rfl (by kernel_rfl) (by kernel_rfl) (by kernel_rfl) (fun _ _ _ h => h) (by rfl) ?_ (by assumption) ?_
          rotate_left
          ·(intro w hSw; (try dsimp only at hSw); go_simp; (try with_reducible rfl))
          try simp only [Act.put, sl1, sl2, sl3]
          refine takeT 17 ?_ rfl (by kernel_rfl) (by kernel_rfl) (by kernel_rfl) (fun _ _ _ h => h) (by rfl) ?_ (by assumption) ?_
          rotate_left
          ·(intro w hSw; (try dsimp only at hSw); go_simp; (try with_reducible rfl))
          try simp only [Act.put, sl1, sl2, sl3]
          refine takeT 18 ?_ rfl (by kernel_rfl) (by kernel_rfl) (by kernel_rfl) (fun _ _ _ h => h) (by rfl) ?_ (by assumption) ?_
          rotate_left
          ·(intro w hSw; (try dsimp only at hSw); go_simp; (try with_reducible rfl))
          try simp only [Act.put, sl1, sl2, sl3]
          refine takeT 19 ?_ rfl (by kernel_rfl) (by kernel_rfl) (by kernel_rfl) (fun _ _ _ h => h) (by rfl) ?_ (by assumption) ?_
          rotate_left
          ·(intro w hSw; (try dsimp only at hSw); go_simp; (try with_reducible rfl))
          try simp only [Act.put, sl1, sl2, sl3]
          refine takeT 20 ?_ rfl (by kernel_rfl) (by kernel_rfl) (by kernel_rfl) (fun _ _ _ h => h) (by rfl) ?_ (by assumption) ?_
          rotate_left
          ·(intro w hSw; (try dsimp only at hSw); go_simp; (try with_reducible rfl))
          try simp only [Act.put, sl1, sl2, sl3]
          refine takeT 21 ?_ rfl (by kernel_rfl) (by kernel_rfl) (by kernel_rfl) (fun _ _ _ h => h) (by rfl) ?_ (by assumption) ?_
          rotate_left
          ·(intro w hSw; (try dsimp only at hSw); go_simp; (try with_reducible rfl))
          try simp only [Act.put, sl1, sl2, sl3]
          refine takeT 22 ?_ rfl (by kernel_rfl) (by kernel_rfl) (by kernel_rfl) (fun _ _ _ h => h) (by rfl) ?_ (by assumption) ?_
          rotate_left
          ·(intro w hSw; (try dsimp only at hSw); go_simp; (try with_reducible rfl))
          try simp only [Act.put, sl1, sl2, sl3]
          refine takeT 23 ?_ rfl (by kernel_rfl) (by kernel_rfl) (by kernel_rfl) (fun _ _ _ h => h) (by rfl) ?_ (by assumption) ?_
          rotate_left
          ·(intro w hSw; (try dsimp only at hSw); go_simp; (try with_reducible rfl))
          try simp only [Act.put, sl1, sl2, sl3]
          refine takeT 24 ?_ rfl (by kernel_rfl) (by kernel_rfl) (by kernel_rfl) (fun _ _ _ h => h) (by rfl) ?_ (by assumption) ?_
          rotate_left
          ·(intro w hSw; (try dsimp only at hSw); go_simp; (try with_reducible rfl))
          try simp only [Act.put, sl1, sl2, sl3]
          refine takeT 25 ?_ rfl (by kernel_rfl) (by kernel_rfl) (by kernel_rfl) (fun _ _ _ h => h) (by rfl) ?_ (by assumption) ?_
          rotate_left
          ·(intro w hSw; (try dsimp only at hSw); go_simp; (try with_reducible rfl))
          try simp only [Act.put, sl1, sl2, sl3]
          refine takeT 26 ?_ rfl (by kernel_rfl) (by kernel_rfl) (by kernel_rfl) (fun _ _ _ h => h) (by rfl) ?_ (by assumption) ?_
          rotate_left
          ·(intro w hSw; (try dsimp only at hSw); go_simp; (try with_reducible rfl))
          try simp only [Act.put, sl1, sl2, sl3]
          refine takeT 27 ?_ rfl (by kernel_rfl) (by kernel_rfl) (by kernel_rfl) (fun _ _ _ h => h) (by rfl) ?_ (by assumption) ?_
          rotate_left
          ·(intro w hSw; (try dsimp only at hSw); go_simp; (try with_reducible rfl))
          try simp only [Act.put, sl1, sl2, sl3]
          refine takeT 28 ?_ rfl (by kernel_rfl) (by kernel_rfl) (by kernel_rfl) (fun _ _ _ h => h) (by rfl) ?_ (by assumption) ?_
          rotate_left
          ·(intro w hSw; (try dsimp only at hSw); go_simp; (try with_reducible rfl))
          try simp only [Act.put, sl1, sl2, sl3]
          refine takeT 29 ?_ rfl (by kernel_rfl) (by kernel_rfl) (by kernel_rfl) (fun _ _ _ h => h) (by rfl) ?_ (by assumption) ?_
          rotate_left
          ·(intro w hSw; (try dsimp only at hSw); go_simp; (try with_reducible rfl))
          try simp only [Act.put, sl1, sl2, sl3]
          refine takeT 30 ?_ rfl (by kernel_rfl) (by kernel_rfl) (by kernel_rfl) (fun _ _ _ h => h) (by rfl) ?_ (by assumption) ?_
          rotate_left
          ·(intro w hSw; (try dsimp only at hSw); go_simp; (try with_reducible rfl))
          try simp only [Act.put, sl1, sl2, sl3]
          refine takeT 31 ?_ rfl (by kernel_rfl) (by kernel_rfl) (by kernel_rfl) (fun _ _ _ h => h) (by rfl) ?_ (by assumption) ?_
          rotate_left
          ·(intro w hSw; (try dsimp only at hSw); go_simp; (try with_reducible rfl))
          try simp only [Act.put, sl1, sl2, sl3]
          refine takeF 32 rfl (by kernel_rfl) (by kernel_rfl) (by kernel_rfl) (fun _ _ _ h => h) (by rfl) (by assumption) ?_
          try simp only [Act.put, sl1, sl2, sl3]
          refine takeF 33 rfl (by kernel_rfl) (by kernel_rfl) (by kernel_rfl) (fun _ _ _ h => h) (by rfl) (by assumption) ?_
          try simp only [Act.put, sl1, sl2, sl3]
          refine takeF 34 rfl (by kernel_rfl) (by kernel_rfl) (by kernel_rfl) (fun _ _ _ h => h) (by rfl) (by assumption) ?_
          try simp only [Act.put, sl1, sl2, sl3]
          refine takeF 35 rfl (by kernel_rfl) (by kernel_rfl) (by kernel_rfl) (fun _ _ _ h => h) (by rfl) (by assumption) ?_
          try simp only [Act.put, sl1, sl2, sl3]
          refine takeF 36 rfl (by kernel_rfl) (by kernel_rfl) (by kernel_rfl) (fun _ _ _ h => h) (by rfl) (by assumption) ?_
          try simp only [Act.put, sl1, sl2, sl3]
          refine takeF 37 rfl (by kernel_rfl) (by kernel_rfl) (by kernel_rfl) (fun _ _ _ h => h) (by rfl) (by assumption) ?_
          try simp only [Act.put, sl1, sl2, sl3]
          refine takeF 38 rfl (by kernel_rfl) (by kernel_rfl) (by kernel_rfl) (fun _ _ _ h => h) (by rfl) (by assumption) ?_
          try simp only [Act.put, sl1, sl2, sl3]
          refine takeF 39 rfl (by kernel_rfl) (by kernel_rfl) (by kernel_rfl) (fun _ _ _ h => h) (by rfl) (by assumption) ?_
          try simp only [Act.put, sl1, sl2, sl3]
          refine takeF 40 rfl (by kernel_rfl) (by kernel_rfl) (by kernel_rfl) (fun _ _ _ h => h) (by rfl) (by assumption) ?_
          try simp only [Act.put, sl1, sl2, sl3]
          refine takeT 41 ?_ rfl (by kernel_rfl) (by kernel_rfl) (by kernel_rfl) (fun _ _ _ h => h) (by rfl) ?_ (by assumption) ?_
          rotate_left
          ·(intro w hSw; (try dsimp only at hSw); go_simp; (try with_reducible rfl))
          try simp only [Act.put, sl1, sl2, sl3]
          refine takeT 42 ?_ rfl (by kernel_rfl) (by kernel_rfl) (by kernel_rfl) (fun _ _ _ h => h) (by rfl) ?_ (by assumption) ?_
          rotate_left
          ·(intro w hSw; (try dsimp only at hSw); go_simp; (try with_reducible rfl))
          try simp only [Act.put, sl1, sl2, sl3]
          refine wpAnyH_done (by kernel_rfl) ?_ _
          go_wp2_with fail
          go_roundg (mlN ml - (i + 1))
          case measure => omega
          case rel => exact ⟨i + 1, by omega, Nat.le_refl _, by go_num, HBJ⟩
         | false =>
          simp only [Bool.false_eq_true, if_false, Int.sub_zero] at k1
          refine wp_region_held_drew (S := fun w' => w'.cell? (aD.add i) = some (.int .i64 x) ∧ w'.cell? (aB.add i) = some (.int .i64 x) ∧ w'.cell? ⟨(aM.add (i * 5)).block, (aM.add (i * 5)).off + 4, none⟩ = some (.bool false) ∧ w'.cell? ⟨mb, 3, none⟩ = some (.slice (some aM) (mlN ml) cM) ∧ w'.cell? ⟨tb, 0, none⟩ = some (.slice (some aR) (madeR N []).length cR) ∧ w'.cell? ⟨aR.block, aR.off + 2, none⟩ = some (.int .i64 (mdBar N : Int))) (by kernel_rfl) ?_ (fun hHeld => ?_)
          ·exact ⟨k1, k2, k3, m3, t0, k5⟩
          clear k1 k2 k3 m3 t0 k5
          generalize wr.drew = wd at *
          refine takeT 0 ?_ rfl (by kernel_rfl) (by kernel_rfl) (by kernel_rfl) (fun _ _ _ h => h) (by rfl) ?_ (by assumption) ?_
          rotate_left
          ·(intro w hSw; (try dsimp only at hSw); go_simp; (try with_reducible rfl))
          try simp only [Act.put, sl1, sl2, sl3]
          refine takeT 1 ?_ rfl (by kernel_rfl) (by kernel_rfl) (by kernel_rfl) (fun _ _ _ h => h) (by rfl) ?_ (by assumption) ?_
          rotate_left
          ·(intro w hSw; (try dsimp only at hSw); go_simp; (try with_reducible rfl))
          try simp only [Act.put, sl1, sl2, sl3]
          refine takeT 2 ?_ rfl (by kernel_rfl) (by kernel_rfl) (by kernel_rfl) (fun _ _ _ h => h) (by rfl) ?_ (by assumption) ?_
          rotate_left
          ·(intro w hSw; (try dsimp only at hSw); go_simp; (try with_reducible rfl))
          try simp only [Act.put, sl1, sl2, sl3]
          refine takeT 3 ?_ rfl (by kernel_rfl) (by kernel_rfl) (by kernel_rfl) (fun _ _ _ h => h) (by rfl) ?_ (by assumption) ?_
          rotate_left
          ·(intro w hSw; (try dsimp only at hSw); go_simp; (try with_reducible rfl))
          try simp only [Act.put, sl1, sl2, sl3]
          refine takeT 4 ?_ rfl (by kernel_rfl) (by kernel_rfl) (by kernel_rfl) (fun _ _ _ h => h) (by rfl) ?_ (by assumption) ?_
          rotate_left
          ·(intro w hSw; (try dsimp only at hSw); go_simp; (try with_reducible rfl))
          try simp only [Act.put, sl1, sl2, sl3]
          refine takeT 5 ?_ rfl (by kernel_rfl) (by kernel_rfl) (by kernel_rfl) (fun _ _ _ h => h) (by rfl) ?_ (by assumption) ?_
          rotate_left
          ·(intro w hSw; (try dsimp only at hSw); go_simp; (try with_reducible rfl))
          try simp only [Act.put, sl1, sl2, sl3]
          refine takeT 6 ?_ rfl (by kernel_rfl) (by kernel_rfl) (by kernel_rfl) (fun _ _ _ h => h) (by rfl) ?_ (by assumption) ?_
          rotate_left
          ·(intro w hSw; (try dsimp only at hSw); go_simp; (try with_reducible rfl))
          try simp only [Act.put, sl1, sl2, sl3]
          refine takeF 7 rfl (by kernel_rfl) (by kernel_rfl) (by kernel_rfl) (fun _ _ _ h => h) (by rfl) (by assumption) ?_
          try simp only [Act.put, sl1, sl2, sl3]
          refine takeF 8 rfl (by kernel_rfl) (by kernel_rfl) (by kernel_rfl) (fun _ _ _ h => h) (by rfl) (by assumption) ?_
          try simp only [Act.put, sl1, sl2, sl3]
          refine takeF 9 rfl (by kernel_rfl) (by kernel_rfl) (by kernel_rfl) (fun _ _ _ h => h) (by rfl) (by assumption) ?_
          try simp only [Act.put, sl1, sl2, sl3]
          refine takeF 10 rfl (by kernel_rfl) (by kernel_rfl) (by kernel_rfl) (fun _ _ _ h => h) (by rfl) (by assumption) ?_
          try simp only [Act.put, sl1, sl2, sl3]
          refine takeF 11 rfl (by kernel_rfl) (by kernel_rfl) (by kernel_rfl) (fun _ _ _ h => h) (by rfl) (by assumption) ?_
          try simp only [Act.put, sl1, sl2, sl3]
          refine takeF 12 rfl (by kernel_rfl) (by kernel_rfl) (by kernel_rfl) (fun _ _ _ h => h) (by rfl) (by assumption) ?_
          try simp only [Act.put, sl1, sl2, sl3]
          refine takeF 13 rfl (by kernel_rfl) (by kernel_rfl) (by kernel_rfl) (fun _ _ _ h => h) (by rfl) (by assumption) ?_
          try simp only [Act.put, sl1, sl2, sl3]
          refine takeF 14 rfl (by kernel_rfl) (by kernel_rfl) (by kernel_rfl) (fun _ _ _ h => h) (by rfl) (by assumption) ?_
          try simp only [Act.put, sl1, sl2, sl3]
          refine takeF 15 rfl (by kernel_rfl) (by kernel_rfl) (by kernel_rfl) (fun _ _ _ h => h) (by rfl) (by assumption) ?_
          try simp only [Act.put, sl1, sl2, sl3]
          refine takeF 16 rfl (by kernel_rfl) (by kernel_rfl) (by kernel_rfl) (fun _ _ _ h => h) (by rfl) (by assumption) ?_
          try simp only [Act.put, sl1, sl2, sl3]
          refine takeF 17 rfl (by kernel_rfl) (by kernel_rfl) (by kernel_rfl) (fun _ _ _ h => h) (by rfl) (by assumption) ?_
          try simp only [Act.put, sl1, sl2, sl3]
          refine takeF 18 rfl (by kernel_rfl) (by kernel_rfl) (by kernel_rfl) (fun _ _ _ h => h) (by rfl) (by assumption) ?_
          try simp only [Act.put, sl1, sl2, sl3]
          refine takeF 19 rfl (by kernel_rfl) (by kernel_rfl) (by kernel_rfl) (fun _ _ _ h => h) (by rfl) (by assumption) ?_
          try simp only [Act.put, sl1, sl2, sl3]
          refine takeF 20 rfl (by kernel_rfl) (by kernel_rfl) (by kernel_rfl) (fun _ _ _ h => h) (by rfl) (by assumption) ?_
          try simp only [Act.put, sl1, sl2, sl3]
          refine takeF 21 rfl (by kernel_rfl) (by kernel_rfl) (by kernel_rfl) (fun _ _ _ h => h) (by rfl) (by assumption) ?_
          try simp only [Act.put, sl1, sl2, sl3]
          refine takeT 22 ?_ rfl (by kernel_rfl) (by kernel_rfl) (by kernel_rfl) (fun _ _ _ h => h) (by rfl) ?_ (by assumption) ?_
          rotate_left
          ·(intro w hSw; (try dsimp only at hSw); go_simp; (try with_reducible rfl))
          try simp only [Act.put, sl1, sl2, sl3]
          refine takeT 23 ?_ rfl (by kernel_rfl) (by kernel_rfl) (by kernel_rfl) (fun _ _ _ h => h) (by rfl) ?_ (by assumption) ?_
          rotate_left
          ·(intro w hSw; (try dsimp only at hSw); go_simp; (try with_reducible rfl))
          try simp only [Act.put, sl1, sl2, sl3]
          refine takeT 24 ?_ rfl (by kernel_rfl) (by kernel_rfl) (by kernel_rfl) (fun _ _ _ h => h) (by rfl) ?_ (by assumption) ?_
          rotate_left
          ·(intro w hSw; (try dsimp only at hSw); go_simp; (try with_reducible rfl))
          try simp only [Act.put, sl1, sl2, sl3]
          refine takeT 25 ?_ rfl (by kernel_rfl) (by kernel_rfl) (by kernel_rfl) (fun _ _ _ h => h) (by rfl) ?_ (by assumption) ?_
          rotate_left
          ·(intro w hSw; (try dsimp only at hSw); go_simp; (try with_reducible rfl))
          try simp only [Act.put, sl1, sl2, sl3]
          refine takeT 26 ?_ rfl (by kernel_rfl) (by kernel_rfl) (by kernel_rfl) (fun _ _ _ h => h) (by rfl) ?_ (by assumption) ?_
          rotate_left
          ·(intro w hSw; (try dsimp only at hSw); go_simp; (try with_reducible rfl))
          try simp only [Act.put, sl1, sl2, sl3]
          refine takeT 27 ?_ rfl (by kernel_rfl) (by kernel_rfl) (by kernel_rfl) (fun _ _ _ h => h) (by rfl) ?_ (by assumption) ?_
          rotate_left
          ·(intro w hSw; (try dsimp only at hSw); go_simp; (try with_reducible rfl))
          try simp only [Act.put, sl1, sl2, sl3]
          refine takeT 28 ?_ rfl (by kernel_rfl) (by kernel_rfl) (by kernel_rfl) (fun _ _ _ h => h) (by rfl) ?_ (by assumption) ?_
          rotate_left
          ·(intro w hSw; (try dsimp only at hSw); go_simp; (try with_reducible rfl))
          try simp only [Act.put, sl1, sl2, sl3]
          refine takeT 29 ?_ rfl (by kernel_rfl) (by kernel_rfl) (by kernel_rfl) (fun _ _ _ h => h) (by rfl) ?_ (by assumption) ?_
          rotate_left
          ·(intro w hSw; (try dsimp only at hSw); go_simp; (try with_reducible rfl))
          try simp only [Act.put, sl1, sl2, sl3]
          refine takeT 30 ?_ rfl (by kernel_rfl) (by kernel_rfl) (by kernel_rfl) (fun _ _ _ h => h) (by rfl) ?_ (by assumption) ?_
          rotate_left
          ·(intro w hSw; (try dsimp only at hSw); go_simp; (try with_reducible rfl))
          try simp only [Act.put, sl1, sl2, sl3]
          refine takeT 31 ?_ rfl (by kernel_rfl) (by kernel_rfl) (by kernel_rfl) (fun _ _ _ h => h) (by rfl) ?_ (by assumption) ?_
          rotate_left
          ·(intro w hSw; (try dsimp only at hSw); go_simp; (try with_reducible rfl))
          try simp only [Act.put, sl1, sl2, sl3]
          refine takeT 32 ?_ rfl (by kernel_rfl) (by kernel_rfl) (by kernel_rfl) (fun _ _ _ h => h) (by rfl) ?_ (by assumption) ?_
          rotate_left
          ·(intro w hSw; (try dsimp only at hSw); go_simp; (try with_reducible rfl))
          try simp only [Act.put, sl1, sl2, sl3]
          refine takeT 33 ?_ rfl (by kernel_rfl) (by kernel_rfl) (by kernel_rfl) (fun _ _ _ h => h) (by rfl) ?_ (by assumption) ?_
          rotate_left
          ·(intro w hSw; (try dsimp only at hSw); go_simp; (try with_reducible rfl))
          try simp only [Act.put, sl1, sl2, sl3]
          refine takeT 34 ?_ rfl (by kernel_rfl) (by kernel_rfl) (by kernel_rfl) (fun _ _ _ h => h) (by rfl) ?_ (by assumption) ?_
          rotate_left
          ·(intro w hSw; (try dsimp only at hSw); go_simp; (try with_reducible rfl))
          try simp only [Act.put, sl1, sl2, sl3]
          refine takeT 35 ?_ rfl (by kernel_rfl) (by kernel_rfl) (by kernel_rfl) (fun _ _ _ h => h) (by rfl) ?_ (by assumption) ?_
          rotate_left
          ·(intro w hSw; (try dsimp only at hSw); go_simp; (try with_reducible rfl))
          try simp only [Act.put, sl1, sl2, sl3]
          refine takeT 36 ?_ rfl (by kernel_rfl) (by kernel_rfl) (by kernel_rfl) (fun _ _ _ h => h) (by rfl) ?_ (by assumption) ?_
          rotate_left
          ·(intro w hSw; (try dsimp only at hSw); go_simp; (try with_reducible rfl))
          try simp only [Act.put, sl1, sl2, sl3]
          refine takeT 37 ?_ rfl (by kernel_rfl) (by kernel_rfl) (by kernel_rfl) (fun _ _ _ h => h) (by rfl) ?_ (by assumption) ?_
          rotate_left
          ·(intro w hSw; (try dsimp only at hSw); go_simp; (try with_reducible rfl))
          try simp only [Act.put, sl1, sl2, sl3]
          refine takeT 38 ?_ rfl (by kernel_rfl) (by kernel_rfl) (by kernel_rfl) (fun _ _ _ h => h) (by rfl) ?_ (by assumption) ?_
          rotate_left
          ·(intro w hSw; (try dsimp only at hSw); go_simp; (try with_reducible rfl))
          try simp only [Act.put, sl1, sl2, sl3]
          refine takeT 39 ?_ rfl (by kernel_rfl) (by kernel_rfl) (by kernel_rfl) (fun _ _ _ h => h) (by rfl) ?_ (by assumption) ?_
          rotate_left
          ·(intro w hSw; (try dsimp only at hSw); go_simp; (try with_reducible rfl))
          try simp only [Act.put, sl1, sl2, sl3]
          refine takeT 40 ?_ rfl (by kernel_rfl) (by kernel_rfl) (by kernel_rfl) (fun _ _ _ h => h) (by rfl) ?_ (by assumption) ?_
          rotate_left
          ·(intro w hSw; (try dsimp only at hSw); go_simp; (try with_reducible rfl))
          try simp only [Act.put, sl1, sl2, sl3]
          refine takeT 41 ?_ rfl (by kernel_rfl) (by kernel_rfl) (by kernel_rfl) (fun _ _ _ h => h) (by rfl) ?_ (by assumption) ?_
          rotate_left
          ·(intro w hSw; (try dsimp only at hSw); go_simp; (try with_reducible rfl))
          try simp only [Act.put, sl1, sl2, sl3]
          refine takeT 42 ?_ rfl (by kernel_rfl) (by kernel_rfl) (by kernel_rfl) (fun _ _ _ h => h) (by rfl) ?_ (by assumption) ?_
          rotate_left
          ·(intro w hSw; (try dsimp only at hSw); go_simp; (try with_reducible rfl))
          try simp only [Act.put, sl1, sl2, sl3]
          refine wpAnyH_done (by kernel_rfl) ?_ _
          go_wp2_with fail
          go_roundg (mlN ml - (i + 1))
          case measure => omega
          case rel => exact ⟨i + 1, by omega, Nat.le_refl _, by go_num, HBJ⟩
        ·have hki : ¬ (i : Int) < (mlN ml : Int) := by omega
         go_wp2_with fail
         go_ret
         exact ⟨rfl, HB.out.trans (HBI.out.mono HB.out.size)⟩
end Go.Proofs.YtfglcfbcdhjcdaaDoor.Q

namespace Go.Proofs.YtfglcfbcdhjcdaaDoor.Q
open Go.RowKit Go.Proofs.YtfglcfbcdhjcdaaDoorW.PrintWords Go.Proofs.YtfglcfbcdhjcdaaDoorW.PrintLast Go.Proofs.YtfglcfbcdhjcdaaDoorW.PrintMore
theorem wf_u8 {x : Int} (h : (Lit.int .u8 x).wf = true) : 0 ≤ x ∧ x ≤ 255 := by
 simp [Lit.wf, IntKind.min, IntKind.max, IntKind.bits, IntKind.signed] at h
 omega
theorem wf_u32 {x : Int} (h : (Lit.int .u32 x).wf = true) : 0 ≤ x ∧ x < 4294967296 := by
 simp [Lit.wf, IntKind.min, IntKind.max, IntKind.bits, IntKind.signed] at h
 omega
theorem fits_wf {l : List Int} (h : ∀ x ∈ l, (Lit.int .u8 x).wf = true) : mdFits l = true := by
 unfold mdFits
 rw [List.all_eq_true]
 intro x hx
 have := wf_u8 (h x hx)
 simp only [Bool.and_eq_true, decide_eq_true_eq]
 exact this
theorem wf_u16 {x : Int} (h : (Lit.int .u16 x).wf = true) : 0 ≤ x ∧ x ≤ 65535 := by
 simp [Lit.wf, IntKind.min, IntKind.max, IntKind.bits, IntKind.signed] at h
 omega
theorem mlfits_wf {l : List Int} (h : ∀ x ∈ l, (Lit.int .u16 x).wf = true) : mlFits l = true := by
 unfold mlFits
 rw [List.all_eq_true]
 intro x hx
 have := wf_u16 (h x hx)
 simp only [Bool.and_eq_true, decide_eq_true_eq]
 exact this
def IsRow0 (k : IntKind) (w : World) (a : Option Addr) (len cap : Nat) (zs : List Int) : Prop :=
 (a = none ∧ len = 0 ∧ cap = 0 ∧ zs = []) ∨
 ∃ x, a = some x ∧ len ≤ cap ∧ cap ≤ maxLen ∧ zs.length = cap ∧ (∀ i, i < zs.length → w.cell? (x.add i) = some (.int k (zs.getD i 0))) ∧ ∀ n ∈ zs, (Lit.int k n).wf = true
theorem tariffLevels.walk (w : World) (n : Int) (hn : (Lit.int .u32 n).wf = true) (s : Int) (hs : (Lit.int .u32 s).wf = true) (a2 : Option Addr) (len2 cap2 : Nat) (z2 : List Int) (w2 : IsRow0 .u8 w a2 len2 cap2 z2) (a3 : Option Addr) (len3 cap3 : Nat) (z3 : List Int) (w3 : IsRow0 .u8 w a3 len3 cap3 z3) (a4 : Option Addr) (len4 cap4 : Nat) (z4 : List Int) (w4 : IsRow0 .u8 w a4 len4 cap4 z4)
  (a6 : Option Addr) (len6 cap6 : Nat) (z6 : List Int) (w6 : IsRow0 .u16 w a6 len6 cap6 z6) :
  Calls Tryd.prog 7 #[.int .u32 n, .int .u32 s, .slice a2 len2 cap2, .slice a3 len3 cap3, .slice a4 len4 cap4, .slice a6 len6 cap6] w fun e w' => e = .returned (.bool true) ∧ Below w.heap.size w w' := by
 obtain ⟨l2, rfl, hr2, hm2, hw2, hc2⟩ := ReadsInt.ofRowC w2
 obtain ⟨l3, rfl, hr3, hm3, hw3, hc3⟩ := ReadsInt.ofRowC w3
 obtain ⟨l4, rfl, hr4, hm4, hw4, hc4⟩ := ReadsInt.ofRowC w4
 obtain ⟨l6, rfl, hr6, hm6, hw6, hc6⟩ := ReadsInt.ofRowC w6
 have h := wf_u32 hn
 have h2 := wf_u32 hs
 have hN : (n.toNat : Int) = n := by omega
 have hS : (s.toNat : Int) = s := by omega
 have hh := levelsLaw.calls0 n.toNat (by omega) s.toNat (by omega) a2 cap2 l2 (fits_wf hw2) a3 cap3 l3 (fits_wf hw3) a4 cap4 l4 (fits_wf hw4) a6 cap6 l6 (mlfits_wf hw6) w (Kd.C_of_reads (d := (0 : Int)) (h1 := fun _ => rfl) hr2) hc2 (Kd.C_of_reads (d := (0 : Int)) (h1 := fun _ => rfl) hr3) hc3 (Kd.C_of_reads (d := (0 : Int)) (h1 := fun _ => rfl) hr4) hc4 (Kd.C_of_reads (d := (0 : Int)) (h1 := fun _ => rfl) hr6) hc6
 rw [hN, hS] at hh
 exact hh
end Go.Proofs.YtfglcfbcdhjcdaaDoor.Q
namespace Go.Proofs.YtfglcfbcdhjcdaaDoor.tariffLevels
open Go.ChangeShapes Go.WideShapes Go.ChangeAt Go.RowKit
set_option linter.unusedVariables false
theorem own : ownKnob Tryd.prog.godebug = none := by kernel_rfl
theorem laidOut : laidOutB Tryd.prog = true := by kernel_rfl
def IsRow (k : IntKind) (w : World) (a : Option Addr) (len cap : Nat) (zs : List Int) : Prop :=
 (a = none ∧ len = 0 ∧ cap = 0 ∧ zs = []) ∨
 ∃ x, a = some x ∧ len ≤ cap ∧ cap ≤ maxLen ∧ zs.length = cap ∧ (∀ i, i < zs.length → w.cell? (x.add i) = some (.int k (zs.getD i 0))) ∧ ∀ n ∈ zs, (Lit.int k n).wf = true
set_option maxRecDepth 100000 in
theorem contract (H : Type) (enc : TypeId × Value → H) (W : World) (base : Nat) (args : Array Value) (ds gs : List (DataW H)) (before : List MemPlace)
  (hval0 : ∀ (j : Nat) t v, Tryd.f7.params[j]? = some t → args[j]? = some v → Value.okWide Tryd.prog W .any base t v)
  (hW : DataW.Whole enc Tryd.prog Tryd.f7.params.toList Rows.tariffLevelsSpec.vars false W args.toList ds gs before) :
  Calls Tryd.prog 7 args W fun e W' => ∃ v, e = .returned v ∧ Rows.tariffLevelsSpec.post enc Tryd.prog Tryd.f7 false true false false W args v W' := by
 have hval : ∀ (j : Nat) t v, Tryd.f7.params[j]? = some t → args[j]? = some v → Value.okWide Tryd.prog W .any base t v := hval0
 have hW' := hW
 obtain ⟨p, q, hA0, hV, rfl, hfz, hnd⟩ := hW
 have hA : DataW.TrodAll enc Tryd.prog W 0 (fun _ => true) true Tryd.f7.params.toList args.toList ds p := hA0
 rw [Tryd.params7] at hA hval
 obtain ⟨v0, vs0, d0, ds0, p0, q0, hargs, rfl, rfl, h0, r0⟩ := trodAll_cons hA
 obtain ⟨v1, vs1, d1, ds1, p1, q1, rfl, rfl, rfl, h1, r1⟩ := trodAll_cons r0
 obtain ⟨v2, vs2, d2, ds2, p2, q2, rfl, rfl, rfl, h2, r2⟩ := trodAll_cons r1
 obtain ⟨v3, vs3, d3, ds3, p3, q3, rfl, rfl, rfl, h3, r3⟩ := trodAll_cons r2
 obtain ⟨v4, vs4, d4, ds4, p4, q4, rfl, rfl, rfl, h4, r4⟩ := trodAll_cons r3
 obtain ⟨v5, vs5, d5, ds5, p5, q5, rfl, rfl, rfl, h5, r5⟩ := trodAll_cons r4
 obtain ⟨rfl, rfl, rfl⟩ := trodAll_nil r5
 obtain rfl : args = #[v0, v1, v2, v3, v4, v5] := by cases args; simp_all
 obtain ⟨rfl, rfl⟩ := trodVars_none hV
 have k0 := h0
 have k1 := h1
 have k2 := h2
 have k3 := h3
 have k4 := h4
 have k5 := h5
 have lt2 : ∀ x ∈ p2, x.block < W.heap.size := by obtain ⟨m, hm⟩ := k2; exact DataW.trod_lt m _ _ _ hm
 have lt3 : ∀ x ∈ p3, x.block < W.heap.size := by obtain ⟨m, hm⟩ := k3; exact DataW.trod_lt m _ _ _ hm
 have lt4 : ∀ x ∈ p4, x.block < W.heap.size := by obtain ⟨m, hm⟩ := k4; exact DataW.trod_lt m _ _ _ hm
 have lt5 : ∀ x ∈ p5, x.block < W.heap.size := by obtain ⟨m, hm⟩ := k5; exact DataW.trod_lt m _ _ _ hm
 obtain ⟨n0, rfl, rfl, rfl, hw0⟩ := open_int Tryd.underlying28 (hval 0 28 v0 rfl rfl) h0
 obtain ⟨n1, rfl, rfl, rfl, hw1⟩ := open_int Tryd.underlying28 (hval 1 28 v1 rfl rfl) h1
 obtain ⟨a2, len2, cap2, rfl⟩ := okWide_slice Tryd.underlying29 (hval 2 29 v2 rfl rfl)
 obtain ⟨a3, len3, cap3, rfl⟩ := okWide_slice Tryd.underlying29 (hval 3 29 v3 rfl rfl)
 obtain ⟨a4, len4, cap4, rfl⟩ := okWide_slice Tryd.underlying29 (hval 4 29 v4 rfl rfl)
 obtain ⟨a5, len5, cap5, rfl⟩ := okWide_slice Tryd.underlying30 (hval 5 30 v5 rfl rfl)
 obtain ⟨z2, w2⟩ : ∃ zs, IsRow .u8 W a2 len2 cap2 zs := by
  obtain ⟨fuel, hf⟩ := h2
  rcases open_ints Tryd.underlying29 Tryd.underlying5 (by kernel_rfl) hf with ⟨hcs, _⟩ | ⟨x, l, c, zs, hcs, _, hl, hm, hz, _, hcell, hwz⟩
  ·simp [Value.cells] at hcs
   obtain ⟨rfl, rfl, rfl⟩ := hcs
   exact ⟨[], .inl ⟨rfl, rfl, rfl, rfl⟩⟩
  ·simp [Value.cells] at hcs
   obtain ⟨rfl, rfl, rfl⟩ := hcs
   exact ⟨zs, .inr ⟨_, rfl, hl, hm, by simpa using hz, hcell, hwz⟩⟩
 obtain ⟨z3, w3⟩ : ∃ zs, IsRow .u8 W a3 len3 cap3 zs := by
  obtain ⟨fuel, hf⟩ := h3
  rcases open_ints Tryd.underlying29 Tryd.underlying5 (by kernel_rfl) hf with ⟨hcs, _⟩ | ⟨x, l, c, zs, hcs, _, hl, hm, hz, _, hcell, hwz⟩
  ·simp [Value.cells] at hcs
   obtain ⟨rfl, rfl, rfl⟩ := hcs
   exact ⟨[], .inl ⟨rfl, rfl, rfl, rfl⟩⟩
  ·simp [Value.cells] at hcs
   obtain ⟨rfl, rfl, rfl⟩ := hcs
   exact ⟨zs, .inr ⟨_, rfl, hl, hm, by simpa using hz, hcell, hwz⟩⟩
 obtain ⟨z4, w4⟩ : ∃ zs, IsRow .u8 W a4 len4 cap4 zs := by
  obtain ⟨fuel, hf⟩ := h4
  rcases open_ints Tryd.underlying29 Tryd.underlying5 (by kernel_rfl) hf with ⟨hcs, _⟩ | ⟨x, l, c, zs, hcs, _, hl, hm, hz, _, hcell, hwz⟩
  ·simp [Value.cells] at hcs
   obtain ⟨rfl, rfl, rfl⟩ := hcs
   exact ⟨[], .inl ⟨rfl, rfl, rfl, rfl⟩⟩
  ·simp [Value.cells] at hcs
   obtain ⟨rfl, rfl, rfl⟩ := hcs
   exact ⟨zs, .inr ⟨_, rfl, hl, hm, by simpa using hz, hcell, hwz⟩⟩
 obtain ⟨z5, w5⟩ : ∃ zs, IsRow .u16 W a5 len5 cap5 zs := by
  obtain ⟨fuel, hf⟩ := h5
  rcases open_ints Tryd.underlying30 Tryd.underlying72 (by kernel_rfl) hf with ⟨hcs, _⟩ | ⟨x, l, c, zs, hcs, _, hl, hm, hz, _, hcell, hwz⟩
  ·simp [Value.cells] at hcs
   obtain ⟨rfl, rfl, rfl⟩ := hcs
   exact ⟨[], .inl ⟨rfl, rfl, rfl, rfl⟩⟩
  ·simp [Value.cells] at hcs
   obtain ⟨rfl, rfl, rfl⟩ := hcs
   exact ⟨zs, .inr ⟨_, rfl, hl, hm, by simpa using hz, hcell, hwz⟩⟩
 clear hA0 hval0
 refine (Q.tariffLevels.walk W n0 hw0 n1 hw1 a2 len2 cap2 z2 w2 a3 len3 cap3 z3 w3 a4 len4 cap4 z4 w4 a5 len5 cap5 z5 w5).mono fun e W' ⟨he, bel⟩ => ?_
 subst he
 exact ⟨_, rfl, _, _, _, [], _, [], hW', trodAll_mk1 (shut_bool Tryd.underlying4 _), (trodAll_cons_mk (shut_int Tryd.underlying28 hw0) (trodAll_cons_mk (shut_int Tryd.underlying28 hw1) (trodAll_cons_mk (Below.trod laidOut (by kernel_rfl) (of_decide_eq_true (by kernel_rfl)) k2 bel lt2) (trodAll_cons_mk (Below.trod laidOut (by kernel_rfl) (of_decide_eq_true (by kernel_rfl)) k3 bel lt3) (trodAll_cons_mk (Below.trod laidOut (by kernel_rfl) (of_decide_eq_true (by kernel_rfl)) k4 bel lt4) (trodAll_cons_mk (Below.trod laidOut (by kernel_rfl) (of_decide_eq_true (by kernel_rfl)) k5 bel lt5) trodAll_mk0)))))), rfl, bel.frame _, fun h => by cases h⟩
def putBytes (l : List Nat) : Obj → Obj
 | .cells _ t frozen => .cells (l.map fun (n : Nat) => Value.int .u8 n).toArray t frozen
 | o => o
noncomputable def laidWorld (os : Os) : World :=
 { World.holding Tryd.prog os ⟨#[], #[], []⟩ with heap := ((World.holding Tryd.prog os ⟨#[], #[], []⟩).heap.modify 0 (putBytes Go.Pinned.utf8FirstZ)).modify 1 (putBytes [128, 191, 160, 191, 128, 159, 144, 191, 128, 143, 0, 0, 0, 0, 0, 0, 0, 0, 0, 0, 0, 0, 0, 0, 0, 0, 0, 0, 0, 0, 0, 0]) }
noncomputable def wargs : Array Value := #[.int .u32 0, .int .u32 0, .slice none 0 0, .slice none 0 0, .slice none 0 0, .slice none 0 0]
theorem laid_met (os : Os) : laidMet Tryd.prog Rows.tariffLevelsRow.laid ((laidWorld os).forCall (fun _ _ => 0) ⟨#[], wargs, []⟩).memory :=
 laidMet_of_run' 8 (by kernel_rfl) (by kernel_rfl)
theorem reads (os : Os) {H : Type} (enc : TypeId × Value → H) : ∃ places, DataW.whole enc Tryd.prog ((laidWorld os).forCall (fun _ _ => 0) ⟨#[], wargs, []⟩).memory Tryd.f7.params.toList Rows.tariffLevelsSpec.vars false wargs.toList 8 = some ([.lit (.int .u32 0), .lit (.int .u32 0), .nil, .nil, .nil, .nil], [], places) :=
 ⟨[], by kernel_rfl⟩
set_option maxRecDepth 100000 in
theorem lifted (os : Os) (started : os.Started) (H : Type) (enc : TypeId × Value → H) (F : Stop.Interp) :
  ReturnsInHanded {} Tryd.checked os 7 .any ((OpenSpec.ofChange Rows.tariffLevelsSpec).preRow enc Tryd.prog Tryd.f7 Rows.tariffLevelsRow.domain false Rows.tariffLevelsRow.laid) (((OpenSpec.ofChange Rows.tariffLevelsSpec).at F).post enc Tryd.prog Tryd.f7 false true false false) := by
 obtain ⟨places, hx⟩ := reads os enc
 refine returnsInHanded_of_row (C := Tryd.checked) (s := OpenSpec.ofChange Rows.tariffLevelsSpec) own started (by kernel_rfl) Tryd.func7
  (witness_row_at (enc := enc) (C := Tryd.checked) false (laidWorld os) wargs rfl (by kernel_rfl) (by kernel_rfl) (by kernel_rfl)
   (OpenSpec.preRow_of_cond 8 hx (by kernel_rfl) (fun k hk => by cases hk) (by kernel_rfl) (laid_met os))) ?_
 intro W base args ds gs before hval hW _ _ _ hL _ _
 exact contract H enc W base args ds gs before hval hW
theorem said : Rows.TariffLevelsSaid :=
 OpenClaim.holds_of_cond 7 Tryd.f7 rfl rfl rfl rfl rfl rfl rfl ⟨rfl, rfl, rfl, rfl, rfl⟩ rfl rfl rfl rfl rfl (by kernel_rfl) Tryd.func7 (by kernel_rfl)
  (of_decide_eq_true (by kernel_rfl)) (by unfold Func.isWrapper; first | (rw [if_pos (by decide +kernel)]; kernel_rfl) | (rw [if_neg (by decide +kernel)]; exact ⟨rfl, rfl⟩))
  (fun os started H enc _ F => by rw [OpenClaim.pre_eq_preRow]; exact lifted os started H enc F)
theorem plain (f : FuncId) (fn : Func) (hf : Tryd.pinned.checked.prog.funcNamed "letterbag/letterbaglaw24.TariffLevels" = some f) (hfn : Tryd.pinned.checked.prog.funcs[f]? = some fn) :
  false = Tryd.pinned.checked.prog.looks [] ∧ ∀ (j : Nat) t, fn.params[j]? = some t → Tryd.pinned.checked.prog.wantsStandIn t = false := by
 obtain rfl : f = 7 := Option.some.inj ((show Tryd.prog.funcNamed "letterbag/letterbaglaw24.TariffLevels" = some 7 by kernel_rfl).symm.trans hf) |>.symm
 obtain rfl : fn = Tryd.f7 := (Option.some.inj (Tryd.func7.symm.trans hfn)).symm
 refine ⟨by kernel_rfl, fun j t ht => ?_⟩
 rw [Tryd.params7] at ht
 have hm : t ∈ [28, 28, 29, 29, 29, 30] := by simpa using Array.mem_of_getElem? ht
 have hall : ([28, 28, 29, 29, 29, 30].all fun u => !Tryd.prog.wantsStandIn u) = true := by kernel_rfl
 exact (show Tryd.prog.wantsStandIn t = false by simpa using List.all_eq_true.1 hall t hm)
theorem card : Rows.TariffLevelsCardSaid :=
 Claim7.holds_tied_plain_at .later [] _ _ _ _ said (fun _ h => by cases h) (by kernel_rfl) (fun _ h => by cases h) tariffLevels_row_tie rfl ⟨rfl, rfl⟩ (by kernel_rfl) rfl plain (by kernel_rfl)
#print axioms card
end Go.Proofs.YtfglcfbcdhjcdaaDoor.tariffLevels
namespace Go.Proofs.YtfglcfbcdhjcdaaDoor
theorem tariffLevels_card : Rows.TariffLevelsCardSaid := tariffLevels.card
end Go.Proofs.YtfglcfbcdhjcdaaDoor
