/- For every input letterbaglaw24's law returns true and leaves its arguments as they were; the card of this row. Conditions: none but those of the statement. -/
import Derived.Below
import Derived.Deep.Draws
import Derived.Deep.AppendLies
import Derived.Maps.AppendAt
import Derived.OwnWalk
import Derived.Laws.BytesArg
import Derived.Laws.MakeOwn
import Derived.Laws.OwnMore
import Derived.Deep.OwnRows
import Derived.Tactics
import Derived.Lib.ConvBytes
import Derived.Laws.Slices
import Derived.WalkKit
import Derived.KernelRfl
import Derived.RowKit3
import Derived.Deep.LoopGhost
import Derived.Deep.QuietTactic
import Derived.BigQuiet
import Derived.WideLaws
import Derived.Deep.DeepCutAuto
import Derived.Deep.CutBlock
import Derived.Deep.RegionHeld3
import Derived.Laws.Rows
import Derived.Lib.AppendStr
import Derived.ArgAppend
import Derived.Laws.IdiomCopy
import Derived.RowKit
import Derived.Test.YtfglcfbcdhjcdaaDoorProg
import Derived.OrdersHeld
import Derived.Laws.BitsLemmas
import Derived.Test.YtfglcfbcdhjcdaaDoorCards
import Derived.Test.YtfglcfbcdhjcdaaDoorTie
import Derived.ProofKit
import Derived.OpenShut
import Derived.ShutString
import Derived.ChangeOld
import Derived.SizedLaws
import Derived.Deep.DeepHandedRow
import Derived.Lib.LaidTab
import Derived.Test.YtfglcfbcdhjcdaaDoorA0
import Derived.Test.YtfglcfbcdhjcdaaDoorA1
import Derived.Test.YtfglcfbcdhjcdaaDoorA2
import Derived.Test.YtfglcfbcdhjcdaaDoorA3
import Derived.Test.YtfglcfbcdhjcdaaDoorA4
set_option linter.unusedVariables false
set_option linter.unusedSimpArgs false
namespace Go.Proofs.YtfglcfbcdhjcdaaDoorW.PrintWords
open Go.RowKit
theorem ReadsRow.inner_ {α : Type} {R : α → List Value → Prop} {size : Nat} {w : World} {ad : Addr} {n : Nat} {ps : List α} (h : ReadsRow R size w (some ad) n ps) :
  ∃ inner, Reps R size ps inner ∧ ∀ j u, inner[j]? = some u → w.cell? (ad.add j) = some u := by
 have key : ∀ m, m ≤ ps.length → ∃ inner, Reps R size (ps.take m) inner ∧ ∀ j u, inner[j]? = some u → w.cell? (ad.add j) = some u := by
  intro m
  induction m with
  | zero => exact fun _ => ⟨[], Reps.none _ _, fun j u hu => by simp at hu⟩
  | succ m ih =>
   intro hm
   obtain ⟨inner, hr, hc⟩ := ih (by omega)
   obtain ⟨ad', he, hcell⟩ := h.2.2 (by have := h.1; omega)
   injection he with he
   subst he
   obtain ⟨c, hcl, hp, hcc⟩ := hcell m _ (List.getElem?_eq_getElem (show m < ps.length by omega))
   refine ⟨inner ++ c, ?_, fun j u hu => ?_⟩
   ·rw [List.take_succ_eq_append_getElem (show m < ps.length by omega)]
    exact hr.snoc hp hcl
   ·have hil : inner.length = m * size := by rw [hr.1, List.length_take, Nat.min_eq_left (by omega)]
    rcases Nat.lt_or_ge j inner.length with hj | hj
    ·rw [List.getElem?_append_left hj] at hu
     exact hc j u hu
    ·rw [List.getElem?_append_right hj] at hu
     have := hcc (j - inner.length) u hu
     rwa [hil, Nat.add_sub_cancel' (by omega)] at this
 obtain ⟨inner, hr, hc⟩ := key ps.length (Nat.le_refl _)
 rw [List.take_length] at hr
 exact ⟨inner, hr, hc⟩
namespace Kd
theorem R_after {α : Type} {d : Kd α} {e base : Nat} {ok : Nat → Prop} {W w1 : World} {u v v1 : Value} {xs : List α} (h : d.R e W base (fun k => ok k ∧ some k ≠ v.ownBlock) u xs) (hg : W.grownBy w1 v.ownBlock) (hat : v1.ownBlock = v.ownBlock ∨ ∃ b, v1.ownBlock = some b ∧ W.heap.size ≤ b) : d.R e w1 base (fun k => ok k ∧ some k ≠ v1.ownBlock) u xs := by
 refine R_mono (R_move (R_bound h) (fun k hk => hg.block k hk.2.2.1 hk.1.2)) (fun k hk => ⟨hk.1.1, ?_⟩)
 rcases hat with hat | ⟨b, hb, hle⟩
 ·rw [hat]; exact hk.1.2
 ·rw [hb]
  intro he
  injection he with he
  have := hk.2.2.1
  omega
end Kd
namespace Kd
section
variable {α β : Type} {d : Kd α} {d' : Kd β} {e e' : Nat} {w w1 W : World} {base b b' : Nat} {ok ok' okv oku : Nat → Prop} {v u : Value} {xs : List α} {ys : List β}
theorem R_away (h : d.R e w base ok v xs) {g : Nat} (hok : ∀ k, ok k → k ≠ g) : some g ≠ v.ownBlock := fun e => hok g (h.1 g e.symm) rfl
end
end Kd
section
variable {w w1 : World} {base n size : Nat} {e : TypeId} {v : Value} {xs : List Value}
theorem setCells_far {g : Nat} : ∀ (vs : List Value) (o : Nat) {w : World} (k : Nat), k ≠ g → (w.setCells g o vs).heap[k]? = w.heap[k]?
 | [], _, _, _, _ => rfl
 | v :: r, o, w, k, hk => by
  rw [World.setCells, setCells_far r (o + 1) k hk]
  exact Below.heap_setCell w ⟨g, o, none⟩ v k hk
theorem setCells_same (g : Nat) : ∀ (vs : List Value) (o : Nat) (w : World), (w.setCells g o vs).os = w.os ∧ (w.setCells g o vs).tape = w.tape ∧ (w.setCells g o vs).output = w.output ∧ (w.setCells g o vs).heap.size = w.heap.size
 | [], _, _ => ⟨rfl, rfl, rfl, rfl⟩
 | v :: r, o, w => by
  obtain ⟨h1, h2, h3, h4⟩ := setCells_same g r (o + 1) (w.setCell ⟨g, o, none⟩ v)
  rw [World.setCells]
  exact ⟨h1, h2, h3, by rw [h4]; simp [World.setCell]⟩
theorem setCells_row {g : Nat} {e : TypeId} : ∀ (vs : List Value) (o : Nat) (w : World) (cur : Array Value), w.heap[g]? = some (.cells cur e (0, 0)) → o + vs.length ≤ cur.size →
  ∃ cur', (w.setCells g o vs).heap[g]? = some (.cells cur' e (0, 0)) ∧ cur'.size = cur.size ∧ cur'.toList = cur.toList.take o ++ vs ++ cur.toList.drop (o + vs.length)
 | [], o, w, cur, h, _ => ⟨cur, h, rfl, by simp⟩
 | v :: r, o, w, cur, h, hl => by
  have h2 := blk_set h o v
  simp only [List.length_cons] at hl
  obtain ⟨cur', h3, h4, h5⟩ := setCells_row r (o + 1) (w.setCell ⟨g, o, none⟩ v) _ h2 (by simp; omega)
  refine ⟨cur', h3, by rw [h4]; simp, ?_⟩
  rw [h5, Array.toList_setIfInBounds]
  have ho : o < cur.toList.length := by rw [Array.length_toList]; omega
  rw [List.take_set, List.drop_set_of_lt (by omega)]
  simp only [List.length_cons]
  rw [show o + 1 + r.length = o + (r.length + 1) by omega]
  congr 1
  rw [List.take_succ_eq_append_getElem ho, List.set_append_right _ _ (by rw [List.length_take]; omega)]
  have ho' : o < cur.size := by omega
  simp [Nat.min_eq_left (Nat.le_of_lt ho')]
end
namespace Kd
section
variable {α : Type} {d : Kd α} {e e' : Nat} {w w1 W : World} {base : Nat} {ok : Nat → Prop} {u v : Value} {xs : List α}
theorem R_apart' (h : d.R e W base ok u xs) (hty : ∀ k, v.ownBlock = some k → ∃ cells, W.heap[k]? = some (.cells cells e' (0, 0))) (ht : ∀ q, q ∈ e :: d.E → q ≠ e') : d.R e W base (fun k => ok k ∧ some k ≠ v.ownBlock) u xs := by
 refine R_mono (R_bound h) (fun k hk => ⟨hk.1, fun he => ?_⟩)
 obtain ⟨_, _, _, q, hq, cells, hc⟩ := hk
 obtain ⟨cells', hc'⟩ := hty k he.symm
 rw [hc] at hc'
 injection hc' with hc'
 injection hc' with _ hc'
 exact ht q hq hc'
end
end Kd
theorem seg_get {α : Type} (a seg : List α) (o : Nat) (h : o + seg.length ≤ a.length) (q : Nat) :
  (a.take o ++ seg ++ a.drop (o + seg.length))[q]? = if q < o then a[q]? else if q < o + seg.length then seg[q - o]? else a[q]? := by
 have hl : (a.take o).length = o := by rw [List.length_take]; omega
 rw [List.append_assoc]
 by_cases h1 : q < o
 ·rw [if_pos h1, List.getElem?_append_left (by omega), List.getElem?_take, if_pos h1]
 ·rw [if_neg h1, List.getElem?_append_right (by omega), hl]
  by_cases h2 : q < o + seg.length
  ·rw [if_pos h2, List.getElem?_append_left (by omega)]
  ·rw [if_neg h2, List.getElem?_append_right (by omega), List.getElem?_drop]
   congr 1
   omega
namespace Kd
section
variable {α : Type} {d : Kd α} {e base g n cap : Nat} {ok okp : Nat → Prop} {W : World} {xs : List α}
theorem R_elem (h : d.R e W base ok (.slice (some ⟨g, 0, none⟩) n cap) xs) (z : α) (i : Int) (h0 : 0 ≤ i) (h1 : i < n) :
  ∃ c, c.length = d.sz ∧ d.M W base (fun k => ok k ∧ k ≠ g) (xs.getD i.toNat z) c ∧ (∀ j u, c[j]? = some u → W.cell? ⟨g, i.toNat * d.sz + j, none⟩ = some u) ∧ ∀ j, W.frozen? ⟨g, i.toNat * d.sz + j, none⟩ = false := by
 obtain ⟨hn, hnc, hC⟩ := R_reads' h
 obtain ⟨_, inner, ho, hr⟩ := h
 have hil : i.toNat < xs.length := by omega
 have hseg : i.toNat * d.sz + d.sz ≤ inner.length := by rw [hr.1, ← Nat.succ_mul]; exact Nat.mul_le_mul_right _ hil
 have hM := hr.2 i.toNat _ (List.getElem?_eq_getElem hil)
 refine ⟨(inner.drop (i.toNat * d.sz)).take d.sz, by rw [List.length_take, List.length_drop]; omega, ?_, fun j u hu => ?_, fun j => ?_⟩
 ·rw [List.getD_eq_getElem?_getD, List.getElem?_eq_getElem hil]
  exact d.M_mono (fun k hk => ⟨hk.1, fun he => hk.2 (by rw [he]; simp [Value.ownBlock])⟩) hM
 ·rw [List.getElem?_take] at hu
  split at hu
  ·rw [List.getElem?_drop] at hu
   have := ho.cells (g := g) (by simp [Value.ownBlock]) _ u hu
   rwa [add_plain] at this
  ·cases hu
 ·obtain ⟨cells, hc⟩ := own_typed ho g (by simp [Value.ownBlock])
  exact blk_frozen hc _
theorem R_seg (h : d.R e W base ok (.slice (some ⟨g, 0, none⟩) n cap) xs) (i : Int) (h0 : 0 ≤ i) (h1 : i < n) {c seg : List Value} {j : Nat} (hcl : c.length = d.sz) (hcc : ∀ j u, c[j]? = some u → W.cell? ⟨g, i.toNat * d.sz + j, none⟩ = some u)
  (hj : j + seg.length ≤ d.sz) {x' : α} (hM : d.M W base okp x' (c.take j ++ seg ++ c.drop (j + seg.length))) (hokp : ∀ k, okp k → ok k ∧ k ≠ g) :
  d.R e (W.setCells g (i.toNat * d.sz + j) seg) base ok (.slice (some ⟨g, 0, none⟩) n cap) (xs.set i.toNat x') ∧ W.grownBy (W.setCells g (i.toNat * d.sz + j) seg) (some g) := by
 obtain ⟨hn, hnc, _⟩ := R_reads' h
 obtain ⟨hok, inner, ho, hr⟩ := h
 have hil : i.toNat < xs.length := by omega
 have hseg : i.toNat * d.sz + d.sz ≤ inner.length := by rw [hr.1, ← Nat.succ_mul]; exact Nat.mul_le_mul_right _ hil
 have hin : inner.length = n * d.sz := by rw [hr.1, hn]
 obtain ⟨ho1, ho2⟩ := ho
 rcases ho2 with ⟨hv, _⟩ | ⟨g', cap', cur, hv, hb, hh, hnc', hcm, hcs, ht⟩
 ·cases hv
 injection hv with ha _ hc
 injection ha with ha
 injection ha with hg
 subst hg; subst hc
 have hfit : i.toNat * d.sz + j + seg.length ≤ cur.size := by
  have : n * d.sz ≤ cap * d.sz := Nat.mul_le_mul_right _ hnc
  omega
 obtain ⟨cur', h3, h4, h5⟩ := setCells_row seg (i.toNat * d.sz + j) W cur hh hfit
 obtain ⟨s1, s2, s3, s4⟩ := setCells_same g seg (i.toNat * d.sz + j) W
 have hfar : ∀ k, k ≠ g → (W.setCells g (i.toNat * d.sz + j) seg).heap[k]? = W.heap[k]? := fun k hk => setCells_far seg _ k hk

 have hcin : ∀ q, q < d.sz → c[q]? = inner[i.toNat * d.sz + q]? := by
  intro q hq
  have hq' : q < c.length := by omega
  have h6 := hcc q _ (List.getElem?_eq_getElem hq')
  rw [cell_of_row W g _ cur e (0, 0) hh] at h6
  rw [List.getElem?_eq_getElem hq', ← h6, ← ht, List.getElem?_take, if_pos (by rw [← hn]; omega), Array.getElem?_toList]
 refine ⟨⟨hok, inner.take (i.toNat * d.sz + j) ++ seg ++ inner.drop (i.toNat * d.sz + j + seg.length), ⟨?_, .inr ⟨g, cap, cur', by rw [List.length_set, hn], hb, h3, by rw [List.length_set, ← hn]; exact hnc, hcm, by rw [h4, hcs], ?_⟩⟩, ?_⟩,
  ⟨s1, s2, s3, by rw [s4]; exact Nat.le_refl _, fun k _ hk => hfar k (fun he => hk (by rw [he]))⟩⟩
 ·rw [List.length_set]
  simp only [List.length_append, List.length_take, List.length_drop]
  rw [hr.1] at hseg ⊢
  omega
 ·rw [List.length_set, ← hn]
  apply List.ext_getElem?
  intro q
  rw [List.getElem?_take, h5]
  rw [seg_get cur.toList seg (i.toNat * d.sz + j) (by rw [Array.length_toList]; omega) q, seg_get inner seg (i.toNat * d.sz + j) (by omega) q]
  have hcur : ∀ q, q < n * d.sz → cur.toList[q]? = inner[q]? := by
   intro q hq
   rw [← ht, List.getElem?_take, if_pos (by rw [← hn]; exact hq)]
  by_cases hq : q < n * d.sz
  ·rw [if_pos hq, hcur q hq]
  ·rw [if_neg hq, if_neg (by omega), if_neg (by omega), List.getElem?_eq_none (by omega)]
 ·refine ⟨?_, fun m p hm => ?_⟩
  ·rw [List.length_set]
   simp only [List.length_append, List.length_take, List.length_drop]
   rw [hr.1] at hseg ⊢
   omega
  ·have hml : m < xs.length := by
    have := (List.getElem?_eq_some_iff.1 hm).1
    rwa [List.length_set] at this
   have hmfit : m * d.sz + d.sz ≤ inner.length := by rw [hr.1, ← Nat.succ_mul]; exact Nat.mul_le_mul_right _ hml
   have hgo : some g = (Value.slice (some ⟨g, 0, none⟩) n cap).ownBlock := by simp [Value.ownBlock]
   by_cases hmi : m = i.toNat
   ·subst hmi
    rw [List.getElem?_set_self (by omega)] at hm
    injection hm with hm
    subst hm
    have hcells : ((inner.take (i.toNat * d.sz + j) ++ seg ++ inner.drop (i.toNat * d.sz + j + seg.length)).drop (i.toNat * d.sz)).take d.sz = c.take j ++ seg ++ c.drop (j + seg.length) := by
     apply List.ext_getElem?
     intro q
     rw [List.getElem?_take, List.getElem?_drop, seg_get inner seg _ (by omega), seg_get c seg j (by omega) q]
     by_cases hq : q < d.sz
     ·rw [if_pos hq, hcin q hq]
      by_cases hq1 : q < j
      ·rw [if_pos (by omega), if_pos hq1]
      ·rw [if_neg (by omega), if_neg hq1]
       by_cases hq2 : q < j + seg.length
       ·rw [if_pos (by omega), if_pos hq2]
        congr 1
        omega
       ·rw [if_neg (by omega), if_neg hq2]
     ·rw [if_neg hq, if_neg (by omega), if_neg (by omega), List.getElem?_eq_none (by omega)]
    rw [hcells]
    refine d.M_mono (fun k hk => ?_) (d.M_move (w1 := W.setCells g (i.toNat * d.sz + j) seg) (fun k hk => hfar k (hokp k hk).2) hM)
    exact ⟨(hokp k hk).1, fun he => (hokp k hk).2 (by rw [← hgo] at he; injection he)⟩
   ·rw [List.getElem?_set_ne (by omega)] at hm
    have hold := hr.2 m p hm
    have hcells : ((inner.take (i.toNat * d.sz + j) ++ seg ++ inner.drop (i.toNat * d.sz + j + seg.length)).drop (m * d.sz)).take d.sz = (inner.drop (m * d.sz)).take d.sz := by
     apply List.ext_getElem?
     intro q
     rw [List.getElem?_take, List.getElem?_take, List.getElem?_drop, List.getElem?_drop, seg_get inner seg _ (by omega)]
     by_cases hq : q < d.sz
     ·rw [if_pos hq, if_pos hq]
      rcases Nat.lt_or_gt_of_ne hmi with hlt | hgt
      ·have : m * d.sz + d.sz ≤ i.toNat * d.sz := by rw [← Nat.succ_mul]; exact Nat.mul_le_mul_right _ hlt
       rw [if_pos (by omega)]
      ·have : i.toNat * d.sz + d.sz ≤ m * d.sz := by rw [← Nat.succ_mul]; exact Nat.mul_le_mul_right _ hgt
       rw [if_neg (by omega), if_neg (by omega)]
     ·rw [if_neg hq, if_neg hq]
    rw [hcells]
    refine d.M_move (fun k hk => hfar k (fun he => hk.2 (by rw [he]; exact hgo))) hold
end
end Kd
namespace Kd
theorem reps_append {α : Type} {R : α → List Value → Prop} {size : Nat} {ps qs : List α} {cs ds : List Value} (h : Reps R size ps cs) (h' : Reps R size qs ds) : Reps R size (ps ++ qs) (cs ++ ds) := by
 refine ⟨by rw [List.length_append, List.length_append, h.1, h'.1, Nat.add_mul], fun j p hj => ?_⟩
 rcases Nat.lt_or_ge j ps.length with hlt | hge
 ·rw [List.getElem?_append_left hlt] at hj
  have hle : j * size + size ≤ cs.length := by rw [h.1, ← Nat.succ_mul]; exact Nat.mul_le_mul_right _ hlt
  rw [List.drop_append_of_le_length (by omega), List.take_append_of_le_length (by rw [List.length_drop]; omega)]
  exact h.2 j p hj
 ·rw [List.getElem?_append_right hge] at hj
  have h2 := h'.2 (j - ps.length) p hj
  have hle : ps.length * size ≤ j * size := Nat.mul_le_mul_right _ hge
  rw [List.drop_append, List.drop_eq_nil_of_le (by rw [h.1]; exact hle), List.nil_append, h.1, ← Nat.sub_mul]
  exact h2
section
variable {P : Program} {ops : Array Oper} {rest : List Oper} {o : Oper} {a : Act} {Q : Exit → Act → World → Prop} {α : Type}
theorem R_append_rows (d : Kd α) {Rr : α → List Value → Prop} {w0 W : World} (base : Nat) (hgd : o.guard = none) (s x : Operand) (t e : TypeId) (z : Value) (bytes : Nat)
  (ho : o.op = .call { callee := .builtin .append, args := #[s, x], argTypes := #[t, t] })
  (ht : P.underlying t = some (.slice e)) (hinfo : (P.info? e).map (fun i => (i.zero, i.size, i.bytes)) = some (some z, d.sz, bytes)) (hz : z.cells.size = d.sz) (hs0 : 0 < d.sz) (hb0 : 0 < bytes)
  (v : Value) (xs ys : List α) (A : Option Addr) (m c : Nat) (ok okp : Nat → Prop) (hs : a.eval s = v) (hx : a.eval x = .slice A m c)
  (HO : d.R e W base ok v xs) (HR : ReadsRow Rr d.sz W A m ys) (hKM : ∀ x cs, Rr x cs → d.M W base okp x cs) (hokp : ∀ k, okp k → ok k ∧ some k ≠ v.ownBlock) (hfresh : ∀ k, W.heap.size ≤ k → ok k)
  (HB : Below base w0 W) (hbase : base ≤ W.heap.size) (hl : (xs.length + m) * bytes ≤ 140737488355328)
  (h : ∀ v1 w1, d.R e w1 base ok v1 (xs ++ ys) → Below base w0 w1 → W.grownBy w1 v.ownBlock → (v1.ownBlock = v.ownBlock ∨ ∃ b, v1.ownBlock = some b ∧ W.heap.size ≤ b) → wpList P ops Q rest (a.put o.dst v1) w1) :
  wpList P ops Q (o :: rest) a W := by
 obtain ⟨i0, hi, hzz⟩ := Option.map_eq_some_iff.1 hinfo
 simp only [Prod.mk.injEq] at hzz
 obtain ⟨hz0, hz1, hz2⟩ := hzz
 have hm : ys.length = m := HR.1
 have hlen : xs.length + m ≤ 140737488355328 := Nat.le_trans (Nat.le_mul_of_pos_right _ hb0) hl
 obtain ⟨hok, inner, hown, hr⟩ := HO
 have hrun : ∃ v1 w1, (Builtin.append_ #[t, t] o.type #[v, .slice A m c]).run P W = .ok v1 w1 ∧ d.R e w1 base ok v1 (xs ++ ys) ∧ W.grownBy w1 v.ownBlock ∧ (v1.ownBlock = v.ownBlock ∨ ∃ b, v1.ownBlock = some b ∧ W.heap.size ≤ b) := by
  rcases A with _ | ad
  ·have h0 : m = 0 := by
    rcases Nat.eq_zero_or_pos m with h0 | h0
    ·exact h0
    ·obtain ⟨ad, h, _⟩ := HR.2.2 h0
     cases h
   subst h0
   obtain rfl : ys = [] := List.eq_nil_of_length_eq_zero hm
   refine ⟨v, W, ?_, by rw [List.append_nil]; exact ⟨hok, inner, hown, hr⟩, World.grownBy.refl W _, .inl rfl⟩
   rcases hown.2 with ⟨rfl, hn⟩ | ⟨g, cap, cur, rfl, _, _, hnc, _⟩
   ·simp [Builtin.append_, run_underlying ht, sizeOf, typeInfo, hi, Builtin.lenOf, Builtin.firstCells]
   ·simp [Builtin.append_, run_underlying ht, sizeOf, typeInfo, hi, Builtin.lenOf, Builtin.firstCells, hnc, storeCells]
  ·obtain ⟨news, hnr, hnc⟩ := ReadsRow.inner_ HR
   have hnM : Reps (d.M W base okp) d.sz ys news := hnr.imp_ (fun p c hp => hKM p c hp)
   have hone : ∀ u ∈ news, u.oneCell' = true := by
    intro u hu
    obtain ⟨q, hq, rfl⟩ := List.mem_iff_getElem.1 hu
    have hql : q / d.sz < ys.length := by
     rw [Nat.div_lt_iff_lt_mul hs0]
     rw [← hnM.1]
     exact hq
    have hc := hnM.2 (q / d.sz) _ (List.getElem?_eq_getElem hql)
    refine d.K_one (d.K_of_M hc) _ ?_
    rw [List.mem_iff_getElem?]
    refine ⟨q % d.sz, ?_⟩
    rw [List.getElem?_take, if_pos (Nat.mod_lt _ hs0), List.getElem?_drop, Nat.mul_comm, Nat.div_add_mod, List.getElem?_eq_getElem hq]
   obtain ⟨v1, w1, hrun, h2, hg, _, hat⟩ := run_append_own_at (P := P) W base t o.type e i0 z d.sz bytes ht hi hz0 hz1 hz2 hz hs0 v xs.length inner hown ad m c news (by rw [hnM.1, hm]) hnc hone (by simp only [maxLen]; omega) hl hbase
   have hat' : v1.ownBlock = v.ownBlock ∨ ∃ b, v1.ownBlock = some b ∧ W.heap.size ≤ b := by
    rcases hat with hat | hat
    ·exact .inl hat
    ·exact .inr ⟨_, hat, Nat.le_refl _⟩
   have hne : ∀ k, some k ≠ v.ownBlock → k < W.heap.size → some k ≠ v1.ownBlock := by
    intro k hk hlt
    rcases hat' with hat | ⟨b, hb, hle⟩
    ·rw [hat]; exact hk
    ·rw [hb]
     intro he
     injection he with he
     omega
   have step : ∀ {q : α} {c : List Value} {o : Nat → Prop}, d.M W base o q c → (∀ k, o k → ok k ∧ some k ≠ v.ownBlock) → d.M w1 base (fun k => ok k ∧ some k ≠ v1.ownBlock) q c := by
    intro q c o hq ho
    have h1 := d.M_move (w1 := w1) (fun k hk => hg.block k hk.2.2.1 (ho k hk.1).2) (d.M_bound hq)
    exact d.M_mono (fun k hk => ⟨(ho k hk.1).1, hne k (ho k hk.1).2 hk.2.2.1⟩) h1
   refine ⟨v1, w1, hrun, ⟨fun k hk => ?_, inner ++ news, by rw [List.length_append, hm]; exact h2, reps_append (hr.imp_ (fun _ _ hq => step hq (fun _ hk => hk))) (hnM.imp_ (fun _ _ hq => step hq hokp))⟩, hg, hat'⟩
   rcases hat' with hat | ⟨b, hb, hle⟩
   ·exact hok k (hat ▸ hk)
   ·rw [hb] at hk
    injection hk with hk
    exact hfresh k (by omega)
 obtain ⟨v1, w1, hr1, h1, hg, hat⟩ := hrun
 refine wpList_plain hgd fun K hK => ?_
 unfold Oper.wp execOp
 simp only [ho, resolve, invoke, builtin, Sem.run_bind, Sem.run_pure, Result.andThen_ok, List.map_toArray, List.map_cons, List.map_nil, hs, hx, hr1]
 exact hK _ _ (h v1 w1 h1 (HB.grown hg hbase (own_base hown)) hg hat)
end
end Kd
theorem add_add (a : Addr) (i j : Nat) : (a.add i).add j = a.add (i + j) := by
 unfold Addr.add
 by_cases h1 : i = 0 <;> by_cases h2 : j = 0 <;> simp [h1, h2, Nat.add_assoc]
namespace Kd
section
variable {α : Type} {k : Kd α} {w : World} {A : Option Addr} {xs : List α} {m c : Nat}
theorem C_take (h : k.C w A xs.length xs) (hm : m ≤ xs.length) : k.C w A (xs.take m).length (xs.take m) := by
 have hl : (xs.take m).length = m := by rw [List.length_take]; omega
 refine ⟨rfl, by rw [hl]; have := h.2.1; omega, fun hp => ?_⟩
 obtain ⟨ad, e, hc⟩ := h.2.2 (by omega)
 refine ⟨ad, e, fun j p hj => hc j p ?_⟩
 rw [List.getElem?_take] at hj
 split at hj
 ·exact hj
 ·cases hj
theorem C_drop (h : k.C w A xs.length xs) (hm : m ≤ xs.length) (hc : xs.length ≤ c) : k.C w (if c = m then A else A.map (·.add (m * k.sz))) (xs.drop m).length (xs.drop m) := by
 have hl : (xs.drop m).length = xs.length - m := List.length_drop
 refine ⟨rfl, by rw [hl]; have := h.2.1; omega, fun hp => ?_⟩
 rw [hl] at hp
 obtain ⟨ad, rfl, hcell⟩ := h.2.2 (by omega)
 rw [if_neg (by omega)]
 refine ⟨ad.add (m * k.sz), rfl, fun j p hj => ?_⟩
 rw [List.getElem?_drop] at hj
 obtain ⟨cs, h1, h2, h3⟩ := hcell (m + j) p hj
 refine ⟨cs, h1, h2, fun i u hu => ?_⟩
 rw [add_add, show m * k.sz + (j * k.sz + i) = (m + j) * k.sz + i by rw [Nat.add_mul]; omega]
 exact h3 i u hu
end
end Kd
namespace Kd
section
variable {α : Type} {d : Kd α} {e base g : Nat} {ok : Nat → Prop} {w w1 : World} {v : Value} {xs : List α} {o : Obj}
theorem R_elderB (h : d.R e w base ok v xs) (a : Nat) (ha : w.heap.size ≤ a) : d.R e w base (fun k => ok k ∧ k ≠ a) v xs := R_mono (R_bound h) (fun k hk => ⟨hk.1, by have := hk.2.2.1; omega⟩)
end
end Kd
section
variable {P : Program} {ops : Array Oper} {o : Oper} {a : Act} {Q : Exit → Act → World → Prop} {Kc : Act → World → Prop}
namespace Kd
variable {α : Type}
theorem R_append_rows_step (d : Kd α) {Rr : α → List Value → Prop} {w0 W : World} (base : Nat) (hw : Region.wanted o (yielded ops a.tmps) = true) (s x : Operand) (t e : TypeId) (z : Value) (bytes : Nat)
  (ho : o.op = .call { callee := .builtin .append, args := #[s, x], argTypes := #[t, t] })
  (ht : P.underlying t = some (.slice e)) (hinfo : (P.info? e).map (fun i => (i.zero, i.size, i.bytes)) = some (some z, d.sz, bytes)) (hz : z.cells.size = d.sz) (hs0 : 0 < d.sz) (hb0 : 0 < bytes)
  (v : Value) (xs ys : List α) (A : Option Addr) (m c : Nat) (ok okp : Nat → Prop) (hs : a.eval s = v) (hx : a.eval x = .slice A m c)
  (HO : d.R e W base ok v xs) (HR : ReadsRow Rr d.sz W A m ys) (hKM : ∀ x cs, Rr x cs → d.M W base okp x cs) (hokp : ∀ k, okp k → ok k ∧ some k ≠ v.ownBlock) (hfresh : ∀ k, W.heap.size ≤ k → ok k)
  (HB : Below base w0 W) (hbase : base ≤ W.heap.size) (hl : (xs.length + m) * bytes ≤ 140737488355328)
  (h : ∀ v1 w1, d.R e w1 base ok v1 (xs ++ ys) → Below base w0 w1 → W.grownBy w1 v.ownBlock → (v1.ownBlock = v.ownBlock ∨ ∃ b, v1.ownBlock = some b ∧ W.heap.size ≤ b) → Kc (a.put o.dst v1) w1) :
  if Region.wanted o (yielded ops a.tmps) = true then Oper.wp P o a W Kc Q else Kc (a.put o.dst undef) W := by
 obtain ⟨i0, hi, hzz⟩ := Option.map_eq_some_iff.1 hinfo
 simp only [Prod.mk.injEq] at hzz
 obtain ⟨hz0, hz1, hz2⟩ := hzz
 have hm : ys.length = m := HR.1
 have hlen : xs.length + m ≤ 140737488355328 := Nat.le_trans (Nat.le_mul_of_pos_right _ hb0) hl
 obtain ⟨hok, inner, hown, hr⟩ := HO
 have hrun : ∃ v1 w1, (Builtin.append_ #[t, t] o.type #[v, .slice A m c]).run P W = .ok v1 w1 ∧ d.R e w1 base ok v1 (xs ++ ys) ∧ W.grownBy w1 v.ownBlock ∧ (v1.ownBlock = v.ownBlock ∨ ∃ b, v1.ownBlock = some b ∧ W.heap.size ≤ b) := by
  rcases A with _ | ad
  ·have h0 : m = 0 := by
    rcases Nat.eq_zero_or_pos m with h0 | h0
    ·exact h0
    ·obtain ⟨ad, h, _⟩ := HR.2.2 h0
     cases h
   subst h0
   obtain rfl : ys = [] := List.eq_nil_of_length_eq_zero hm
   refine ⟨v, W, ?_, by rw [List.append_nil]; exact ⟨hok, inner, hown, hr⟩, World.grownBy.refl W _, .inl rfl⟩
   rcases hown.2 with ⟨rfl, hn⟩ | ⟨g, cap, cur, rfl, _, _, hnc, _⟩
   ·simp [Builtin.append_, run_underlying ht, sizeOf, typeInfo, hi, Builtin.lenOf, Builtin.firstCells]
   ·simp [Builtin.append_, run_underlying ht, sizeOf, typeInfo, hi, Builtin.lenOf, Builtin.firstCells, hnc, storeCells]
  ·obtain ⟨news, hnr, hnc⟩ := ReadsRow.inner_ HR
   have hnM : Reps (d.M W base okp) d.sz ys news := hnr.imp_ (fun p c hp => hKM p c hp)
   have hone : ∀ u ∈ news, u.oneCell' = true := by
    intro u hu
    obtain ⟨q, hq, rfl⟩ := List.mem_iff_getElem.1 hu
    have hql : q / d.sz < ys.length := by
     rw [Nat.div_lt_iff_lt_mul hs0]
     rw [← hnM.1]
     exact hq
    have hc := hnM.2 (q / d.sz) _ (List.getElem?_eq_getElem hql)
    refine d.K_one (d.K_of_M hc) _ ?_
    rw [List.mem_iff_getElem?]
    refine ⟨q % d.sz, ?_⟩
    rw [List.getElem?_take, if_pos (Nat.mod_lt _ hs0), List.getElem?_drop, Nat.mul_comm, Nat.div_add_mod, List.getElem?_eq_getElem hq]
   obtain ⟨v1, w1, hrun, h2, hg, _, hat⟩ := run_append_own_at (P := P) W base t o.type e i0 z d.sz bytes ht hi hz0 hz1 hz2 hz hs0 v xs.length inner hown ad m c news (by rw [hnM.1, hm]) hnc hone (by simp only [maxLen]; omega) hl hbase
   have hat' : v1.ownBlock = v.ownBlock ∨ ∃ b, v1.ownBlock = some b ∧ W.heap.size ≤ b := by
    rcases hat with hat | hat
    ·exact .inl hat
    ·exact .inr ⟨_, hat, Nat.le_refl _⟩
   have hne : ∀ k, some k ≠ v.ownBlock → k < W.heap.size → some k ≠ v1.ownBlock := by
    intro k hk hlt
    rcases hat' with hat | ⟨b, hb, hle⟩
    ·rw [hat]; exact hk
    ·rw [hb]
     intro he
     injection he with he
     omega
   have step : ∀ {q : α} {c : List Value} {o : Nat → Prop}, d.M W base o q c → (∀ k, o k → ok k ∧ some k ≠ v.ownBlock) → d.M w1 base (fun k => ok k ∧ some k ≠ v1.ownBlock) q c := by
    intro q c o hq ho
    have h1 := d.M_move (w1 := w1) (fun k hk => hg.block k hk.2.2.1 (ho k hk.1).2) (d.M_bound hq)
    exact d.M_mono (fun k hk => ⟨(ho k hk.1).1, hne k (ho k hk.1).2 hk.2.2.1⟩) h1
   refine ⟨v1, w1, hrun, ⟨fun k hk => ?_, inner ++ news, by rw [List.length_append, hm]; exact h2, reps_append (hr.imp_ (fun _ _ hq => step hq (fun _ hk => hk))) (hnM.imp_ (fun _ _ hq => step hq hokp))⟩, hg, hat'⟩
   rcases hat' with hat | ⟨b, hb, hle⟩
   ·exact hok k (hat ▸ hk)
   ·rw [hb] at hk
    injection hk with hk
    exact hfresh k (by omega)
 obtain ⟨v1, w1, hr1, h1, hg, hat⟩ := hrun
 rw [if_pos hw]
 unfold Oper.wp execOp
 simp only [ho, resolve, invoke, builtin, Sem.run_bind, Sem.run_pure, Result.andThen_ok, List.map_toArray, List.map_cons, List.map_nil, hs, hx, hr1]
 exact h v1 w1 h1 (HB.grown hg hbase (own_base hown)) hg hat
end Kd
end
end Go.Proofs.YtfglcfbcdhjcdaaDoorW.PrintWords

namespace Go.Proofs.YtfglcfbcdhjcdaaDoorW.PrintWords
open Go.RowKit
namespace Kd
section
variable {α β : Type} {d : Kd α} {d' : Kd β} {e e' : Nat} {w w1 W : World} {base b : Nat} {ok ok' okv oku : Nat → Prop} {u v : Value} {xs : List α} {ys : List β}
theorem S_mono (h : S d e w base ok v xs) (hok : ∀ k, ok k → ok' k) : S d e w base ok' v xs := by
 obtain ⟨f, h⟩ := h
 exact ⟨f, R_mono h hok⟩
theorem S_bound (h : S d e w base ok v xs) : S d e w base (fun k => ok k ∧ base ≤ k ∧ k < w.heap.size ∧ ∃ q, q ∈ e :: d.E ∧ ∃ cells, w.heap[k]? = some (.cells cells q (0, 0))) v xs := by
 obtain ⟨f, h⟩ := h
 exact ⟨f, R_bound h⟩
theorem S_move (h : S d e w base ok v xs) (hm : ∀ k, ok k → w1.heap[k]? = w.heap[k]?) : S d e w1 base ok v xs := by
 obtain ⟨f, h⟩ := h
 exact ⟨f, R_move h hm⟩
theorem S_lower {base' : Nat} (h : S d e w base ok v xs) (hb : base' ≤ base) : S d e w base' ok v xs := by
 obtain ⟨f, h⟩ := h
 exact ⟨f, R_lower h hb⟩
theorem S_step (h : S d e w base ok v xs) (hm : ∀ k, ok k → k < w.heap.size → w1.heap[k]? = w.heap[k]?) : S d e w1 base ok v xs :=
 S_mono (S_move (S_bound h) (fun k hk => hm k hk.1 hk.2.2.1)) (fun _ hk => hk.1)
theorem S_below (h : S d e w base ok v xs) (hb : Below w.heap.size w w1) : S d e w1 base ok v xs := S_step h (fun k _ hk => hb.block k hk)
theorem S_far (h : S d e w base ok v xs) {p : Addr} (hok : ∀ k, ok k → k ≠ p.block) (u : Value) : S d e (w.setCell p u) base ok v xs := S_step h (fun k ho _ => Below.heap_setCell w p u k (hok k ho))
theorem S_types (h : S d e w base ok v xs) {g t : Nat} {cells : Array Value} (hb : w.heap[g]? = some (.cells cells t (0, 0))) (ht : ∀ q, q ∈ e :: d.E → q ≠ t) : S d e w base (fun k => ok k ∧ k ≠ g) v xs := by
 obtain ⟨f, h⟩ := h
 exact ⟨f, R_types h hb ht⟩
theorem S_typed (h : S d e w base ok v xs) : ∀ k, v.ownBlock = some k → ∃ cells, w.heap[k]? = some (.cells cells e (0, 0)) := R_typed (S_R h)
theorem S_base (h : S d e w base ok v xs) : ∀ k, v.ownBlock = some k → base ≤ k := R_base (S_R h)
theorem S_elder' (h : S d e W base ok u xs) (hbase : ∀ k, v.ownBlock = some k → W.heap.size ≤ k) (hb : Below W.heap.size W w1) : S d e w1 base (fun k => ok k ∧ some k ≠ v.ownBlock) u xs := by
 obtain ⟨f, h⟩ := h
 exact ⟨f, R_elder' h hbase hb⟩
theorem R_tag {f f' : Nat → Nat} {zs : List (α × Nat)} (h : (tag f d).R e w base ok v zs) (hf : ∀ k, ok k → k < w.heap.size → f' k = f k) : (tag f' d).R e w base ok v zs := by
 obtain ⟨h0, inner, ho, hr⟩ := R_bound h
 exact ⟨fun k hk => (h0 k hk).1, inner, ho, hr.1, fun j p hj => d.M_mono (fun k hk => ⟨⟨hk.1.1.1, hk.1.2⟩, (hf k hk.1.1.1 hk.1.1.2.2.1).trans hk.2⟩) (hr.2 j p hj)⟩
end
section
variable {α β : Type} {d : Kd α} {d' : Kd β} {e e' g : Nat} {w w1 W : World} {base b : Nat} {ok ok' okv oku : Nat → Prop} {u v : Value} {xs : List α} {ys : List β}
theorem S_away (h : S d e w base ok v xs) (hok : ∀ k, ok k → k ≠ g) : some g ≠ v.ownBlock := R_away (S_R h) hok
theorem S_slice (h : S d e w base ok v xs) : ∃ A c, v = .slice A xs.length c := R_slice (S_R h)
theorem S_elderB (h : S d e w base ok v xs) (a : Nat) (ha : w.heap.size ≤ a) : S d e w base (fun k => ok k ∧ k ≠ a) v xs := S_mono (S_bound h) (fun k hk => ⟨hk.1, by have := hk.2.2.1; omega⟩)
theorem zip_snoc (xs : List α) (p : α) : (xs ++ [p]).zipIdx = xs.zipIdx ++ [(p, xs.length)] := by rw [List.zipIdx_append]; simp
end
section
open Classical in
theorem S_tag {α : Type} {d : Kd α} {e base : Nat} {okv : Nat → Prop} {w : World} {v : Value} {xs : List α} (h : S d e w base okv v xs) (m : Nat) (okp : Nat → Prop) (hap : ∀ k, okp k → ¬ okv k) : ∃ f, (∀ k, okp k → f k = m) ∧ (tag f d).R e w base okv v xs.zipIdx := by
 obtain ⟨f, h⟩ := h
 exact ⟨fun k => if okp k then m else f k, fun k hk => if_pos hk, R_tag h (fun k hk _ => if_neg (fun h2 => hap k h2 hk))⟩
variable {P : Program} {ops : Array Oper} {rest : List Oper} {o : Oper} {a : Act} {Q : Exit → Act → World → Prop} {Kc : Act → World → Prop} {α : Type}
theorem S_append (d : Kd α) {w0 W : World} (base : Nat) (hgd : o.guard = none) (s x : Operand) (t e : TypeId) (z : Value) (bytes : Nat)
  (ho : o.op = .call { callee := .builtin .append, args := #[s, x], argTypes := #[t, t] })
  (ht : P.underlying t = some (.slice e)) (hinfo : (P.info? e).map (fun i => (i.zero, i.size, i.bytes)) = some (some z, d.sz, bytes)) (hz : z.cells.size = d.sz) (hs0 : 0 < d.sz) (hb0 : 0 < bytes)
  (v : Value) (xs : List α) (p : α) (cs : List Value) (ok okp : Nat → Prop) (hs : a.eval s = v) (hx : a.eval x = .slice (some ⟨W.heap.size, 0, none⟩) 1 1) (hp : d.M W base okp p cs) (hokp : ∀ k, okp k → ok k ∧ some k ≠ v.ownBlock) (hfresh : ∀ k, W.heap.size ≤ k → ok k)
  (HO : S d e W base (fun k => ok k ∧ ¬ okp k) v xs) (HB : Below base w0 W) (hbase : base ≤ W.heap.size) (hl : (xs.length + 1) * bytes ≤ 140737488355328)
  (h : ∀ v1 w1, S d e w1 base ok v1 (xs ++ [p]) → Below base w0 w1 → W.grownBy w1 v.ownBlock → (v1.ownBlock = v.ownBlock ∨ ∃ b, v1.ownBlock = some b ∧ W.heap.size ≤ b) → wpList P ops Q rest (a.put o.dst v1) w1) :
  wpList P ops Q (o :: rest) a (W.alloc (.cells cs.toArray e)) := by
 obtain ⟨f, hf, hR⟩ := S_tag HO xs.length okp (fun _ hk h2 => h2.2 hk)
 refine R_append (tag f d) base hgd s x t e z bytes ho ht hinfo hz hs0 hb0 v xs.zipIdx (p, xs.length) cs ok okp hs hx (d.M_mono (fun k hk => ⟨hk, hf k hk⟩) hp) hokp hfresh (R_mono hR (fun _ hk => hk.1)) HB hbase (by rw [List.length_zipIdx]; exact hl) ?_
 intro v1 w1 hr
 rw [← zip_snoc] at hr
 exact h v1 w1 ⟨f, hr⟩
end
section
variable {α β : Type} {d : Kd α} {e e' g n cap : Nat} {w w1 W : World} {base : Nat} {ok ok' oki okp : Nat → Prop} {u v : Value} {xs : List α} {i : Int} {c : List Value}
open Classical in
end
end Kd
end Go.Proofs.YtfglcfbcdhjcdaaDoorW.PrintWords

namespace Go.Proofs.YtfglcfbcdhjcdaaDoor.Q
open Go.RowKit Go.Proofs.YtfglcfbcdhjcdaaDoorW.PrintWords Go.Proofs.YtfglcfbcdhjcdaaDoorW.PrintLast Go.Proofs.YtfglcfbcdhjcdaaDoorW.PrintMore
attribute [local go_sem] max2_int min2_int max_two min_two max_three min_three max_four min_four
set_option linter.unusedVariables false
set_option linter.unusedSimpArgs false
theorem k57_openM {w : World} {base : Nat} {ok : Nat → Prop} {x : S57} {cs : List Value} (h : k57.M w base ok x cs) : ∃ v1, cs = [.int .u8 x.f0, v1, .int .i64 x.f2] ∧ k61.R 61 w base ok v1 x.f1 := by
 obtain ⟨_, _, rfl, rfl, ⟨_, _, rfl, ⟨v1, rfl, g1⟩, rfl⟩⟩ := h
 exact ⟨v1, rfl, g1⟩
theorem k67_openM {w : World} {base : Nat} {ok : Nat → Prop} {x : S67} {cs : List Value} (h : k67.M w base ok x cs) : cs = [.string x.f0, .string x.f1, .int .i64 x.f2] := by
 obtain ⟨_, _, rfl, rfl, ⟨_, _, rfl, rfl, rfl⟩⟩ := h
 exact rfl
end Go.Proofs.YtfglcfbcdhjcdaaDoor.Q

namespace Go.Proofs.YtfglcfbcdhjcdaaDoor.Q
open Go.RowKit Go.Proofs.YtfglcfbcdhjcdaaDoorW.PrintWords Go.Proofs.YtfglcfbcdhjcdaaDoorW.PrintLast Go.Proofs.YtfglcfbcdhjcdaaDoorW.PrintMore
attribute [local go_sem] max2_int min2_int max_two min_two max_three min_three max_four min_four
set_option linter.unusedVariables false
set_option linter.unusedSimpArgs false
set_option maxHeartbeats 8000000 in
set_option maxRecDepth 100000 in
theorem letterbagkit_Pick.calls (a0 : Int) (a1 : Int) (r : Int) (w : World) (h : letterbagkit_Pick.f a0 a1 = some r) :
  Calls Tryd.prog 23 #[.int .i64 a0, .int .i64 a1] w fun e w' => e = .returned (.int .i64 r) ∧ Drawn0 w w' := by
 have H : (if a1 < 1 then (some 0) else (if a1 = 0 then (none) else (if (Int.tmod a0 a1) < 0 then (some (wrap64 ((Int.tmod a0 a1) + a1))) else (some (Int.tmod a0 a1))))) = some r := h
 clear h
 by_cases c3 : a1 < 1
 ·rw [if_pos c3] at H
  have c3b0 : decide (a1 < 1) = true := decide_eq_true c3
  clear c3
  obtain rfl := Option.some.inj H
  go_enter Tryd.func23, Tryd.ntmps23
  go_wp2
  go_ret
  exact ⟨by first | rfl | (simp; done) | (simp [*]; done), by repeat (first | exact Drawn0.refl _ | apply Drawn0.step)⟩
 ·rw [if_neg c3] at H
  have c3b0 : decide (a1 < 1) = false := decide_eq_false c3
  clear c3
  by_cases c4 : a1 = 0
  ·rw [if_pos c4] at H
   exact absurd H (by simp)
  ·rw [if_neg c4] at H
   have c4b0 : (a1 == 0) = false := beq_eq_false_iff_ne.mpr c4
   have c4b1 : (a1 != 0) = true := bne_iff_ne.mpr c4
   by_cases c5 : (Int.tmod a0 a1) < 0
   ·rw [if_pos c5] at H
    have c5b0 : decide ((Int.tmod a0 a1) < 0) = true := decide_eq_true c5
    clear c5
    obtain rfl := Option.some.inj H
    go_enter Tryd.func23, Tryd.ntmps23
    go_wp2
    go_ret
    exact ⟨by first | rfl | (simp; done) | (simp [*]; done), by repeat (first | exact Drawn0.refl _ | apply Drawn0.step)⟩
   ·rw [if_neg c5] at H
    have c5b0 : decide ((Int.tmod a0 a1) < 0) = false := decide_eq_false c5
    clear c5
    obtain rfl := Option.some.inj H
    go_enter Tryd.func23, Tryd.ntmps23
    go_wp2
    go_ret
    exact ⟨by first | rfl | (simp; done) | (simp [*]; done), by repeat (first | exact Drawn0.refl _ | apply Drawn0.step)⟩
set_option maxHeartbeats 8000000 in
set_option maxRecDepth 100000 in
theorem letterbagkit_CopyInts.calls (A0 : Option Addr) (c0 : Nat) (l0 : List Int) (r : List Int) (w : World) (hr0 : Kd.C (Kd.int .i64) w A0 l0.length l0) (hc0 : l0.length ≤ c0) (h : letterbagkit_CopyInts.f l0 = some r) :
  Calls Tryd.prog 111 #[.slice A0 l0.length c0] w fun e w' => ∃ v0_ : Value, e = .returned (v0_) ∧ Kd.R (Kd.int .i64) 3 w' w.heap.size (fun _ => True) v0_ r ∧ Below w.heap.size w w' := by
 have HR0 := Aside0.mk hr0
 have HC0 := Aside0.mk hc0
 clear hr0 hc0
 have HB := Aside0.mk (Below.refl w.heap.size w)
 have H : (if ([] : List Int).length + l0.length < 17592186044416 then (some (([] : List Int) ++ l0)) else (none)) = some r := h
 clear h
 by_cases c2 : ([] : List Int).length + l0.length < 17592186044416
 ·rw [if_pos c2] at H
  have LMc2 := Aside0.mk c2
  clear c2
  obtain ⟨y314, hy314⟩ : ∃ y_ : List Int, y_ = (([] : List Int) ++ l0) := ⟨_, rfl⟩
  replace H : (some y314) = some r := by first | (rw [hy314]; with_reducible exact H) | (have H2_ := (Option.bind_some _ _).symm.trans H; rw [hy314]; with_reducible exact H2_) | (have H2_ := (Option.bind_some _ _).symm.trans H; with_reducible exact H2_) | with_reducible exact H | (rw [hy314]; exact H) | exact H
  have Ny314 := Aside0.mk hy314
  clear hy314
  obtain rfl := Option.some.inj H
  go_enter Tryd.func111, Tryd.ntmps111
  go_wp2_with (first | ((with_reducible refine gate_builtin (b := .append) (xs := #[.tmp 4, .tmp 5]) rfl ?_); at_builtin; refine Kd.R_append_rows (Kd.int .i64) (w0 := w) w.heap.size rfl (.tmp 4) (.tmp 5) 38 3 (.int .i64 0) 8 rfl Tryd.underlying38 info3 rfl (by decide) (by omega) (.slice none 0 0) ([] : List Int) l0 _ _ _ (fun _ => True) (fun _ => False) rfl rfl ?aO ?aR (fun _ _ h => h) (fun _ h => h.elim) ?aF ?aB ?aS ?aL ?_; (case aR => repeat (first | exact HR0.out | (with_reducible refine Kd.C_alloc ?_ _) | (with_reducible refine Kd.C_drewN ?_ _) | (with_reducible refine Kd.C_drew ?_))); (case aB => exact (by repeat (first | (with_reducible first | exact HB.out | apply below_alloc | apply pw_below_drewN | apply below_drew1) | exact HB.out))); (case aF => exact (fun _ _ => trivial)); (case aO => exact ((Kd.R_nil _ _ _ _ (fun _ => True)))); (case aS => exact (below_size (by repeat (first | (with_reducible first | exact HB.out | apply below_alloc | apply pw_below_drewN | apply below_drew1) | exact HB.out)))); (case aL => have := LMc2.out; omega); intro v315 w3 ho hb hg hat; rw [← Ny314.out] at ho; have n0_ := Aside0.mk (hb); have n1_ := Aside0.mk (ho); clear HB; have HB := n0_; have HO316 := n1_; clear n0_ n1_; clear ho hb hg hat))
  go_ret
  exact ⟨_, by first | rfl | (simp [errW_none, errW_some] <;> rfl) | (simp [*, errW_none, errW_some] <;> rfl), by (with_reducible repeat (first | apply Kd.R_alloc | apply Kd.R_drewN | apply Kd.R_drew)); exact HO316.out, by repeat (first | (with_reducible first | exact HB.out | apply below_alloc | apply pw_below_drewN | apply below_drew1) | exact HB.out)⟩
 ·rw [if_neg c2] at H
  exact absurd H (by simp)
set_option maxHeartbeats 8000000 in
set_option maxRecDepth 100000 in
theorem letterbagkit_CopyStep.calls (a0_0 : Int) (A0_1 : Option Addr) (c0_1 : Nat) (l0_1 : List Int) (r1 : Int) (r2 : List Int) (w : World) (hr0_1 : Kd.C (Kd.int .i64) w A0_1 l0_1.length l0_1) (hc0_1 : l0_1.length ≤ c0_1) (h : letterbagkit_CopyStep.f a0_0 l0_1 = some (r1, r2)) :
  Calls Tryd.prog 101 #[.agg #[.int .i64 a0_0, .slice A0_1 l0_1.length c0_1]] w fun e w' => ∃ v1_ : Value, e = .returned (.agg #[.int .i64 r1, v1_]) ∧ Kd.R (Kd.int .i64) 3 w' w.heap.size (fun _ => True) v1_ r2 ∧ Below w.heap.size w w' := by
 have hu61 := Tryd.underlying61
 have HR0_1 := Aside0.mk hr0_1
 have HC0_1 := Aside0.mk hc0_1
 clear hr0_1 hc0_1
 have HB := Aside0.mk (Below.refl w.heap.size w)
 have H : ((letterbagkit_CopyInts.f l0_1).bind fun t319 => (some (a0_0, t319))) = some (r1, r2) := h
 clear h
 replace H := Option.bind_eq_some_iff.mp H
 obtain ⟨t319, A20, H⟩ := H
 replace H : (some (a0_0, t319)) = some (r1, r2) := H
 have A2 := Aside0.mk A20
 clear A20
 simp only [Option.some.injEq, Prod.mk.injEq] at H
 obtain ⟨rfl, rfl⟩ := H
 go_enter Tryd.func101, Tryd.ntmps101
 go_wp2_with (first | ((with_reducible refine gate_dst (N := 1) rfl ?_); refine box_event ?hg (N := 1) ?hd (cs := #[.int .i64 a0_0, .slice A0_1 l0_1.length c0_1]) (t := 61) ?hr ?_; (case hd => rfl); (case hg => rfl); (case hr => first | (go_simp; done) | (go_simp; rfl)); intro gb317 hg w3 hbox hb; have n0_ := Aside0.mk (below_step (by repeat (first | (with_reducible first | exact HB.out | apply below_alloc | apply pw_below_drewN | apply below_drew1) | exact HB.out)) hb); have n1_ := Aside0.mk (hbox); have n2_ := Aside0.mk ((by rw [hg]; exact (below_size (by repeat (first | (with_reducible first | exact HB.out | apply below_alloc | apply pw_below_drewN | apply below_drew1) | exact HB.out))) : w.heap.size ≤ gb317)); have n3_ := Aside0.mk ((by rw [hg]; exact (below_size (by repeat (first | (with_reducible first | exact HB.out | apply below_alloc | apply pw_below_drewN | apply below_drew1) | exact HB.out))) : w.heap.size ≤ gb317)); clear HB; have HB := n0_; have BK317 := n1_; have GW317 := n2_; have GE317 := n3_; clear n0_ n1_ n2_ n3_; clear hb hbox hg) | ((with_reducible refine gate_dst (N := 2) rfl ?_); refine box_event ?hg (N := 2) ?hd (cs := #[.int .i64 0, .slice none 0 0]) (t := 61) ?hr ?_; (case hd => rfl); (case hg => rfl); (case hr => first | (go_simp; done) | (go_simp; rfl)); intro gb318 hg w4 hbox hb; have n0_ := Aside0.mk (blk_below (g := gb317) (o := .cells #[.int .i64 a0_0, .slice A0_1 l0_1.length c0_1] 61 (0, 0)) (by (with_reducible repeat (first | refine blk_drewN ?_ _ | refine blk_drew ?_ | refine blk_alloc ?_ _)); exact BK317.out) hb); have n1_ := Aside0.mk (below_step (by repeat (first | (with_reducible first | exact HB.out | apply below_alloc | apply pw_below_drewN | apply below_drew1 | refine below_set ?_ GE317.out) | exact HB.out)) hb); have n2_ := Aside0.mk (hbox); have n3_ := Aside0.mk ((by rw [hg]; exact (below_size (by repeat (first | (with_reducible first | exact HB.out | apply below_alloc | apply pw_below_drewN | apply below_drew1 | refine below_set ?_ GE317.out) | exact HB.out))) : w.heap.size ≤ gb318)); have n4_ := Aside0.mk ((by rw [hg]; exact (below_size (by repeat (first | (with_reducible first | exact HB.out | apply below_alloc | apply pw_below_drewN | apply below_drew1 | refine below_set ?_ GE317.out) | exact HB.out))) : w.heap.size ≤ gb318)); have n5_ := Aside0.mk ((by rw [hg]; exact Nat.ne_of_lt (blk_lt (g := gb317) (o := .cells #[.int .i64 a0_0, .slice A0_1 l0_1.length c0_1] 61 (0, 0)) (by (with_reducible repeat (first | refine blk_drewN ?_ _ | refine blk_drew ?_ | refine blk_alloc ?_ _)); exact BK317.out)) : gb317 ≠ gb318)); have n6_ := Aside0.mk ((by rw [hg]; exact Nat.ne_of_gt (blk_lt (g := gb317) (o := .cells #[.int .i64 a0_0, .slice A0_1 l0_1.length c0_1] 61 (0, 0)) (by (with_reducible repeat (first | refine blk_drewN ?_ _ | refine blk_drew ?_ | refine blk_alloc ?_ _)); exact BK317.out)) : gb318 ≠ gb317)); clear BK317; clear HB; have BK317 := n0_; have HB := n1_; have BK318 := n2_; have GW318 := n3_; have GE318 := n4_; have NB317_318 := n5_; have NB318_317 := n6_; clear n0_ n1_ n2_ n3_ n4_ n5_ n6_; clear hb hbox hg; have hnb5 := NB317_318.out; have hnc5 := NB318_317.out; have hcz6_0 : w4.cell? ⟨gb317, 0, none⟩ = some (.int .i64 a0_0) := (blk_cell BK317.out 0).trans rfl; have hcz6_1 : w4.cell? ⟨gb317, 1, none⟩ = some (.slice A0_1 l0_1.length c0_1) := (blk_cell BK317.out 1).trans rfl; have hfz6_0 := blk_frozen BK317.out 0; have hfz6_1 := blk_frozen BK317.out 1) | ((with_reducible refine gate_callee (f := 111) rfl ?_); refine goesL_ (some 5) rfl rfl Tryd.func111 (by kernel_rfl) rfl #[.slice A0_1 l0_1.length c0_1] rfl (by (try simp only [List.map_toArray, List.map_cons, List.map_nil]); first | done | rfl | (simp only [List.length_drop, List.length_take]; rfl)) ?_; (with_reducible refine (letterbagkit_CopyInts.calls _ _ l0_1 t319 _ ?side1 ?side2 A2.out).mono ?_); (case side1 => repeat (first | exact (Kd.C_below HR0_1.out HB.out) | (with_reducible refine Kd.C_alloc ?_ _) | (with_reducible refine Kd.C_drewN ?_ _) | (with_reducible refine Kd.C_drew ?_))); (case side2 => exact HC0_1.out); rintro e w7 ⟨v320, rfl, ho0, hb⟩; refine ⟨_, rfl, ?_⟩; have n0_ := Aside0.mk (Kd.R_lower ho0 (below_size (by repeat (first | (with_reducible first | exact HB.out | apply below_alloc | apply pw_below_drewN | apply below_drew1 | refine below_set ?_ GE317.out | refine below_set ?_ GE318.out) | exact HB.out)))); have n1_ := Aside0.mk (blk_below (g := gb317) (o := .cells #[.int .i64 a0_0, .slice A0_1 l0_1.length c0_1] 61 (0, 0)) (by (with_reducible repeat (first | refine blk_drewN ?_ _ | refine blk_drew ?_ | refine blk_alloc ?_ _)); exact BK317.out) hb); have n2_ := Aside0.mk (blk_below (g := gb318) (o := .cells #[.int .i64 0, .slice none 0 0] 61 (0, 0)) (by (with_reducible repeat (first | refine blk_drewN ?_ _ | refine blk_drew ?_ | refine blk_alloc ?_ _)); exact BK318.out) hb); have n3_ := Aside0.mk (below_step (by repeat (first | (with_reducible first | exact HB.out | apply below_alloc | apply pw_below_drewN | apply below_drew1 | refine below_set ?_ GE317.out | refine below_set ?_ GE318.out) | exact HB.out)) hb); clear BK317; clear BK318; clear HB; have HO321 := n0_; have BK317 := n1_; have BK318 := n2_; have HB := n3_; clear n0_ n1_ n2_ n3_; (try clear hb); (try clear hb2); (try clear hk); (try clear hi); (try clear ho0); obtain ⟨Ao8, co8, eo8⟩ := Kd.R_slice HO321.out; subst eo8; have hcz9_0 : w7.cell? ⟨gb317, 0, none⟩ = some (.int .i64 a0_0) := (blk_cell BK317.out 0).trans rfl; have hcz9_1 : w7.cell? ⟨gb317, 1, none⟩ = some (.slice A0_1 l0_1.length c0_1) := (blk_cell BK317.out 1).trans rfl; have hfz9_0 := blk_frozen BK317.out 0; have hfz9_1 := blk_frozen BK317.out 1; have hcz10_0 : w7.cell? ⟨gb318, 0, none⟩ = some (.int .i64 0) := (blk_cell BK318.out 0).trans rfl; have hcz10_1 : w7.cell? ⟨gb318, 1, none⟩ = some (.slice none 0 0) := (blk_cell BK318.out 1).trans rfl; have hfz10_0 := blk_frozen BK318.out 0; have hfz10_1 := blk_frozen BK318.out 1))
 refine bodyPost_ret (results_cell_row rfl _ _ gb318 61 #[.int .i64 a0_0, .slice Ao8 t319.length co8] (0, 0) _ rfl (by (with_reducible repeat (first | refine blk_drewN ?_ _ | refine blk_drew ?_ | refine blk_alloc ?_ _)); refine blk_put (cs := #[.int .i64 a0_0, .slice none 0 0]) ?_ 1 _ rfl; (with_reducible repeat (first | refine blk_drewN ?_ _ | refine blk_drew ?_ | refine blk_alloc ?_ _)); refine blk_put (cs := #[.int .i64 0, .slice none 0 0]) ?_ 0 _ rfl; (with_reducible repeat (first | refine blk_drewN ?_ _ | refine blk_drew ?_ | refine blk_alloc ?_ _)); refine blk_far ?_ NB318_317.out _; (with_reducible repeat (first | refine blk_drewN ?_ _ | refine blk_drew ?_ | refine blk_alloc ?_ _)); exact BK318.out) Tryd.underlying61 rfl (by kernel_rfl)) rfl ?_
 exact ⟨_, by first | rfl | (simp [errW_none, errW_some] <;> rfl) | (simp [*, errW_none, errW_some] <;> rfl), by (with_reducible repeat (first | apply Kd.R_alloc | apply Kd.R_drewN | apply Kd.R_drew)); exact Kd.R_mono (Kd.R_far (p := ⟨gb318, 1, none⟩) (Kd.R_far (p := ⟨gb318, 0, none⟩) (Kd.R_far (p := ⟨gb317, 1, none⟩) (Kd.R_types (Kd.R_types HO321.out BK317.out (by decide)) BK318.out (by decide)) (fun _ hk => hk.1.2) (.slice Ao8 t319.length co8)) (fun _ hk => hk.2) (.int .i64 a0_0)) (fun _ hk => hk.2) (.slice Ao8 t319.length co8)) (fun _ hk => trivial), by repeat (first | (with_reducible first | exact HB.out | apply below_alloc | apply pw_below_drewN | apply below_drew1 | refine below_set ?_ GE317.out | refine below_set ?_ GE318.out) | exact HB.out)⟩
set_option maxHeartbeats 8000000 in
set_option maxRecDepth 100000 in
theorem letterbagkit_CopySteps.calls (k : Nat) (A0 : Option Addr) (c0 : Nat) (l0 : List (S61)) (r : List (S61)) (w : World) (hr0 : Kd.C k61 w A0 l0.length l0) (hc0 : l0.length ≤ c0) (h : letterbagkit_CopySteps.f k l0 = some r) :
  Calls Tryd.prog 86 #[.slice A0 l0.length c0] w fun e w' => ∃ v0_ : Value, e = .returned (v0_) ∧ Kd.S k61 61 w' w.heap.size (fun _ => True) v0_ r ∧ Below w.heap.size w w' := by
 have hu61 := Tryd.underlying61
 have HR0 := Aside0.mk hr0
 have HC0 := Aside0.mk hc0
 clear hr0 hc0
 have HB := Aside0.mk (Below.refl w.heap.size w)
 have H : (letterbagkit_CopySteps.l0 k l0 ([] : List (S61)) 0) = some r := h
 clear h
 have H' := Aside0.mk H
 clear H
 go_enter Tryd.func86, Tryd.ntmps86
 go_wp2
 go_loopg [3, 4] k (fun kq v3 v4 w' => ∃ (x3_1 : List (S61)) (x4_1 : Int), v4 = .int .i64 x4_1 ∧ Aside0 (letterbagkit_CopySteps.l0 kq l0 x3_1 x4_1 = some r) ∧ Aside0 (kq ≤ k) ∧ Aside0 (Kd.S k61 61 w' w.heap.size (fun _ => True) v3 x3_1) ∧ Aside0 (Below w.heap.size w w'))
 case atStart => exact ⟨(([] : List (S61))), (0), (by first | rfl | (simp; done) | (simp [*]; done)), H', ⟨Nat.le_refl _⟩, ⟨by first | exact Kd.S_nil _ _ _ _ _ | exact Kd.N_nil _ _ _ _ _ | exact Kd.V_nil _ _ _ _ _ | exact Kd.Q_nil _ _ _ _ _ | exact Kd.R_nil _ _ _ _ _⟩, ⟨by repeat (first | (with_reducible first | exact HB.out | apply below_alloc | apply pw_below_drewN | apply below_drew1) | exact HB.out)⟩⟩
 case round =>
  clear H'
  obtain ⟨x3_1, x4_1, rfl, HA, HK1, HO_3, HB⟩ := hrel
  cases gk with
  | zero => exact absurd HA.out (by simp [letterbagkit_CopySteps.l0])
  | succ k1 =>
   have H := HA.out
   clear HA
   simp only [letterbagkit_CopySteps.l0] at H
   by_cases c2 : x4_1 < (l0.length : Int)
   ·rw [if_pos c2] at H
    have c2b0 : decide (x4_1 < (l0.length : Int)) = true := decide_eq_true c2
    clear c2
    by_cases c3 : 0 ≤ x4_1
    ·rw [if_pos c3] at H
     have c3b0 : decide (0 ≤ x4_1) = true := decide_eq_true c3
     clear c3
     replace H := Option.bind_eq_some_iff.mp H
     obtain ⟨⟨t323, t324⟩, A40, H⟩ := H
     replace H : (if x3_1.length < 4398046511104 then (letterbagkit_CopySteps.l0 k1 l0 (x3_1 ++ [(⟨t323, t324⟩ : S61)]) (wrap64 (x4_1 + 1))) else (none)) = some r := H
     have A4 := Aside0.mk A40
     clear A40
     by_cases c5 : x3_1.length < 4398046511104
     ·rw [if_pos c5] at H
      have LMc5 := Aside0.mk c5
      clear c5
      obtain ⟨y328, hy328⟩ : ∃ y_ : List (S61), y_ = (x3_1 ++ [(⟨t323, t324⟩ : S61)]) := ⟨_, rfl⟩
      replace H : (letterbagkit_CopySteps.l0 k1 l0 y328 (wrap64 (x4_1 + 1))) = some r := by first | (rw [hy328]; with_reducible exact H) | (have H2_ := (Option.bind_some _ _).symm.trans H; rw [hy328]; with_reducible exact H2_) | (have H2_ := (Option.bind_some _ _).symm.trans H; with_reducible exact H2_) | with_reducible exact H | (rw [hy328]; exact H) | exact H
      have Ny328 := Aside0.mk hy328
      clear hy328
      have H' := Aside0.mk H
      clear H
      have p322 : 0 ≤ (x4_1 : Int) := of_decide_eq_true (by first | (with_reducible assumption) | assumption)
      have q322 : x4_1 < (l0.length : Int) := of_decide_eq_true (by first | (with_reducible assumption) | assumption)
      obtain ⟨ad322, A322_1, c322_1, e322, hx322_0, hx322_1, hl322_1, hi322_1⟩ := at_T61 HR0.out x4_1 p322 q322
      cases e322
      replace hx322_0 := (HB.out.cell (World.block_lt_of_cell? w _ hx322_0)).trans hx322_0
      replace hx322_1 := (HB.out.cell (World.block_lt_of_cell? w _ hx322_1)).trans hx322_1
      have HR322_1 := Aside0.mk hi322_1
      have HC322_1 := Aside0.mk hl322_1
      clear hi322_1 hl322_1
      replace p322 := eq_true p322
      replace q322 := eq_true q322
      go_wp2_with (first | ((with_reducible refine gate_callee (f := 101) rfl ?_); refine goesL_ (some 16) rfl rfl Tryd.func101 (by kernel_rfl) rfl #[.agg #[.int .i64 ((rd_T61 l0 x4_1).f0), .slice A322_1 ((rd_T61 l0 x4_1).f1).length c322_1]] rfl (by (try simp only [List.map_toArray, List.map_cons, List.map_nil]); first | done | rfl | (simp only [List.length_drop, List.length_take]; rfl)) ?_; (with_reducible refine (letterbagkit_CopyStep.calls ((rd_T61 l0 x4_1).f0) _ _ ((rd_T61 l0 x4_1).f1) t323 t324 _ ?side1 ?side2 A4.out).mono ?_); (case side1 => repeat (first | exact (Kd.C_below HR322_1.out HB.out) | (with_reducible refine Kd.C_alloc ?_ _) | (with_reducible refine Kd.C_drewN ?_ _) | (with_reducible refine Kd.C_drew ?_))); (case side2 => exact HC322_1.out); rintro e w6 ⟨v325, rfl, ho0, hb⟩; refine ⟨_, rfl, ?_⟩; have n0_ := Aside0.mk (Kd.S_elder' (by (with_reducible repeat (first | apply Kd.S_alloc | apply Kd.S_drewN | apply Kd.S_drew)); exact HO_3.out) (Kd.R_base ho0) hb); have n1_ := Aside0.mk (Kd.R_lower ho0 (below_size (by repeat (first | (with_reducible first | exact HB.out | apply below_alloc | apply pw_below_drewN | apply below_drew1) | exact HB.out)))); have n2_ := Aside0.mk (below_step (by repeat (first | (with_reducible first | exact HB.out | apply below_alloc | apply pw_below_drewN | apply below_drew1) | exact HB.out)) hb); clear HO_3; clear HB; have HO_3 := n0_; have HO326 := n1_; have HB := n2_; clear n0_ n1_ n2_; (try clear hb); (try clear hb2); (try clear hk); (try clear hi); (try clear ho0)) | ((with_reducible refine gate_dst (N := 5) rfl ?_); refine box_event ?hg (N := 5) ?hd (cs := #[.int .i64 0, .slice none 0 0]) (t := 61) ?hr ?_; (case hd => rfl); (case hg => rfl); (case hr => first | (go_simp; done) | (go_simp; rfl)); intro gb327 hg w7 hbox hb; have n0_ := Aside0.mk (Kd.S_below (Kd.S_elderB (by (with_reducible repeat (first | apply Kd.S_alloc | apply Kd.S_drewN | apply Kd.S_drew)); exact HO_3.out) gb327 (Nat.le_of_eq hg.symm)) hb); have n1_ := Aside0.mk (Kd.R_below (by (with_reducible repeat (first | apply Kd.R_alloc | apply Kd.R_drewN | apply Kd.R_drew)); exact HO326.out) hb); have n2_ := Aside0.mk (below_step (by repeat (first | (with_reducible first | exact HB.out | apply below_alloc | apply pw_below_drewN | apply below_drew1) | exact HB.out)) hb); have n3_ := Aside0.mk (hbox); have n4_ := Aside0.mk ((by rw [hg]; exact (below_size (by repeat (first | (with_reducible first | exact HB.out | apply below_alloc | apply pw_below_drewN | apply below_drew1) | exact HB.out))) : w.heap.size ≤ gb327)); have n5_ := Aside0.mk ((by rw [hg]; exact (below_size (by repeat (first | (with_reducible first | exact HB.out | apply below_alloc | apply pw_below_drewN | apply below_drew1) | exact HB.out))) : w.heap.size ≤ gb327)); clear HO_3; clear HO326; clear HB; have HO_3 := n0_; have HO326 := n1_; have HB := n2_; have BK327 := n3_; have GW327 := n4_; have GE327 := n5_; clear n0_ n1_ n2_ n3_ n4_ n5_; clear hb hbox hg; have hcz8_0 : w7.cell? ⟨gb327, 0, none⟩ = some (.int .i64 0) := (blk_cell BK327.out 0).trans rfl; have hcz8_1 : w7.cell? ⟨gb327, 1, none⟩ = some (.slice none 0 0) := (blk_cell BK327.out 1).trans rfl; have hfz8_0 := blk_frozen BK327.out 0; have hfz8_1 := blk_frozen BK327.out 1; obtain ⟨Ao9, co9, eo9⟩ := Kd.R_slice HO326.out; subst eo9) | ((with_reducible refine gate_store (t := 61) (p := 5) rfl ?_); refine store_event (t := 61) (p := 5) (v := ?vo_w10) (w1 := ((w7.setCell ⟨gb327, 0, none⟩ (.int .i64 t323)).setCell ⟨gb327, 1, none⟩ (.slice Ao9 t324.length co9))) ?hg ?ho ?hn ?hr ?_; (case ho => rfl); (case hg => rfl); (case hn => rfl); (case hr => first | (go_simp; done) | (go_simp; rfl)); intro w10 hw; have n0_ : Aside0 (Kd.S k61 61 w10 w.heap.size (fun k_ => some k_ ≠ (.slice Ao9 t324.length co9 : Value).ownBlock ∧ k_ ≠ gb327) u3 x3_1) := ⟨(by rw [hw]; exact (by (with_reducible repeat (first | apply Kd.S_alloc | apply Kd.S_drewN | apply Kd.S_drew)); exact Kd.S_mono (Kd.S_far (p := ⟨gb327, 1, none⟩) (Kd.S_far (p := ⟨gb327, 0, none⟩) (Kd.S_mono HO_3.out (fun k_ hk => (⟨hk, hk.2⟩ : _ ∧ k_ ≠ gb327))) (fun _ hk => hk.2) (.int .i64 t323)) (fun _ hk => hk.2) (.slice Ao9 t324.length co9)) (fun _ hk => ⟨hk.1.1.2, hk.1.2⟩)))⟩; have n1_ : Aside0 (Kd.R (Kd.int .i64) 3 w10 w.heap.size (fun _ => True) (.slice Ao9 t324.length co9) t324) := ⟨(by rw [hw]; exact (by (with_reducible repeat (first | apply Kd.R_alloc | apply Kd.R_drewN | apply Kd.R_drew)); exact Kd.R_mono (Kd.R_far (p := ⟨gb327, 1, none⟩) (Kd.R_far (p := ⟨gb327, 0, none⟩) (Kd.R_types HO326.out BK327.out (by decide)) (fun _ hk => hk.2) (.int .i64 t323)) (fun _ hk => hk.2) (.slice Ao9 t324.length co9)) (fun _ hk => trivial)))⟩; have n2_ : Aside0 (w10.heap[gb327]? = some (.cells #[.int .i64 t323, .slice Ao9 t324.length co9] 61 (0, 0))) := ⟨(by rw [hw]; exact (by (with_reducible repeat (first | refine blk_drewN ?_ _ | refine blk_drew ?_ | refine blk_alloc ?_ _)); refine blk_put (cs := #[.int .i64 t323, .slice none 0 0]) ?_ 1 _ rfl; (with_reducible repeat (first | refine blk_drewN ?_ _ | refine blk_drew ?_ | refine blk_alloc ?_ _)); refine blk_put (cs := #[.int .i64 0, .slice none 0 0]) ?_ 0 _ rfl; (with_reducible repeat (first | refine blk_drewN ?_ _ | refine blk_drew ?_ | refine blk_alloc ?_ _)); exact BK327.out))⟩; have n3_ : Aside0 (Below w.heap.size w w10) := ⟨(by rw [hw]; exact (by repeat (first | (with_reducible first | exact HB.out | apply below_alloc | apply pw_below_drewN | apply below_drew1 | refine below_set ?_ GE327.out) | exact HB.out)))⟩; clear hw; clear HO_3; clear HO326; clear BK327; clear HB; have HO_3 := n0_; have HO326 := n1_; have BK327 := n2_; have HB := n3_; clear n0_ n1_ n2_ n3_; have hcz11_0 : w10.cell? ⟨gb327, 0, none⟩ = some (.int .i64 t323) := (blk_cell BK327.out 0).trans rfl; have hcz11_1 : w10.cell? ⟨gb327, 1, none⟩ = some (.slice Ao9 t324.length co9) := (blk_cell BK327.out 1).trans rfl; have hfz11_0 := blk_frozen BK327.out 0; have hfz11_1 := blk_frozen BK327.out 1) | ((with_reducible refine gate_builtin (b := .append) (xs := #[.tmp 17, .tmp 19]) rfl ?_); at_builtin; refine Kd.S_append k61 (w0 := w) w.heap.size rfl (.tmp 17) (.tmp 19) 55 61 (.agg #[(.int .i64 0), (.slice none 0 0)]) 32 rfl Tryd.underlying55 info61 rfl (by decide) (by omega) u3 x3_1 (⟨t323, t324⟩ : S61) [.int .i64 t323, .slice Ao9 t324.length co9] (fun k_ => k_ ≠ gb327) (fun k_ => some k_ = (.slice Ao9 t324.length co9 : Value).ownBlock) rfl rfl ?aP (fun k_ hk_ => ((Kd.R_mono (ok' := fun k_ => ((fun k_ => k_ ≠ gb327)) k_ ∧ some k_ ≠ (u3 : Value).ownBlock) (Kd.R_types (Kd.R_apart' (HO326.out) (Kd.S_typed HO_3.out) (by decide)) BK327.out (by decide)) (fun k_ hk => ⟨hk.2, hk.1.2⟩))).1 k_ hk_.symm) ?aF ?aO ?aB ?aS ?aL ?_; (case aP => exact k61_mkM _ _ _ (⟨t323, t324⟩ : S61) (Kd.R_mono (Kd.R_tight rfl (Kd.R_mono (ok' := fun k_ => ((fun k_ => k_ ≠ gb327)) k_ ∧ some k_ ≠ (u3 : Value).ownBlock) (Kd.R_types (Kd.R_apart' (HO326.out) (Kd.S_typed HO_3.out) (by decide)) BK327.out (by decide)) (fun k_ hk => ⟨hk.2, hk.1.2⟩))) (fun _ h_ => h_))); (case aB => exact (by repeat (first | (with_reducible first | exact HB.out | apply below_alloc | apply pw_below_drewN | apply below_drew1 | refine below_set ?_ GE327.out) | exact HB.out))); (case aF => exact (fun k_ hk => Kd.freshB (g := gb327) (o := .cells #[.int .i64 t323, .slice Ao9 t324.length co9] 61 (0, 0)) (by (with_reducible repeat (first | refine blk_drewN ?_ _ | refine blk_drew ?_ | refine blk_alloc ?_ _)); exact BK327.out) k_ hk)); (case aO => exact (by (with_reducible repeat (first | apply Kd.S_alloc | apply Kd.S_drewN | apply Kd.S_drew)); exact Kd.S_mono HO_3.out (fun k_ hk => ⟨hk.2, fun e_ => hk.1 e_⟩))); (case aS => exact (below_size (by repeat (first | (with_reducible first | exact HB.out | apply below_alloc | apply pw_below_drewN | apply below_drew1 | refine below_set ?_ GE327.out) | exact HB.out)))); (case aL => have := LMc5.out; omega); intro v329 w12 ho hb hg hat; rw [← Ny328.out] at ho; have n0_ := Aside0.mk (blk_grown (g := gb327) (o := .cells #[.int .i64 t323, .slice Ao9 t324.length co9] 61 (0, 0)) (by (with_reducible repeat (first | refine blk_drewN ?_ _ | refine blk_drew ?_ | refine blk_alloc ?_ _)); exact BK327.out) hg (Kd.S_away HO_3.out (fun _ hk => hk.2))); have n1_ := Aside0.mk (hb); have n2_ := Aside0.mk (ho); clear BK327; clear HB; clear HO_3; clear HO326; have BK327 := n0_; have HB := n1_; have HO330 := n2_; clear n0_ n1_ n2_; clear ho hb hg hat))
      go_roundg k1
      case measure => have := HK1.out; omega
      case rel => exact ⟨(y328), (wrap64 (x4_1 + 1)), (by first | rfl | (simp; done) | (simp [*]; done)), H', ⟨by have := HK1.out; omega⟩, ⟨by (with_reducible repeat (first | apply Kd.S_alloc | apply Kd.S_drewN | apply Kd.S_drew)); exact Kd.S_mono HO330.out (fun _ hk => trivial)⟩, ⟨by repeat (first | (with_reducible first | exact HB.out | apply below_alloc | apply pw_below_drewN | apply below_drew1 | refine below_set ?_ GE327.out) | exact HB.out)⟩⟩
     ·rw [if_neg c5] at H
      exact absurd H (by simp)
    ·rw [if_neg c3] at H
     exact absurd H (by simp)
   ·rw [if_neg c2] at H
    have c2b0 : decide (x4_1 < (l0.length : Int)) = false := decide_eq_false c2
    clear c2
    obtain rfl := Option.some.inj H
    go_wp2
    go_ret
    exact ⟨_, by first | rfl | (simp [errW_none, errW_some] <;> rfl) | (simp [*, errW_none, errW_some] <;> rfl), by (with_reducible repeat (first | apply Kd.S_alloc | apply Kd.S_drewN | apply Kd.S_drew)); exact HO_3.out, by repeat (first | (with_reducible first | exact HB.out | apply below_alloc | apply pw_below_drewN | apply below_drew1) | exact HB.out)⟩
set_option maxHeartbeats 8000000 in
set_option maxRecDepth 100000 in
theorem letterbagkit_CopyRate.calls (k : Nat) (a0_0 : Int) (A0_1 : Option Addr) (c0_1 : Nat) (l0_1 : List (S61)) (a0_2 : Int) (r1 : Int) (r2 : List (S61)) (r3 : Int) (w : World) (hr0_1 : Kd.C k61 w A0_1 l0_1.length l0_1) (hc0_1 : l0_1.length ≤ c0_1) (h : letterbagkit_CopyRate.f k a0_0 l0_1 a0_2 = some (r1, r2, r3)) :
  Calls Tryd.prog 71 #[.agg #[.int .u8 a0_0, .slice A0_1 l0_1.length c0_1, .int .i64 a0_2]] w fun e w' => ∃ v1_ : Value, e = .returned (.agg #[.int .u8 r1, v1_, .int .i64 r3]) ∧ Kd.S k61 61 w' w.heap.size (fun _ => True) v1_ r2 ∧ Below w.heap.size w w' := by
 have hu57 := Tryd.underlying57
 have HR0_1 := Aside0.mk hr0_1
 have HC0_1 := Aside0.mk hc0_1
 clear hr0_1 hc0_1
 have HB := Aside0.mk (Below.refl w.heap.size w)
 have H : ((letterbagkit_CopySteps.f k l0_1).bind fun t333 => (some (a0_0, t333, a0_2))) = some (r1, r2, r3) := h
 clear h
 replace H := Option.bind_eq_some_iff.mp H
 obtain ⟨t333, A20, H⟩ := H
 replace H : (some (a0_0, t333, a0_2)) = some (r1, r2, r3) := H
 have A2 := Aside0.mk A20
 clear A20
 simp only [Option.some.injEq, Prod.mk.injEq] at H
 obtain ⟨rfl, rfl, rfl⟩ := H
 go_enter Tryd.func71, Tryd.ntmps71
 go_wp2_with (first | ((with_reducible refine gate_dst (N := 1) rfl ?_); refine box_event ?hg (N := 1) ?hd (cs := #[.int .u8 a0_0, .slice A0_1 l0_1.length c0_1, .int .i64 a0_2]) (t := 57) ?hr ?_; (case hd => rfl); (case hg => rfl); (case hr => first | (go_simp; done) | (go_simp; rfl)); intro gb331 hg w3 hbox hb; have n0_ := Aside0.mk (below_step (by repeat (first | (with_reducible first | exact HB.out | apply below_alloc | apply pw_below_drewN | apply below_drew1) | exact HB.out)) hb); have n1_ := Aside0.mk (hbox); have n2_ := Aside0.mk ((by rw [hg]; exact (below_size (by repeat (first | (with_reducible first | exact HB.out | apply below_alloc | apply pw_below_drewN | apply below_drew1) | exact HB.out))) : w.heap.size ≤ gb331)); have n3_ := Aside0.mk ((by rw [hg]; exact (below_size (by repeat (first | (with_reducible first | exact HB.out | apply below_alloc | apply pw_below_drewN | apply below_drew1) | exact HB.out))) : w.heap.size ≤ gb331)); clear HB; have HB := n0_; have BK331 := n1_; have GW331 := n2_; have GE331 := n3_; clear n0_ n1_ n2_ n3_; clear hb hbox hg) | ((with_reducible refine gate_dst (N := 2) rfl ?_); refine box_event ?hg (N := 2) ?hd (cs := #[.int .u8 0, .slice none 0 0, .int .i64 0]) (t := 57) ?hr ?_; (case hd => rfl); (case hg => rfl); (case hr => first | (go_simp; done) | (go_simp; rfl)); intro gb332 hg w4 hbox hb; have n0_ := Aside0.mk (blk_below (g := gb331) (o := .cells #[.int .u8 a0_0, .slice A0_1 l0_1.length c0_1, .int .i64 a0_2] 57 (0, 0)) (by (with_reducible repeat (first | refine blk_drewN ?_ _ | refine blk_drew ?_ | refine blk_alloc ?_ _)); exact BK331.out) hb); have n1_ := Aside0.mk (below_step (by repeat (first | (with_reducible first | exact HB.out | apply below_alloc | apply pw_below_drewN | apply below_drew1 | refine below_set ?_ GE331.out) | exact HB.out)) hb); have n2_ := Aside0.mk (hbox); have n3_ := Aside0.mk ((by rw [hg]; exact (below_size (by repeat (first | (with_reducible first | exact HB.out | apply below_alloc | apply pw_below_drewN | apply below_drew1 | refine below_set ?_ GE331.out) | exact HB.out))) : w.heap.size ≤ gb332)); have n4_ := Aside0.mk ((by rw [hg]; exact (below_size (by repeat (first | (with_reducible first | exact HB.out | apply below_alloc | apply pw_below_drewN | apply below_drew1 | refine below_set ?_ GE331.out) | exact HB.out))) : w.heap.size ≤ gb332)); have n5_ := Aside0.mk ((by rw [hg]; exact Nat.ne_of_lt (blk_lt (g := gb331) (o := .cells #[.int .u8 a0_0, .slice A0_1 l0_1.length c0_1, .int .i64 a0_2] 57 (0, 0)) (by (with_reducible repeat (first | refine blk_drewN ?_ _ | refine blk_drew ?_ | refine blk_alloc ?_ _)); exact BK331.out)) : gb331 ≠ gb332)); have n6_ := Aside0.mk ((by rw [hg]; exact Nat.ne_of_gt (blk_lt (g := gb331) (o := .cells #[.int .u8 a0_0, .slice A0_1 l0_1.length c0_1, .int .i64 a0_2] 57 (0, 0)) (by (with_reducible repeat (first | refine blk_drewN ?_ _ | refine blk_drew ?_ | refine blk_alloc ?_ _)); exact BK331.out)) : gb332 ≠ gb331)); clear BK331; clear HB; have BK331 := n0_; have HB := n1_; have BK332 := n2_; have GW332 := n3_; have GE332 := n4_; have NB331_332 := n5_; have NB332_331 := n6_; clear n0_ n1_ n2_ n3_ n4_ n5_ n6_; clear hb hbox hg; have hnb5 := NB331_332.out; have hnc5 := NB332_331.out; have hcz6_0 : w4.cell? ⟨gb331, 0, none⟩ = some (.int .u8 a0_0) := (blk_cell BK331.out 0).trans rfl; have hcz6_1 : w4.cell? ⟨gb331, 1, none⟩ = some (.slice A0_1 l0_1.length c0_1) := (blk_cell BK331.out 1).trans rfl; have hcz6_2 : w4.cell? ⟨gb331, 2, none⟩ = some (.int .i64 a0_2) := (blk_cell BK331.out 2).trans rfl; have hfz6_0 := blk_frozen BK331.out 0; have hfz6_1 := blk_frozen BK331.out 1; have hfz6_2 := blk_frozen BK331.out 2) | ((with_reducible refine gate_callee (f := 86) rfl ?_); refine goesL_ (some 5) rfl rfl Tryd.func86 (by kernel_rfl) rfl #[.slice A0_1 l0_1.length c0_1] rfl (by (try simp only [List.map_toArray, List.map_cons, List.map_nil]); first | done | rfl | (simp only [List.length_drop, List.length_take]; rfl)) ?_; (with_reducible refine (letterbagkit_CopySteps.calls k _ _ l0_1 t333 _ ?side1 ?side2 A2.out).mono ?_); (case side1 => repeat (first | exact (Kd.C_below HR0_1.out HB.out) | (with_reducible refine Kd.C_alloc ?_ _) | (with_reducible refine Kd.C_drewN ?_ _) | (with_reducible refine Kd.C_drew ?_))); (case side2 => exact HC0_1.out); rintro e w7 ⟨v334, rfl, ho0, hb⟩; refine ⟨_, rfl, ?_⟩; have n0_ := Aside0.mk (Kd.S_lower ho0 (below_size (by repeat (first | (with_reducible first | exact HB.out | apply below_alloc | apply pw_below_drewN | apply below_drew1 | refine below_set ?_ GE331.out | refine below_set ?_ GE332.out) | exact HB.out)))); have n1_ := Aside0.mk (blk_below (g := gb331) (o := .cells #[.int .u8 a0_0, .slice A0_1 l0_1.length c0_1, .int .i64 a0_2] 57 (0, 0)) (by (with_reducible repeat (first | refine blk_drewN ?_ _ | refine blk_drew ?_ | refine blk_alloc ?_ _)); exact BK331.out) hb); have n2_ := Aside0.mk (blk_below (g := gb332) (o := .cells #[.int .u8 0, .slice none 0 0, .int .i64 0] 57 (0, 0)) (by (with_reducible repeat (first | refine blk_drewN ?_ _ | refine blk_drew ?_ | refine blk_alloc ?_ _)); exact BK332.out) hb); have n3_ := Aside0.mk (below_step (by repeat (first | (with_reducible first | exact HB.out | apply below_alloc | apply pw_below_drewN | apply below_drew1 | refine below_set ?_ GE331.out | refine below_set ?_ GE332.out) | exact HB.out)) hb); clear BK331; clear BK332; clear HB; have HO335 := n0_; have BK331 := n1_; have BK332 := n2_; have HB := n3_; clear n0_ n1_ n2_ n3_; (try clear hb); (try clear hb2); (try clear hk); (try clear hi); (try clear ho0); obtain ⟨Ao8, co8, eo8⟩ := Kd.S_slice HO335.out; subst eo8; have hcz9_0 : w7.cell? ⟨gb331, 0, none⟩ = some (.int .u8 a0_0) := (blk_cell BK331.out 0).trans rfl; have hcz9_1 : w7.cell? ⟨gb331, 1, none⟩ = some (.slice A0_1 l0_1.length c0_1) := (blk_cell BK331.out 1).trans rfl; have hcz9_2 : w7.cell? ⟨gb331, 2, none⟩ = some (.int .i64 a0_2) := (blk_cell BK331.out 2).trans rfl; have hfz9_0 := blk_frozen BK331.out 0; have hfz9_1 := blk_frozen BK331.out 1; have hfz9_2 := blk_frozen BK331.out 2; have hcz10_0 : w7.cell? ⟨gb332, 0, none⟩ = some (.int .u8 0) := (blk_cell BK332.out 0).trans rfl; have hcz10_1 : w7.cell? ⟨gb332, 1, none⟩ = some (.slice none 0 0) := (blk_cell BK332.out 1).trans rfl; have hcz10_2 : w7.cell? ⟨gb332, 2, none⟩ = some (.int .i64 0) := (blk_cell BK332.out 2).trans rfl; have hfz10_0 := blk_frozen BK332.out 0; have hfz10_1 := blk_frozen BK332.out 1; have hfz10_2 := blk_frozen BK332.out 2))
 refine bodyPost_ret (results_cell_row rfl _ _ gb332 57 #[.int .u8 a0_0, .slice Ao8 t333.length co8, .int .i64 a0_2] (0, 0) _ rfl (by (with_reducible repeat (first | refine blk_drewN ?_ _ | refine blk_drew ?_ | refine blk_alloc ?_ _)); refine blk_put (cs := #[.int .u8 a0_0, .slice Ao8 t333.length co8, .int .i64 0]) ?_ 2 _ rfl; (with_reducible repeat (first | refine blk_drewN ?_ _ | refine blk_drew ?_ | refine blk_alloc ?_ _)); refine blk_put (cs := #[.int .u8 a0_0, .slice none 0 0, .int .i64 0]) ?_ 1 _ rfl; (with_reducible repeat (first | refine blk_drewN ?_ _ | refine blk_drew ?_ | refine blk_alloc ?_ _)); refine blk_put (cs := #[.int .u8 0, .slice none 0 0, .int .i64 0]) ?_ 0 _ rfl; (with_reducible repeat (first | refine blk_drewN ?_ _ | refine blk_drew ?_ | refine blk_alloc ?_ _)); refine blk_far ?_ NB332_331.out _; (with_reducible repeat (first | refine blk_drewN ?_ _ | refine blk_drew ?_ | refine blk_alloc ?_ _)); exact BK332.out) Tryd.underlying57 rfl (by kernel_rfl)) rfl ?_
 exact ⟨_, by first | rfl | (simp [errW_none, errW_some] <;> rfl) | (simp [*, errW_none, errW_some] <;> rfl), by (with_reducible repeat (first | apply Kd.S_alloc | apply Kd.S_drewN | apply Kd.S_drew)); exact Kd.S_mono (Kd.S_far (p := ⟨gb332, 2, none⟩) (Kd.S_far (p := ⟨gb332, 1, none⟩) (Kd.S_far (p := ⟨gb332, 0, none⟩) (Kd.S_far (p := ⟨gb331, 1, none⟩) (Kd.S_types (Kd.S_types HO335.out BK331.out (by decide)) BK332.out (by decide)) (fun _ hk => hk.1.2) (.slice Ao8 t333.length co8)) (fun _ hk => hk.2) (.int .u8 a0_0)) (fun _ hk => hk.2) (.slice Ao8 t333.length co8)) (fun _ hk => hk.2) (.int .i64 a0_2)) (fun _ hk => trivial), by repeat (first | (with_reducible first | exact HB.out | apply below_alloc | apply pw_below_drewN | apply below_drew1 | refine below_set ?_ GE331.out | refine below_set ?_ GE332.out) | exact HB.out)⟩
set_option maxHeartbeats 8000000 in
set_option maxRecDepth 100000 in
theorem letterbagkit_CopyRates.calls (k : Nat) (A0 : Option Addr) (c0 : Nat) (l0 : List (S57)) (r : List (S57)) (w : World) (hr0 : Kd.C k57 w A0 l0.length l0) (hc0 : l0.length ≤ c0) (h : letterbagkit_CopyRates.f k l0 = some r) :
  Calls Tryd.prog 49 #[.slice A0 l0.length c0] w fun e w' => ∃ v0_ : Value, e = .returned (v0_) ∧ Kd.R k57 57 w' w.heap.size (fun _ => True) v0_ r ∧ Below w.heap.size w w' := by
 have hu57 := Tryd.underlying57
 have HR0 := Aside0.mk hr0
 have HC0 := Aside0.mk hc0
 clear hr0 hc0
 have HB := Aside0.mk (Below.refl w.heap.size w)
 have H : (letterbagkit_CopyRates.l0 k l0 ([] : List (S57)) 0) = some r := h
 clear h
 have H' := Aside0.mk H
 clear H
 go_enter Tryd.func49, Tryd.ntmps49
 go_wp2
 go_loopg [3, 4] k (fun kq v3 v4 w' => ∃ (x3_1 : List (S57)) (x4_1 : Int), v4 = .int .i64 x4_1 ∧ Aside0 (letterbagkit_CopyRates.l0 kq l0 x3_1 x4_1 = some r) ∧ Aside0 (kq ≤ k) ∧ Aside0 (Kd.R k57 57 w' w.heap.size (fun _ => True) v3 x3_1) ∧ Aside0 (Below w.heap.size w w'))
 case atStart => exact ⟨(([] : List (S57))), (0), (by first | rfl | (simp; done) | (simp [*]; done)), H', ⟨Nat.le_refl _⟩, ⟨by first | exact Kd.R_nil _ _ _ _ _ | exact Kd.N_nil _ _ _ _ _ | exact Kd.V_nil _ _ _ _ _ | exact Kd.Q_nil _ _ _ _ _ | exact Kd.S_nil _ _ _ _ _⟩, ⟨by repeat (first | (with_reducible first | exact HB.out | apply below_alloc | apply pw_below_drewN | apply below_drew1) | exact HB.out)⟩⟩
 case round =>
  clear H'
  obtain ⟨x3_1, x4_1, rfl, HA, HK1, HO_3, HB⟩ := hrel
  cases gk with
  | zero => exact absurd HA.out (by simp [letterbagkit_CopyRates.l0])
  | succ k1 =>
   have H := HA.out
   clear HA
   simp only [letterbagkit_CopyRates.l0] at H
   by_cases c2 : x4_1 < (l0.length : Int)
   ·rw [if_pos c2] at H
    have c2b0 : decide (x4_1 < (l0.length : Int)) = true := decide_eq_true c2
    clear c2
    by_cases c3 : 0 ≤ x4_1
    ·rw [if_pos c3] at H
     have c3b0 : decide (0 ≤ x4_1) = true := decide_eq_true c3
     clear c3
     replace H := Option.bind_eq_some_iff.mp H
     obtain ⟨⟨t337, t338, t341⟩, A40, H⟩ := H
     replace H : (if x3_1.length < 3518437208883 then (letterbagkit_CopyRates.l0 k1 l0 (x3_1 ++ [(⟨t337, t338, t341⟩ : S57)]) (wrap64 (x4_1 + 1))) else (none)) = some r := H
     have A4 := Aside0.mk A40
     clear A40
     by_cases c5 : x3_1.length < 3518437208883
     ·rw [if_pos c5] at H
      have LMc5 := Aside0.mk c5
      clear c5
      obtain ⟨y343, hy343⟩ : ∃ y_ : List (S57), y_ = (x3_1 ++ [(⟨t337, t338, t341⟩ : S57)]) := ⟨_, rfl⟩
      replace H : (letterbagkit_CopyRates.l0 k1 l0 y343 (wrap64 (x4_1 + 1))) = some r := by first | (rw [hy343]; with_reducible exact H) | (have H2_ := (Option.bind_some _ _).symm.trans H; rw [hy343]; with_reducible exact H2_) | (have H2_ := (Option.bind_some _ _).symm.trans H; with_reducible exact H2_) | with_reducible exact H | (rw [hy343]; exact H) | exact H
      have Ny343 := Aside0.mk hy343
      clear hy343
      have H' := Aside0.mk H
      clear H
      have p336 : 0 ≤ (x4_1 : Int) := of_decide_eq_true (by first | (with_reducible assumption) | assumption)
      have q336 : x4_1 < (l0.length : Int) := of_decide_eq_true (by first | (with_reducible assumption) | assumption)
      obtain ⟨ad336, A336_1, c336_1, e336, hx336_0, hx336_1, hx336_2, hl336_1, hi336_1⟩ := at_T57 HR0.out x4_1 p336 q336
      cases e336
      replace hx336_0 := (HB.out.cell (World.block_lt_of_cell? w _ hx336_0)).trans hx336_0
      replace hx336_1 := (HB.out.cell (World.block_lt_of_cell? w _ hx336_1)).trans hx336_1
      replace hx336_2 := (HB.out.cell (World.block_lt_of_cell? w _ hx336_2)).trans hx336_2
      have HR336_1 := Aside0.mk hi336_1
      have HC336_1 := Aside0.mk hl336_1
      clear hi336_1 hl336_1
      replace p336 := eq_true p336
      replace q336 := eq_true q336
      go_wp2_with (first | ((with_reducible refine gate_callee (f := 71) rfl ?_); refine goesL_ (some 16) rfl rfl Tryd.func71 (by kernel_rfl) rfl #[.agg #[.int .u8 ((rd_T57 l0 x4_1).f0), .slice A336_1 ((rd_T57 l0 x4_1).f1).length c336_1, .int .i64 ((rd_T57 l0 x4_1).f2)]] rfl (by (try simp only [List.map_toArray, List.map_cons, List.map_nil]); first | done | rfl | (simp only [List.length_drop, List.length_take]; rfl)) ?_; (with_reducible refine (letterbagkit_CopyRate.calls k1 ((rd_T57 l0 x4_1).f0) _ _ ((rd_T57 l0 x4_1).f1) ((rd_T57 l0 x4_1).f2) t337 t338 t341 _ ?side1 ?side2 A4.out).mono ?_); (case side1 => repeat (first | exact (Kd.C_below HR336_1.out HB.out) | (with_reducible refine Kd.C_alloc ?_ _) | (with_reducible refine Kd.C_drewN ?_ _) | (with_reducible refine Kd.C_drew ?_))); (case side2 => exact HC336_1.out); rintro e w6 ⟨v339, rfl, ho0, hb⟩; refine ⟨_, rfl, ?_⟩; have n0_ := Aside0.mk (Kd.R_elder' (by (with_reducible repeat (first | apply Kd.R_alloc | apply Kd.R_drewN | apply Kd.R_drew)); exact HO_3.out) (Kd.S_base ho0) hb); have n1_ := Aside0.mk (Kd.S_lower ho0 (below_size (by repeat (first | (with_reducible first | exact HB.out | apply below_alloc | apply pw_below_drewN | apply below_drew1) | exact HB.out)))); have n2_ := Aside0.mk (below_step (by repeat (first | (with_reducible first | exact HB.out | apply below_alloc | apply pw_below_drewN | apply below_drew1) | exact HB.out)) hb); clear HO_3; clear HB; have HO_3 := n0_; have HO340 := n1_; have HB := n2_; clear n0_ n1_ n2_; (try clear hb); (try clear hb2); (try clear hk); (try clear hi); (try clear ho0)) | ((with_reducible refine gate_dst (N := 5) rfl ?_); refine box_event ?hg (N := 5) ?hd (cs := #[.int .u8 0, .slice none 0 0, .int .i64 0]) (t := 57) ?hr ?_; (case hd => rfl); (case hg => rfl); (case hr => first | (go_simp; done) | (go_simp; rfl)); intro gb342 hg w7 hbox hb; have n0_ := Aside0.mk (Kd.R_below (Kd.R_elderB (by (with_reducible repeat (first | apply Kd.R_alloc | apply Kd.R_drewN | apply Kd.R_drew)); exact HO_3.out) gb342 (Nat.le_of_eq hg.symm)) hb); have n1_ := Aside0.mk (Kd.S_below (by (with_reducible repeat (first | apply Kd.S_alloc | apply Kd.S_drewN | apply Kd.S_drew)); exact HO340.out) hb); have n2_ := Aside0.mk (below_step (by repeat (first | (with_reducible first | exact HB.out | apply below_alloc | apply pw_below_drewN | apply below_drew1) | exact HB.out)) hb); have n3_ := Aside0.mk (hbox); have n4_ := Aside0.mk ((by rw [hg]; exact (below_size (by repeat (first | (with_reducible first | exact HB.out | apply below_alloc | apply pw_below_drewN | apply below_drew1) | exact HB.out))) : w.heap.size ≤ gb342)); have n5_ := Aside0.mk ((by rw [hg]; exact (below_size (by repeat (first | (with_reducible first | exact HB.out | apply below_alloc | apply pw_below_drewN | apply below_drew1) | exact HB.out))) : w.heap.size ≤ gb342)); clear HO_3; clear HO340; clear HB; have HO_3 := n0_; have HO340 := n1_; have HB := n2_; have BK342 := n3_; have GW342 := n4_; have GE342 := n5_; clear n0_ n1_ n2_ n3_ n4_ n5_; clear hb hbox hg; have hcz8_0 : w7.cell? ⟨gb342, 0, none⟩ = some (.int .u8 0) := (blk_cell BK342.out 0).trans rfl; have hcz8_1 : w7.cell? ⟨gb342, 1, none⟩ = some (.slice none 0 0) := (blk_cell BK342.out 1).trans rfl; have hcz8_2 : w7.cell? ⟨gb342, 2, none⟩ = some (.int .i64 0) := (blk_cell BK342.out 2).trans rfl; have hfz8_0 := blk_frozen BK342.out 0; have hfz8_1 := blk_frozen BK342.out 1; have hfz8_2 := blk_frozen BK342.out 2; obtain ⟨Ao9, co9, eo9⟩ := Kd.S_slice HO340.out; subst eo9) | ((with_reducible refine gate_store (t := 57) (p := 5) rfl ?_); refine store_event (t := 57) (p := 5) (v := ?vo_w10) (w1 := (((w7.setCell ⟨gb342, 0, none⟩ (.int .u8 t337)).setCell ⟨gb342, 1, none⟩ (.slice Ao9 t338.length co9)).setCell ⟨gb342, 2, none⟩ (.int .i64 t341))) ?hg ?ho ?hn ?hr ?_; (case ho => rfl); (case hg => rfl); (case hn => rfl); (case hr => first | (go_simp; done) | (go_simp; rfl)); intro w10 hw; have n0_ : Aside0 (Kd.R k57 57 w10 w.heap.size (fun k_ => some k_ ≠ (.slice Ao9 t338.length co9 : Value).ownBlock ∧ k_ ≠ gb342) u3 x3_1) := ⟨(by rw [hw]; exact (by (with_reducible repeat (first | apply Kd.R_alloc | apply Kd.R_drewN | apply Kd.R_drew)); exact Kd.R_mono (Kd.R_far (p := ⟨gb342, 2, none⟩) (Kd.R_far (p := ⟨gb342, 1, none⟩) (Kd.R_far (p := ⟨gb342, 0, none⟩) (Kd.R_mono HO_3.out (fun k_ hk => (⟨hk, hk.2⟩ : _ ∧ k_ ≠ gb342))) (fun _ hk => hk.2) (.int .u8 t337)) (fun _ hk => hk.2) (.slice Ao9 t338.length co9)) (fun _ hk => hk.2) (.int .i64 t341)) (fun _ hk => ⟨hk.1.1.2, hk.1.2⟩)))⟩; have n1_ : Aside0 (Kd.S k61 61 w10 w.heap.size (fun _ => True) (.slice Ao9 t338.length co9) t338) := ⟨(by rw [hw]; exact (by (with_reducible repeat (first | apply Kd.S_alloc | apply Kd.S_drewN | apply Kd.S_drew)); exact Kd.S_mono (Kd.S_far (p := ⟨gb342, 2, none⟩) (Kd.S_far (p := ⟨gb342, 1, none⟩) (Kd.S_far (p := ⟨gb342, 0, none⟩) (Kd.S_types HO340.out BK342.out (by decide)) (fun _ hk => hk.2) (.int .u8 t337)) (fun _ hk => hk.2) (.slice Ao9 t338.length co9)) (fun _ hk => hk.2) (.int .i64 t341)) (fun _ hk => trivial)))⟩; have n2_ : Aside0 (w10.heap[gb342]? = some (.cells #[.int .u8 t337, .slice Ao9 t338.length co9, .int .i64 t341] 57 (0, 0))) := ⟨(by rw [hw]; exact (by (with_reducible repeat (first | refine blk_drewN ?_ _ | refine blk_drew ?_ | refine blk_alloc ?_ _)); refine blk_put (cs := #[.int .u8 t337, .slice Ao9 t338.length co9, .int .i64 0]) ?_ 2 _ rfl; (with_reducible repeat (first | refine blk_drewN ?_ _ | refine blk_drew ?_ | refine blk_alloc ?_ _)); refine blk_put (cs := #[.int .u8 t337, .slice none 0 0, .int .i64 0]) ?_ 1 _ rfl; (with_reducible repeat (first | refine blk_drewN ?_ _ | refine blk_drew ?_ | refine blk_alloc ?_ _)); refine blk_put (cs := #[.int .u8 0, .slice none 0 0, .int .i64 0]) ?_ 0 _ rfl; (with_reducible repeat (first | refine blk_drewN ?_ _ | refine blk_drew ?_ | refine blk_alloc ?_ _)); exact BK342.out))⟩; have n3_ : Aside0 (Below w.heap.size w w10) := ⟨(by rw [hw]; exact (by repeat (first | (with_reducible first | exact HB.out | apply below_alloc | apply pw_below_drewN | apply below_drew1 | refine below_set ?_ GE342.out) | exact HB.out)))⟩; clear hw; clear HO_3; clear HO340; clear BK342; clear HB; have HO_3 := n0_; have HO340 := n1_; have BK342 := n2_; have HB := n3_; clear n0_ n1_ n2_ n3_; have hcz11_0 : w10.cell? ⟨gb342, 0, none⟩ = some (.int .u8 t337) := (blk_cell BK342.out 0).trans rfl; have hcz11_1 : w10.cell? ⟨gb342, 1, none⟩ = some (.slice Ao9 t338.length co9) := (blk_cell BK342.out 1).trans rfl; have hcz11_2 : w10.cell? ⟨gb342, 2, none⟩ = some (.int .i64 t341) := (blk_cell BK342.out 2).trans rfl; have hfz11_0 := blk_frozen BK342.out 0; have hfz11_1 := blk_frozen BK342.out 1; have hfz11_2 := blk_frozen BK342.out 2) | ((with_reducible refine gate_builtin (b := .append) (xs := #[.tmp 17, .tmp 19]) rfl ?_); at_builtin; refine Kd.R_append k57 (w0 := w) w.heap.size rfl (.tmp 17) (.tmp 19) 22 57 (.agg #[(.int .u8 0), (.slice none 0 0), (.int .i64 0)]) 40 rfl Tryd.underlying22 info57 rfl (by decide) (by omega) u3 x3_1 (⟨t337, t338, t341⟩ : S57) [.int .u8 t337, .slice Ao9 t338.length co9, .int .i64 t341] (fun k_ => k_ ≠ gb342) (fun k_ => ((fun k_ => k_ ≠ gb342)) k_ ∧ some k_ ≠ (u3 : Value).ownBlock) rfl rfl ?aP (fun _ hk => hk) ?aF ?aO ?aB ?aS ?aL ?_; (case aP => exact k57_mkM _ _ _ (⟨t337, t338, t341⟩ : S57) (Kd.R_mono (Kd.R_types (Kd.R_apart' ((Kd.S_R HO340.out)) (Kd.R_typed HO_3.out) (by decide)) BK342.out (by decide)) (fun k_ hk => ⟨hk.2, hk.1.2⟩))); (case aB => exact (by repeat (first | (with_reducible first | exact HB.out | apply below_alloc | apply pw_below_drewN | apply below_drew1 | refine below_set ?_ GE342.out) | exact HB.out))); (case aF => exact (fun k_ hk => Kd.freshB (g := gb342) (o := .cells #[.int .u8 t337, .slice Ao9 t338.length co9, .int .i64 t341] 57 (0, 0)) (by (with_reducible repeat (first | refine blk_drewN ?_ _ | refine blk_drew ?_ | refine blk_alloc ?_ _)); exact BK342.out) k_ hk)); (case aO => exact (by (with_reducible repeat (first | apply Kd.R_alloc | apply Kd.R_drewN | apply Kd.R_drew)); exact Kd.R_mono HO_3.out (fun _ hk => hk.2))); (case aS => exact (below_size (by repeat (first | (with_reducible first | exact HB.out | apply below_alloc | apply pw_below_drewN | apply below_drew1 | refine below_set ?_ GE342.out) | exact HB.out)))); (case aL => have := LMc5.out; omega); intro v344 w12 ho hb hg hat; rw [← Ny343.out] at ho; have n0_ := Aside0.mk (blk_grown (g := gb342) (o := .cells #[.int .u8 t337, .slice Ao9 t338.length co9, .int .i64 t341] 57 (0, 0)) (by (with_reducible repeat (first | refine blk_drewN ?_ _ | refine blk_drew ?_ | refine blk_alloc ?_ _)); exact BK342.out) hg (Kd.R_away HO_3.out (fun _ hk => hk.2))); have n1_ := Aside0.mk (hb); have n2_ := Aside0.mk (ho); clear BK342; clear HB; clear HO_3; clear HO340; have BK342 := n0_; have HB := n1_; have HO345 := n2_; clear n0_ n1_ n2_; clear ho hb hg hat))
      go_roundg k1
      case measure => have := HK1.out; omega
      case rel => exact ⟨(y343), (wrap64 (x4_1 + 1)), (by first | rfl | (simp; done) | (simp [*]; done)), H', ⟨by have := HK1.out; omega⟩, ⟨by (with_reducible repeat (first | apply Kd.R_alloc | apply Kd.R_drewN | apply Kd.R_drew)); exact Kd.R_mono HO345.out (fun _ hk => trivial)⟩, ⟨by repeat (first | (with_reducible first | exact HB.out | apply below_alloc | apply pw_below_drewN | apply below_drew1 | refine below_set ?_ GE342.out) | exact HB.out)⟩⟩
     ·rw [if_neg c5] at H
      exact absurd H (by simp)
    ·rw [if_neg c3] at H
     exact absurd H (by simp)
   ·rw [if_neg c2] at H
    have c2b0 : decide (x4_1 < (l0.length : Int)) = false := decide_eq_false c2
    clear c2
    obtain rfl := Option.some.inj H
    go_wp2
    go_ret
    exact ⟨_, by first | rfl | (simp [errW_none, errW_some] <;> rfl) | (simp [*, errW_none, errW_some] <;> rfl), by (with_reducible repeat (first | apply Kd.R_alloc | apply Kd.R_drewN | apply Kd.R_drew)); exact HO_3.out, by repeat (first | (with_reducible first | exact HB.out | apply below_alloc | apply pw_below_drewN | apply below_drew1) | exact HB.out)⟩
set_option maxHeartbeats 8000000 in
set_option maxRecDepth 100000 in
theorem letterbagkit_CopyZones.calls (A0 : Option Addr) (c0 : Nat) (l0 : List (S67)) (r : List (S67)) (w : World) (hr0 : Kd.C k67 w A0 l0.length l0) (hc0 : l0.length ≤ c0) (h : letterbagkit_CopyZones.f l0 = some r) :
  Calls Tryd.prog 50 #[.slice A0 l0.length c0] w fun e w' => ∃ v0_ : Value, e = .returned (v0_) ∧ Kd.R k67 67 w' w.heap.size (fun _ => True) v0_ r ∧ Below w.heap.size w w' := by
 have HR0 := Aside0.mk hr0
 have HC0 := Aside0.mk hc0
 clear hr0 hc0
 have HB := Aside0.mk (Below.refl w.heap.size w)
 have H : (if ([] : List (S67)).length + l0.length < 3518437208883 then (some (([] : List (S67)) ++ l0)) else (none)) = some r := h
 clear h
 by_cases c2 : ([] : List (S67)).length + l0.length < 3518437208883
 ·rw [if_pos c2] at H
  have LMc2 := Aside0.mk c2
  clear c2
  obtain ⟨y346, hy346⟩ : ∃ y_ : List (S67), y_ = (([] : List (S67)) ++ l0) := ⟨_, rfl⟩
  replace H : (some y346) = some r := by first | (rw [hy346]; with_reducible exact H) | (have H2_ := (Option.bind_some _ _).symm.trans H; rw [hy346]; with_reducible exact H2_) | (have H2_ := (Option.bind_some _ _).symm.trans H; with_reducible exact H2_) | with_reducible exact H | (rw [hy346]; exact H) | exact H
  have Ny346 := Aside0.mk hy346
  clear hy346
  obtain rfl := Option.some.inj H
  go_enter Tryd.func50, Tryd.ntmps50
  go_wp2_with (first | ((with_reducible refine gate_builtin (b := .append) (xs := #[.tmp 4, .tmp 5]) rfl ?_); at_builtin; refine Kd.R_append_rows k67 (w0 := w) w.heap.size rfl (.tmp 4) (.tmp 5) 23 67 (.agg #[(.string ⟨#[]⟩), (.string ⟨#[]⟩), (.int .i64 0)]) 40 rfl Tryd.underlying23 info67 rfl (by decide) (by omega) (.slice none 0 0) ([] : List (S67)) l0 _ _ _ (fun _ => True) (fun _ => False) rfl rfl ?aO ?aR (fun _ _ h => h) (fun _ h => h.elim) ?aF ?aB ?aS ?aL ?_; (case aR => repeat (first | exact HR0.out | (with_reducible refine Kd.C_alloc ?_ _) | (with_reducible refine Kd.C_drewN ?_ _) | (with_reducible refine Kd.C_drew ?_))); (case aB => exact (by repeat (first | (with_reducible first | exact HB.out | apply below_alloc | apply pw_below_drewN | apply below_drew1) | exact HB.out))); (case aF => exact (fun _ _ => trivial)); (case aO => exact ((Kd.R_nil _ _ _ _ (fun _ => True)))); (case aS => exact (below_size (by repeat (first | (with_reducible first | exact HB.out | apply below_alloc | apply pw_below_drewN | apply below_drew1) | exact HB.out)))); (case aL => have := LMc2.out; omega); intro v347 w3 ho hb hg hat; rw [← Ny346.out] at ho; have n0_ := Aside0.mk (hb); have n1_ := Aside0.mk (ho); clear HB; have HB := n0_; have HO348 := n1_; clear n0_ n1_; clear ho hb hg hat))
  go_ret
  exact ⟨_, by first | rfl | (simp [errW_none, errW_some] <;> rfl) | (simp [*, errW_none, errW_some] <;> rfl), by (with_reducible repeat (first | apply Kd.R_alloc | apply Kd.R_drewN | apply Kd.R_drew)); exact HO348.out, by repeat (first | (with_reducible first | exact HB.out | apply below_alloc | apply pw_below_drewN | apply below_drew1) | exact HB.out)⟩
 ·rw [if_neg c2] at H
  exact absurd H (by simp)
set_option maxHeartbeats 8000000 in
set_option maxRecDepth 100000 in
theorem letterbagkit_CopyTariff.calls (k : Nat) (A0_0 : Option Addr) (c0_0 : Nat) (l0_0 : List (S57)) (A0_1 : Option Addr) (c0_1 : Nat) (l0_1 : List (S67)) (r1 : List (S57)) (r2 : List (S67)) (w : World) (hr0_0 : Kd.C k57 w A0_0 l0_0.length l0_0) (hc0_0 : l0_0.length ≤ c0_0) (hr0_1 : Kd.C k67 w A0_1 l0_1.length l0_1) (hc0_1 : l0_1.length ≤ c0_1) (h : letterbagkit_CopyTariff.f k l0_0 l0_1 = some (r1, r2)) :
  Calls Tryd.prog 25 #[.agg #[.slice A0_0 l0_0.length c0_0, .slice A0_1 l0_1.length c0_1]] w fun e w' => ∃ v0_ v1_ : Value, e = .returned (.agg #[v0_, v1_]) ∧ Kd.R k57 57 w' w.heap.size (fun _ => True) v0_ r1 ∧ Kd.R k67 67 w' w.heap.size (fun _ => True) v1_ r2 ∧ Below w.heap.size w w' := by
 have hu25 := Tryd.underlying25
 have HR0_0 := Aside0.mk hr0_0
 have HC0_0 := Aside0.mk hc0_0
 clear hr0_0 hc0_0
 have HR0_1 := Aside0.mk hr0_1
 have HC0_1 := Aside0.mk hc0_1
 clear hr0_1 hc0_1
 have HB := Aside0.mk (Below.refl w.heap.size w)
 have H : ((letterbagkit_CopyRates.f k l0_0).bind fun t351 => ((letterbagkit_CopyZones.f l0_1).bind fun t354 => (some (t351, t354)))) = some (r1, r2) := h
 clear h
 replace H := Option.bind_eq_some_iff.mp H
 obtain ⟨t351, A20, H⟩ := H
 replace H : ((letterbagkit_CopyZones.f l0_1).bind fun t354 => (some (t351, t354))) = some (r1, r2) := H
 have A2 := Aside0.mk A20
 clear A20
 replace H := Option.bind_eq_some_iff.mp H
 obtain ⟨t354, A30, H⟩ := H
 replace H : (some (t351, t354)) = some (r1, r2) := H
 have A3 := Aside0.mk A30
 clear A30
 simp only [Option.some.injEq, Prod.mk.injEq] at H
 obtain ⟨rfl, rfl⟩ := H
 go_enter Tryd.func25, Tryd.ntmps25
 go_wp2_with (first | ((with_reducible refine gate_dst (N := 1) rfl ?_); refine box_event ?hg (N := 1) ?hd (cs := #[.slice A0_0 l0_0.length c0_0, .slice A0_1 l0_1.length c0_1]) (t := 25) ?hr ?_; (case hd => rfl); (case hg => rfl); (case hr => first | (go_simp; done) | (go_simp; rfl)); intro gb349 hg w4 hbox hb; have n0_ := Aside0.mk (below_step (by repeat (first | (with_reducible first | exact HB.out | apply below_alloc | apply pw_below_drewN | apply below_drew1) | exact HB.out)) hb); have n1_ := Aside0.mk (hbox); have n2_ := Aside0.mk ((by rw [hg]; exact (below_size (by repeat (first | (with_reducible first | exact HB.out | apply below_alloc | apply pw_below_drewN | apply below_drew1) | exact HB.out))) : w.heap.size ≤ gb349)); have n3_ := Aside0.mk ((by rw [hg]; exact (below_size (by repeat (first | (with_reducible first | exact HB.out | apply below_alloc | apply pw_below_drewN | apply below_drew1) | exact HB.out))) : w.heap.size ≤ gb349)); clear HB; have HB := n0_; have BK349 := n1_; have GW349 := n2_; have GE349 := n3_; clear n0_ n1_ n2_ n3_; clear hb hbox hg) | ((with_reducible refine gate_dst (N := 2) rfl ?_); refine box_event ?hg (N := 2) ?hd (cs := #[.slice none 0 0, .slice none 0 0]) (t := 25) ?hr ?_; (case hd => rfl); (case hg => rfl); (case hr => first | (go_simp; done) | (go_simp; rfl)); intro gb350 hg w5 hbox hb; have n0_ := Aside0.mk (blk_below (g := gb349) (o := .cells #[.slice A0_0 l0_0.length c0_0, .slice A0_1 l0_1.length c0_1] 25 (0, 0)) (by (with_reducible repeat (first | refine blk_drewN ?_ _ | refine blk_drew ?_ | refine blk_alloc ?_ _)); exact BK349.out) hb); have n1_ := Aside0.mk (below_step (by repeat (first | (with_reducible first | exact HB.out | apply below_alloc | apply pw_below_drewN | apply below_drew1 | refine below_set ?_ GE349.out) | exact HB.out)) hb); have n2_ := Aside0.mk (hbox); have n3_ := Aside0.mk ((by rw [hg]; exact (below_size (by repeat (first | (with_reducible first | exact HB.out | apply below_alloc | apply pw_below_drewN | apply below_drew1 | refine below_set ?_ GE349.out) | exact HB.out))) : w.heap.size ≤ gb350)); have n4_ := Aside0.mk ((by rw [hg]; exact (below_size (by repeat (first | (with_reducible first | exact HB.out | apply below_alloc | apply pw_below_drewN | apply below_drew1 | refine below_set ?_ GE349.out) | exact HB.out))) : w.heap.size ≤ gb350)); have n5_ := Aside0.mk ((by rw [hg]; exact Nat.ne_of_lt (blk_lt (g := gb349) (o := .cells #[.slice A0_0 l0_0.length c0_0, .slice A0_1 l0_1.length c0_1] 25 (0, 0)) (by (with_reducible repeat (first | refine blk_drewN ?_ _ | refine blk_drew ?_ | refine blk_alloc ?_ _)); exact BK349.out)) : gb349 ≠ gb350)); have n6_ := Aside0.mk ((by rw [hg]; exact Nat.ne_of_gt (blk_lt (g := gb349) (o := .cells #[.slice A0_0 l0_0.length c0_0, .slice A0_1 l0_1.length c0_1] 25 (0, 0)) (by (with_reducible repeat (first | refine blk_drewN ?_ _ | refine blk_drew ?_ | refine blk_alloc ?_ _)); exact BK349.out)) : gb350 ≠ gb349)); clear BK349; clear HB; have BK349 := n0_; have HB := n1_; have BK350 := n2_; have GW350 := n3_; have GE350 := n4_; have NB349_350 := n5_; have NB350_349 := n6_; clear n0_ n1_ n2_ n3_ n4_ n5_ n6_; clear hb hbox hg; have hnb6 := NB349_350.out; have hnc6 := NB350_349.out; have hcz7_0 : w5.cell? ⟨gb349, 0, none⟩ = some (.slice A0_0 l0_0.length c0_0) := (blk_cell BK349.out 0).trans rfl; have hcz7_1 : w5.cell? ⟨gb349, 1, none⟩ = some (.slice A0_1 l0_1.length c0_1) := (blk_cell BK349.out 1).trans rfl; have hfz7_0 := blk_frozen BK349.out 0; have hfz7_1 := blk_frozen BK349.out 1) | ((with_reducible refine gate_callee (f := 49) rfl ?_); refine goesL_ (some 5) rfl rfl Tryd.func49 (by kernel_rfl) rfl #[.slice A0_0 l0_0.length c0_0] rfl (by (try simp only [List.map_toArray, List.map_cons, List.map_nil]); first | done | rfl | (simp only [List.length_drop, List.length_take]; rfl)) ?_; (with_reducible refine (letterbagkit_CopyRates.calls k _ _ l0_0 t351 _ ?side1 ?side2 A2.out).mono ?_); (case side1 => repeat (first | exact (Kd.C_below HR0_0.out HB.out) | (with_reducible refine Kd.C_alloc ?_ _) | (with_reducible refine Kd.C_drewN ?_ _) | (with_reducible refine Kd.C_drew ?_))); (case side2 => exact HC0_0.out); rintro e w8 ⟨v352, rfl, ho0, hb⟩; refine ⟨_, rfl, ?_⟩; have n0_ := Aside0.mk (Kd.R_lower ho0 (below_size (by repeat (first | (with_reducible first | exact HB.out | apply below_alloc | apply pw_below_drewN | apply below_drew1 | refine below_set ?_ GE349.out | refine below_set ?_ GE350.out) | exact HB.out)))); have n1_ := Aside0.mk (blk_below (g := gb349) (o := .cells #[.slice A0_0 l0_0.length c0_0, .slice A0_1 l0_1.length c0_1] 25 (0, 0)) (by (with_reducible repeat (first | refine blk_drewN ?_ _ | refine blk_drew ?_ | refine blk_alloc ?_ _)); exact BK349.out) hb); have n2_ := Aside0.mk (blk_below (g := gb350) (o := .cells #[.slice none 0 0, .slice none 0 0] 25 (0, 0)) (by (with_reducible repeat (first | refine blk_drewN ?_ _ | refine blk_drew ?_ | refine blk_alloc ?_ _)); exact BK350.out) hb); have n3_ := Aside0.mk (below_step (by repeat (first | (with_reducible first | exact HB.out | apply below_alloc | apply pw_below_drewN | apply below_drew1 | refine below_set ?_ GE349.out | refine below_set ?_ GE350.out) | exact HB.out)) hb); clear BK349; clear BK350; clear HB; have HO353 := n0_; have BK349 := n1_; have BK350 := n2_; have HB := n3_; clear n0_ n1_ n2_ n3_; (try clear hb); (try clear hb2); (try clear hk); (try clear hi); (try clear ho0); obtain ⟨Ao9, co9, eo9⟩ := Kd.R_slice HO353.out; subst eo9; have hcz10_0 : w8.cell? ⟨gb349, 0, none⟩ = some (.slice A0_0 l0_0.length c0_0) := (blk_cell BK349.out 0).trans rfl; have hcz10_1 : w8.cell? ⟨gb349, 1, none⟩ = some (.slice A0_1 l0_1.length c0_1) := (blk_cell BK349.out 1).trans rfl; have hfz10_0 := blk_frozen BK349.out 0; have hfz10_1 := blk_frozen BK349.out 1) | ((with_reducible refine gate_callee (f := 50) rfl ?_); refine goesL_ (some 9) rfl rfl Tryd.func50 (by kernel_rfl) rfl #[.slice A0_1 l0_1.length c0_1] rfl (by (try simp only [List.map_toArray, List.map_cons, List.map_nil]); first | done | rfl | (simp only [List.length_drop, List.length_take]; rfl)) ?_; (with_reducible refine (letterbagkit_CopyZones.calls _ _ l0_1 t354 _ ?side1 ?side2 A3.out).mono ?_); (case side1 => exact Kd.C_below HR0_1.out (by repeat (first | (with_reducible first | exact HB.out | apply below_alloc | apply pw_below_drewN | apply below_drew1 | refine below_set ?_ GE349.out | refine below_set ?_ GE350.out) | exact HB.out))); (case side2 => exact HC0_1.out); rintro e w11 ⟨v355, rfl, ho0, hb⟩; refine ⟨_, rfl, ?_⟩; have n0_ := Aside0.mk (Kd.R_below (by (with_reducible repeat (first | apply Kd.R_alloc | apply Kd.R_drewN | apply Kd.R_drew)); exact (Kd.R_mono (Kd.R_far (p := ⟨gb349, 0, none⟩) (Kd.R_types HO353.out BK349.out (by decide)) (fun _ hk => hk.2) (.slice Ao9 t351.length co9)) (fun _ h_ => h_.1))) hb); have n1_ := Aside0.mk (Kd.R_lower ho0 (below_size (by repeat (first | (with_reducible first | exact HB.out | apply below_alloc | apply pw_below_drewN | apply below_drew1 | refine below_set ?_ GE349.out | refine below_set ?_ GE350.out) | exact HB.out)))); have n2_ := Aside0.mk (blk_below (g := gb349) (o := .cells #[.slice Ao9 t351.length co9, .slice A0_1 l0_1.length c0_1] 25 (0, 0)) (by (with_reducible repeat (first | refine blk_drewN ?_ _ | refine blk_drew ?_ | refine blk_alloc ?_ _)); refine blk_put (cs := #[.slice A0_0 l0_0.length c0_0, .slice A0_1 l0_1.length c0_1]) ?_ 0 _ rfl; (with_reducible repeat (first | refine blk_drewN ?_ _ | refine blk_drew ?_ | refine blk_alloc ?_ _)); exact BK349.out) hb); have n3_ := Aside0.mk (blk_below (g := gb350) (o := .cells #[.slice none 0 0, .slice none 0 0] 25 (0, 0)) (by (with_reducible repeat (first | refine blk_drewN ?_ _ | refine blk_drew ?_ | refine blk_alloc ?_ _)); refine blk_far ?_ NB350_349.out _; (with_reducible repeat (first | refine blk_drewN ?_ _ | refine blk_drew ?_ | refine blk_alloc ?_ _)); exact BK350.out) hb); have n4_ := Aside0.mk (below_step (by repeat (first | (with_reducible first | exact HB.out | apply below_alloc | apply pw_below_drewN | apply below_drew1 | refine below_set ?_ GE349.out | refine below_set ?_ GE350.out) | exact HB.out)) hb); clear HO353; clear BK349; clear BK350; clear HB; have HO353 := n0_; have HO356 := n1_; have BK349 := n2_; have BK350 := n3_; have HB := n4_; clear n0_ n1_ n2_ n3_ n4_; (try clear hb); (try clear hb2); (try clear hk); (try clear hi); (try clear ho0); obtain ⟨Ao12, co12, eo12⟩ := Kd.R_slice HO356.out; subst eo12; have hcz13_0 : w11.cell? ⟨gb349, 0, none⟩ = some (.slice Ao9 t351.length co9) := (blk_cell BK349.out 0).trans rfl; have hcz13_1 : w11.cell? ⟨gb349, 1, none⟩ = some (.slice A0_1 l0_1.length c0_1) := (blk_cell BK349.out 1).trans rfl; have hfz13_0 := blk_frozen BK349.out 0; have hfz13_1 := blk_frozen BK349.out 1; have hcz14_0 : w11.cell? ⟨gb350, 0, none⟩ = some (.slice none 0 0) := (blk_cell BK350.out 0).trans rfl; have hcz14_1 : w11.cell? ⟨gb350, 1, none⟩ = some (.slice none 0 0) := (blk_cell BK350.out 1).trans rfl; have hfz14_0 := blk_frozen BK350.out 0; have hfz14_1 := blk_frozen BK350.out 1))
 refine bodyPost_ret (results_cell_row rfl _ _ gb350 25 #[.slice Ao9 t351.length co9, .slice Ao12 t354.length co12] (0, 0) _ rfl (by (with_reducible repeat (first | refine blk_drewN ?_ _ | refine blk_drew ?_ | refine blk_alloc ?_ _)); refine blk_put (cs := #[.slice Ao9 t351.length co9, .slice none 0 0]) ?_ 1 _ rfl; (with_reducible repeat (first | refine blk_drewN ?_ _ | refine blk_drew ?_ | refine blk_alloc ?_ _)); refine blk_put (cs := #[.slice none 0 0, .slice none 0 0]) ?_ 0 _ rfl; (with_reducible repeat (first | refine blk_drewN ?_ _ | refine blk_drew ?_ | refine blk_alloc ?_ _)); refine blk_far ?_ NB350_349.out _; (with_reducible repeat (first | refine blk_drewN ?_ _ | refine blk_drew ?_ | refine blk_alloc ?_ _)); exact BK350.out) Tryd.underlying25 rfl (by kernel_rfl)) rfl ?_
 exact ⟨_, _, by first | rfl | (simp [errW_none, errW_some] <;> rfl) | (simp [*, errW_none, errW_some] <;> rfl), by (with_reducible repeat (first | apply Kd.R_alloc | apply Kd.R_drewN | apply Kd.R_drew)); exact Kd.R_mono (Kd.R_far (p := ⟨gb350, 1, none⟩) (Kd.R_far (p := ⟨gb350, 0, none⟩) (Kd.R_far (p := ⟨gb349, 1, none⟩) (Kd.R_types (Kd.R_types HO353.out BK349.out (by decide)) BK350.out (by decide)) (fun _ hk => hk.1.2) (.slice Ao12 t354.length co12)) (fun _ hk => hk.2) (.slice Ao9 t351.length co9)) (fun _ hk => hk.2) (.slice Ao12 t354.length co12)) (fun _ hk => trivial), by (with_reducible repeat (first | apply Kd.R_alloc | apply Kd.R_drewN | apply Kd.R_drew)); exact Kd.R_mono (Kd.R_far (p := ⟨gb350, 1, none⟩) (Kd.R_far (p := ⟨gb350, 0, none⟩) (Kd.R_far (p := ⟨gb349, 1, none⟩) (Kd.R_types (Kd.R_types HO356.out BK349.out (by decide)) BK350.out (by decide)) (fun _ hk => hk.1.2) (.slice Ao12 t354.length co12)) (fun _ hk => hk.2) (.slice Ao9 t351.length co9)) (fun _ hk => hk.2) (.slice Ao12 t354.length co12)) (fun _ hk => trivial), by repeat (first | (with_reducible first | exact HB.out | apply below_alloc | apply pw_below_drewN | apply below_drew1 | refine below_set ?_ GE349.out | refine below_set ?_ GE350.out) | exact HB.out)⟩
end Go.Proofs.YtfglcfbcdhjcdaaDoor.Q

namespace Go.Proofs.YtfglcfbcdhjcdaaDoor.Q
open Go.RowKit Go.Proofs.YtfglcfbcdhjcdaaDoorW.PrintWords Go.Proofs.YtfglcfbcdhjcdaaDoorW.PrintLast Go.Proofs.YtfglcfbcdhjcdaaDoorW.PrintMore
set_option linter.unusedVariables false
set_option linter.unusedSimpArgs false
theorem pick_is (x : Int) (n : Nat) (h1 : 1 ≤ n) (h2 : n ≤ 1000000) : ∃ r : Nat, letterbagkit_Pick.f x (n : Int) = some (r : Int) ∧ r < n := by
 unfold letterbagkit_Pick.f
 have a := Int.tmod_lt_of_pos x (b := (n : Int)) (by omega)
 have b := Int.lt_tmod_of_pos x (b := (n : Int)) (by omega)
 rw [if_neg (by omega), if_neg (by omega)]
 generalize Int.tmod x (n : Int) = t at *
 by_cases ht : t < 0
 ·refine ⟨(t + n).toNat, ?_, by omega⟩
  rw [if_pos ht, wrap64_id _ (by omega) (by omega)]
  congr 1
  omega
 ·refine ⟨t.toNat, ?_, by omega⟩
  rw [if_neg ht]
  congr 1
  omega
end Go.Proofs.YtfglcfbcdhjcdaaDoor.Q

namespace Go.Proofs.YtfglcfbcdhjcdaaDoor.Q
open Go.RowKit Go.Proofs.YtfglcfbcdhjcdaaDoorW.PrintWords Go.Proofs.YtfglcfbcdhjcdaaDoorW.PrintLast Go.Proofs.YtfglcfbcdhjcdaaDoorW.PrintMore
set_option linter.unusedVariables false
set_option linter.unusedSimpArgs false
theorem copy_steps_go (L : List Sp) (hn : L.length ≤ 1000) (hc : ∀ s ∈ L, s.f1.length ≤ 1000) : ∀ d i : Nat, i + d = L.length → ∀ (k : Nat), d < k → letterbagkit_CopySteps.l0 k L (L.take i) (i : Int) = some L := by
 intro d
 induction d with
 | zero =>
  intro i hi k hk
  obtain ⟨k, rfl⟩ : ∃ m, k = m + 1 := ⟨k - 1, by omega⟩
  simp only [letterbagkit_CopySteps.l0]
  rw [if_neg (by omega), List.take_of_length_le (by omega)]
 | succ d ih =>
  intro i hi k hk
  obtain ⟨k, rfl⟩ : ∃ m, k = m + 1 := ⟨k - 1, by omega⟩
  have hlt : i < L.length := by omega
  have h1 := hc _ (List.getElem_mem hlt)
  simp only [letterbagkit_CopySteps.l0]
  rw [if_pos (by omega), if_pos (by omega), st_get L i hlt]
  unfold letterbagkit_CopyStep.f letterbagkit_CopyInts.f
  rw [if_pos (by simp; omega)]
  simp only [List.nil_append, Option.bind_some]
  rw [if_pos (by rw [List.length_take]; omega), wrap64_id ((i : Int) + 1) (by omega) (by omega), show ((i : Int) + 1) = ((i + 1 : Nat) : Int) by omega]
  have e : L.take i ++ [(⟨L[i].f0, L[i].f1⟩ : Sp)] = L.take (i + 1) := by
   rw [List.take_succ_eq_append_getElem hlt]
  rw [e]
  exact ih (i + 1) (by omega) k (by omega)
theorem copy_steps (L : List Sp) (hn : L.length ≤ 1000) (hc : ∀ s ∈ L, s.f1.length ≤ 1000) (k : Nat) (hk : L.length < k) : letterbagkit_CopySteps.f k L = some L := copy_steps_go L hn hc L.length 0 (by omega) k hk
theorem copy_rates_go (L : List Rt) (hn : L.length ≤ 1000) (hc : ∀ r ∈ L, r.f1.length ≤ 20 ∧ ∀ s ∈ r.f1, s.f1.length ≤ 1000) : ∀ d i : Nat, i + d = L.length → ∀ (k : Nat), d + 21 < k → letterbagkit_CopyRates.l0 k L (L.take i) (i : Int) = some L := by
 intro d
 induction d with
 | zero =>
  intro i hi k hk
  obtain ⟨k, rfl⟩ : ∃ m, k = m + 1 := ⟨k - 1, by omega⟩
  simp only [letterbagkit_CopyRates.l0]
  rw [if_neg (by omega), List.take_of_length_le (by omega)]
 | succ d ih =>
  intro i hi k hk
  obtain ⟨k, rfl⟩ : ∃ m, k = m + 1 := ⟨k - 1, by omega⟩
  have hlt : i < L.length := by omega
  have h1 := hc _ (List.getElem_mem hlt)
  simp only [letterbagkit_CopyRates.l0]
  rw [if_pos (by omega), if_pos (by omega), rt_get L i hlt]
  unfold letterbagkit_CopyRate.f
  rw [copy_steps L[i].f1 (by omega) h1.2 k (by omega)]
  simp only [Option.bind_some]
  rw [if_pos (by rw [List.length_take]; omega), wrap64_id ((i : Int) + 1) (by omega) (by omega), show ((i : Int) + 1) = ((i + 1 : Nat) : Int) by omega]
  have e : L.take i ++ [(⟨L[i].f0, L[i].f1, L[i].f2⟩ : Rt)] = L.take (i + 1) := by
   rw [List.take_succ_eq_append_getElem hlt]
  rw [e]
  exact ih (i + 1) (by omega) k (by omega)
theorem copy_tariff (R : List Rt) (Z : List Zn) (hn : R.length ≤ 1000) (hc : ∀ r ∈ R, r.f1.length ≤ 20 ∧ ∀ s ∈ r.f1, s.f1.length ≤ 1000) (hz : Z.length ≤ 1000) (k : Nat) (hk : R.length + 21 < k) : letterbagkit_CopyTariff.f k R Z = some (R, Z) := by
 have h := copy_rates_go R hn hc R.length 0 (by omega) k hk
 unfold letterbagkit_CopyTariff.f letterbagkit_CopyZones.f
 rw [show letterbagkit_CopyRates.f k R = some R from h, if_pos (by simp; omega)]
 rfl
theorem made_copy (N : Nat) (l : List Int) : letterbagkit_CopyTariff.f 30 (madeR N l) (madeZ N) = some (madeR N l, madeZ N) := by
 have hc := mdC_range N
 have hs := mdS_range N
 have hz := mdZ_range N
 obtain ⟨-, -, h3, -⟩ := made_rows N
 refine copy_tariff _ _ (by rw [madeR_length]; omega) (fun r hr => ?_) (by omega) 30 (by rw [madeR_length]; omega)
 unfold madeR mdRates at hr
 obtain ⟨c, hc2, rfl⟩ := List.mem_map.1 hr
 refine ⟨by simp [mdRate]; omega, fun s hs2 => ?_⟩
 obtain ⟨j, hj, rfl⟩ := List.mem_map.1 (show s ∈ (List.range (mdS N)).map (mdStep l (mdZ N) c) from hs2)
 rw [mdStep_len]
 omega
end Go.Proofs.YtfglcfbcdhjcdaaDoor.Q

namespace Go.Proofs.YtfglcfbcdhjcdaaDoor.Q
open Go.RowKit Go.Proofs.YtfglcfbcdhjcdaaDoorW.PrintWords Go.Proofs.YtfglcfbcdhjcdaaDoorW.PrintLast Go.Proofs.YtfglcfbcdhjcdaaDoorW.PrintMore
set_option linter.unusedVariables false
set_option linter.unusedSimpArgs false
theorem pc_get (P : List Pc) (i : Nat) (h : i < P.length) : rd_T48 P (i : Int) = P[i] := by
 unfold rd_T48
 rw [Int.toNat_natCast, List.getD_eq_getElem?_getD, List.getElem?_eq_getElem h]
 rfl
def pieceOk (last : Int) (p : Pc) : Bool := !decide (p.f0 ≤ last) && (!decide (p.f0 > 999999) && (!decide (p.f1 < 0) && (!decide (p.f1 > 999999) && (!decide (p.f3 < 1) && (!decide (p.f3 > 50000) && codeB p.f2)))))
def piecesGo : Int → List Pc → Bool
 | _, [] => true
 | last, p :: ps => pieceOk last p && piecesGo p.f0 ps
theorem piecesGo_cons (last : Int) (p : Pc) (ps : List Pc) : piecesGo last (p :: ps) = (pieceOk last p && piecesGo p.f0 ps) := rfl
def mailingB (c co : Int) (o : ByteArray) (P : List Pc) : Bool := !decide (c = 0) && (!decide (co < 1) && (!decide (co > 3) && (codeB o && (!decide ((P.length : Int) > 2000) && piecesGo 0 P))))
theorem pieces_go (P : List Pc) (hs : ∀ p ∈ P, p.f2.size ≤ 9223372036854775807) (hl : P.length ≤ 100000) : ∀ d i : Nat, i + d = P.length → ∀ (k : Nat) (last : Int), d < k → tariff_Mailing.l0 k last P (P.length : Int) (i : Int) = some (piecesGo last (P.drop i)) := by
 intro d
 induction d with
 | zero =>
  intro i hi k last hk
  obtain ⟨k, rfl⟩ : ∃ m, k = m + 1 := ⟨k - 1, by omega⟩
  rw [tariff_Mailing.l0, if_neg (by omega), List.drop_of_length_le (by omega)]
  rfl
 | succ d ih =>
  intro i hi k last hk
  obtain ⟨k, rfl⟩ : ∃ m, k = m + 1 := ⟨k - 1, by omega⟩
  have hlt : i < P.length := by omega
  have hz := hs _ (List.getElem_mem hlt)
  rw [tariff_Mailing.l0, if_pos (by omega), if_pos (by omega), if_pos (by omega), pc_get P i hlt, List.drop_eq_getElem_cons hlt, wrap64_id ((i : Int) + 1) (by omega) (by omega), show ((i : Int) + 1) = ((i + 1 : Nat) : Int) by omega, ih (i + 1) (by omega) k _ (by omega)]
  rw [piecesGo_cons]
  unfold pieceOk
  generalize P[i] = p at *
  by_cases h1 : p.f0 ≤ last
  ·rw [if_pos h1, decide_eq_true h1]; rfl
  rw [if_neg h1, decide_eq_false h1]
  by_cases h2 : p.f0 > 999999
  ·rw [if_pos h2, decide_eq_true h2]; rfl
  rw [if_neg h2, decide_eq_false h2]
  by_cases h3 : p.f1 < 0
  ·rw [if_pos h3, decide_eq_true h3]; rfl
  rw [if_neg h3, decide_eq_false h3]
  by_cases h4 : p.f1 > 999999
  ·rw [if_pos h4, decide_eq_true h4]; rfl
  rw [if_neg h4, decide_eq_false h4]
  by_cases h5 : p.f3 < 1
  ·rw [if_pos h5, decide_eq_true h5]; rfl
  rw [if_neg h5, decide_eq_false h5]
  by_cases h6 : p.f3 > 50000
  ·rw [if_pos h6, decide_eq_true h6]; rfl
  rw [if_neg h6, decide_eq_false h6, code_is _ hz]
  simp only [Option.bind_some, Bool.not_false, Bool.true_and]
  cases codeB p.f2 <;> simp
theorem mailing_is (c co : Int) (o : ByteArray) (P : List Pc) (ho : o.size ≤ 9223372036854775807) (hs : ∀ p ∈ P, p.f2.size ≤ 9223372036854775807) (hl : P.length ≤ 100000) (k : Nat) (hk : P.length + 1 < k) : tariff_Mailing.f k c co o P = some (mailingB c co o P) := by
 obtain ⟨k, rfl⟩ : ∃ m, k = m + 1 := ⟨k - 1, by omega⟩
 have hg := pieces_go P hs hl P.length 0 (by omega) k 0 (by omega)
 rw [List.drop_zero] at hg
 unfold tariff_Mailing.f mailingB
 by_cases h1 : c = 0
 ·rw [if_pos h1, decide_eq_true h1]; rfl
 rw [if_neg h1, decide_eq_false h1]
 by_cases h2 : co < 1
 ·rw [if_pos h2, decide_eq_true h2]; rfl
 rw [if_neg h2, decide_eq_false h2]
 by_cases h3 : co > 3
 ·rw [if_pos h3, decide_eq_true h3]; rfl
 rw [if_neg h3, decide_eq_false h3, code_is _ ho]
 simp only [Option.bind_some]
 cases codeB o with
 | false => rfl
 | true =>
  by_cases h4 : (P.length : Int) > 2000
  ·rw [if_pos rfl, decide_eq_true h4]; rfl
  ·rw [if_pos rfl, decide_eq_false h4, tariff_Mailing.j0, if_neg (by simp)]
   exact hg.trans (by simp)
theorem mlPieces_drop (l : List Int) (k i : Nat) (h : i < k) : (mlPieces l k).drop i = mlPiece l i :: (mlPieces l k).drop (i + 1) := by
 have hlt : i < (mlPieces l k).length := by rw [mlPieces_len]; exact h
 rw [List.drop_eq_getElem_cons hlt, ← pc_get (mlPieces l k) i hlt, mlPieces_get l k i h]
theorem mlPieces_go (l : List Int) (hf : mlFits l = true) (k : Nat) (hk : k ≤ 2000) : ∀ d i : Nat, i + d = k → piecesGo (mlId l i : Int) ((mlPieces l k).drop i) = true := by
 intro d
 induction d with
 | zero =>
  intro i hi
  rw [List.drop_of_length_le (by rw [mlPieces_len]; omega)]
  rfl
 | succ d ih =>
  intro i hi
  rw [mlPieces_drop l k i (by omega), piecesGo_cons]
  have h1 := mlId_lt l i
  have h2 := mlId_le l (i + 1)
  have h3 := (mlX_is hf i).2
  have h4 := (isCode (mlX l i / 256) (by omega)).ok
  rw [show (mlPiece l i).f0 = (mlId l (i + 1) : Int) from rfl, ih (i + 1) (by omega), Bool.and_true]
  unfold pieceOk mlPiece
  rw [h4]
  simp only [Bool.and_true, Bool.and_eq_true, Bool.not_eq_true', decide_eq_false_iff_not]
  refine ⟨?_, ?_, ?_, ?_, ?_, ?_⟩ <;> omega
theorem mlPieces_mem {l : List Int} (hf : mlFits l = true) {k : Nat} {p : Pc} (h : p ∈ mlPieces l k) : ∃ i, i < k ∧ p = mlPiece l i ∧ mlX l i < 65536 := by
 unfold mlPieces at h
 obtain ⟨i, hi, rfl⟩ := List.mem_map.1 h
 exact ⟨i, List.mem_range.1 hi, rfl, (mlX_is hf i).2⟩
theorem mlPiece_size {l : List Int} (hf : mlFits l = true) {k : Nat} {p : Pc} (h : p ∈ mlPieces l k) : p.f2.size ≤ 1000 := by
 obtain ⟨i, hi, rfl, hx⟩ := mlPieces_mem hf h
 have := (isCode (mlX l i / 256) (by omega)).sz
 show (code5 _).size ≤ _
 omega
theorem made_mailing (l : List Int) (hf : mlFits l = true) (c : Int) (hc : c ≠ 0) : mailingB c 1 exFrom (mlPieces l (mlN l)) = true := by
 have h := mlPieces_go l hf (mlN l) (by unfold mlN; omega) (mlN l) 0 (by omega)
 rw [List.drop_zero] at h
 have ho : codeB exFrom = true := by decide +kernel
 unfold mailingB
 rw [show piecesGo 0 (mlPieces l (mlN l)) = true from h, ho, mlPieces_len]
 have : mlN l ≤ 2000 := by unfold mlN; omega
 simp only [Bool.and_true, Bool.true_and, Bool.and_eq_true, Bool.not_eq_true', decide_eq_false_iff_not]
 refine ⟨hc, ?_, ?_, ?_⟩ <;> omega
theorem bases_go (R : List Rt) (Z : List Zn) (c co : Int) (o : ByteArray) (P : List Pc) (rc : Int) (rs : List Sp) (rb : Int) (bs : Pc → Int) (hz : ∀ z ∈ Z, z.f0.size ≤ 1000 ∧ z.f1.size ≤ 1000) (hzl : Z.length ≤ 20) (hl : P.length ≤ 100000)
  (hp : ∀ p ∈ P, tariff_price.f rc rs rb (zoneB Z o p.f2) p.f3 = some (bs p, 0)) : ∀ d i : Nat, i + d = P.length → ∀ (k : Nat) (acc : List Int), d + 30 < k → acc.length = i →
  tariff_Bases.l0 k acc P (P.length : Int) (i : Int) R Z c co o P rc rs rb = some (acc ++ (P.drop i).map bs, 0) := by
 intro d
 induction d with
 | zero =>
  intro i hi k acc hk ha
  obtain ⟨k, rfl⟩ : ∃ m, k = m + 1 := ⟨k - 1, by omega⟩
  rw [tariff_Bases.l0, if_neg (by omega), List.drop_of_length_le (by omega), List.map_nil, List.append_nil]
 | succ d ih =>
  intro i hi k acc hk ha
  obtain ⟨k, rfl⟩ : ∃ m, k = m + 1 := ⟨k - 1, by omega⟩
  have hlt : i < P.length := by omega
  rw [tariff_Bases.l0, if_pos (by omega), if_pos (by omega), if_pos (by omega), pc_get P i hlt, zone_is R Z _ _ hz (by omega) k (by omega)]
  simp only [Option.bind_some]
  rw [hp _ (List.getElem_mem hlt)]
  simp only [Option.bind_some, if_true]
  rw [if_pos (by omega), wrap64_id ((i : Int) + 1) (by omega) (by omega), show ((i : Int) + 1) = ((i + 1 : Nat) : Int) by omega, ih (i + 1) (by omega) k _ (by omega) (by simp [ha]), List.drop_eq_getElem_cons hlt, List.map_cons, List.append_assoc]
  rfl
theorem bases_is (R : List Rt) (Z : List Zn) (c co : Int) (o : ByteArray) (P : List Pc) (rc : Int) (rs : List Sp) (rb : Int) (bs : Pc → Int) (hR : tariff_Right.f R Z = some true) (hz : ∀ z ∈ Z, z.f0.size ≤ 1000 ∧ z.f1.size ≤ 1000) (hzl : Z.length ≤ 20) (hl : P.length ≤ 100000)
  (ho : o.size ≤ 1000) (hs : ∀ p ∈ P, p.f2.size ≤ 1000) (hM : mailingB c co o P = true) (hr : ∀ f, 3 ≤ f → tariff_rate.f f R Z c = some (rc, rs, rb)) (hrc : rc ≠ 0)
  (hp : ∀ p ∈ P, tariff_price.f rc rs rb (zoneB Z o p.f2) p.f3 = some (bs p, 0)) (k : Nat) (hk : P.length + 40 < k) : tariff_Bases.f k R Z c co o P = some (P.map bs, 0) := by
 unfold tariff_Bases.f
 rw [hR]
 simp only [Option.bind_some, if_true]
 rw [mailing_is c co o P (by omega) (fun p h => by have := hs p h; omega) hl k (by omega), hM]
 simp only [Option.bind_some, Bool.not_true]
 obtain ⟨k, rfl⟩ : ∃ m, k = m + 1 := ⟨k - 1, by omega⟩
 rw [tariff_Bases.j0, if_neg (by simp), hr k (by omega)]
 simp only [Option.bind_some]
 rw [if_neg hrc, if_pos (by omega), if_pos (by omega)]
 have h := bases_go R Z c co o P rc rs rb bs hz hzl hl hp P.length 0 (by omega) k [] (by omega) rfl
 rw [List.drop_zero, List.nil_append] at h
 exact h
theorem bases_none (R : List Rt) (Z : List Zn) (c co : Int) (o : ByteArray) (P : List Pc) (rs : List Sp) (rb : Int) (hR : tariff_Right.f R Z = some true) (hl : P.length ≤ 100000)
  (ho : o.size ≤ 1000) (hs : ∀ p ∈ P, p.f2.size ≤ 1000) (hM : mailingB c co o P = true) (hr : ∀ f, 4 ≤ f → tariff_rate.f f R Z c = some (0, rs, rb)) (k : Nat) (hk : P.length + 40 < k) : tariff_Bases.f k R Z c co o P = some ([], 6) := by
 unfold tariff_Bases.f
 rw [hR]
 simp only [Option.bind_some, if_true]
 rw [mailing_is c co o P (by omega) (fun p h => by have := hs p h; omega) hl k (by omega), hM]
 simp only [Option.bind_some, Bool.not_true]
 obtain ⟨k, rfl⟩ : ∃ m, k = m + 1 := ⟨k - 1, by omega⟩
 rw [tariff_Bases.j0, if_neg (by simp), hr k (by omega)]
 simp only [Option.bind_some, if_true]
theorem same_go (a : List Int) (hl : a.length ≤ 1000000) : ∀ d i : Nat, i + d = a.length → ∀ k : Nat, d < k → letterbagkit_SameInts.l0 k a a (i : Int) = some true := by
 intro d
 induction d with
 | zero =>
  intro i hi k hk
  obtain ⟨k, rfl⟩ : ∃ m, k = m + 1 := ⟨k - 1, by omega⟩
  rw [letterbagkit_SameInts.l0, if_neg (by omega)]
 | succ d ih =>
  intro i hi k hk
  obtain ⟨k, rfl⟩ : ∃ m, k = m + 1 := ⟨k - 1, by omega⟩
  rw [letterbagkit_SameInts.l0, if_pos (by omega), if_pos (by omega), if_pos (by omega), if_pos rfl, wrap64_id ((i : Int) + 1) (by omega) (by omega), show ((i : Int) + 1) = ((i + 1 : Nat) : Int) by omega]
  exact ih (i + 1) (by omega) k (by omega)
theorem same_refl (a : List Int) (hl : a.length ≤ 1000000) (k : Nat) (hk : a.length < k) : letterbagkit_SameInts.f k a a = some true := by
 unfold letterbagkit_SameInts.f
 rw [if_pos rfl]
 exact same_go a hl a.length 0 (by omega) k hk
end Go.Proofs.YtfglcfbcdhjcdaaDoor.Q

namespace Go.Proofs.YtfglcfbcdhjcdaaDoor.Q
open Go.RowKit Go.Proofs.YtfglcfbcdhjcdaaDoorW.PrintWords Go.Proofs.YtfglcfbcdhjcdaaDoorW.PrintLast Go.Proofs.YtfglcfbcdhjcdaaDoorW.PrintMore
set_option linter.unusedVariables false
set_option linter.unusedSimpArgs false
theorem made_rate_mem {N : Nat} {l : List Int} {r : Rt} (h : r ∈ madeR N l) : ∃ c, c < mdC N ∧ r = mdRate l (mdZ N) (mdS N) (mdBar N) c := by
 unfold madeR mdRates at h
 obtain ⟨c, hc, rfl⟩ := List.mem_map.1 h
 exact ⟨c, List.mem_range.1 hc, rfl⟩
theorem zoneStep_range (a b : ByteArray) (n : Int) : ∀ (Z : List Zn) (s : Int × Int), (∀ z ∈ Z, 1 ≤ z.f2 ∧ z.f2 ≤ n) → 1 ≤ s.1 → s.1 ≤ n → 1 ≤ (Z.foldl (zoneStep a b) s).1 ∧ (Z.foldl (zoneStep a b) s).1 ≤ n
 | [], s, _, h1, h2 => ⟨h1, h2⟩
 | z :: zs, s, hz, h1, h2 => by
  have hz1 := hz z List.mem_cons_self
  rw [List.foldl_cons]
  refine zoneStep_range a b n zs _ (fun y hy => hz y (List.mem_cons_of_mem _ hy)) ?_ ?_
  all_goals (unfold zoneStep; split)
  ·exact hz1.1
  ·exact h1
  ·exact hz1.2
  ·exact h2
theorem prefB_nil (a : ByteArray) : prefB a (mdText []) = true := by
 unfold prefB
 rw [show (mdText []).size = 0 from rfl, show a.extract 0 0 = ByteArray.empty from ByteArray.extract_eq_empty_iff.2 (by simp)]
 rw [show mdText [] = ByteArray.empty from rfl]
 simp
theorem mdRows_head (nz x : Nat) : ∀ k, ∃ T, mdRows nz x k = ⟨mdText [], mdText [], 1⟩ :: T ∧ ∀ z ∈ T, 1 ≤ z.f2 ∧ (1 ≤ nz → z.f2 ≤ (nz : Int))
 | 0 => ⟨[], rfl, fun z hz => by cases hz⟩
 | k + 1 => by
  obtain ⟨T, h1, h2⟩ := mdRows_head nz x k
  refine ⟨T ++ (if x.testBit k then [mdRow nz k] else []), by unfold mdRows; rw [h1]; rfl, fun z hz => ?_⟩
  rcases List.mem_append.1 hz with h | h
  ·exact h2 z h
  ·split at h
   ·obtain rfl := List.mem_singleton.1 h
    refine ⟨?_, fun hn => ?_⟩
    ·show (1 : Int) ≤ 1 + ((k % nz : Nat) : Int)
     omega
    ·show 1 + ((k % nz : Nat) : Int) ≤ (nz : Int)
     have := Nat.mod_lt k (show 0 < nz by omega)
     omega
   ·cases h
theorem made_zone (N : Nat) (a b : ByteArray) : 1 ≤ zoneB (madeZ N) a b ∧ zoneB (madeZ N) a b ≤ (mdZ N : Int) := by
 have hz := mdZ_range N
 obtain ⟨T, h1, h2⟩ := mdRows_head (mdZ N) (mdX N) 9
 unfold zoneB madeZ
 rw [h1, List.foldl_cons]
 have hs : zoneStep a b (0, -1) ⟨mdText [], mdText [], 1⟩ = (1, 0) := by
  unfold zoneStep
  rw [if_pos ⟨by show (-1 : Int) < 100 * ((mdText []).size : Int) + ((mdText []).size : Int); decide, prefB_nil a, prefB_nil b⟩]
  rfl
 rw [hs]
 exact zoneStep_range a b (mdZ N) T (1, 0) (fun z hz2 => ⟨(h2 z hz2).1, (h2 z hz2).2 hz.1⟩) (by decide) (by show (1 : Int) ≤ _; omega)
def mdBase (l : List Int) (N ci : Nat) (p : Pc) : Int := mdPrice l (17 * ci + 5 * 0 + ((zoneB (madeZ N) exFrom p.f2).toNat - 1))
theorem stAns_light (l : List Int) (ns ci z : Nat) (g : Int) (hs : 1 ≤ ns) (h : g ≤ 20) : stAns l ns ci z g = (mdPrice l (17 * ci + 5 * 0 + z), 0) := by
 have : stAt g = 0 := by unfold stAt; rw [if_pos h]
 unfold stAns
 rw [this, if_pos (by omega)]
theorem base_price (N : Nat) (l : List Int) (ci : Nat) (p : Pc) (h : p.f3 ≤ 20) : tariff_price.f ((ci : Int) + 1) ((List.range (mdS N)).map (mdStep l (mdZ N) ci)) (mdBar N : Int) (zoneB (madeZ N) exFrom p.f2) p.f3 = some (mdBase l N ci p, 0) := by
 have hz := made_zone N exFrom p.f2
 have hs := mdS_range N
 have h1 := price_steps l (mdZ N) (mdS N) ci ((zoneB (madeZ N) exFrom p.f2).toNat - 1) ((ci : Int) + 1) (mdBar N : Int) p.f3 hs.1 hs.2 (by omega)
 rw [show (((zoneB (madeZ N) exFrom p.f2).toNat - 1 : Nat) : Int) + 1 = zoneB (madeZ N) exFrom p.f2 by omega] at h1
 rw [h1, stAns_light l (mdS N) ci _ p.f3 hs.1 h]
 rfl
theorem mlPiece_grams {l : List Int} (hf : mlFits l = true) {k : Nat} {p : Pc} (h : p ∈ mlPieces l k) : 1 ≤ p.f3 ∧ p.f3 ≤ 20 := by
 obtain ⟨i, hi, rfl, hx⟩ := mlPieces_mem hf h
 show 1 ≤ 1 + ((mlX l i / 4 % 20 : Nat) : Int) ∧ 1 + ((mlX l i / 4 % 20 : Nat) : Int) ≤ 20
 omega
theorem mlN_le (l : List Int) : mlN l ≤ 2000 := by unfold mlN; omega
theorem bases_made (N : Nat) {l : List Int} (hf : mdFits l = true) (ci : Nat) (hc : ci < mdC N) {ml : List Int} (hm : mlFits ml = true) (k : Nat) (hk : mlN ml + 40 < k) :
  tariff_Bases.f k (madeR N l) (madeZ N) ((ci : Int) + 1) 1 exFrom (mlPieces ml (mlN ml)) = some ((mlPieces ml (mlN ml)).map (mdBase l N ci), 0) := by
 have hc3 := (mdC_range N).2
 have hn := mlN_le ml
 refine bases_is (madeR N l) (madeZ N) ((ci : Int) + 1) 1 exFrom (mlPieces ml (mlN ml)) ((ci : Int) + 1) ((List.range (mdS N)).map (mdStep l (mdZ N) ci)) (mdBar N : Int) (mdBase l N ci) (made_right_f N l hf) (fun z hz => by have := made_short N z hz; omega) (by obtain ⟨-, -, h3, -⟩ := made_rows N; omega) (by rw [mlPieces_len]; omega) (by decide)
  (fun p hp => mlPiece_size hm hp) (made_mailing ml hm _ (by omega)) (fun f h3 => rate_made l (mdZ N) (mdS N) (mdBar N) (mdC N) ci hc hc3 (madeZ N) f h3) (by omega) (fun p hp => base_price N l ci p (mlPiece_grams hm hp).2) k (by rw [mlPieces_len]; exact hk)
end Go.Proofs.YtfglcfbcdhjcdaaDoor.Q

namespace Go.Proofs.YtfglcfbcdhjcdaaDoor.Q
open Go.RowKit Go.Proofs.YtfglcfbcdhjcdaaDoorW.PrintWords Go.Proofs.YtfglcfbcdhjcdaaDoorW.PrintLast Go.Proofs.YtfglcfbcdhjcdaaDoorW.PrintMore
set_option linter.unusedVariables false
set_option linter.unusedSimpArgs false
def pairOf (z : Zn) : ByteArray × ByteArray := (z.f0, z.f1)
def rowOk (n : Int) (z : Zn) : Bool := decide (1 ≤ z.f2) && (decide (z.f2 ≤ n) && (endOk z.f0 && endOk z.f1))
theorem rowCnt_zero (P T : List Zn) (p : ByteArray × ByteArray) : rowCnt (P ++ T) P.length p = 0 ↔ p ∉ P.map pairOf := by
 unfold rowCnt
 rw [List.take_append_of_le_length (Nat.le_refl _), List.take_length, List.length_eq_zero_iff, List.filter_eq_nil_iff]
 constructor
 ·intro h hm
  obtain ⟨z, hz, rfl⟩ := List.mem_map.1 hm
  exact h z hz (by simp [pairOf])
 ·intro h z hz hd
  simp only [decide_eq_true_eq] at hd
  exact h (List.mem_map.2 ⟨z, hz, hd⟩)
theorem rowsGo_iff (n : Int) : ∀ (T P : List Zn), rowsGo n (P ++ T) P.length T = true ↔ ((∀ z ∈ T, rowOk n z = true) ∧ (T.map pairOf).Nodup ∧ ∀ z ∈ T, pairOf z ∉ P.map pairOf)
 | [], P => by simp [rowsGo]
 | t :: ts, P => by
  have ih := rowsGo_iff n ts (P ++ [t])
  rw [List.append_assoc, List.singleton_append, List.length_append, List.length_cons, List.length_nil, Nat.zero_add] at ih
  show (decide (rowCnt (P ++ t :: ts) P.length (t.f0, t.f1) = 0) && (decide (1 ≤ t.f2) && (decide (t.f2 ≤ n) && (endOk t.f0 && (endOk t.f1 && rowsGo n (P ++ t :: ts) (P.length + 1) ts))))) = true ↔ _
  have hr : rowOk n t = (decide (1 ≤ t.f2) && (decide (t.f2 ≤ n) && (endOk t.f0 && endOk t.f1))) := rfl
  have hz := rowCnt_zero P (t :: ts) (t.f0, t.f1)
  rw [List.map_cons, List.nodup_cons]
  simp only [Bool.and_eq_true, decide_eq_true_eq] at hr ⊢
  constructor
  ·rintro ⟨h1, h2, h3, h4, h5, h6⟩
   obtain ⟨a, b, c⟩ := ih.1 h6
   have hp := hz.1 h1
   refine ⟨fun z hz2 => ?_, ⟨?_, b⟩, fun z hz2 => ?_⟩
   ·rcases List.mem_cons.1 hz2 with rfl | h
    ·unfold rowOk; rw [decide_eq_true h2, decide_eq_true h3, h4, h5]; rfl
    ·exact a z h
   ·intro hm
    obtain ⟨z, hz2, he⟩ := List.mem_map.1 hm
    exact c z hz2 (by rw [he, List.map_append]; simp)
   ·rcases List.mem_cons.1 hz2 with rfl | h
    ·exact hp
    ·intro hm
     exact c z h (by rw [List.map_append]; exact List.mem_append.2 (Or.inl hm))
  ·rintro ⟨h1, ⟨h2, h3⟩, h4⟩
   have ht := h1 t List.mem_cons_self
   unfold rowOk at ht
   simp only [Bool.and_eq_true, decide_eq_true_eq] at ht
   obtain ⟨t1, t2, t3, t4⟩ := ht
   refine ⟨hz.2 (h4 t List.mem_cons_self), t1, t2, t3, t4, ih.2 ⟨fun z hz2 => h1 z (List.mem_cons_of_mem _ hz2), h3, fun z hz2 hm => ?_⟩⟩
   rw [List.map_append] at hm
   rcases List.mem_append.1 hm with h | h
   ·exact h4 z (List.mem_cons_of_mem _ hz2) h
   ·simp only [List.map_cons, List.map_nil, List.mem_singleton] at h
    exact h2 (List.mem_map.2 ⟨z, hz2, h⟩)
theorem rowsGo_perm (n : Int) {Z Z' : List Zn} (hp : Z'.Perm Z) (h : rowsGo n Z 0 Z = true) : rowsGo n Z' 0 Z' = true := by
 obtain ⟨a, b, -⟩ := (rowsGo_iff n Z []).1 h
 exact (rowsGo_iff n Z' []).2 ⟨fun z hz => a z (hp.mem_iff.1 hz), (hp.map pairOf).nodup_iff.2 b, fun z _ hm => by cases hm⟩
theorem rowCnt_perm {Z Z' : List Zn} (hp : Z'.Perm Z) (p : ByteArray × ByteArray) : rowCnt Z' Z'.length p = rowCnt Z Z.length p := by
 unfold rowCnt
 rw [List.take_length, List.take_length]
 exact (hp.filter _).length_eq
def zLen (z : Zn) : Int := 100 * (z.f0.size : Int) + (z.f1.size : Int)
def zHits (a b : ByteArray) (z : Zn) : Prop := prefB a z.f0 = true ∧ prefB b z.f1 = true
theorem zone_best (a b : ByteArray) : ∀ (T : List Zn) (s : Int × Int), (∀ z ∈ T, zHits a b z → zLen z ≤ (T.foldl (zoneStep a b) s).2) ∧ s.2 ≤ (T.foldl (zoneStep a b) s).2 ∧ (T.foldl (zoneStep a b) s = s ∨ ∃ z ∈ T, zHits a b z ∧ T.foldl (zoneStep a b) s = (z.f2, zLen z))
 | [], s => ⟨(fun z hz => by cases hz), Int.le_refl _, Or.inl rfl⟩
 | t :: ts, s => by
  obtain ⟨h1, h2, h3⟩ := zone_best a b ts (zoneStep a b s t)
  rw [List.foldl_cons]
  have hs : (zoneStep a b s t = s ∧ (zHits a b t → zLen t ≤ s.2)) ∨ (zHits a b t ∧ zoneStep a b s t = (t.f2, zLen t) ∧ s.2 < zLen t) := by
   unfold zoneStep
   split
   ·rename_i h
    exact Or.inr ⟨h.2, rfl, h.1⟩
   ·rename_i h
    refine Or.inl ⟨rfl, fun hh => ?_⟩
    unfold zLen
    have : ¬ s.2 < 100 * (t.f0.size : Int) + (t.f1.size : Int) := fun hl => h ⟨hl, hh.1, hh.2⟩
    omega
  refine ⟨fun z hz hh => ?_, ?_, ?_⟩
  ·rcases List.mem_cons.1 hz with rfl | hz2
   ·rcases hs with ⟨e, hle⟩ | ⟨-, e, -⟩
    ·have := hle hh; rw [e] at h2 ⊢; omega
    ·rw [e] at h2 ⊢; exact h2
   ·exact h1 z hz2 hh
  ·rcases hs with ⟨e, -⟩ | ⟨-, e, hlt⟩
   ·rw [e] at h2 ⊢; exact h2
   ·rw [e] at h2 ⊢
    have : zLen t ≤ _ := h2
    omega
  ·rcases h3 with h3 | ⟨z, hz, hh, e⟩
   ·rcases hs with ⟨e, -⟩ | ⟨hh, e, -⟩
    ·exact Or.inl (h3.trans e)
    ·exact Or.inr ⟨t, List.mem_cons_self, hh, h3.trans e⟩
   ·exact Or.inr ⟨z, List.mem_cons_of_mem _ hz, hh, e⟩
theorem pref_text {a p q : ByteArray} (hp : prefB a p = true) (hq : prefB a q = true) (hs : p.size = q.size) : p = q := by
 unfold prefB at hp hq
 simp only [Bool.and_eq_true, decide_eq_true_eq, beq_iff_eq] at hp hq
 have e : p.toList = q.toList := by rw [← hp.2, ← hq.2, hs]
 exact WideShapes.bytes_inj (by rw [← Lib.toList_data, ← Lib.toList_data]; exact e)
theorem nodup_eq : ∀ (Z : List Zn), (Z.map pairOf).Nodup → ∀ x ∈ Z, ∀ y ∈ Z, pairOf x = pairOf y → x = y
 | [], _, x, hx, _, _, _ => by cases hx
 | t :: ts, h, x, hx, y, hy, e => by
  rw [List.map_cons, List.nodup_cons] at h
  rcases List.mem_cons.1 hx with rfl | hx2
  ·rcases List.mem_cons.1 hy with rfl | hy2
   ·rfl
   ·exact absurd (List.mem_map.2 ⟨y, hy2, e.symm⟩) h.1
  ·rcases List.mem_cons.1 hy with rfl | hy2
   ·exact absurd (List.mem_map.2 ⟨x, hx2, e⟩) h.1
   ·exact nodup_eq ts h.2 x hx2 y hy2 e
theorem zone_perm {Z Z' : List Zn} (hp : Z'.Perm Z) (hn : (Z.map pairOf).Nodup) (hs : ∀ z ∈ Z, z.f1.size < 100) (a b : ByteArray) : zoneB Z' a b = zoneB Z a b := by
 have ⟨h1, _, h3⟩ := zone_best a b Z (0, -1)
 have ⟨g1, _, g3⟩ := zone_best a b Z' (0, -1)
 unfold zoneB
 have hlen : ∀ z : Zn, 0 ≤ zLen z := fun z => by unfold zLen; omega
 rcases h3 with h3 | ⟨z, hz, hh, e⟩
 ·rcases g3 with g3 | ⟨y, hy, gh, ge⟩
  ·rw [h3, g3]
  ·have := h1 y (hp.mem_iff.1 hy) gh
   rw [h3] at this
   have h0 := hlen y
   have : zLen y ≤ -1 := this
   omega
 ·rcases g3 with g3 | ⟨y, hy, gh, ge⟩
  ·have := g1 z (hp.mem_iff.2 hz) hh
   rw [g3] at this
   have h0 := hlen z
   have : zLen z ≤ -1 := this
   omega
  ·have k1 := h1 y (hp.mem_iff.1 hy) gh
   have k2 := g1 z (hp.mem_iff.2 hz) hh
   rw [e] at k1
   rw [ge] at k2
   have k1 : zLen y ≤ zLen z := k1
   have k2 : zLen z ≤ zLen y := k2
   have s1 := hs z hz
   have s2 := hs y (hp.mem_iff.1 hy)
   have hl : 100 * (z.f0.size : Int) + (z.f1.size : Int) = 100 * (y.f0.size : Int) + (y.f1.size : Int) := by unfold zLen at k1 k2; omega
   have e0 := pref_text hh.1 gh.1 (by omega)
   have e1 := pref_text hh.2 gh.2 (by omega)
   have := nodup_eq Z hn z hz y (hp.mem_iff.1 hy) (by unfold pairOf; rw [e0, e1])
   rw [e, ge, this]
theorem made_nodup (N : Nat) : ((madeZ N).map pairOf).Nodup := by
 obtain ⟨h, -⟩ := made_rows N
 exact ((rowsGo_iff _ (madeZ N) []).1 h).2.1
theorem rate_find (R : List Rt) (Z : List Zn) (c : Int) (hl : R.length ≤ 1000) (n : Nat) (hn : n < R.length) (hm : R[n].f0 = c) (hb : ∀ j (h : j < R.length), j < n → R[j].f0 ≠ c) (f : Nat) (hf : n < f) : tariff_rate.f f R Z c = some (R[n].f0, R[n].f1, R[n].f2) := by
 have hgo : ∀ d i : Nat, i + d = n → ∀ k, d < k → tariff_rate.l0 k c R (R.length : Int) (i : Int) = some (R[n].f0, R[n].f1, R[n].f2) := by
  intro d
  induction d with
  | zero =>
   intro i hi k hk
   obtain ⟨k, rfl⟩ : ∃ m, k = m + 1 := ⟨k - 1, by omega⟩
   obtain rfl : i = n := by omega
   rw [tariff_rate.l0, if_pos (by omega), if_pos (by omega), if_pos (by omega), rt_get R i hn, if_pos hm]
  | succ d ih =>
   intro i hi k hk
   obtain ⟨k, rfl⟩ : ∃ m, k = m + 1 := ⟨k - 1, by omega⟩
   rw [tariff_rate.l0, if_pos (by omega), if_pos (by omega), if_pos (by omega), rt_get R i (by omega), if_neg (hb i (by omega) (by omega)), wrap64_id _ (by omega) (by omega), show ((i : Int) + 1) = ((i + 1 : Nat) : Int) by omega]
   exact ih (i + 1) (by omega) k (by omega)
 exact hgo n 0 (by omega) f hf
theorem rate_lacks (R : List Rt) (Z : List Zn) (c : Int) (hl : R.length ≤ 1000) (hb : ∀ j (h : j < R.length), R[j].f0 ≠ c) (f : Nat) (hf : R.length < f) : tariff_rate.f f R Z c = some (0, [], 0) := by
 have hgo : ∀ d i : Nat, i + d = R.length → ∀ k, d < k → tariff_rate.l0 k c R (R.length : Int) (i : Int) = some (0, [], 0) := by
  intro d
  induction d with
  | zero =>
   intro i hi k hk
   obtain ⟨k, rfl⟩ : ∃ m, k = m + 1 := ⟨k - 1, by omega⟩
   rw [tariff_rate.l0, if_neg (by omega)]
  | succ d ih =>
   intro i hi k hk
   obtain ⟨k, rfl⟩ : ∃ m, k = m + 1 := ⟨k - 1, by omega⟩
   rw [tariff_rate.l0, if_pos (by omega), if_pos (by omega), if_pos (by omega), rt_get R i (by omega), if_neg (hb i (by omega)), wrap64_id _ (by omega) (by omega), show ((i : Int) + 1) = ((i + 1 : Nat) : Int) by omega]
   exact ih (i + 1) (by omega) k (by omega)
 exact hgo R.length 0 (by omega) f hf
theorem madeR_at (N : Nat) (l : List Int) (j : Nat) (h : j < (madeR N l).length) : (madeR N l)[j] = mdRate l (mdZ N) (mdS N) (mdBar N) j := by
 rw [← rt_get (madeR N l) j h]
 exact rates_rd l (mdZ N) (mdS N) (mdBar N) (mdC N) j (by rw [← madeR_length N l]; exact h)
theorem rev_at (N : Nat) (l : List Int) (j : Nat) (h : j < (madeR N l).reverse.length) : (madeR N l).reverse[j] = mdRate l (mdZ N) (mdS N) (mdBar N) (mdC N - 1 - j) := by
 rw [List.getElem_reverse, madeR_at]
 congr 1
 rw [madeR_length]
theorem rate_rev (N : Nat) (l : List Int) (ci : Nat) (hc : ci < mdC N) (Z : List Zn) (f : Nat) (hf : 3 ≤ f) : tariff_rate.f f (madeR N l).reverse Z ((ci : Int) + 1) = some ((ci : Int) + 1, (List.range (mdS N)).map (mdStep l (mdZ N) ci), (mdBar N : Int)) := by
 have hc3 := mdC_range N
 have hlen : (madeR N l).reverse.length = mdC N := by rw [List.length_reverse, madeR_length]
 have h := rate_find (madeR N l).reverse Z ((ci : Int) + 1) (by omega) (mdC N - 1 - ci) (by omega) (by rw [rev_at, show mdC N - 1 - (mdC N - 1 - ci) = ci by omega]; rfl) (fun j hj hlt => by rw [rev_at]; show ((mdC N - 1 - j : Nat) : Int) + 1 ≠ (ci : Int) + 1; omega) f (by omega)
 rw [h, rev_at, show mdC N - 1 - (mdC N - 1 - ci) = ci by omega]
 rfl
theorem rate_over (N : Nat) (l : List Int) (c : Int) (hc : (mdC N : Int) < c) (Z : List Zn) (f : Nat) (hf : 4 ≤ f) : tariff_rate.f f (madeR N l) Z c = some (0, [], 0) := by
 have hc3 := mdC_range N
 have hl := madeR_length N l
 refine rate_lacks _ Z c (by omega) (fun j hj => ?_) f (by omega)
 rw [madeR_at]
 show (j : Int) + 1 ≠ c
 omega
theorem rate_over_rev (N : Nat) (l : List Int) (c : Int) (hc : (mdC N : Int) < c) (Z : List Zn) (f : Nat) (hf : 4 ≤ f) : tariff_rate.f f (madeR N l).reverse Z c = some (0, [], 0) := by
 have hc3 := mdC_range N
 have hlen : (madeR N l).reverse.length = mdC N := by rw [List.length_reverse, madeR_length]
 refine rate_lacks _ Z c (by omega) (fun j hj => ?_) f (by omega)
 rw [rev_at]
 show ((mdC N - 1 - j : Nat) : Int) + 1 ≠ c
 omega
theorem rates_rev {l : List Int} (h : mdFits l = true) (nz ns nc : Nat) (hs : 1 ≤ ns) (hs3 : ns ≤ 3) (hc : 1 ≤ nc) (hc3 : nc ≤ 3) (bar : Int) (hb : 0 ≤ bar) (hb2 : bar ≤ 31) : ratesGo (nz : Int) (mdRates l nz ns bar nc).reverse 0 (mdRates l nz ns bar nc).reverse = true ∧ zonesN (mdRates l nz ns bar nc).reverse = nz := by
 have hr := fun c => mdRate_rated h nz ns hs hs3 bar hb hb2 c
 have hf : ∀ c, (mdRate l nz ns bar c).f0 = (c : Int) + 1 := fun _ => rfl
 obtain ⟨j, rfl⟩ : ∃ j, ns = j + 1 := ⟨ns - 1, by omega⟩
 obtain rfl | rfl | rfl : nc = 1 ∨ nc = 2 ∨ nc = 3 := by omega
 all_goals refine ⟨by simp [mdRates, List.range_succ, ratesGo, clsCnt, hr, hf], ?_⟩
 all_goals simp [mdRates, List.range_succ_eq_map, zonesN, mdRate, mdStep]
theorem order_right (N : Nat) {l : List Int} (hf : mdFits l = true) {Z : List Zn} (hp : Z.Perm (madeZ N)) : tariff_Right.f (madeR N l).reverse Z = some true := by
 have hc := mdC_range N
 have hs := mdS_range N
 have hz1 := mdZ_range N
 obtain ⟨g1, g2, g3, hz⟩ := made_rows N
 obtain ⟨r1, r2⟩ := rates_rev hf (mdZ N) (mdS N) (mdC N) hs.1 hs.2 hc.1 hc.2 (mdBar N : Int) (by omega) (by have := mdBar_range N; omega)
 unfold tariff_Right.f
 rw [if_pos, show tariffB (madeR N l).reverse Z = true from ?_]
 ·unfold tariffB
  have hlen : (madeR N l).reverse.length = mdC N := by rw [List.length_reverse, madeR_length]
  rw [show zonesN (madeR N l).reverse = (mdZ N : Nat) from r2, show ratesGo (mdZ N : Nat) (madeR N l).reverse 0 (madeR N l).reverse = true from r1, rowsGo_perm _ hp g1, rowCnt_perm hp, g2, hlen, hp.length_eq]
  simp only [Bool.and_eq_true, decide_eq_true_eq, Bool.true_and, Bool.and_true, and_true, true_and]
  refine ⟨?_, ?_, ?_, ?_⟩ <;> omega
 ·rw [Bool.and_eq_true]
  refine ⟨?_, ?_⟩
  ·rw [List.all_eq_true]
   intro r hr
   obtain ⟨c, hc2, rfl⟩ := made_rate_mem (List.mem_reverse.1 hr)
   show (decide (0 ≤ ((c : Int) + 1)) && decide ((c : Int) + 1 ≤ 255)) = true
   simp only [Bool.and_eq_true, decide_eq_true_eq]
   omega
  ·rw [List.all_eq_true]
   intro z hz2
   obtain ⟨a, b⟩ := hz z (hp.mem_iff.1 hz2)
   unfold zoneFitsB
   simp only [Bool.and_eq_true, decide_eq_true_eq]
   omega
theorem bases_order (N : Nat) {l : List Int} (hf : mdFits l = true) {Z : List Zn} (hp : Z.Perm (madeZ N)) (ci : Nat) (hc : ci < mdC N) {ml : List Int} (hm : mlFits ml = true) (k : Nat) (hk : mlN ml + 40 < k) :
  tariff_Bases.f k (madeR N l).reverse Z ((ci : Int) + 1) 1 exFrom (mlPieces ml (mlN ml)) = some ((mlPieces ml (mlN ml)).map (mdBase l N ci), 0) := by
 have hc3 := (mdC_range N).2
 have hn := mlN_le ml
 obtain ⟨-, -, h3, -⟩ := made_rows N
 refine bases_is _ Z ((ci : Int) + 1) 1 exFrom (mlPieces ml (mlN ml)) ((ci : Int) + 1) ((List.range (mdS N)).map (mdStep l (mdZ N) ci)) (mdBar N : Int) (mdBase l N ci) (order_right N hf hp) (fun z hz => by have := made_short N z (hp.mem_iff.1 hz); omega) (by rw [hp.length_eq]; omega) (by rw [mlPieces_len]; omega) (by decide)
  (fun p hp2 => mlPiece_size hm hp2) (made_mailing ml hm _ (by omega)) (fun f h3 => rate_rev N l ci hc Z f h3) (by omega) (fun p hp2 => ?_) k (by rw [mlPieces_len]; exact hk)
 rw [zone_perm hp (made_nodup N) (fun z hz => by have := made_short N z hz; omega)]
 exact base_price N l ci p (mlPiece_grams hm hp2).2
theorem bases_over (N : Nat) {l : List Int} (hf : mdFits l = true) (c : Int) (hc : (mdC N : Int) < c) {ml : List Int} (hm : mlFits ml = true) (k : Nat) (hk : mlN ml + 40 < k) : tariff_Bases.f k (madeR N l) (madeZ N) c 1 exFrom (mlPieces ml (mlN ml)) = some ([], 6) :=
 bases_none _ _ c 1 exFrom _ [] 0 (made_right_f N l hf) (by rw [mlPieces_len]; have := mlN_le ml; omega) (by decide) (fun p hp => mlPiece_size hm hp) (made_mailing ml hm _ (by omega)) (fun f h => rate_over N l c hc (madeZ N) f h) k (by rw [mlPieces_len]; exact hk)
theorem bases_over_rev (N : Nat) {l : List Int} (hf : mdFits l = true) {Z : List Zn} (hp : Z.Perm (madeZ N)) (c : Int) (hc : (mdC N : Int) < c) {ml : List Int} (hm : mlFits ml = true) (k : Nat) (hk : mlN ml + 40 < k) : tariff_Bases.f k (madeR N l).reverse Z c 1 exFrom (mlPieces ml (mlN ml)) = some ([], 6) :=
 bases_none _ _ c 1 exFrom _ [] 0 (order_right N hf hp) (by rw [mlPieces_len]; have := mlN_le ml; omega) (by decide) (fun p hp2 => mlPiece_size hm hp2) (made_mailing ml hm _ (by omega)) (fun f h => rate_over_rev N l c hc Z f h) k (by rw [mlPieces_len]; exact hk)
theorem turn_perm (Z : List Zn) (k : Nat) : (Z.drop k ++ Z.take k).Perm Z := by
 have h : (Z.drop k ++ Z.take k).Perm (Z.take k ++ Z.drop k) := List.perm_append_comm
 rwa [List.take_append_drop] at h
end Go.Proofs.YtfglcfbcdhjcdaaDoor.Q

namespace Go.Proofs.YtfglcfbcdhjcdaaDoor.Q
open Go.RowKit Go.Proofs.YtfglcfbcdhjcdaaDoorW.PrintWords
set_option linter.unusedVariables false
section
variable {P : Program} {ops : Array Oper} {Q : Exit → Act → World → Prop} {md : Region.Mode} {S : World → Prop}
theorem takeC3 (i j k : Nat) {oi oj ok : Oper} {fuel : Nat} {listed : Array Bool} {a : Act} {w : World} (hi : ops.toList[i]? = some oi) (hj : ops.toList[j]? = some oj) (hk : ops.toList[k]? = some ok)
  (hr : Region.ready md ops listed = [i, j, k]) (hwi : Region.wanted oi (yielded ops a.tmps) = true) (hwj : Region.wanted oj (yielded ops a.tmps) = true) (hwk : Region.wanted ok (yielded ops a.tmps) = true)
  (h1 : ∀ K' : Act → World → Prop, Shut (∀ a w, S w → (S w → wpAnyH P md ops Q S fuel (listed.setIfInBounds i true) a w) → K' a w) → Oper.wp P oi a w K' Q)
  (h2 : ∀ K' : Act → World → Prop, Shut (∀ a w, S w → (S w → wpAnyH P md ops Q S fuel (listed.setIfInBounds j true) a w) → K' a w) → Oper.wp P oj a w K' Q)
  (h3 : ∀ K' : Act → World → Prop, Shut (∀ a w, S w → (S w → wpAnyH P md ops Q S fuel (listed.setIfInBounds k true) a w) → K' a w) → Oper.wp P ok a w K' Q) : wpAnyH P md ops Q S (fuel + 1) listed a w :=
 wpAnyH_ready hr (by simp) (AllReadyH.cons (o := oi) (by rw [← Array.getElem?_toList]; exact hi) (fun K hK => by rw [if_pos hwi]; exact h1 K hK)
  (AllReadyH.cons (o := oj) (by rw [← Array.getElem?_toList]; exact hj) (fun K hK => by rw [if_pos hwj]; exact h2 K hK)
  (AllReadyH.cons (o := ok) (by rw [← Array.getElem?_toList]; exact hk) (fun K hK => by rw [if_pos hwk]; exact h3 K hK) AllReadyH.nil)))
end
theorem R_but {α : Type} {d : Kd α} {e base : Nat} {ok : Nat → Prop} {W W1 : World} {v : Value} {xs : List α} (h : Kd.R d e W base ok v xs) {g t : Nat} {cells : Array Value} (hb : W.heap[g]? = some (.cells cells t (0, 0))) (ht : ∀ q, q ∈ e :: d.E → q ≠ t) (hm : ∀ k, k ≠ g → W1.heap[k]? = W.heap[k]?) : Kd.R d e W1 base ok v xs :=
 Kd.R_mono (Kd.R_move (Kd.R_types h hb ht) (fun k hk => hm k hk.2)) (fun k hk => hk.1)
end Go.Proofs.YtfglcfbcdhjcdaaDoor.Q

namespace Go.Proofs.YtfglcfbcdhjcdaaDoor.Q
open Go.RowKit Go.Proofs.YtfglcfbcdhjcdaaDoorW.PrintWords Go.Proofs.YtfglcfbcdhjcdaaDoorW.PrintLast Go.Proofs.YtfglcfbcdhjcdaaDoorW.PrintMore
set_option linter.unusedVariables false
set_option linter.unusedSimpArgs false
def revTo {α : Type} (z : α) (xs : List α) (i : Nat) : List α := (List.range xs.length).map (fun k => if k < i ∨ xs.length - i ≤ k then xs.getD (xs.length - 1 - k) z else xs.getD k z)
theorem revTo_len {α : Type} (z : α) (xs : List α) (i : Nat) : (revTo z xs i).length = xs.length := by unfold revTo; rw [List.length_map, List.length_range]
theorem revTo_at {α : Type} (z : α) (xs : List α) (i k : Nat) (h : k < xs.length) : (revTo z xs i)[k]? = some (if k < i ∨ xs.length - i ≤ k then xs.getD (xs.length - 1 - k) z else xs.getD k z) := by
 unfold revTo
 rw [List.getElem?_map, List.getElem?_range h]
 rfl
theorem getD_some {α : Type} (z : α) (xs : List α) (k : Nat) (h : k < xs.length) : xs[k]? = some (xs.getD k z) := by
 rw [List.getD_eq_getElem?_getD, List.getElem?_eq_getElem h]
 rfl
theorem revTo_get {α : Type} (z : α) (xs : List α) (i k : Nat) (h : k < xs.length) (h1 : i ≤ k) (h2 : k < xs.length - i) : (revTo z xs i).getD k z = xs.getD k z := by
 rw [List.getD_eq_getElem?_getD, revTo_at z xs i k h, if_neg (by omega)]
 rfl
theorem revTo_zero {α : Type} (z : α) (xs : List α) : revTo z xs 0 = xs := by
 refine List.ext_getElem? (fun k => ?_)
 by_cases h : k < xs.length
 ·rw [revTo_at z xs 0 k h, if_neg (by omega), getD_some z xs k h]
 ·rw [List.getElem?_eq_none (by rw [revTo_len]; omega), List.getElem?_eq_none (by omega)]
theorem revTo_step {α : Type} (z : α) (xs : List α) (i : Nat) (h : i < xs.length - 1 - i) : ((revTo z xs i).set i (xs.getD (xs.length - 1 - i) z)).set (xs.length - 1 - i) (xs.getD i z) = revTo z xs (i + 1) := by
 refine List.ext_getElem? (fun k => ?_)
 by_cases hk : k < xs.length
 ·rw [revTo_at z xs (i + 1) k hk, List.getElem?_set, List.length_set, revTo_len, List.getElem?_set, revTo_len, revTo_at z xs i k hk]
  by_cases e1 : xs.length - 1 - i = k
  ·rw [if_pos e1, if_pos (by omega), if_pos (by omega), show xs.length - 1 - k = i by omega]
  ·rw [if_neg e1]
   by_cases e2 : i = k
   ·rw [if_pos e2, if_pos (by omega), if_pos (by omega), e2]
   ·rw [if_neg e2]
    by_cases h3 : k < i ∨ xs.length - i ≤ k
    ·rw [if_pos h3, if_pos (by omega)]
    ·rw [if_neg h3, if_neg (by omega)]
 ·rw [List.getElem?_eq_none (by rw [List.length_set, List.length_set, revTo_len]; omega), List.getElem?_eq_none (by rw [revTo_len]; omega)]
theorem revTo_done {α : Type} (z : α) (xs : List α) (i : Nat) (h : xs.length ≤ 2 * i + 1) : revTo z xs i = xs.reverse := by
 refine List.ext_getElem? (fun k => ?_)
 by_cases hk : k < xs.length
 ·rw [revTo_at z xs i k hk, List.getElem?_reverse hk, getD_some z xs _ (by omega)]
  by_cases h3 : k < i ∨ xs.length - i ≤ k
  ·rw [if_pos h3]
  ·rw [if_neg h3, show xs.length - 1 - k = k by omega]
 ·rw [List.getElem?_eq_none (by rw [revTo_len]; omega), List.getElem?_eq_none (by rw [List.length_reverse]; omega)]
structure OnlyOwn (v : Value) (W W1 : World) : Prop where
 size : W1.heap.size = W.heap.size
 same : ∀ k, some k ≠ v.ownBlock → W1.heap[k]? = W.heap[k]?
theorem size3 (W : World) (p q r : Addr) (u v x : Value) : (((W.setCell p u).setCell q v).setCell r x).heap.size = W.heap.size := by simp only [World.setCell, Array.size_modify]
theorem far3 (W : World) (g a b c : Nat) (u v x : Value) : ∀ k, k ≠ g → (((W.setCell ⟨g, a, none⟩ u).setCell ⟨g, b, none⟩ v).setCell ⟨g, c, none⟩ x).heap[k]? = W.heap[k]? := fun k hk =>
 (Below.heap_setCell _ ⟨g, c, none⟩ _ _ hk).trans ((Below.heap_setCell _ ⟨g, b, none⟩ _ _ hk).trans (Below.heap_setCell _ ⟨g, a, none⟩ _ _ hk))
set_option maxHeartbeats 8000000 in
set_option maxRecDepth 100000 in
theorem revZones.calls (base : Nat) (ok : Nat → Prop) (v : Value) (xs : List (S67)) (w : World) (hR : Kd.R k67 67 w base ok v xs) :
  Calls Tryd.prog 29 #[v] w fun e w' => e = .returned (.tuple #[]) ∧ Kd.R k67 67 w' base ok v xs.reverse ∧ Below base w w' ∧ OnlyOwn v w w' := by
 obtain ⟨A, c, rfl, -, hC⟩ := Kd.R_reads hR
 have hmx := Kd.C_max hC
 have HR := Aside0.mk hR
 clear hR hC
 go_enter Tryd.func29, Tryd.ntmps29
 go_wp2_with fail
 go_loopg [2, 3] xs.length (fun gg s2 s3 W => ∃ (i : Nat) (J : Int), xs.length - i ≤ gg ∧ i ≤ xs.length ∧ s2 = .int .i64 i ∧ s3 = .int .i64 J ∧ Aside0 (J = (xs.length : Int) - 1 - (i : Int)) ∧ Aside0 (Kd.R k67 67 W base ok (.slice A xs.length c) (revTo z67 xs i)) ∧ Aside0 (Below base w W) ∧ Aside0 (OnlyOwn (.slice A xs.length c) w W))
 case atStart => exact ⟨0, (xs.length : Int) - 1, by omega, by omega, rfl, by go_num, ⟨by omega⟩, ⟨by rw [revTo_zero]; exact HR.out⟩, ⟨Below.refl _ _⟩, ⟨⟨rfl, fun _ _ => rfl⟩⟩⟩
 case round =>
  obtain ⟨i, J, hgi, hix, rfl, rfl, HJ, HX, HB, HO⟩ := hrel
  by_cases hlt : (i : Int) < J
  ·have hj := HJ.out
   obtain ⟨j, rfl⟩ : ∃ j : Nat, J = (j : Int) := ⟨J.toNat, by omega⟩
   have hij : i < xs.length - 1 - i := by omega
   have hje : j = xs.length - 1 - i := by omega
   have hul := revTo_len z67 xs i
   obtain ⟨g, cap, ev, hgb, hgl, cells_, hgc⟩ := Kd.R_form HX.out (by omega)
   injection ev with e1 e2 e3
   subst e1 e3
   clear e2
   have HXd := Aside0.mk (Kd.R_drew HX.out)
   have hgcd : wr.drew.heap[g]? = some (.cells cells_ 67 (0, 0)) := hgc
   obtain ⟨ci, hcl, hMi, hcci, hfzi⟩ := Kd.R_elem HXd.out z67 (i : Int) (by omega) (by omega)
   obtain ⟨cj, hcl2, hMj, hccj, hfzj⟩ := Kd.R_elem HXd.out z67 (j : Int) (by omega) (by omega)
   rw [Int.toNat_natCast] at hMi hcci hfzi hMj hccj hfzj
   rw [revTo_get z67 xs i i (by omega) (Nat.le_refl _) (by omega)] at hMi
   rw [revTo_get z67 xs i j (by omega) (by omega) (by omega)] at hMj
   have hstep := revTo_step z67 xs i hij
   rw [← hje] at hstep
   generalize hp_ : xs.getD i z67 = p at *
   generalize hq_ : xs.getD j z67 = q at *
   have HST := Aside0.mk hstep
   clear hstep hp_ hq_
   have h1 := k67_openM hMi
   subst h1
   have h2 := k67_openM hMj
   subst h2
   rw [show (k67).sz = 3 from rfl] at hcci hccj hfzi hfzj
   have p0 := hcci 0 _ rfl
   have q0 := hccj 0 _ rfl
   have pf0 := hfzi 0
   have qf0 := hfzj 0
   have p1 := hcci 1 _ rfl
   have q1 := hccj 1 _ rfl
   have pf1 := hfzi 1
   have qf1 := hfzj 1
   have p2 := hcci 2 _ rfl
   have q2 := hccj 2 _ rfl
   have pf2 := hfzi 2
   have qf2 := hfzj 2
   rw [Nat.add_zero] at p0 q0 pf0 qf0
   have hi0 : (i : Int) < (xs.length : Int) := by omega
   have hj0 : (j : Int) < (xs.length : Int) := by omega
   have hne : i ≠ j := by omega
   have HCI := Aside0.mk hcci
   have HCJ := Aside0.mk hccj
   have HGB := Aside0.mk hgb
   have HUL := Aside0.mk hul
   have HJE := Aside0.mk hje
   clear hcci hccj hfzi hfzj hgc hgcd hgb hul hcl hcl2 hje hij hj HX
   go_wp2_with fail
   have HBd := Aside0.mk (below_drew HB.out)
   have HOd : Aside0 (OnlyOwn (.slice (some ⟨g, 0, none⟩) xs.length c) w wr.drew) := ⟨⟨HO.out.size, HO.out.same⟩⟩
   refine wp_region_held_drew (S := fun _ => True) (by kernel_rfl) ?_ (fun hHeld => ?_)
   ·exact trivial
   clear HB HO
   generalize wr.drew = W1 at *
   refine takeT 0 ?_ rfl (by kernel_rfl) (by kernel_rfl) (by kernel_rfl) (fun _ _ _ h => h) (by rfl) ?_ (by assumption) ?_
   rotate_left
   ·(intro w hSw; (try dsimp only at hSw); go_simp; (try with_reducible rfl))
   try simp only [Act.put, sl1, sl2, sl3]
   refine takeT 1 ?_ rfl (by kernel_rfl) (by kernel_rfl) (by kernel_rfl) (fun _ _ _ h => h) (by rfl) ?_ (by assumption) ?_
   rotate_left
   ·(intro w hSw; (try dsimp only at hSw); go_simp; (try with_reducible rfl))
   try simp only [Act.put, sl1, sl2, sl3]
   refine takeT 2 ?_ rfl (by kernel_rfl) (by kernel_rfl) (by kernel_rfl) (fun _ _ _ h => h) (by rfl) ?_ (by assumption) ?_
   rotate_left
   ·(intro w hSw; (try dsimp only at hSw); go_simp; (try with_reducible rfl))
   try simp only [Act.put, sl1, sl2, sl3]
   refine takeT 3 ?_ rfl (by kernel_rfl) (by kernel_rfl) (by kernel_rfl) (fun _ _ _ h => h) (by rfl) ?_ (by assumption) ?_
   rotate_left
   ·(intro w hSw; (try dsimp only at hSw); go_simp; (try with_reducible rfl))
   try simp only [Act.put, sl1, sl2, sl3]
   refine takeT 4 ?_ rfl (by kernel_rfl) (by kernel_rfl) (by kernel_rfl) (fun _ _ _ h => h) (by rfl) ?_ (by assumption) ?_
   rotate_left
   ·(intro w hSw; (try dsimp only at hSw); go_simp; (try with_reducible rfl))
   try simp only [Act.put, sl1, sl2, sl3]
   refine takeT 5 ?_ rfl (by kernel_rfl) (by kernel_rfl) (by kernel_rfl) (fun _ _ _ h => h) (by rfl) ?_ (by assumption) ?_
   rotate_left
   ·(intro w hSw; (try dsimp only at hSw); go_simp; (try with_reducible rfl))
   try simp only [Act.put, sl1, sl2, sl3]
   refine takeT 6 ?_ rfl (by kernel_rfl) (by kernel_rfl) (by kernel_rfl) (fun _ _ _ h => h) (by rfl) ?_ (by assumption) ?_
   rotate_left
   ·(intro w hSw; (try dsimp only at hSw); go_simp; (try with_reducible rfl))
   try simp only [Act.put, sl1, sl2, sl3]
   refine takeT 8 ?_ rfl (by kernel_rfl) (by kernel_rfl) (by kernel_rfl) (fun _ _ _ h => h) (by rfl) ?_ (by assumption) ?_
   rotate_left
   ·(intro w hSw; (try dsimp only at hSw); go_simp; (try with_reducible rfl))
   try simp only [Act.put, sl1, sl2, sl3]
   refine takeT 9 ?_ rfl (by kernel_rfl) (by kernel_rfl) (by kernel_rfl) (fun _ _ _ h => h) (by rfl) ?_ (by assumption) ?_
   rotate_left
   ·(intro w hSw; (try dsimp only at hSw); go_simp; (try with_reducible rfl))
   try simp only [Act.put, sl1, sl2, sl3]
   refine takeT 10 ?_ rfl (by kernel_rfl) (by kernel_rfl) (by kernel_rfl) (fun _ _ _ h => h) (by rfl) ?_ (by assumption) ?_
   rotate_left
   ·(intro w hSw; (try dsimp only at hSw); go_simp; (try with_reducible rfl))
   try simp only [Act.put, sl1, sl2, sl3]
   apply bothWays
   intro hrest
   refine takeC2 7 11 rfl rfl (by kernel_rfl) (by rfl) (by rfl) (fun K hK => ?_) (fun K hK => ?_)
   ·go_simp
    skip
    (try go_wp2_with fail)
    refine hK.out _ _ ?_ (fun hHeld => ?_)
    ·exact trivial
    clear hK K
    try simp only [Act.put, sl1, sl2, sl3]
    refine takeC 11 rfl (by kernel_rfl) (by rfl) (fun K hK => ?_)
    go_simp
    skip
    (try go_wp2_with fail)
    refine hK.out _ _ ?_ (fun hHeld => ?_)
    ·exact trivial
    clear hK K
    try simp only [Act.put, sl1, sl2, sl3]
    clear hHeld
    exact hrest.out
   ·go_simp
    skip
    (try go_wp2_with fail)
    refine hK.out _ _ ?_ (fun hHeld => ?_)
    ·exact trivial
    clear hK K
    try simp only [Act.put, sl1, sl2, sl3]
    refine takeC 7 rfl (by kernel_rfl) (by rfl) (fun K hK => ?_)
    go_simp
    skip
    (try go_wp2_with fail)
    refine hK.out _ _ ?_ (fun hHeld => ?_)
    ·exact trivial
    clear hK K
    try simp only [Act.put, sl1, sl2, sl3]
    clear hHeld
    exact hrest.out
   have hSw : (fun _ : World => True) W1 := trivial
   refine takeT 12 ?_ rfl (by kernel_rfl) (by kernel_rfl) (by kernel_rfl) (fun _ _ _ h => h) (by rfl) ?_ (by assumption) ?_
   rotate_left
   ·(intro w hSw; (try dsimp only at hSw); go_simp; (try with_reducible rfl))
   try simp only [Act.put, sl1, sl2, sl3]
   refine takeC 13 rfl (by kernel_rfl) (by rfl) (fun K hK => ?_)
   go_simp
   (try go_wp2_with fail)
   refine hK.out _ _ ?_ (fun hHeld => ?_)
   ·exact trivial
   clear hK K
   try simp only [Act.put, sl1, sl2, sl3]
   clear hSw
   have hX2 := Kd.R_seg HXd.out (i : Int) (by omega) hi0 (c := [.string p.f0, .string p.f1, .int .i64 p.f2]) (seg := [.string q.f0, .string q.f1, .int .i64 q.f2]) (j := 0) (x' := q) (okp := fun k => ok k ∧ k ≠ g) rfl (by rw [Int.toNat_natCast]; exact HCI.out) (Nat.le_refl 3) (k67_mkM _ _ _ q) (fun _ hk => hk)
   rw [Int.toNat_natCast] at hX2
   have HX2 : Aside0 (Kd.R k67 67 (((W1.setCell ⟨g, i * 3, none⟩ (.string q.f0)).setCell ⟨g, i * 3 + 1, none⟩ (.string q.f1)).setCell ⟨g, i * 3 + 2, none⟩ (.int .i64 q.f2)) base ok (.slice (some ⟨g, 0, none⟩) xs.length c) ((revTo z67 xs i).set i q)) := ⟨hX2.1⟩
   have hfar := far3 W1 g (i * 3) (i * 3 + 1) (i * 3 + 2) (.string q.f0) (.string q.f1) (.int .i64 q.f2)
   have hsz3 := size3 W1 ⟨g, i * 3, none⟩ ⟨g, i * 3 + 1, none⟩ ⟨g, i * 3 + 2, none⟩ (.string q.f0) (.string q.f1) (.int .i64 q.f2)
   have HB2 := Aside0.mk (((HBd.out.setCell (p := ⟨g, i * 3, none⟩) HGB.out (.string q.f0)).setCell (p := ⟨g, i * 3 + 1, none⟩) HGB.out (.string q.f1)).setCell (p := ⟨g, i * 3 + 2, none⟩) HGB.out (.int .i64 q.f2))
   clear hX2 p0 p1 p2 q0 q1 q2 pf0 pf1 pf2 qf0 qf1 qf2
   generalize (((W1.setCell ⟨g, i * 3, none⟩ (.string q.f0)).setCell ⟨g, i * 3 + 1, none⟩ (.string q.f1)).setCell ⟨g, i * 3 + 2, none⟩ (.int .i64 q.f2)) = W2 at *
   have HF2 := Aside0.mk hfar
   have HS2 : Aside0 (W2.heap.size = W1.heap.size) := ⟨hsz3⟩
   clear hfar hsz3
   obtain ⟨ck, hcl3, hMk, hcck, hfzk⟩ := Kd.R_elem HX2.out z67 (j : Int) (by omega) hj0
   rw [Int.toNat_natCast] at hMk hcck hfzk
   generalize ((revTo z67 xs i).set i q).getD j z67 = y at *
   have h3 := k67_openM hMk
   subst h3
   rw [show (k67).sz = 3 from rfl] at hcck hfzk
   have q0 := hcck 0 _ rfl
   have qf0 := hfzk 0
   have q1 := hcck 1 _ rfl
   have qf1 := hfzk 1
   have q2 := hcck 2 _ rfl
   have qf2 := hfzk 2
   rw [Nat.add_zero] at q0 qf0
   have HCK := Aside0.mk hcck
   clear hcck hfzk hcl3 hMk
   have hSw : (fun _ : World => True) W2 := trivial
   refine takeT 14 ?_ rfl (by kernel_rfl) (by kernel_rfl) (by kernel_rfl) (fun _ _ _ h => h) (by rfl) ?_ (by assumption) ?_
   rotate_left
   ·(intro w hSw; (try dsimp only at hSw); go_simp; (try with_reducible rfl))
   try simp only [Act.put, sl1, sl2, sl3]
   refine takeC 15 rfl (by kernel_rfl) (by rfl) (fun K hK => ?_)
   go_simp
   (try go_wp2_with fail)
   refine hK.out _ _ ?_ (fun hHeld => ?_)
   ·exact trivial
   clear hK K
   try simp only [Act.put, sl1, sl2, sl3]
   clear hSw
   have hX3 := Kd.R_seg HX2.out (j : Int) (by omega) hj0 (c := [.string y.f0, .string y.f1, .int .i64 y.f2]) (seg := [.string p.f0, .string p.f1, .int .i64 p.f2]) (j := 0) (x' := p) (okp := fun k => ok k ∧ k ≠ g) rfl (by rw [Int.toNat_natCast]; exact HCK.out) (Nat.le_refl 3) (k67_mkM _ _ _ p) (fun _ hk => hk)
   rw [Int.toNat_natCast, HST.out] at hX3
   have HX3 : Aside0 (Kd.R k67 67 (((W2.setCell ⟨g, j * 3, none⟩ (.string p.f0)).setCell ⟨g, j * 3 + 1, none⟩ (.string p.f1)).setCell ⟨g, j * 3 + 2, none⟩ (.int .i64 p.f2)) base ok (.slice (some ⟨g, 0, none⟩) xs.length c) (revTo z67 xs (i + 1))) := ⟨hX3.1⟩
   have hfar := far3 W2 g (j * 3) (j * 3 + 1) (j * 3 + 2) (.string p.f0) (.string p.f1) (.int .i64 p.f2)
   have hsz3 := size3 W2 ⟨g, j * 3, none⟩ ⟨g, j * 3 + 1, none⟩ ⟨g, j * 3 + 2, none⟩ (.string p.f0) (.string p.f1) (.int .i64 p.f2)
   have HB3 := Aside0.mk (((HB2.out.setCell (p := ⟨g, j * 3, none⟩) HGB.out (.string p.f0)).setCell (p := ⟨g, j * 3 + 1, none⟩) HGB.out (.string p.f1)).setCell (p := ⟨g, j * 3 + 2, none⟩) HGB.out (.int .i64 p.f2))
   have HO3 : Aside0 (OnlyOwn (.slice (some ⟨g, 0, none⟩) xs.length c) w (((W2.setCell ⟨g, j * 3, none⟩ (.string p.f0)).setCell ⟨g, j * 3 + 1, none⟩ (.string p.f1)).setCell ⟨g, j * 3 + 2, none⟩ (.int .i64 p.f2))) := ⟨⟨hsz3.trans (HS2.out.trans HOd.out.size), fun k hk => (hfar k (fun e => hk (by rw [e]; rfl))).trans ((HF2.out k (fun e => hk (by rw [e]; rfl))).trans (HOd.out.same k hk))⟩⟩
   clear hX3 hfar hsz3 q0 q1 q2 qf0 qf1 qf2 hHeld HX2 HB2
   generalize (((W2.setCell ⟨g, j * 3, none⟩ (.string p.f0)).setCell ⟨g, j * 3 + 1, none⟩ (.string p.f1)).setCell ⟨g, j * 3 + 2, none⟩ (.int .i64 p.f2)) = W3 at *
   refine wpAnyH_done (by kernel_rfl) ?_ _
   go_wp2_with fail
   go_roundg (xs.length - (i + 1))
   case measure => omega
   case rel => exact ⟨i + 1, (j : Int) - 1, Nat.le_refl _, by omega, by go_num, by go_num, ⟨by have := HJE.out; omega⟩, HX3, HB3, HO3⟩
  ·have hj := HJ.out
   have hrv := revTo_done z67 xs i (by omega)
   have HRV := Aside0.mk hrv
   clear hrv
   go_wp2_with fail
   go_end0
   exact ⟨rfl, by rw [← HRV.out]; exact HX.out, HB.out, HO.out⟩
set_option maxHeartbeats 8000000 in
set_option maxRecDepth 100000 in
theorem revRates.calls (base : Nat) (ok : Nat → Prop) (v : Value) (xs : List (S57)) (w : World) (hR : Kd.R k57 57 w base ok v xs) :
  Calls Tryd.prog 28 #[v] w fun e w' => e = .returned (.tuple #[]) ∧ Kd.R k57 57 w' base ok v xs.reverse ∧ Below base w w' ∧ OnlyOwn v w w' := by
 obtain ⟨A, c, rfl, -, hC⟩ := Kd.R_reads hR
 have hmx := Kd.C_max hC
 have HR := Aside0.mk hR
 clear hR hC
 go_enter Tryd.func28, Tryd.ntmps28
 go_wp2_with fail
 go_loopg [2, 3] xs.length (fun gg s2 s3 W => ∃ (i : Nat) (J : Int), xs.length - i ≤ gg ∧ i ≤ xs.length ∧ s2 = .int .i64 i ∧ s3 = .int .i64 J ∧ Aside0 (J = (xs.length : Int) - 1 - (i : Int)) ∧ Aside0 (Kd.R k57 57 W base ok (.slice A xs.length c) (revTo z57 xs i)) ∧ Aside0 (Below base w W) ∧ Aside0 (OnlyOwn (.slice A xs.length c) w W))
 case atStart => exact ⟨0, (xs.length : Int) - 1, by omega, by omega, rfl, by go_num, ⟨by omega⟩, ⟨by rw [revTo_zero]; exact HR.out⟩, ⟨Below.refl _ _⟩, ⟨⟨rfl, fun _ _ => rfl⟩⟩⟩
 case round =>
  obtain ⟨i, J, hgi, hix, rfl, rfl, HJ, HX, HB, HO⟩ := hrel
  by_cases hlt : (i : Int) < J
  ·have hj := HJ.out
   obtain ⟨j, rfl⟩ : ∃ j : Nat, J = (j : Int) := ⟨J.toNat, by omega⟩
   have hij : i < xs.length - 1 - i := by omega
   have hje : j = xs.length - 1 - i := by omega
   have hul := revTo_len z57 xs i
   obtain ⟨g, cap, ev, hgb, hgl, cells_, hgc⟩ := Kd.R_form HX.out (by omega)
   injection ev with e1 e2 e3
   subst e1 e3
   clear e2
   have HXd := Aside0.mk (Kd.R_drew HX.out)
   have hgcd : wr.drew.heap[g]? = some (.cells cells_ 57 (0, 0)) := hgc
   obtain ⟨ci, hcl, hMi, hcci, hfzi⟩ := Kd.R_elem HXd.out z57 (i : Int) (by omega) (by omega)
   obtain ⟨cj, hcl2, hMj, hccj, hfzj⟩ := Kd.R_elem HXd.out z57 (j : Int) (by omega) (by omega)
   rw [Int.toNat_natCast] at hMi hcci hfzi hMj hccj hfzj
   rw [revTo_get z57 xs i i (by omega) (Nat.le_refl _) (by omega)] at hMi
   rw [revTo_get z57 xs i j (by omega) (by omega) (by omega)] at hMj
   have hstep := revTo_step z57 xs i hij
   rw [← hje] at hstep
   generalize hp_ : xs.getD i z57 = p at *
   generalize hq_ : xs.getD j z57 = q at *
   have HST := Aside0.mk hstep
   clear hstep hp_ hq_
   obtain ⟨vi, h1, hRi⟩ := k57_openM hMi
   subst h1
   have HRI := Aside0.mk hRi
   obtain ⟨Ai, ki, ei⟩ := Kd.R_slice hRi
   clear hRi
   subst ei
   obtain ⟨vj, h2, hRj⟩ := k57_openM hMj
   subst h2
   have HRJ := Aside0.mk hRj
   obtain ⟨Aj, kj, ej⟩ := Kd.R_slice hRj
   clear hRj
   subst ej
   rw [show (k57).sz = 3 from rfl] at hcci hccj hfzi hfzj
   have p0 := hcci 0 _ rfl
   have q0 := hccj 0 _ rfl
   have pf0 := hfzi 0
   have qf0 := hfzj 0
   have p1 := hcci 1 _ rfl
   have q1 := hccj 1 _ rfl
   have pf1 := hfzi 1
   have qf1 := hfzj 1
   have p2 := hcci 2 _ rfl
   have q2 := hccj 2 _ rfl
   have pf2 := hfzi 2
   have qf2 := hfzj 2
   rw [Nat.add_zero] at p0 q0 pf0 qf0
   have hi0 : (i : Int) < (xs.length : Int) := by omega
   have hj0 : (j : Int) < (xs.length : Int) := by omega
   have hne : i ≠ j := by omega
   have HCI := Aside0.mk hcci
   have HCJ := Aside0.mk hccj
   have HGB := Aside0.mk hgb
   have HUL := Aside0.mk hul
   have HJE := Aside0.mk hje
   clear hcci hccj hfzi hfzj hgc hgcd hgb hul hcl hcl2 hje hij hj HX
   go_wp2_with fail
   have HBd := Aside0.mk (below_drew HB.out)
   have HOd : Aside0 (OnlyOwn (.slice (some ⟨g, 0, none⟩) xs.length c) w wr.drew) := ⟨⟨HO.out.size, HO.out.same⟩⟩
   refine wp_region_held_drew (S := fun _ => True) (by kernel_rfl) ?_ (fun hHeld => ?_)
   ·exact trivial
   clear HB HO
   generalize wr.drew = W1 at *
   refine takeT 0 ?_ rfl (by kernel_rfl) (by kernel_rfl) (by kernel_rfl) (fun _ _ _ h => h) (by rfl) ?_ (by assumption) ?_
   rotate_left
   ·(intro w hSw; (try dsimp only at hSw); go_simp; (try with_reducible rfl))
   try simp only [Act.put, sl1, sl2, sl3]
   refine takeT 1 ?_ rfl (by kernel_rfl) (by kernel_rfl) (by kernel_rfl) (fun _ _ _ h => h) (by rfl) ?_ (by assumption) ?_
   rotate_left
   ·(intro w hSw; (try dsimp only at hSw); go_simp; (try with_reducible rfl))
   try simp only [Act.put, sl1, sl2, sl3]
   refine takeT 2 ?_ rfl (by kernel_rfl) (by kernel_rfl) (by kernel_rfl) (fun _ _ _ h => h) (by rfl) ?_ (by assumption) ?_
   rotate_left
   ·(intro w hSw; (try dsimp only at hSw); go_simp; (try with_reducible rfl))
   try simp only [Act.put, sl1, sl2, sl3]
   refine takeT 3 ?_ rfl (by kernel_rfl) (by kernel_rfl) (by kernel_rfl) (fun _ _ _ h => h) (by rfl) ?_ (by assumption) ?_
   rotate_left
   ·(intro w hSw; (try dsimp only at hSw); go_simp; (try with_reducible rfl))
   try simp only [Act.put, sl1, sl2, sl3]
   refine takeT 4 ?_ rfl (by kernel_rfl) (by kernel_rfl) (by kernel_rfl) (fun _ _ _ h => h) (by rfl) ?_ (by assumption) ?_
   rotate_left
   ·(intro w hSw; (try dsimp only at hSw); go_simp; (try with_reducible rfl))
   try simp only [Act.put, sl1, sl2, sl3]
   refine takeT 5 ?_ rfl (by kernel_rfl) (by kernel_rfl) (by kernel_rfl) (fun _ _ _ h => h) (by rfl) ?_ (by assumption) ?_
   rotate_left
   ·(intro w hSw; (try dsimp only at hSw); go_simp; (try with_reducible rfl))
   try simp only [Act.put, sl1, sl2, sl3]
   refine takeT 6 ?_ rfl (by kernel_rfl) (by kernel_rfl) (by kernel_rfl) (fun _ _ _ h => h) (by rfl) ?_ (by assumption) ?_
   rotate_left
   ·(intro w hSw; (try dsimp only at hSw); go_simp; (try with_reducible rfl))
   try simp only [Act.put, sl1, sl2, sl3]
   refine takeT 8 ?_ rfl (by kernel_rfl) (by kernel_rfl) (by kernel_rfl) (fun _ _ _ h => h) (by rfl) ?_ (by assumption) ?_
   rotate_left
   ·(intro w hSw; (try dsimp only at hSw); go_simp; (try with_reducible rfl))
   try simp only [Act.put, sl1, sl2, sl3]
   refine takeT 9 ?_ rfl (by kernel_rfl) (by kernel_rfl) (by kernel_rfl) (fun _ _ _ h => h) (by rfl) ?_ (by assumption) ?_
   rotate_left
   ·(intro w hSw; (try dsimp only at hSw); go_simp; (try with_reducible rfl))
   try simp only [Act.put, sl1, sl2, sl3]
   refine takeT 10 ?_ rfl (by kernel_rfl) (by kernel_rfl) (by kernel_rfl) (fun _ _ _ h => h) (by rfl) ?_ (by assumption) ?_
   rotate_left
   ·(intro w hSw; (try dsimp only at hSw); go_simp; (try with_reducible rfl))
   try simp only [Act.put, sl1, sl2, sl3]
   apply bothWays
   intro hrest
   refine takeC2 7 11 rfl rfl (by kernel_rfl) (by rfl) (by rfl) (fun K hK => ?_) (fun K hK => ?_)
   ·go_simp
    skip
    (try go_wp2_with fail)
    refine hK.out _ _ ?_ (fun hHeld => ?_)
    ·exact trivial
    clear hK K
    try simp only [Act.put, sl1, sl2, sl3]
    refine takeC 11 rfl (by kernel_rfl) (by rfl) (fun K hK => ?_)
    go_simp
    skip
    (try go_wp2_with fail)
    refine hK.out _ _ ?_ (fun hHeld => ?_)
    ·exact trivial
    clear hK K
    try simp only [Act.put, sl1, sl2, sl3]
    clear hHeld
    exact hrest.out
   ·go_simp
    skip
    (try go_wp2_with fail)
    refine hK.out _ _ ?_ (fun hHeld => ?_)
    ·exact trivial
    clear hK K
    try simp only [Act.put, sl1, sl2, sl3]
    refine takeC 7 rfl (by kernel_rfl) (by rfl) (fun K hK => ?_)
    go_simp
    skip
    (try go_wp2_with fail)
    refine hK.out _ _ ?_ (fun hHeld => ?_)
    ·exact trivial
    clear hK K
    try simp only [Act.put, sl1, sl2, sl3]
    clear hHeld
    exact hrest.out
   have hSw : (fun _ : World => True) W1 := trivial
   refine takeT 12 ?_ rfl (by kernel_rfl) (by kernel_rfl) (by kernel_rfl) (fun _ _ _ h => h) (by rfl) ?_ (by assumption) ?_
   rotate_left
   ·(intro w hSw; (try dsimp only at hSw); go_simp; (try with_reducible rfl))
   try simp only [Act.put, sl1, sl2, sl3]
   refine takeC 13 rfl (by kernel_rfl) (by rfl) (fun K hK => ?_)
   go_simp
   (try go_wp2_with fail)
   refine hK.out _ _ ?_ (fun hHeld => ?_)
   ·exact trivial
   clear hK K
   try simp only [Act.put, sl1, sl2, sl3]
   clear hSw
   have hX2 := Kd.R_seg HXd.out (i : Int) (by omega) hi0 (c := [.int .u8 p.f0, .slice Ai p.f1.length ki, .int .i64 p.f2]) (seg := [.int .u8 q.f0, .slice Aj q.f1.length kj, .int .i64 q.f2]) (j := 0) (x' := q) (okp := fun k => ok k ∧ k ≠ g) rfl (by rw [Int.toNat_natCast]; exact HCI.out) (Nat.le_refl 3) (k57_mkM _ _ _ q HRJ.out) (fun _ hk => hk)
   rw [Int.toNat_natCast] at hX2
   have HX2 : Aside0 (Kd.R k57 57 (((W1.setCell ⟨g, i * 3, none⟩ (.int .u8 q.f0)).setCell ⟨g, i * 3 + 1, none⟩ (.slice Aj q.f1.length kj)).setCell ⟨g, i * 3 + 2, none⟩ (.int .i64 q.f2)) base ok (.slice (some ⟨g, 0, none⟩) xs.length c) ((revTo z57 xs i).set i q)) := ⟨hX2.1⟩
   have hfar := far3 W1 g (i * 3) (i * 3 + 1) (i * 3 + 2) (.int .u8 q.f0) (.slice Aj q.f1.length kj) (.int .i64 q.f2)
   have hsz3 := size3 W1 ⟨g, i * 3, none⟩ ⟨g, i * 3 + 1, none⟩ ⟨g, i * 3 + 2, none⟩ (.int .u8 q.f0) (.slice Aj q.f1.length kj) (.int .i64 q.f2)
   have HB2 := Aside0.mk (((HBd.out.setCell (p := ⟨g, i * 3, none⟩) HGB.out (.int .u8 q.f0)).setCell (p := ⟨g, i * 3 + 1, none⟩) HGB.out (.slice Aj q.f1.length kj)).setCell (p := ⟨g, i * 3 + 2, none⟩) HGB.out (.int .i64 q.f2))
   clear hX2 p0 p1 p2 q0 q1 q2 pf0 pf1 pf2 qf0 qf1 qf2
   generalize (((W1.setCell ⟨g, i * 3, none⟩ (.int .u8 q.f0)).setCell ⟨g, i * 3 + 1, none⟩ (.slice Aj q.f1.length kj)).setCell ⟨g, i * 3 + 2, none⟩ (.int .i64 q.f2)) = W2 at *
   have HF2 := Aside0.mk hfar
   have HS2 : Aside0 (W2.heap.size = W1.heap.size) := ⟨hsz3⟩
   clear hfar hsz3
   obtain ⟨ck, hcl3, hMk, hcck, hfzk⟩ := Kd.R_elem HX2.out z57 (j : Int) (by omega) hj0
   rw [Int.toNat_natCast] at hMk hcck hfzk
   generalize ((revTo z57 xs i).set i q).getD j z57 = y at *
   obtain ⟨vk, h3, hRk⟩ := k57_openM hMk
   subst h3
   obtain ⟨Ak, kk, ek⟩ := Kd.R_slice hRk
   clear hRk
   subst ek
   rw [show (k57).sz = 3 from rfl] at hcck hfzk
   have q0 := hcck 0 _ rfl
   have qf0 := hfzk 0
   have q1 := hcck 1 _ rfl
   have qf1 := hfzk 1
   have q2 := hcck 2 _ rfl
   have qf2 := hfzk 2
   rw [Nat.add_zero] at q0 qf0
   have HCK := Aside0.mk hcck
   clear hcck hfzk hcl3 hMk
   have hSw : (fun _ : World => True) W2 := trivial
   refine takeT 14 ?_ rfl (by kernel_rfl) (by kernel_rfl) (by kernel_rfl) (fun _ _ _ h => h) (by rfl) ?_ (by assumption) ?_
   rotate_left
   ·(intro w hSw; (try dsimp only at hSw); go_simp; (try with_reducible rfl))
   try simp only [Act.put, sl1, sl2, sl3]
   refine takeC 15 rfl (by kernel_rfl) (by rfl) (fun K hK => ?_)
   go_simp
   (try go_wp2_with fail)
   refine hK.out _ _ ?_ (fun hHeld => ?_)
   ·exact trivial
   clear hK K
   try simp only [Act.put, sl1, sl2, sl3]
   clear hSw
   have hX3 := Kd.R_seg HX2.out (j : Int) (by omega) hj0 (c := [.int .u8 y.f0, .slice Ak y.f1.length kk, .int .i64 y.f2]) (seg := [.int .u8 p.f0, .slice Ai p.f1.length ki, .int .i64 p.f2]) (j := 0) (x' := p) (okp := fun k => ok k ∧ k ≠ g) rfl (by rw [Int.toNat_natCast]; exact HCK.out) (Nat.le_refl 3) (k57_mkM _ _ _ p (Kd.R_move HRI.out (fun k hk => HF2.out k hk.2))) (fun _ hk => hk)
   rw [Int.toNat_natCast, HST.out] at hX3
   have HX3 : Aside0 (Kd.R k57 57 (((W2.setCell ⟨g, j * 3, none⟩ (.int .u8 p.f0)).setCell ⟨g, j * 3 + 1, none⟩ (.slice Ai p.f1.length ki)).setCell ⟨g, j * 3 + 2, none⟩ (.int .i64 p.f2)) base ok (.slice (some ⟨g, 0, none⟩) xs.length c) (revTo z57 xs (i + 1))) := ⟨hX3.1⟩
   have hfar := far3 W2 g (j * 3) (j * 3 + 1) (j * 3 + 2) (.int .u8 p.f0) (.slice Ai p.f1.length ki) (.int .i64 p.f2)
   have hsz3 := size3 W2 ⟨g, j * 3, none⟩ ⟨g, j * 3 + 1, none⟩ ⟨g, j * 3 + 2, none⟩ (.int .u8 p.f0) (.slice Ai p.f1.length ki) (.int .i64 p.f2)
   have HB3 := Aside0.mk (((HB2.out.setCell (p := ⟨g, j * 3, none⟩) HGB.out (.int .u8 p.f0)).setCell (p := ⟨g, j * 3 + 1, none⟩) HGB.out (.slice Ai p.f1.length ki)).setCell (p := ⟨g, j * 3 + 2, none⟩) HGB.out (.int .i64 p.f2))
   have HO3 : Aside0 (OnlyOwn (.slice (some ⟨g, 0, none⟩) xs.length c) w (((W2.setCell ⟨g, j * 3, none⟩ (.int .u8 p.f0)).setCell ⟨g, j * 3 + 1, none⟩ (.slice Ai p.f1.length ki)).setCell ⟨g, j * 3 + 2, none⟩ (.int .i64 p.f2))) := ⟨⟨hsz3.trans (HS2.out.trans HOd.out.size), fun k hk => (hfar k (fun e => hk (by rw [e]; rfl))).trans ((HF2.out k (fun e => hk (by rw [e]; rfl))).trans (HOd.out.same k hk))⟩⟩
   clear hX3 hfar hsz3 q0 q1 q2 qf0 qf1 qf2 hHeld HX2 HB2
   generalize (((W2.setCell ⟨g, j * 3, none⟩ (.int .u8 p.f0)).setCell ⟨g, j * 3 + 1, none⟩ (.slice Ai p.f1.length ki)).setCell ⟨g, j * 3 + 2, none⟩ (.int .i64 p.f2)) = W3 at *
   refine wpAnyH_done (by kernel_rfl) ?_ _
   go_wp2_with fail
   go_roundg (xs.length - (i + 1))
   case measure => omega
   case rel => exact ⟨i + 1, (j : Int) - 1, Nat.le_refl _, by omega, by go_num, by go_num, ⟨by have := HJE.out; omega⟩, HX3, HB3, HO3⟩
  ·have hj := HJ.out
   have hrv := revTo_done z57 xs i (by omega)
   have HRV := Aside0.mk hrv
   clear hrv
   go_wp2_with fail
   go_end0
   exact ⟨rfl, by rw [← HRV.out]; exact HX.out, HB.out, HO.out⟩
end Go.Proofs.YtfglcfbcdhjcdaaDoor.Q

namespace Go.Proofs.YtfglcfbcdhjcdaaDoor.Q
open Go.RowKit Go.Proofs.YtfglcfbcdhjcdaaDoorW.PrintWords Go.Proofs.YtfglcfbcdhjcdaaDoorW.PrintLast Go.Proofs.YtfglcfbcdhjcdaaDoorW.PrintMore
set_option linter.unusedVariables false
set_option linter.unusedSimpArgs false
theorem plan_C (w : World) (x : Int) : Kd.C (Kd.int .i64) (w.alloc (.cells #[.int .i64 x] 3 (0, 0))) (some ⟨w.heap.size, 0, none⟩) 1 [x] :=
 (Kd.R_reads' (R_one (d := Kd.int .i64) (cs := [.int .i64 x]) (ok := fun _ => True) (okp := fun _ => False) (p := x) (base := 0) (heap_alloc_new w (.cells #[.int .i64 x] 3 (0, 0))) (Nat.zero_le _) rfl (fun _ hk => hk.elim) trivial)).2.2
set_option maxHeartbeats 8000000 in
set_option maxRecDepth 100000 in
theorem awake.calls0 (w : World) : Calls Tryd.prog 10 #[] w fun e w' => e = .returned (.bool true) ∧ Below w.heap.size w w' := by
 go_enter Tryd.func10, Tryd.ntmps10
 go_wp2_with fail
 refine (letterbaglaw24_Example.calls _ _ w ex_t).mono ?_
 rintro e w1 ⟨v0, v1, rfl, hn0, hn1, hb1⟩
 obtain ⟨A0, c0, rfl, hc0, hr0⟩ := Kd.N_reads hn0
 obtain ⟨A1, c1, rfl, hc1, hr1⟩ := Kd.R_reads hn1
 have HC0 := Aside0.mk hc0
 have HC1 := Aside0.mk hc1
 have hba := below_alloc (Below.refl w1.heap.size w1) (.cells #[.slice A0 exR.length c0, .slice A1 exZ.length c1] 25 (0, 0))
 have HT := Aside0.mk (heap_alloc_new w1 (.cells #[.slice A0 exR.length c0, .slice A1 exZ.length c1] 25 (0, 0)))
 have HR0 := Aside0.mk (Kd.C_below hr0 hba)
 have HR1 := Aside0.mk (Kd.C_below hr1 hba)
 have HW := Aside0.mk (hb1.trans (hba.mono hb1.size))
 have t0 := (blk_cell HT.out 0).trans rfl
 have t1 := (blk_cell HT.out 1).trans rfl
 clear hn0 hn1 hb1 hr0 hr1 hba hc0 hc1
 have hlt := blk_lt HT.out
 have HB := Aside0.mk (Below.refl (w1.alloc (.cells #[.slice A0 exR.length c0, .slice A1 exZ.length c1] 25 (0, 0))).heap.size (w1.alloc (.cells #[.slice A0 exR.length c0, .slice A1 exZ.length c1] 25 (0, 0))))
 go_wp2_with fail
 generalize w1.alloc (.cells #[.slice A0 exR.length c0, .slice A1 exZ.length c1] 25 (0, 0)) = W1 at *
 generalize w1.heap.size = tb at *
 refine (tariff_Zone.calls 100 A0 c0 exR A1 c1 exZ exFrom exNear 1 0 _ (Kd.C_below HR0.out HB.out) HC0.out (Kd.C_below HR1.out HB.out) HC1.out ex_a).mono ?_
 rintro e wA ⟨rfl, hbA⟩
 have HB := Aside0.mk (HB.out.trans (hbA.mono HB.out.size))
 have t0 : wA.cell? ⟨tb, 0, none⟩ = some (.slice A0 exR.length c0) := (blk_cell ((HB.out.block tb hlt).trans HT.out) 0).trans rfl
 have t1 : wA.cell? ⟨tb, 1, none⟩ = some (.slice A1 exZ.length c1) := (blk_cell ((HB.out.block tb hlt).trans HT.out) 1).trans rfl
 clear hbA
 go_wp2_with fail
 refine (tariff_Zone.calls 100 A0 c0 exR A1 c1 exZ exFrom exFar 2 0 _ (Kd.C_below HR0.out HB.out) HC0.out (Kd.C_below HR1.out HB.out) HC1.out ex_b).mono ?_
 rintro e wB ⟨rfl, hbA⟩
 have HB := Aside0.mk (HB.out.trans (hbA.mono HB.out.size))
 have t0 : wB.cell? ⟨tb, 0, none⟩ = some (.slice A0 exR.length c0) := (blk_cell ((HB.out.block tb hlt).trans HT.out) 0).trans rfl
 have t1 : wB.cell? ⟨tb, 1, none⟩ = some (.slice A1 exZ.length c1) := (blk_cell ((HB.out.block tb hlt).trans HT.out) 1).trans rfl
 clear hbA
 go_wp2_with fail
 refine (tariff_Price.calls 100 A0 c0 exR A1 c1 exZ 1 2 21 200 0 _ (Kd.C_below HR0.out HB.out) HC0.out (Kd.C_below HR1.out HB.out) HC1.out ex_c).mono ?_
 rintro e wC ⟨rfl, hbA⟩
 have HB := Aside0.mk (HB.out.trans (hbA.mono HB.out.size))
 have t0 : wC.cell? ⟨tb, 0, none⟩ = some (.slice A0 exR.length c0) := (blk_cell ((HB.out.block tb hlt).trans HT.out) 0).trans rfl
 have t1 : wC.cell? ⟨tb, 1, none⟩ = some (.slice A1 exZ.length c1) := (blk_cell ((HB.out.block tb hlt).trans HT.out) 1).trans rfl
 clear hbA
 go_wp2_with fail
 refine (tariff_Price.calls 100 A0 c0 exR A1 c1 exZ 1 2 51 0 3 _ (Kd.C_below HR0.out HB.out) HC0.out (Kd.C_below HR1.out HB.out) HC1.out ex_h).mono ?_
 rintro e wD ⟨rfl, hbA⟩
 have HB := Aside0.mk (HB.out.trans (hbA.mono HB.out.size))
 have t0 : wD.cell? ⟨tb, 0, none⟩ = some (.slice A0 exR.length c0) := (blk_cell ((HB.out.block tb hlt).trans HT.out) 0).trans rfl
 have t1 : wD.cell? ⟨tb, 1, none⟩ = some (.slice A1 exZ.length c1) := (blk_cell ((HB.out.block tb hlt).trans HT.out) 1).trans rfl
 clear hbA
 go_wp2_with fail
 refine (tariff_Price.calls 100 A0 c0 exR A1 c1 exZ 2 2 51 0 6 _ (Kd.C_below HR0.out HB.out) HC0.out (Kd.C_below HR1.out HB.out) HC1.out ex_i).mono ?_
 rintro e wE ⟨rfl, hbA⟩
 have HB := Aside0.mk (HB.out.trans (hbA.mono HB.out.size))
 have t0 : wE.cell? ⟨tb, 0, none⟩ = some (.slice A0 exR.length c0) := (blk_cell ((HB.out.block tb hlt).trans HT.out) 0).trans rfl
 have t1 : wE.cell? ⟨tb, 1, none⟩ = some (.slice A1 exZ.length c1) := (blk_cell ((HB.out.block tb hlt).trans HT.out) 1).trans rfl
 clear hbA
 go_wp2_with fail
 have HB := Aside0.mk HB.out.drew
 refine wp_region_held_drew (S := (fun w' => w'.cell? ⟨tb, 0, none⟩ = some (.slice A0 exR.length c0) ∧ w'.cell? ⟨tb, 1, none⟩ = some (.slice A1 exZ.length c1))) (by kernel_rfl) ?_ (fun hHeld => ?_)
 ·((try dsimp only); exact ⟨t0, t1⟩)
 refine takeT 0 ?_ rfl (by kernel_rfl) (by kernel_rfl) (by kernel_rfl) (fun _ _ _ h => h) (by rfl) ?_ (by assumption) ?_
 rotate_left
 ·(intro w hSw; (try dsimp only at hSw); go_simp; (try with_reducible rfl))
 try simp only [Act.put, sl1, sl2, sl3]
 refine takeT 1 ?_ rfl (by kernel_rfl) (by kernel_rfl) (by kernel_rfl) (fun _ _ _ h => h) (by rfl) ?_ (by assumption) ?_
 rotate_left
 ·(intro w hSw; (try dsimp only at hSw); go_simp; (try with_reducible rfl))
 try simp only [Act.put, sl1, sl2, sl3]
 refine takeT 2 ?_ rfl (by kernel_rfl) (by kernel_rfl) (by kernel_rfl) (fun _ _ _ h => h) (by rfl) ?_ (by assumption) ?_
 rotate_left
 ·(intro w hSw; (try dsimp only at hSw); go_simp; (try with_reducible rfl))
 try simp only [Act.put, sl1, sl2, sl3]
 refine takeT 3 ?_ rfl (by kernel_rfl) (by kernel_rfl) (by kernel_rfl) (fun _ _ _ h => h) (by rfl) ?_ (by assumption) ?_
 rotate_left
 ·(intro w hSw; (try dsimp only at hSw); go_simp; (try with_reducible rfl))
 try simp only [Act.put, sl1, sl2, sl3]
 refine takeT 4 ?_ rfl (by kernel_rfl) (by kernel_rfl) (by kernel_rfl) (fun _ _ _ h => h) (by rfl) ?_ (by assumption) ?_
 rotate_left
 ·(intro w hSw; (try dsimp only at hSw); go_simp; (try with_reducible rfl))
 try simp only [Act.put, sl1, sl2, sl3]
 refine takeT 5 ?_ rfl (by kernel_rfl) (by kernel_rfl) (by kernel_rfl) (fun _ _ _ h => h) (by rfl) ?_ (by assumption) ?_
 rotate_left
 ·(intro w hSw; (try dsimp only at hSw); go_simp; (try with_reducible rfl))
 try simp only [Act.put, sl1, sl2, sl3]
 refine takeT 6 ?_ rfl (by kernel_rfl) (by kernel_rfl) (by kernel_rfl) (fun _ _ _ h => h) (by rfl) ?_ (by assumption) ?_
 rotate_left
 ·(intro w hSw; (try dsimp only at hSw); go_simp; (try with_reducible rfl))
 try simp only [Act.put, sl1, sl2, sl3]
 refine takeT 7 ?_ rfl (by kernel_rfl) (by kernel_rfl) (by kernel_rfl) (fun _ _ _ h => h) (by rfl) ?_ (by assumption) ?_
 rotate_left
 ·(intro w hSw; (try dsimp only at hSw); go_simp; (try with_reducible rfl))
 try simp only [Act.put, sl1, sl2, sl3]
 refine takeT 8 ?_ rfl (by kernel_rfl) (by kernel_rfl) (by kernel_rfl) (fun _ _ _ h => h) (by rfl) ?_ (by assumption) ?_
 rotate_left
 ·(intro w hSw; (try dsimp only at hSw); go_simp; (try with_reducible rfl))
 try simp only [Act.put, sl1, sl2, sl3]
 refine takeT 9 ?_ rfl (by kernel_rfl) (by kernel_rfl) (by kernel_rfl) (fun _ _ _ h => h) (by rfl) ?_ (by assumption) ?_
 rotate_left
 ·(intro w hSw; (try dsimp only at hSw); go_simp; (try with_reducible rfl))
 try simp only [Act.put, sl1, sl2, sl3]
 refine takeT 10 ?_ rfl (by kernel_rfl) (by kernel_rfl) (by kernel_rfl) (fun _ _ _ h => h) (by rfl) ?_ (by assumption) ?_
 rotate_left
 ·(intro w hSw; (try dsimp only at hSw); go_simp; (try with_reducible rfl))
 try simp only [Act.put, sl1, sl2, sl3]
 refine takeT 11 ?_ rfl (by kernel_rfl) (by kernel_rfl) (by kernel_rfl) (fun _ _ _ h => h) (by rfl) ?_ (by assumption) ?_
 rotate_left
 ·(intro w hSw; (try dsimp only at hSw); go_simp; (try with_reducible rfl))
 try simp only [Act.put, sl1, sl2, sl3]
 refine takeT 12 ?_ rfl (by kernel_rfl) (by kernel_rfl) (by kernel_rfl) (fun _ _ _ h => h) (by rfl) ?_ (by assumption) ?_
 rotate_left
 ·(intro w hSw; (try dsimp only at hSw); go_simp; (try with_reducible rfl))
 try simp only [Act.put, sl1, sl2, sl3]
 refine takeT 13 ?_ rfl (by kernel_rfl) (by kernel_rfl) (by kernel_rfl) (fun _ _ _ h => h) (by rfl) ?_ (by assumption) ?_
 rotate_left
 ·(intro w hSw; (try dsimp only at hSw); go_simp; (try with_reducible rfl))
 try simp only [Act.put, sl1, sl2, sl3]
 refine takeT 14 ?_ rfl (by kernel_rfl) (by kernel_rfl) (by kernel_rfl) (fun _ _ _ h => h) (by rfl) ?_ (by assumption) ?_
 rotate_left
 ·(intro w hSw; (try dsimp only at hSw); go_simp; (try with_reducible rfl))
 try simp only [Act.put, sl1, sl2, sl3]
 refine takeT 15 ?_ rfl (by kernel_rfl) (by kernel_rfl) (by kernel_rfl) (fun _ _ _ h => h) (by rfl) ?_ (by assumption) ?_
 rotate_left
 ·(intro w hSw; (try dsimp only at hSw); go_simp; (try with_reducible rfl))
 try simp only [Act.put, sl1, sl2, sl3]
 refine takeT 16 ?_ rfl (by kernel_rfl) (by kernel_rfl) (by kernel_rfl) (fun _ _ _ h => h) (by rfl) ?_ (by assumption) ?_
 rotate_left
 ·(intro w hSw; (try dsimp only at hSw); go_simp; (try with_reducible rfl))
 try simp only [Act.put, sl1, sl2, sl3]
 refine takeT 17 ?_ rfl (by kernel_rfl) (by kernel_rfl) (by kernel_rfl) (fun _ _ _ h => h) (by rfl) ?_ (by assumption) ?_
 rotate_left
 ·(intro w hSw; (try dsimp only at hSw); go_simp; (try with_reducible rfl))
 try simp only [Act.put, sl1, sl2, sl3]
 refine takeT 18 ?_ rfl (by kernel_rfl) (by kernel_rfl) (by kernel_rfl) (fun _ _ _ h => h) (by rfl) ?_ (by assumption) ?_
 rotate_left
 ·(intro w hSw; (try dsimp only at hSw); go_simp; (try with_reducible rfl))
 try simp only [Act.put, sl1, sl2, sl3]
 refine takeT 19 ?_ rfl (by kernel_rfl) (by kernel_rfl) (by kernel_rfl) (fun _ _ _ h => h) (by rfl) ?_ (by assumption) ?_
 rotate_left
 ·(intro w hSw; (try dsimp only at hSw); go_simp; (try with_reducible rfl))
 try simp only [Act.put, sl1, sl2, sl3]
 refine takeT 20 ?_ rfl (by kernel_rfl) (by kernel_rfl) (by kernel_rfl) (fun _ _ _ h => h) (by rfl) ?_ (by assumption) ?_
 rotate_left
 ·(intro w hSw; (try dsimp only at hSw); go_simp; (try with_reducible rfl))
 try simp only [Act.put, sl1, sl2, sl3]
 refine takeT 21 ?_ rfl (by kernel_rfl) (by kernel_rfl) (by kernel_rfl) (fun _ _ _ h => h) (by rfl) ?_ (by assumption) ?_
 rotate_left
 ·(intro w hSw; (try dsimp only at hSw); go_simp; (try with_reducible rfl))
 try simp only [Act.put, sl1, sl2, sl3]
 refine takeT 22 ?_ rfl (by kernel_rfl) (by kernel_rfl) (by kernel_rfl) (fun _ _ _ h => h) (by rfl) ?_ (by assumption) ?_
 rotate_left
 ·(intro w hSw; (try dsimp only at hSw); go_simp; (try with_reducible rfl))
 try simp only [Act.put, sl1, sl2, sl3]
 refine takeT 23 ?_ rfl (by kernel_rfl) (by kernel_rfl) (by kernel_rfl) (fun _ _ _ h => h) (by rfl) ?_ (by assumption) ?_
 rotate_left
 ·(intro w hSw; (try dsimp only at hSw); go_simp; (try with_reducible rfl))
 try simp only [Act.put, sl1, sl2, sl3]
 refine takeT 24 ?_ rfl (by kernel_rfl) (by kernel_rfl) (by kernel_rfl) (fun _ _ _ h => h) (by rfl) ?_ (by assumption) ?_
 rotate_left
 ·(intro w hSw; (try dsimp only at hSw); go_simp; (try with_reducible rfl))
 try simp only [Act.put, sl1, sl2, sl3]
 refine takeT 25 ?_ rfl (by kernel_rfl) (by kernel_rfl) (by kernel_rfl) (fun _ _ _ h => h) (by rfl) ?_ (by assumption) ?_
 rotate_left
 ·(intro w hSw; (try dsimp only at hSw); go_simp; (try with_reducible rfl))
 try simp only [Act.put, sl1, sl2, sl3]
 refine takeT 26 ?_ rfl (by kernel_rfl) (by kernel_rfl) (by kernel_rfl) (fun _ _ _ h => h) (by rfl) ?_ (by assumption) ?_
 rotate_left
 ·(intro w hSw; (try dsimp only at hSw); go_simp; (try with_reducible rfl))
 try simp only [Act.put, sl1, sl2, sl3]
 refine takeT 27 ?_ rfl (by kernel_rfl) (by kernel_rfl) (by kernel_rfl) (fun _ _ _ h => h) (by rfl) ?_ (by assumption) ?_
 rotate_left
 ·(intro w hSw; (try dsimp only at hSw); go_simp; (try with_reducible rfl))
 try simp only [Act.put, sl1, sl2, sl3]
 refine takeC 28 rfl (by kernel_rfl) (by rfl) (fun K hK => ?_)
 go_simp
 (refine (letterbaglaw23_Example.calls _ _ ex_x).mono ?_; rintro e wF ⟨v2, rfl, hn2, hbA⟩; obtain ⟨A2, c2, rfl, hc2, hr2⟩ := Kd.N_reads hn2; have HC2 := Aside0.mk hc2; have HR2 := Aside0.mk hr2; have HB := Aside0.mk (HB.out.trans (hbA.mono HB.out.size)); have t0 : wF.cell? ⟨tb, 0, none⟩ = some (.slice A0 exR.length c0) := (blk_cell ((HB.out.block tb hlt).trans HT.out) 0).trans rfl; have t1 : wF.cell? ⟨tb, 1, none⟩ = some (.slice A1 exZ.length c1) := (blk_cell ((HB.out.block tb hlt).trans HT.out) 1).trans rfl; clear hbA hn2 hc2 hr2)
 (try go_wp2_with fail)
 refine hK.out _ _ ?_ (fun hHeld => ?_)
 ·((try dsimp only); exact ⟨t0, t1⟩)
 clear hK K
 try simp only [Act.put, sl1, sl2, sl3]
 refine takeC 29 rfl (by kernel_rfl) (by rfl) (fun K hK => ?_)
 go_simp
 (refine (tariff_Fits.calls 100 A0 c0 exR A1 c1 exZ A2 c2 exL true _ (Kd.C_below HR0.out HB.out) HC0.out (Kd.C_below HR1.out HB.out) HC1.out HR2.out HC2.out ex_fits).mono ?_; rintro e wG ⟨rfl, hbA⟩; have HB := Aside0.mk (HB.out.trans (hbA.mono HB.out.size)); have t0 : wG.cell? ⟨tb, 0, none⟩ = some (.slice A0 exR.length c0) := (blk_cell ((HB.out.block tb hlt).trans HT.out) 0).trans rfl; have t1 : wG.cell? ⟨tb, 1, none⟩ = some (.slice A1 exZ.length c1) := (blk_cell ((HB.out.block tb hlt).trans HT.out) 1).trans rfl; clear hbA)
 (try go_wp2_with fail)
 refine hK.out _ _ ?_ (fun hHeld => ?_)
 ·((try dsimp only); exact ⟨t0, t1⟩)
 clear hK K
 try simp only [Act.put, sl1, sl2, sl3]
 refine takeT 30 ?_ rfl (by kernel_rfl) (by kernel_rfl) (by kernel_rfl) (fun _ _ _ h => h) (by rfl) ?_ (by assumption) ?_
 rotate_left
 ·(intro w hSw; (try dsimp only at hSw); go_simp; (try with_reducible rfl))
 try simp only [Act.put, sl1, sl2, sl3]
 refine takeT 31 ?_ rfl (by kernel_rfl) (by kernel_rfl) (by kernel_rfl) (fun _ _ _ h => h) (by rfl) ?_ (by assumption) ?_
 rotate_left
 ·(intro w hSw; (try dsimp only at hSw); go_simp; (try with_reducible rfl))
 try simp only [Act.put, sl1, sl2, sl3]
 refine wpAnyH_done (by kernel_rfl) ?_ _
 clear HR2 HC2
 go_wp2_with fail
 refine (letterbaglaw24_Piece.calls exFar 20 true 1 1 exFrom exP _ ex_m).mono ?_
 rintro e wH ⟨v3, rfl, hn3, hbA⟩
 obtain ⟨A3, c3, rfl, hc3, hr3⟩ := Kd.R_reads hn3
 have HC3 := Aside0.mk hc3
 have HB := Aside0.mk (HB.out.trans (hbA.mono HB.out.size))
 have t0 : wH.cell? ⟨tb, 0, none⟩ = some (.slice A0 exR.length c0) := (blk_cell ((HB.out.block tb hlt).trans HT.out) 0).trans rfl
 have t1 : wH.cell? ⟨tb, 1, none⟩ = some (.slice A1 exZ.length c1) := (blk_cell ((HB.out.block tb hlt).trans HT.out) 1).trans rfl
 clear hbA
 have hba := below_alloc (Below.refl wH.heap.size wH) (.cells #[.int .u8 1, .int .u8 1, .string exFrom, .slice A3 exP.length c3] 36 (0, 0))
 have HMB := Aside0.mk (heap_alloc_new wH (.cells #[.int .u8 1, .int .u8 1, .string exFrom, .slice A3 exP.length c3] 36 (0, 0)))
 have HR3 := Aside0.mk (Kd.C_below hr3 hba)
 have HB := Aside0.mk (HB.out.trans (hba.mono HB.out.size))
 have t0 : (wH.alloc (.cells #[.int .u8 1, .int .u8 1, .string exFrom, .slice A3 exP.length c3] 36 (0, 0))).cell? ⟨tb, 0, none⟩ = some (.slice A0 exR.length c0) := (blk_cell ((HB.out.block tb hlt).trans HT.out) 0).trans rfl
 have t1 : (wH.alloc (.cells #[.int .u8 1, .int .u8 1, .string exFrom, .slice A3 exP.length c3] 36 (0, 0))).cell? ⟨tb, 1, none⟩ = some (.slice A1 exZ.length c1) := (blk_cell ((HB.out.block tb hlt).trans HT.out) 1).trans rfl
 have hlm := blk_lt HMB.out
 have HM := Aside0.mk (Below.refl (wH.alloc (.cells #[.int .u8 1, .int .u8 1, .string exFrom, .slice A3 exP.length c3] 36 (0, 0))).heap.size (wH.alloc (.cells #[.int .u8 1, .int .u8 1, .string exFrom, .slice A3 exP.length c3] 36 (0, 0))))
 have m0 : (wH.alloc (.cells #[.int .u8 1, .int .u8 1, .string exFrom, .slice A3 exP.length c3] 36 (0, 0))).cell? ⟨wH.heap.size, 0, none⟩ = some (.int .u8 1) := (blk_cell HMB.out 0).trans rfl
 have m1 : (wH.alloc (.cells #[.int .u8 1, .int .u8 1, .string exFrom, .slice A3 exP.length c3] 36 (0, 0))).cell? ⟨wH.heap.size, 1, none⟩ = some (.int .u8 1) := (blk_cell HMB.out 1).trans rfl
 have m2 : (wH.alloc (.cells #[.int .u8 1, .int .u8 1, .string exFrom, .slice A3 exP.length c3] 36 (0, 0))).cell? ⟨wH.heap.size, 2, none⟩ = some (.string exFrom) := (blk_cell HMB.out 2).trans rfl
 have m3 : (wH.alloc (.cells #[.int .u8 1, .int .u8 1, .string exFrom, .slice A3 exP.length c3] 36 (0, 0))).cell? ⟨wH.heap.size, 3, none⟩ = some (.slice A3 exP.length c3) := (blk_cell HMB.out 3).trans rfl
 clear hn3 hc3 hr3 hba
 go_wp2_with fail
 generalize (wH.alloc (.cells #[.int .u8 1, .int .u8 1, .string exFrom, .slice A3 exP.length c3] 36 (0, 0))) = WM at *
 generalize wH.heap.size = mb at *
 refine (tariff_Bases.calls 100 A0 c0 exR A1 c1 exZ 1 1 exFrom A3 c3 exP [150] 0 _ (Kd.C_below HR0.out HB.out) HC0.out (Kd.C_below HR1.out HB.out) HC1.out (Kd.C_below HR3.out HM.out) HC3.out ex_bases).mono ?_
 rintro e wI ⟨v4, rfl, hn4, hbA⟩
 obtain ⟨A4, c4, rfl, hc4, hr4⟩ := Kd.R_reads hn4
 have HC4 := Aside0.mk hc4
 have HR4 := Aside0.mk hr4
 have HB := Aside0.mk (HB.out.trans (hbA.mono HB.out.size))
 have t0 : wI.cell? ⟨tb, 0, none⟩ = some (.slice A0 exR.length c0) := (blk_cell ((HB.out.block tb hlt).trans HT.out) 0).trans rfl
 have t1 : wI.cell? ⟨tb, 1, none⟩ = some (.slice A1 exZ.length c1) := (blk_cell ((HB.out.block tb hlt).trans HT.out) 1).trans rfl
 have HM := Aside0.mk (HM.out.trans (hbA.mono HM.out.size))
 have m0 : wI.cell? ⟨mb, 0, none⟩ = some (.int .u8 1) := (blk_cell ((HM.out.block mb hlm).trans HMB.out) 0).trans rfl
 have m1 : wI.cell? ⟨mb, 1, none⟩ = some (.int .u8 1) := (blk_cell ((HM.out.block mb hlm).trans HMB.out) 1).trans rfl
 have m2 : wI.cell? ⟨mb, 2, none⟩ = some (.string exFrom) := (blk_cell ((HM.out.block mb hlm).trans HMB.out) 2).trans rfl
 have m3 : wI.cell? ⟨mb, 3, none⟩ = some (.slice A3 exP.length c3) := (blk_cell ((HM.out.block mb hlm).trans HMB.out) 3).trans rfl
 have HX := Aside0.mk (Below.refl wI.heap.size wI)
 clear hbA hn4 hc4 hr4
 go_wp2_with fail
 replace HB := Aside0.mk HB.out.drew
 replace HM := Aside0.mk HM.out.drew
 replace HX := Aside0.mk HX.out.drew
 refine wp_region_held_drew (S := (fun w' => w'.cell? ⟨tb, 0, none⟩ = some (.slice A0 exR.length c0) ∧ w'.cell? ⟨tb, 1, none⟩ = some (.slice A1 exZ.length c1) ∧ w'.cell? ⟨mb, 0, none⟩ = some (.int .u8 1) ∧ w'.cell? ⟨mb, 1, none⟩ = some (.int .u8 1) ∧ w'.cell? ⟨mb, 2, none⟩ = some (.string exFrom) ∧ w'.cell? ⟨mb, 3, none⟩ = some (.slice A3 exP.length c3))) (by kernel_rfl) ?_ (fun hHeld => ?_)
 ·((try dsimp only); exact ⟨t0, t1, m0, m1, m2, m3⟩)
 refine takeT 0 ?_ rfl (by kernel_rfl) (by kernel_rfl) (by kernel_rfl) (fun _ _ _ h => h) (by rfl) ?_ (by assumption) ?_
 rotate_left
 ·(intro w hSw; (try dsimp only at hSw); go_simp; (try with_reducible rfl))
 try simp only [Act.put, sl1, sl2, sl3]
 refine takeT 2 ?_ rfl (by kernel_rfl) (by kernel_rfl) (by kernel_rfl) (fun _ _ _ h => h) (by rfl) ?_ (by assumption) ?_
 rotate_left
 ·(intro w hSw; (try dsimp only at hSw); go_simp; (try with_reducible rfl))
 try simp only [Act.put, sl1, sl2, sl3]
 apply bothWays
 intro hrest
 refine takeC2 1 3 rfl rfl (by kernel_rfl) (by rfl) (by rfl) (fun K hK => ?_) (fun K hK => ?_)
 ·go_simp
  (refine (letterbaglaw23_Example.calls _ _ ex_x).mono ?_; rintro e wJ ⟨v5, rfl, hn5, hbA⟩; obtain ⟨A5, c5, rfl, hc5, hr5⟩ := Kd.N_reads hn5; have HC5 := Aside0.mk hc5; have HR5 := Aside0.mk hr5; have HB := Aside0.mk (HB.out.trans (hbA.mono HB.out.size)); have t0 : wJ.cell? ⟨tb, 0, none⟩ = some (.slice A0 exR.length c0) := (blk_cell ((HB.out.block tb hlt).trans HT.out) 0).trans rfl; have t1 : wJ.cell? ⟨tb, 1, none⟩ = some (.slice A1 exZ.length c1) := (blk_cell ((HB.out.block tb hlt).trans HT.out) 1).trans rfl; have HM := Aside0.mk (HM.out.trans (hbA.mono HM.out.size)); have m0 : wJ.cell? ⟨mb, 0, none⟩ = some (.int .u8 1) := (blk_cell ((HM.out.block mb hlm).trans HMB.out) 0).trans rfl; have m1 : wJ.cell? ⟨mb, 1, none⟩ = some (.int .u8 1) := (blk_cell ((HM.out.block mb hlm).trans HMB.out) 1).trans rfl; have m2 : wJ.cell? ⟨mb, 2, none⟩ = some (.string exFrom) := (blk_cell ((HM.out.block mb hlm).trans HMB.out) 2).trans rfl; have m3 : wJ.cell? ⟨mb, 3, none⟩ = some (.slice A3 exP.length c3) := (blk_cell ((HM.out.block mb hlm).trans HMB.out) 3).trans rfl; have HX := Aside0.mk (HX.out.trans (hbA.mono HX.out.size)); clear hbA hn5 hc5 hr5)
  (try go_wp2_with fail)
  refine hK.out _ _ ?_ (fun hHeld => ?_)
  ·((try dsimp only); exact ⟨t0, t1, m0, m1, m2, m3⟩)
  clear hK K
  try simp only [Act.put, sl1, sl2, sl3]
  refine takeC 3 rfl (by kernel_rfl) (by rfl) (fun K hK => ?_)
  go_simp
  (have hba := below_alloc (Below.refl wJ.heap.size wJ) (.cells #[.int .i64 1] 3 (0, 0)); replace HR5 := Aside0.mk (Kd.C_below HR5.out hba); have HPL := Aside0.mk (plan_C wJ 1); have HB := Aside0.mk (HB.out.trans (hba.mono HB.out.size)); have t0 : (wJ.alloc (.cells #[.int .i64 1] 3 (0, 0))).cell? ⟨tb, 0, none⟩ = some (.slice A0 exR.length c0) := (blk_cell ((HB.out.block tb hlt).trans HT.out) 0).trans rfl; have t1 : (wJ.alloc (.cells #[.int .i64 1] 3 (0, 0))).cell? ⟨tb, 1, none⟩ = some (.slice A1 exZ.length c1) := (blk_cell ((HB.out.block tb hlt).trans HT.out) 1).trans rfl; have HM := Aside0.mk (HM.out.trans (hba.mono HM.out.size)); have m0 : (wJ.alloc (.cells #[.int .i64 1] 3 (0, 0))).cell? ⟨mb, 0, none⟩ = some (.int .u8 1) := (blk_cell ((HM.out.block mb hlm).trans HMB.out) 0).trans rfl; have m1 : (wJ.alloc (.cells #[.int .i64 1] 3 (0, 0))).cell? ⟨mb, 1, none⟩ = some (.int .u8 1) := (blk_cell ((HM.out.block mb hlm).trans HMB.out) 1).trans rfl; have m2 : (wJ.alloc (.cells #[.int .i64 1] 3 (0, 0))).cell? ⟨mb, 2, none⟩ = some (.string exFrom) := (blk_cell ((HM.out.block mb hlm).trans HMB.out) 2).trans rfl; have m3 : (wJ.alloc (.cells #[.int .i64 1] 3 (0, 0))).cell? ⟨mb, 3, none⟩ = some (.slice A3 exP.length c3) := (blk_cell ((HM.out.block mb hlm).trans HMB.out) 3).trans rfl; have HX := Aside0.mk (HX.out.trans (hba.mono HX.out.size)); clear hba)
  (try go_wp2_with fail)
  refine hK.out _ _ ?_ (fun hHeld => ?_)
  ·((try dsimp only); exact ⟨t0, t1, m0, m1, m2, m3⟩)
  clear hK K
  try simp only [Act.put, sl1, sl2, sl3]
  refine takeC 4 rfl (by kernel_rfl) (by rfl) (fun K hK => ?_)
  go_simp
  (refine (tariff_Postage.calls 100 A0 c0 exR A1 c1 exZ A5 c5 exL 1 1 exFrom A3 c3 exP (some ⟨wJ.heap.size, 0, none⟩) 1 [1] [135] 0 _ (Kd.C_below HR0.out HB.out) HC0.out (Kd.C_below HR1.out HB.out) HC1.out HR5.out HC5.out (Kd.C_below HR3.out HM.out) HC3.out HPL.out (by decide) ex_post).mono ?_; rintro e wK ⟨v6, rfl, hn6, hbA⟩; obtain ⟨A6, c6, rfl, hc6, hr6⟩ := Kd.R_reads hn6; have HC6 := Aside0.mk hc6; have HR6 := Aside0.mk hr6; have HB := Aside0.mk (HB.out.trans (hbA.mono HB.out.size)); have t0 : wK.cell? ⟨tb, 0, none⟩ = some (.slice A0 exR.length c0) := (blk_cell ((HB.out.block tb hlt).trans HT.out) 0).trans rfl; have t1 : wK.cell? ⟨tb, 1, none⟩ = some (.slice A1 exZ.length c1) := (blk_cell ((HB.out.block tb hlt).trans HT.out) 1).trans rfl; have HM := Aside0.mk (HM.out.trans (hbA.mono HM.out.size)); have m0 : wK.cell? ⟨mb, 0, none⟩ = some (.int .u8 1) := (blk_cell ((HM.out.block mb hlm).trans HMB.out) 0).trans rfl; have m1 : wK.cell? ⟨mb, 1, none⟩ = some (.int .u8 1) := (blk_cell ((HM.out.block mb hlm).trans HMB.out) 1).trans rfl; have m2 : wK.cell? ⟨mb, 2, none⟩ = some (.string exFrom) := (blk_cell ((HM.out.block mb hlm).trans HMB.out) 2).trans rfl; have m3 : wK.cell? ⟨mb, 3, none⟩ = some (.slice A3 exP.length c3) := (blk_cell ((HM.out.block mb hlm).trans HMB.out) 3).trans rfl; have HX := Aside0.mk (HX.out.trans (hbA.mono HX.out.size)); clear hbA hn6 hc6 hr6)
  (try go_wp2_with fail)
  refine hK.out _ _ ?_ (fun hHeld => ?_)
  ·((try dsimp only); exact ⟨t0, t1, m0, m1, m2, m3⟩)
  clear hK K
  try simp only [Act.put, sl1, sl2, sl3]
  refine takeT 5 ?_ rfl (by kernel_rfl) (by kernel_rfl) (by kernel_rfl) (fun _ _ _ h => h) (by rfl) ?_ (by assumption) ?_
  rotate_left
  ·(intro w hSw; (try dsimp only at hSw); go_simp; (try with_reducible rfl))
  try simp only [Act.put, sl1, sl2, sl3]
  refine takeT 6 ?_ rfl (by kernel_rfl) (by kernel_rfl) (by kernel_rfl) (fun _ _ _ h => h) (by rfl) ?_ (by assumption) ?_
  rotate_left
  ·(intro w hSw; (try dsimp only at hSw); go_simp; (try with_reducible rfl))
  try simp only [Act.put, sl1, sl2, sl3]
  refine takeT 7 ?_ rfl (by kernel_rfl) (by kernel_rfl) (by kernel_rfl) (fun _ _ _ h => h) (by rfl) ?_ (by assumption) ?_
  rotate_left
  ·(intro w hSw; (try dsimp only at hSw); go_simp; (try with_reducible rfl))
  try simp only [Act.put, sl1, sl2, sl3]
  refine takeT 8 ?_ rfl (by kernel_rfl) (by kernel_rfl) (by kernel_rfl) (fun _ _ _ h => h) (by rfl) ?_ (by assumption) ?_
  rotate_left
  ·(intro w hSw; (try dsimp only at hSw); go_simp; (try with_reducible rfl))
  try simp only [Act.put, sl1, sl2, sl3]
  refine takeT 9 ?_ rfl (by kernel_rfl) (by kernel_rfl) (by kernel_rfl) (fun _ _ _ h => h) (by rfl) ?_ (by assumption) ?_
  rotate_left
  ·(intro w hSw; (try dsimp only at hSw); go_simp; (try with_reducible rfl))
  try simp only [Act.put, sl1, sl2, sl3]
  refine wpAnyH_done (by kernel_rfl) ?_ _
  have HF : Aside0 (Below W1.heap.size W1 wK ∧ Below WM.heap.size WM wK ∧ Below wI.heap.size wI wK ∧ Kd.C (Kd.int .i64) wK A6 [(135 : Int)].length [135] ∧ [(135 : Int)].length ≤ c6) := ⟨⟨HB.out, HM.out, HX.out, HR6.out, HC6.out⟩⟩
  clear t0 t1 m0 m1 m2 m3 HB HM HX HR6 HC6 HR5 HC5 HPL hHeld
  generalize wJ.heap.size = nb
  revert HF c6 A6 c5 A5 nb wK
  exact hrest.out
 ·go_simp
  (have hba : Below wI.drew.heap.size wI.drew ((wI.alloc (.cells #[.int .i64 1] 3 (0, 0))).drew) := below_alloc (Below.refl wI.drew.heap.size wI.drew) (.cells #[.int .i64 1] 3 (0, 0)); have HPL := Aside0.mk (Kd.C_below (plan_C wI 1) (below_drew (Below.refl _ _))); have HB := Aside0.mk (HB.out.trans (hba.mono HB.out.size)); have t0 : ((wI.alloc (.cells #[.int .i64 1] 3 (0, 0))).drew).cell? ⟨tb, 0, none⟩ = some (.slice A0 exR.length c0) := (blk_cell ((HB.out.block tb hlt).trans HT.out) 0).trans rfl; have t1 : ((wI.alloc (.cells #[.int .i64 1] 3 (0, 0))).drew).cell? ⟨tb, 1, none⟩ = some (.slice A1 exZ.length c1) := (blk_cell ((HB.out.block tb hlt).trans HT.out) 1).trans rfl; have HM := Aside0.mk (HM.out.trans (hba.mono HM.out.size)); have m0 : ((wI.alloc (.cells #[.int .i64 1] 3 (0, 0))).drew).cell? ⟨mb, 0, none⟩ = some (.int .u8 1) := (blk_cell ((HM.out.block mb hlm).trans HMB.out) 0).trans rfl; have m1 : ((wI.alloc (.cells #[.int .i64 1] 3 (0, 0))).drew).cell? ⟨mb, 1, none⟩ = some (.int .u8 1) := (blk_cell ((HM.out.block mb hlm).trans HMB.out) 1).trans rfl; have m2 : ((wI.alloc (.cells #[.int .i64 1] 3 (0, 0))).drew).cell? ⟨mb, 2, none⟩ = some (.string exFrom) := (blk_cell ((HM.out.block mb hlm).trans HMB.out) 2).trans rfl; have m3 : ((wI.alloc (.cells #[.int .i64 1] 3 (0, 0))).drew).cell? ⟨mb, 3, none⟩ = some (.slice A3 exP.length c3) := (blk_cell ((HM.out.block mb hlm).trans HMB.out) 3).trans rfl; have HX := Aside0.mk (HX.out.trans (hba.mono HX.out.size)); clear hba)
  (try go_wp2_with fail)
  refine hK.out _ _ ?_ (fun hHeld => ?_)
  ·((try dsimp only); exact ⟨t0, t1, m0, m1, m2, m3⟩)
  clear hK K
  try simp only [Act.put, sl1, sl2, sl3]
  refine takeC 1 rfl (by kernel_rfl) (by rfl) (fun K hK => ?_)
  go_simp
  (refine (letterbaglaw23_Example.calls _ _ ex_x).mono ?_; rintro e wJ ⟨v5, rfl, hn5, hbA⟩; obtain ⟨A5, c5, rfl, hc5, hr5⟩ := Kd.N_reads hn5; have HC5 := Aside0.mk hc5; have HR5 := Aside0.mk hr5; replace HPL := Aside0.mk (Kd.C_below HPL.out hbA); have HB := Aside0.mk (HB.out.trans (hbA.mono HB.out.size)); have t0 : wJ.cell? ⟨tb, 0, none⟩ = some (.slice A0 exR.length c0) := (blk_cell ((HB.out.block tb hlt).trans HT.out) 0).trans rfl; have t1 : wJ.cell? ⟨tb, 1, none⟩ = some (.slice A1 exZ.length c1) := (blk_cell ((HB.out.block tb hlt).trans HT.out) 1).trans rfl; have HM := Aside0.mk (HM.out.trans (hbA.mono HM.out.size)); have m0 : wJ.cell? ⟨mb, 0, none⟩ = some (.int .u8 1) := (blk_cell ((HM.out.block mb hlm).trans HMB.out) 0).trans rfl; have m1 : wJ.cell? ⟨mb, 1, none⟩ = some (.int .u8 1) := (blk_cell ((HM.out.block mb hlm).trans HMB.out) 1).trans rfl; have m2 : wJ.cell? ⟨mb, 2, none⟩ = some (.string exFrom) := (blk_cell ((HM.out.block mb hlm).trans HMB.out) 2).trans rfl; have m3 : wJ.cell? ⟨mb, 3, none⟩ = some (.slice A3 exP.length c3) := (blk_cell ((HM.out.block mb hlm).trans HMB.out) 3).trans rfl; have HX := Aside0.mk (HX.out.trans (hbA.mono HX.out.size)); clear hbA hn5 hc5 hr5)
  (try go_wp2_with fail)
  refine hK.out _ _ ?_ (fun hHeld => ?_)
  ·((try dsimp only); exact ⟨t0, t1, m0, m1, m2, m3⟩)
  clear hK K
  try simp only [Act.put, sl1, sl2, sl3]
  refine takeC 4 rfl (by kernel_rfl) (by rfl) (fun K hK => ?_)
  go_simp
  (refine (tariff_Postage.calls 100 A0 c0 exR A1 c1 exZ A5 c5 exL 1 1 exFrom A3 c3 exP (some ⟨wI.heap.size, 0, none⟩) 1 [1] [135] 0 _ (Kd.C_below HR0.out HB.out) HC0.out (Kd.C_below HR1.out HB.out) HC1.out HR5.out HC5.out (Kd.C_below HR3.out HM.out) HC3.out HPL.out (by decide) ex_post).mono ?_; rintro e wK ⟨v6, rfl, hn6, hbA⟩; obtain ⟨A6, c6, rfl, hc6, hr6⟩ := Kd.R_reads hn6; have HC6 := Aside0.mk hc6; have HR6 := Aside0.mk hr6; have HB := Aside0.mk (HB.out.trans (hbA.mono HB.out.size)); have t0 : wK.cell? ⟨tb, 0, none⟩ = some (.slice A0 exR.length c0) := (blk_cell ((HB.out.block tb hlt).trans HT.out) 0).trans rfl; have t1 : wK.cell? ⟨tb, 1, none⟩ = some (.slice A1 exZ.length c1) := (blk_cell ((HB.out.block tb hlt).trans HT.out) 1).trans rfl; have HM := Aside0.mk (HM.out.trans (hbA.mono HM.out.size)); have m0 : wK.cell? ⟨mb, 0, none⟩ = some (.int .u8 1) := (blk_cell ((HM.out.block mb hlm).trans HMB.out) 0).trans rfl; have m1 : wK.cell? ⟨mb, 1, none⟩ = some (.int .u8 1) := (blk_cell ((HM.out.block mb hlm).trans HMB.out) 1).trans rfl; have m2 : wK.cell? ⟨mb, 2, none⟩ = some (.string exFrom) := (blk_cell ((HM.out.block mb hlm).trans HMB.out) 2).trans rfl; have m3 : wK.cell? ⟨mb, 3, none⟩ = some (.slice A3 exP.length c3) := (blk_cell ((HM.out.block mb hlm).trans HMB.out) 3).trans rfl; have HX := Aside0.mk (HX.out.trans (hbA.mono HX.out.size)); clear hbA hn6 hc6 hr6)
  (try go_wp2_with fail)
  refine hK.out _ _ ?_ (fun hHeld => ?_)
  ·((try dsimp only); exact ⟨t0, t1, m0, m1, m2, m3⟩)
  clear hK K
  try simp only [Act.put, sl1, sl2, sl3]
  refine takeT 5 ?_ rfl (by kernel_rfl) (by kernel_rfl) (by kernel_rfl) (fun _ _ _ h => h) (by rfl) ?_ (by assumption) ?_
  rotate_left
  ·(intro w hSw; (try dsimp only at hSw); go_simp; (try with_reducible rfl))
  try simp only [Act.put, sl1, sl2, sl3]
  refine takeT 6 ?_ rfl (by kernel_rfl) (by kernel_rfl) (by kernel_rfl) (fun _ _ _ h => h) (by rfl) ?_ (by assumption) ?_
  rotate_left
  ·(intro w hSw; (try dsimp only at hSw); go_simp; (try with_reducible rfl))
  try simp only [Act.put, sl1, sl2, sl3]
  refine takeT 7 ?_ rfl (by kernel_rfl) (by kernel_rfl) (by kernel_rfl) (fun _ _ _ h => h) (by rfl) ?_ (by assumption) ?_
  rotate_left
  ·(intro w hSw; (try dsimp only at hSw); go_simp; (try with_reducible rfl))
  try simp only [Act.put, sl1, sl2, sl3]
  refine takeT 8 ?_ rfl (by kernel_rfl) (by kernel_rfl) (by kernel_rfl) (fun _ _ _ h => h) (by rfl) ?_ (by assumption) ?_
  rotate_left
  ·(intro w hSw; (try dsimp only at hSw); go_simp; (try with_reducible rfl))
  try simp only [Act.put, sl1, sl2, sl3]
  refine takeT 9 ?_ rfl (by kernel_rfl) (by kernel_rfl) (by kernel_rfl) (fun _ _ _ h => h) (by rfl) ?_ (by assumption) ?_
  rotate_left
  ·(intro w hSw; (try dsimp only at hSw); go_simp; (try with_reducible rfl))
  try simp only [Act.put, sl1, sl2, sl3]
  refine wpAnyH_done (by kernel_rfl) ?_ _
  have HF : Aside0 (Below W1.heap.size W1 wK ∧ Below WM.heap.size WM wK ∧ Below wI.heap.size wI wK ∧ Kd.C (Kd.int .i64) wK A6 [(135 : Int)].length [135] ∧ [(135 : Int)].length ≤ c6) := ⟨⟨HB.out, HM.out, HX.out, HR6.out, HC6.out⟩⟩
  clear t0 t1 m0 m1 m2 m3 HB HM HX HR6 HC6 HR5 HC5 HPL hHeld
  generalize wI.heap.size = nb
  revert HF c6 A6 c5 A5 nb wK
  exact hrest.out
 intro A5 c5 wK A6 c6 HF nb
 obtain ⟨q1, q2, q3, q4, q5⟩ := HF.out
 replace HB := Aside0.mk q1
 replace HM := Aside0.mk q2
 replace HX := Aside0.mk q3
 have HR6 := Aside0.mk q4
 have HC6 := Aside0.mk q5
 have HY := Aside0.mk (Below.refl wK.heap.size wK)
 clear HF q1 q2 q3 q4 q5
 go_wp2_with fail
 have hba := below_alloc (Below.refl wK.heap.size wK) (.cells #[.int .i64 150] 3 (0, 0))
 have HPL := Aside0.mk (plan_C wK 150)
 have HB := Aside0.mk (HB.out.trans (hba.mono HB.out.size))
 have t0 : (wK.alloc (.cells #[.int .i64 150] 3 (0, 0))).cell? ⟨tb, 0, none⟩ = some (.slice A0 exR.length c0) := (blk_cell ((HB.out.block tb hlt).trans HT.out) 0).trans rfl
 have t1 : (wK.alloc (.cells #[.int .i64 150] 3 (0, 0))).cell? ⟨tb, 1, none⟩ = some (.slice A1 exZ.length c1) := (blk_cell ((HB.out.block tb hlt).trans HT.out) 1).trans rfl
 have HM := Aside0.mk (HM.out.trans (hba.mono HM.out.size))
 have m0 : (wK.alloc (.cells #[.int .i64 150] 3 (0, 0))).cell? ⟨mb, 0, none⟩ = some (.int .u8 1) := (blk_cell ((HM.out.block mb hlm).trans HMB.out) 0).trans rfl
 have m1 : (wK.alloc (.cells #[.int .i64 150] 3 (0, 0))).cell? ⟨mb, 1, none⟩ = some (.int .u8 1) := (blk_cell ((HM.out.block mb hlm).trans HMB.out) 1).trans rfl
 have m2 : (wK.alloc (.cells #[.int .i64 150] 3 (0, 0))).cell? ⟨mb, 2, none⟩ = some (.string exFrom) := (blk_cell ((HM.out.block mb hlm).trans HMB.out) 2).trans rfl
 have m3 : (wK.alloc (.cells #[.int .i64 150] 3 (0, 0))).cell? ⟨mb, 3, none⟩ = some (.slice A3 exP.length c3) := (blk_cell ((HM.out.block mb hlm).trans HMB.out) 3).trans rfl
 have HX := Aside0.mk (HX.out.trans (hba.mono HX.out.size))
 replace HY := Aside0.mk (HY.out.trans (hba.mono HY.out.size))
 clear hba
 refine (letterbagkit_SameInts.calls 100 A4 c4 [150] (some ⟨wK.heap.size, 0, none⟩) 1 [150] true _ (Kd.C_below HR4.out HX.out) HC4.out HPL.out (by decide) ex_s1).mono ?_
 rintro e wL ⟨rfl, hdA⟩
 have hbA := hdA.below
 have HB := Aside0.mk (HB.out.trans (hbA.mono HB.out.size))
 have t0 : wL.cell? ⟨tb, 0, none⟩ = some (.slice A0 exR.length c0) := (blk_cell ((HB.out.block tb hlt).trans HT.out) 0).trans rfl
 have t1 : wL.cell? ⟨tb, 1, none⟩ = some (.slice A1 exZ.length c1) := (blk_cell ((HB.out.block tb hlt).trans HT.out) 1).trans rfl
 have HM := Aside0.mk (HM.out.trans (hbA.mono HM.out.size))
 have m0 : wL.cell? ⟨mb, 0, none⟩ = some (.int .u8 1) := (blk_cell ((HM.out.block mb hlm).trans HMB.out) 0).trans rfl
 have m1 : wL.cell? ⟨mb, 1, none⟩ = some (.int .u8 1) := (blk_cell ((HM.out.block mb hlm).trans HMB.out) 1).trans rfl
 have m2 : wL.cell? ⟨mb, 2, none⟩ = some (.string exFrom) := (blk_cell ((HM.out.block mb hlm).trans HMB.out) 2).trans rfl
 have m3 : wL.cell? ⟨mb, 3, none⟩ = some (.slice A3 exP.length c3) := (blk_cell ((HM.out.block mb hlm).trans HMB.out) 3).trans rfl
 have HX := Aside0.mk (HX.out.trans (hbA.mono HX.out.size))
 replace HY := Aside0.mk (HY.out.trans (hbA.mono HY.out.size))
 clear hbA hdA HPL
 go_wp2_with fail
 have hba := below_alloc (Below.refl wL.heap.size wL) (.cells #[.int .i64 135] 3 (0, 0))
 have HPL := Aside0.mk (plan_C wL 135)
 have HB := Aside0.mk (HB.out.trans (hba.mono HB.out.size))
 have t0 : (wL.alloc (.cells #[.int .i64 135] 3 (0, 0))).cell? ⟨tb, 0, none⟩ = some (.slice A0 exR.length c0) := (blk_cell ((HB.out.block tb hlt).trans HT.out) 0).trans rfl
 have t1 : (wL.alloc (.cells #[.int .i64 135] 3 (0, 0))).cell? ⟨tb, 1, none⟩ = some (.slice A1 exZ.length c1) := (blk_cell ((HB.out.block tb hlt).trans HT.out) 1).trans rfl
 have HM := Aside0.mk (HM.out.trans (hba.mono HM.out.size))
 have m0 : (wL.alloc (.cells #[.int .i64 135] 3 (0, 0))).cell? ⟨mb, 0, none⟩ = some (.int .u8 1) := (blk_cell ((HM.out.block mb hlm).trans HMB.out) 0).trans rfl
 have m1 : (wL.alloc (.cells #[.int .i64 135] 3 (0, 0))).cell? ⟨mb, 1, none⟩ = some (.int .u8 1) := (blk_cell ((HM.out.block mb hlm).trans HMB.out) 1).trans rfl
 have m2 : (wL.alloc (.cells #[.int .i64 135] 3 (0, 0))).cell? ⟨mb, 2, none⟩ = some (.string exFrom) := (blk_cell ((HM.out.block mb hlm).trans HMB.out) 2).trans rfl
 have m3 : (wL.alloc (.cells #[.int .i64 135] 3 (0, 0))).cell? ⟨mb, 3, none⟩ = some (.slice A3 exP.length c3) := (blk_cell ((HM.out.block mb hlm).trans HMB.out) 3).trans rfl
 have HX := Aside0.mk (HX.out.trans (hba.mono HX.out.size))
 replace HY := Aside0.mk (HY.out.trans (hba.mono HY.out.size))
 clear hba
 refine (letterbagkit_SameInts.calls 100 A6 c6 [135] (some ⟨wL.heap.size, 0, none⟩) 1 [135] true _ (Kd.C_below HR6.out HY.out) HC6.out HPL.out (by decide) ex_s2).mono ?_
 rintro e wN ⟨rfl, hdA⟩
 have hbA := hdA.below
 have HB := Aside0.mk (HB.out.trans (hbA.mono HB.out.size))
 have t0 : wN.cell? ⟨tb, 0, none⟩ = some (.slice A0 exR.length c0) := (blk_cell ((HB.out.block tb hlt).trans HT.out) 0).trans rfl
 have t1 : wN.cell? ⟨tb, 1, none⟩ = some (.slice A1 exZ.length c1) := (blk_cell ((HB.out.block tb hlt).trans HT.out) 1).trans rfl
 have HM := Aside0.mk (HM.out.trans (hbA.mono HM.out.size))
 have m0 : wN.cell? ⟨mb, 0, none⟩ = some (.int .u8 1) := (blk_cell ((HM.out.block mb hlm).trans HMB.out) 0).trans rfl
 have m1 : wN.cell? ⟨mb, 1, none⟩ = some (.int .u8 1) := (blk_cell ((HM.out.block mb hlm).trans HMB.out) 1).trans rfl
 have m2 : wN.cell? ⟨mb, 2, none⟩ = some (.string exFrom) := (blk_cell ((HM.out.block mb hlm).trans HMB.out) 2).trans rfl
 have m3 : wN.cell? ⟨mb, 3, none⟩ = some (.slice A3 exP.length c3) := (blk_cell ((HM.out.block mb hlm).trans HMB.out) 3).trans rfl
 have HX := Aside0.mk (HX.out.trans (hbA.mono HX.out.size))
 clear hbA hdA HPL HY
 go_wp2_with fail
 refine (tariff_Mailing.calls 100 1 1 exFrom A3 c3 exP true _ (Kd.C_below HR3.out HM.out) HC3.out ex_mail).mono ?_
 rintro e wO ⟨rfl, hbA⟩
 have HB := Aside0.mk (HB.out.trans (hbA.mono HB.out.size))
 have t0 : wO.cell? ⟨tb, 0, none⟩ = some (.slice A0 exR.length c0) := (blk_cell ((HB.out.block tb hlt).trans HT.out) 0).trans rfl
 have t1 : wO.cell? ⟨tb, 1, none⟩ = some (.slice A1 exZ.length c1) := (blk_cell ((HB.out.block tb hlt).trans HT.out) 1).trans rfl
 clear hbA
 go_wp2_with fail
 refine (tariff_Right.calls A0 c0 exR A1 c1 exZ true _ (Kd.C_below HR0.out HB.out) HC0.out (Kd.C_below HR1.out HB.out) HC1.out ex_right).mono ?_
 rintro e wP ⟨rfl, hbA⟩
 have HB := Aside0.mk (HB.out.trans (hbA.mono HB.out.size))
 have t0 : wP.cell? ⟨tb, 0, none⟩ = some (.slice A0 exR.length c0) := (blk_cell ((HB.out.block tb hlt).trans HT.out) 0).trans rfl
 have t1 : wP.cell? ⟨tb, 1, none⟩ = some (.slice A1 exZ.length c1) := (blk_cell ((HB.out.block tb hlt).trans HT.out) 1).trans rfl
 go_wp2_with fail
 go_ret
 exact ⟨rfl, HW.out.trans (HB.out.mono HW.out.size)⟩
def letterbaglaw24_awake.f : Option Bool := some true
end Go.Proofs.YtfglcfbcdhjcdaaDoor.Q

namespace Go.Proofs.YtfglcfbcdhjcdaaDoor.Q
open Go.RowKit Go.Proofs.YtfglcfbcdhjcdaaDoorW.PrintWords Go.Proofs.YtfglcfbcdhjcdaaDoorW.PrintLast Go.Proofs.YtfglcfbcdhjcdaaDoorW.PrintMore
set_option linter.unusedVariables false
set_option linter.unusedSimpArgs false
theorem made_f (N : Nat) (hN : N < 4294967296) (l : List Int) (hf : mdFits l = true) : letterbaglaw24_Made.f (N : Int) l = some (madeR N l, madeZ N) := by
 unfold letterbaglaw24_Made.f
 rw [if_pos (by rw [hf]; simp; omega), Int.toNat_natCast]
end Go.Proofs.YtfglcfbcdhjcdaaDoor.Q

namespace Go.Proofs.YtfglcfbcdhjcdaaDoor.Q
open Go.RowKit Go.Proofs.YtfglcfbcdhjcdaaDoorW.PrintWords Go.Proofs.YtfglcfbcdhjcdaaDoorW.PrintLast Go.Proofs.YtfglcfbcdhjcdaaDoorW.PrintMore
set_option linter.unusedVariables false
set_option linter.unusedSimpArgs false
theorem u8_and1 (x : Int) (h0 : 0 ≤ x) (h1 : x < 256) : bits .and .u8 x 1 = x % 2 := bits_mask .u8 8 (by decide) (fun n h0 h1 => by rw [IntKind.wrap_u8]; omega) 1 (by decide) x h0 h1
theorem R_only {α β : Type} {d : Kd α} {d' : Kd β} {e e' base base' : Nat} {ok ok' : Nat → Prop} {W W1 : World} {u v : Value} {xs : List α} {ys : List β} (h : Kd.R d e W base ok u xs) (hv : Kd.R d' e' W base' ok' v ys) (ht : ∀ q, q ∈ e :: d.E → q ≠ e') (ho : OnlyOwn v W W1) : Kd.R d e W1 base ok u xs :=
 Kd.R_mono (Kd.R_move (Kd.R_apartR h hv ht) (fun k hk => ho.same k hk.2)) (fun k hk => hk.1)
theorem blk_only {α : Type} {d : Kd α} {e base g t : Nat} {ok : Nat → Prop} {W W1 : World} {v : Value} {xs : List α} {cells : Array Value} (hb : W.heap[g]? = some (.cells cells t (0, 0))) (hv : Kd.R d e W base ok v xs) (ht : e ≠ t) (ho : OnlyOwn v W W1) : W1.heap[g]? = some (.cells cells t (0, 0)) :=
 (ho.same g (Kd.R_ne hv hb ht)).trans hb
theorem R_zero {α : Type} {d : Kd α} {W : World} {g base e : Nat} {ok : Nat → Prop} (hb : W.heap[g]? = some (.cells #[] e (0, 0))) (hg : base ≤ g) (hok : ok g) : Kd.R d e W base ok (.slice (some ⟨g, 0, none⟩) 0 0) [] := by
 refine ⟨fun k hk => ?_, [], ⟨by simp, .inr ⟨g, 0, #[], rfl, hg, hb, Nat.le_refl _, by decide, by simp, by simp⟩⟩, Reps.none _ _⟩
 have : g = k := by simpa [Value.ownBlock] using hk
 subst this
 exact hok
section
variable {P : Program} {Q : Exit → Act → World → Prop} {ops : Array Oper} {o : Oper} {a : Act} {Kc : Act → World → Prop}
theorem stepApps {α : Type} (d : Kd α) {w0 W : World} (base : Nat) (hw : Region.wanted o (yielded ops a.tmps) = true) (s x : Operand) (t e : TypeId) (z : Value) (bytes : Nat)
  (ho : o.op = .call { callee := .builtin .append, args := #[s, x], argTypes := #[t, t] }) (ht : P.underlying t = some (.slice e)) (hinfo : (P.info? e).map (fun i => (i.zero, i.size, i.bytes)) = some (some z, d.sz, bytes)) (hz : z.cells.size = d.sz) (hs0 : 0 < d.sz) (hb0 : 0 < bytes)
  (v : Value) (xs ys : List α) (A : Option Addr) (m c : Nat) (hs : a.eval s = v) (hx : a.eval x = .slice A m c) (HO : Kd.R d e W base (fun _ => True) v xs) (HR : Kd.C d W A m ys) (hKM : ∀ x cs, d.K W x cs → d.M W base (fun _ => False) x cs)
  (HB : Below base w0 W) (hbase : base ≤ W.heap.size) (hl : (xs.length + m) * bytes ≤ 140737488355328)
  (h : ∀ v1 w1, Kd.R d e w1 base (fun _ => True) v1 (xs ++ ys) → Below base w0 w1 → W.grownBy w1 v.ownBlock → (v1.ownBlock = v.ownBlock ∨ ∃ b, v1.ownBlock = some b ∧ W.heap.size ≤ b) → Kc (a.put o.dst v1) w1) : Oper.wp P o a W Kc Q := by
 have H := Kd.R_append_rows_step (Kc := Kc) (Q := Q) (ops := ops) (P := P) (Rr := d.K W) d (w0 := w0) base hw s x t e z bytes ho ht hinfo hz hs0 hb0 v xs ys A m c (fun _ => True) (fun _ => False) hs hx HO HR hKM (fun _ hk => hk.elim) (fun _ _ => trivial) HB hbase hl h
 rwa [if_pos hw] at H
end
set_option maxHeartbeats 16000000 in
set_option maxRecDepth 100000 in
theorem order.calls0 (N : Nat) (hN : N < 4294967296) (A : Option Addr) (c : Nat) (l : List Int) (hf : mdFits l = true) (cl : Nat) (hcl : cl ≤ 255) (M : Option Addr) (mc : Nat) (ml : List Int) (hml : mlFits ml = true) (by_ : Nat) (hby : by_ ≤ 255) (w : World)
  (hr1 : Kd.C (Kd.int .u8) w A l.length l) (hc1 : l.length ≤ c) (hr4 : Kd.C (Kd.int .u16) w M ml.length ml) (hc4 : ml.length ≤ mc) :
  Calls Tryd.prog 9 #[.int .u32 (N : Int), .slice A l.length c, .int .u8 (cl : Int), .slice M ml.length mc, .int .u8 (by_ : Int)] w fun e w' => e = .returned (.bool true) ∧ Below w.heap.size w w' := by
 have HMF := Aside0.mk (made_f N hN l hf)
 have HR1 := Aside0.mk hr1
 have HR4 := Aside0.mk hr4
 clear hr1 hr4
 have hmn := mlN_le ml
 obtain ⟨ci, hci⟩ : ∃ ci : Nat, ci = cl % 3 := ⟨_, rfl⟩
 have hci3 : ci < 3 := by omega
 have HML : Aside0 (letterbaglaw24_Mail.f 3000 (cl : Int) ml = some ((ci : Int) + 1, 1, exFrom, mlPieces ml (mlN ml))) := ⟨by
   have h := mail_is (cl : Int) (by omega) (by omega) ml hml 3000 (by omega)
   rw [show 1 + (cl : Int) % 3 = (ci : Int) + 1 by omega] at h
   exact h⟩
 clear hci
 go_enter Tryd.func9, Tryd.ntmps9
 go_wp2_with fail
 refine (awake.calls0 w).mono ?_
 rintro e W0 ⟨rfl, hb⟩
 have HB := Aside0.mk hb
 clear hb
 go_wp2_with fail
 refine (letterbaglaw24_Made.calls (N : Int) A c l (madeR N l) (madeZ N) W0 (Kd.C_below HR1.out HB.out) hc1 HMF.out).mono ?_
 rintro e W1 ⟨v0, v1, rfl, hn0, hn1, hb⟩
 have HR := Aside0.mk (Kd.R_lower hn0 HB.out.size)
 have HZ := Aside0.mk (Kd.R_lower hn1 HB.out.size)
 replace HB := Aside0.mk (HB.out.trans (hb.mono HB.out.size))
 clear hn0 hn1 hb W0
 go_wp2_with fail
 refine (letterbaglaw24_Mail.calls 3000 (cl : Int) M mc ml ((ci : Int) + 1) 1 exFrom (mlPieces ml (mlN ml)) W1 (Kd.C_below HR4.out HB.out) hc4 HML.out).mono ?_
 rintro e W3 ⟨v3, rfl, hn0, hb⟩
 have HM := Aside0.mk (Kd.R_lower hn0 HB.out.size)
 replace HB := Aside0.mk (HB.out.trans (hb.mono HB.out.size))
 replace HR := Aside0.mk (Kd.R_below HR.out hb)
 replace HZ := Aside0.mk (Kd.R_below HZ.out hb)
 clear hn0 hb W1
 obtain ⟨AR, cR, rfl, lR, -⟩ := Kd.R_reads HR.out
 obtain ⟨AZ, cZ, rfl, lZ, -⟩ := Kd.R_reads HZ.out
 obtain ⟨AM, cM, rfl, lM, -⟩ := Kd.R_reads HM.out
 have LR := Aside0.mk lR
 have LZ := Aside0.mk lZ
 have LM := Aside0.mk lM
 clear lR lZ lM
 go_wp2_with fail
 have hb := (below_alloc (Below.refl W3.heap.size W3) (.cells #[.slice AR (madeR N l).length cR, .slice AZ (madeZ N).length cZ] 25 (0, 0))).alloc (by simp) (.cells #[.int .u8 ((ci : Int) + 1), .int .u8 1, .string exFrom, .slice AM (mlPieces ml (mlN ml)).length cM] 36 (0, 0))
 have HTB := Aside0.mk (blk_alloc (heap_alloc_new W3 (.cells #[.slice AR (madeR N l).length cR, .slice AZ (madeZ N).length cZ] 25 (0, 0))) (.cells #[.int .u8 ((ci : Int) + 1), .int .u8 1, .string exFrom, .slice AM (mlPieces ml (mlN ml)).length cM] 36 (0, 0)))
 have HMB : Aside0 (((W3.alloc (.cells #[.slice AR (madeR N l).length cR, .slice AZ (madeZ N).length cZ] 25 (0, 0))).alloc (.cells #[.int .u8 ((ci : Int) + 1), .int .u8 1, .string exFrom, .slice AM (mlPieces ml (mlN ml)).length cM] 36 (0, 0))).heap[W3.heap.size + 1]? = some (.cells #[.int .u8 ((ci : Int) + 1), .int .u8 1, .string exFrom, .slice AM (mlPieces ml (mlN ml)).length cM] 36 (0, 0))) := ⟨by have h := heap_alloc_new (W3.alloc (.cells #[.slice AR (madeR N l).length cR, .slice AZ (madeZ N).length cZ] 25 (0, 0))) (.cells #[.int .u8 ((ci : Int) + 1), .int .u8 1, .string exFrom, .slice AM (mlPieces ml (mlN ml)).length cM] 36 (0, 0)); rw [World.size_alloc] at h; exact h⟩
 replace HB := Aside0.mk (HB.out.trans (hb.mono HB.out.size))
 replace HR := Aside0.mk (Kd.R_below HR.out hb)
 replace HZ := Aside0.mk (Kd.R_below HZ.out hb)
 replace HM := Aside0.mk (Kd.R_below HM.out hb)
 clear hb
 generalize (W3.alloc (.cells #[.slice AR (madeR N l).length cR, .slice AZ (madeZ N).length cZ] 25 (0, 0))).alloc (.cells #[.int .u8 ((ci : Int) + 1), .int .u8 1, .string exFrom, .slice AM (mlPieces ml (mlN ml)).length cM] 36 (0, 0)) = W4 at *
 generalize W3.heap.size + 1 = mb at *
 generalize W3.heap.size = tb at *
 clear W3
 have t0 : W4.cell? ⟨tb, 0, none⟩ = some (.slice AR (madeR N l).length cR) := (blk_cell (blk_below HTB.out (Below.refl _ _)) 0).trans rfl
 have t1 : W4.cell? ⟨tb, 1, none⟩ = some (.slice AZ (madeZ N).length cZ) := (blk_cell (blk_below HTB.out (Below.refl _ _)) 1).trans rfl
 go_wp2_with fail
 clear t0 t1
 refine (letterbagkit_CopyTariff.calls 30 AR cR (madeR N l) AZ cZ (madeZ N) (madeR N l) (madeZ N) W4 (Kd.R_reads' HR.out).2.2 LR.out (Kd.R_reads' HZ.out).2.2 LZ.out (made_copy N l)).mono ?_
 rintro e W5 ⟨v0, v1, rfl, hn0, hn1, hb⟩
 obtain ⟨AU, cU, rfl, lU, -⟩ := Kd.R_reads hn0
 obtain ⟨AV, cV, rfl, lV, -⟩ := Kd.R_reads hn1
 have LU := Aside0.mk lU
 have LV := Aside0.mk lV
 have HU := Aside0.mk hn0
 have HV := Aside0.mk hn1
 have HBu := Aside0.mk hb
 clear hn0 hn1 hb lU lV
 go_wp2_with fail
 have hbx := below_alloc (Below.refl W5.heap.size W5) (.cells #[.slice AU (madeR N l).length cU, .slice AV (madeZ N).length cV] 25 (0, 0))
 have HUT := Aside0.mk (heap_alloc_new W5 (.cells #[.slice AU (madeR N l).length cU, .slice AV (madeZ N).length cV] 25 (0, 0)))
 replace HU := Aside0.mk (Kd.R_below HU.out hbx)
 replace HV := Aside0.mk (Kd.R_below HV.out hbx)
 have HUg : Aside0 (W4.heap.size ≤ W5.heap.size) := ⟨HBu.out.size⟩
 replace HBu := Aside0.mk (HBu.out.trans (hbx.mono HBu.out.size))
 clear hbx
 generalize W5.alloc (.cells #[.slice AU (madeR N l).length cU, .slice AV (madeZ N).length cV] 25 (0, 0)) = W6 at *
 generalize W5.heap.size = ut at *
 have u0 : W6.cell? ⟨ut, 0, none⟩ = some (.slice AU (madeR N l).length cU) := (blk_cell HUT.out 0).trans rfl
 go_wp2_with fail
 clear u0
 refine (revRates.calls W4.heap.size (fun _ => True) (.slice AU (madeR N l).length cU) (madeR N l) W6 HU.out).mono ?_
 rintro e W7 ⟨rfl, hR2, hb, ho⟩
 replace HUT := Aside0.mk (blk_only HUT.out HU.out (by decide) ho)
 replace HV := Aside0.mk (R_only HV.out HU.out (by decide) ho)
 replace HU := Aside0.mk hR2
 replace HBu := Aside0.mk (HBu.out.trans hb)
 clear hR2 hb ho
 have hzl : 1 ≤ (madeZ N).length := by obtain ⟨T, h1, -⟩ := mdRows_head (mdZ N) (mdX N) 9; unfold madeZ; rw [h1]; simp
 have hzl2 : (madeZ N).length ≤ 10 := by obtain ⟨-, -, h3, -⟩ := made_rows N; exact h3
 obtain ⟨k, hpk, hk⟩ := pick_is (by_ : Int) (madeZ N).length hzl (by omega)
 have HPK := Aside0.mk hpk
 clear hpk
 have u1 : W7.cell? ⟨ut, 1, none⟩ = some (.slice AV (madeZ N).length cV) := (blk_cell HUT.out 1).trans rfl
 go_wp2_with fail
 clear u1
 refine (letterbagkit_Pick.calls (by_ : Int) ((madeZ N).length : Int) (k : Int) W7 HPK.out).mono ?_
 rintro e W8 ⟨rfl, hdP⟩
 have hb := hdP.below
 replace HUT := Aside0.mk (blk_below HUT.out hb)
 replace HV := Aside0.mk (Kd.R_below HV.out hb)
 replace HU := Aside0.mk (Kd.R_below HU.out hb)
 replace HBu := Aside0.mk (HBu.out.trans (hb.mono HBu.out.size))
 clear hb hdP
 go_wp2_with fail
 obtain ⟨gv, capv, ev, hgb, hgl, cells_, hgc⟩ := Kd.R_form HV.out (by omega)
 injection ev with e1 e2 e3
 subst e1 e3
 clear hgb hgl hgc e2
 have LV := LV
 have hcV : k < cV := by have := LV.out; omega
 have hkI : (k : Int) < ((madeZ N).length : Int) := by omega
 have hb := below_drew (Below.refl W8.heap.size W8)
 replace HUT := Aside0.mk (blk_below HUT.out hb)
 have HV_0 := Aside0.mk (Kd.R_below HV.out hb)
 have HU_0 := Aside0.mk (Kd.R_below HU.out hb)
 have HB_0 := Aside0.mk (HBu.out.trans (hb.mono HBu.out.size))
 have HUT_0 := HUT
 clear hb
 refine wp_region_held_drew (S := fun _ => True) (by kernel_rfl) ?_ (fun hHeld => ?_)
 ·exact trivial
 generalize W8.drew = X0 at *
 refine takeT 1 ?_ rfl (by kernel_rfl) (by kernel_rfl) (by kernel_rfl) (fun _ _ _ h => h) (by rfl) ?_ (by assumption) ?_
 rotate_left
 ·(intro w hSw; (try dsimp only at hSw); go_simp; (try with_reducible rfl))
 try simp only [Act.put, sl1, sl2, sl3]
 refine takeT 3 ?_ rfl (by kernel_rfl) (by kernel_rfl) (by kernel_rfl) (fun _ _ _ h => h) (by rfl) ?_ (by assumption) ?_
 rotate_left
 ·(intro w hSw; (try dsimp only at hSw); go_simp; (try with_reducible rfl))
 try simp only [Act.put, sl1, sl2, sl3]
 refine takeT 6 ?_ rfl (by kernel_rfl) (by kernel_rfl) (by kernel_rfl) (fun _ _ _ h => h) (by rfl) ?_ (by assumption) ?_
 rotate_left
 ·(intro w hSw; (try dsimp only at hSw); go_simp; (try with_reducible rfl))
 try simp only [Act.put, sl1, sl2, sl3]
 refine takeT 8 ?_ rfl (by kernel_rfl) (by kernel_rfl) (by kernel_rfl) (fun _ _ _ h => h) (by rfl) ?_ (by assumption) ?_
 rotate_left
 ·(intro w hSw; (try dsimp only at hSw); go_simp; (try with_reducible rfl))
 try simp only [Act.put, sl1, sl2, sl3]
 have hcVne : ¬ cV = k := by omega
 have hkcV : k ≤ cV := by omega
 have hkl : k ≤ (madeZ N).length := by omega
 have hdrop_ : ∀ {ok : Nat → Prop} (X : World), Kd.R k67 67 X W4.heap.size ok (.slice (some ⟨gv, 0, none⟩) (madeZ N).length cV) (madeZ N) → Kd.C k67 X (some ⟨gv, k * 3, none⟩) ((madeZ N).length - k) ((madeZ N).drop k) := by
   intro ok X h
   have h2 := Kd.C_drop (m := k) (c := cV) (Kd.R_reads' h).2.2 (by omega) LV.out
   rw [if_neg hcVne, List.length_drop] at h2
   rw [Option.map_some, Go.WideShapes.add_plain, Nat.zero_add] at h2
   exact h2
 have htake_ : ∀ {ok : Nat → Prop} (X : World), Kd.R k67 67 X W4.heap.size ok (.slice (some ⟨gv, 0, none⟩) (madeZ N).length cV) (madeZ N) → Kd.C k67 X (some ⟨gv, 0, none⟩) k ((madeZ N).take k) := by
   intro ok X h
   have h2 := Kd.C_take (m := k) (Kd.R_reads' h).2.2 (by omega)
   rw [List.length_take, Nat.min_eq_left (by omega)] at h2
   exact h2
 have HDR := Aside0.mk @hdrop_
 have HTK := Aside0.mk @htake_
 clear hdrop_ htake_
 apply bothWays
 intro hrest
 refine takeC3 0 2 7 rfl rfl rfl (by kernel_rfl) (by rfl) (by rfl) (by rfl) (fun K hK => ?_) (fun K hK => ?_) (fun K hK => ?_)
 ·go_simp
  (try go_wp2_with fail)
  refine hK.out _ _ ?_ (fun hHeld => ?_)
  ·exact trivial
  clear hK K
  try simp only [Act.put, sl1, sl2, sl3]
  have hb := below_alloc (Below.refl X0.heap.size X0) (.cells #[] 67 (0, 0))
  have hnew := heap_alloc_new X0 (.cells #[] 67 (0, 0))
  have HV_1 := Aside0.mk (Kd.R_below (Kd.R_mono (ok' := fun k_ => True ∧ some k_ ≠ (Value.slice (some ⟨X0.heap.size, 0, none⟩) 0 0).ownBlock) (Kd.R_bound HV_0.out) (fun k_ hk_ => ⟨trivial, fun e_ => by have := hk_.2.2.1; simp [Value.ownBlock] at e_; omega⟩)) hb)
  have HB_1 := Aside0.mk (HB_0.out.trans (hb.mono HB_0.out.size))
  have HU_1 := Aside0.mk (Kd.R_below HU_0.out hb)
  have HUT_1 := Aside0.mk (blk_below HUT_0.out hb)
  have HL_1 := Aside0.mk hnew
  have HLg_1 : Aside0 (W4.heap.size ≤ X0.heap.size) := ⟨HB_0.out.size⟩
  clear hb hnew
  generalize X0.alloc (.cells #[] 67 (0, 0)) = X1 at *
  generalize X0.heap.size = zb at *
  refine takeC2 2 7 rfl rfl (by kernel_rfl) (by rfl) (by rfl) (fun K hK => ?_) (fun K hK => ?_)
  ·have u1 : X1.cell? ⟨ut, 1, none⟩ = some (.slice (some ⟨gv, 0, none⟩) (madeZ N).length cV) := (blk_cell HUT_1.out 1).trans rfl
   go_simp
   skip
   (try go_wp2_with fail)
   refine hK.out _ _ ?_ (fun hHeld => ?_)
   ·exact trivial
   clear hK K
   try simp only [Act.put, sl1, sl2, sl3]
   refine takeT 4 ?_ rfl (by kernel_rfl) (by kernel_rfl) (by kernel_rfl) (fun _ _ _ h => h) (by rfl) ?_ (by assumption) ?_
   rotate_left
   ·(intro w hSw; (try dsimp only at hSw); go_simp; (try with_reducible rfl))
   try simp only [Act.put, sl1, sl2, sl3]
   (try clear u1)
   refine takeC2 5 7 rfl rfl (by kernel_rfl) (by rfl) (by rfl) (fun K hK => ?_) (fun K hK => ?_)
   ·refine stepApps (ops := #[]) k67 (w0 := W4) W4.heap.size (by rfl) (.tmp 38) (.tmp 42) 23 67 (.agg #[(.string ⟨#[]⟩), (.string ⟨#[]⟩), (.int .i64 0)]) 40 rfl Tryd.underlying23 info67 rfl (by decide) (by omega) (Value.slice (some ⟨zb, 0, none⟩) 0 0) [] ((madeZ N).drop k) (some ⟨gv, k * 3, none⟩) ((madeZ N).length - k) _ rfl rfl (R_zero (d := k67) (ok := fun _ => True) HL_1.out HLg_1.out trivial) (HDR.out X1 HV_1.out) (fun _ _ h => h) HB_1.out HB_1.out.size (by simp only [List.nil_append, List.length_nil, List.length_drop, Nat.zero_add]; omega) ?_
    intro vD X2 ho hb hg hat
    refine hK.out _ _ ?_ (fun hHeld => ?_)
    ·exact trivial
    clear hK K
    try simp only [Act.put, sl1, sl2, sl3]
    have HB_2 := Aside0.mk hb
    have HV_2 := Aside0.mk (Kd.R_after HV_1.out hg hat)
    have HU_2 := Aside0.mk (Kd.R_over' HU_1.out (Kd.R_typed (R_zero (d := k67) (ok := fun _ => True) HL_1.out HLg_1.out trivial)) (by decide) hg)
    have HUT_2 := Aside0.mk (blk_grown HUT_1.out hg (Kd.R_ne (R_zero (d := k67) (ok := fun _ => True) HL_1.out HLg_1.out trivial) HUT_1.out (by decide)))
    have HD_2 := Aside0.mk ho
    clear ho hb hg hat
    clear HB_1 HU_1 HV_1 HUT_1 HL_1 HLg_1
    skip
    refine takeC 7 rfl (by kernel_rfl) (by rfl) (fun K hK => ?_)
    have u1 : X2.cell? ⟨ut, 1, none⟩ = some (.slice (some ⟨gv, 0, none⟩) (madeZ N).length cV) := (blk_cell HUT_2.out 1).trans rfl
    go_simp
    skip
    (try go_wp2_with fail)
    refine hK.out _ _ ?_ (fun hHeld => ?_)
    ·exact trivial
    clear hK K
    try simp only [Act.put, sl1, sl2, sl3]
    refine takeT 9 ?_ rfl (by kernel_rfl) (by kernel_rfl) (by kernel_rfl) (fun _ _ _ h => h) (by rfl) ?_ (by assumption) ?_
    rotate_left
    ·(intro w hSw; (try dsimp only at hSw); go_simp; (try with_reducible rfl))
    try simp only [Act.put, sl1, sl2, sl3]
    (try clear u1)
    refine takeC 10 rfl (by kernel_rfl) (by rfl) (fun K hK => ?_)
    refine stepApps (ops := #[]) k67 (w0 := W4) W4.heap.size (by rfl) (.tmp 43) (.tmp 47) 23 67 (.agg #[(.string ⟨#[]⟩), (.string ⟨#[]⟩), (.int .i64 0)]) 40 rfl Tryd.underlying23 info67 rfl (by decide) (by omega) vD ([] ++ (madeZ N).drop k) ((madeZ N).take k) (some ⟨gv, 0, none⟩) k _ rfl rfl HD_2.out (HTK.out X2 HV_2.out) (fun _ _ h => h) HB_2.out HB_2.out.size (by simp only [List.nil_append, List.length_nil, List.length_drop, Nat.zero_add]; omega) ?_
    intro vE X3 ho hb hg hat
    refine hK.out _ _ ?_ (fun hHeld => ?_)
    ·exact trivial
    clear hK K
    try simp only [Act.put, sl1, sl2, sl3]
    have HB_3 := Aside0.mk hb
    have HV_3 := Aside0.mk (Kd.R_after HV_2.out hg hat)
    have HU_3 := Aside0.mk (Kd.R_over' HU_2.out (Kd.R_typed HD_2.out) (by decide) hg)
    have HUT_3 := Aside0.mk (blk_grown HUT_2.out hg (Kd.R_ne HD_2.out HUT_2.out (by decide)))
    have HE_3 := Aside0.mk ho
    clear ho hb hg hat
    clear HB_2 HU_2 HV_2 HUT_2 HD_2
    skip
    clear hHeld
    revert HE_3
    revert HV_3
    revert HUT_3
    revert HU_3
    revert HB_3
    revert zb
    revert vD
    revert vE
    revert X3
    exact hrest.out
   ·have u1 : X1.cell? ⟨ut, 1, none⟩ = some (.slice (some ⟨gv, 0, none⟩) (madeZ N).length cV) := (blk_cell HUT_1.out 1).trans rfl
    go_simp
    skip
    (try go_wp2_with fail)
    refine hK.out _ _ ?_ (fun hHeld => ?_)
    ·exact trivial
    clear hK K
    try simp only [Act.put, sl1, sl2, sl3]
    refine takeT 9 ?_ rfl (by kernel_rfl) (by kernel_rfl) (by kernel_rfl) (fun _ _ _ h => h) (by rfl) ?_ (by assumption) ?_
    rotate_left
    ·(intro w hSw; (try dsimp only at hSw); go_simp; (try with_reducible rfl))
    try simp only [Act.put, sl1, sl2, sl3]
    (try clear u1)
    refine takeC 5 rfl (by kernel_rfl) (by rfl) (fun K hK => ?_)
    refine stepApps (ops := #[]) k67 (w0 := W4) W4.heap.size (by rfl) (.tmp 38) (.tmp 42) 23 67 (.agg #[(.string ⟨#[]⟩), (.string ⟨#[]⟩), (.int .i64 0)]) 40 rfl Tryd.underlying23 info67 rfl (by decide) (by omega) (Value.slice (some ⟨zb, 0, none⟩) 0 0) [] ((madeZ N).drop k) (some ⟨gv, k * 3, none⟩) ((madeZ N).length - k) _ rfl rfl (R_zero (d := k67) (ok := fun _ => True) HL_1.out HLg_1.out trivial) (HDR.out X1 HV_1.out) (fun _ _ h => h) HB_1.out HB_1.out.size (by simp only [List.nil_append, List.length_nil, List.length_drop, Nat.zero_add]; omega) ?_
    intro vD X2 ho hb hg hat
    refine hK.out _ _ ?_ (fun hHeld => ?_)
    ·exact trivial
    clear hK K
    try simp only [Act.put, sl1, sl2, sl3]
    have HB_2 := Aside0.mk hb
    have HV_2 := Aside0.mk (Kd.R_after HV_1.out hg hat)
    have HU_2 := Aside0.mk (Kd.R_over' HU_1.out (Kd.R_typed (R_zero (d := k67) (ok := fun _ => True) HL_1.out HLg_1.out trivial)) (by decide) hg)
    have HUT_2 := Aside0.mk (blk_grown HUT_1.out hg (Kd.R_ne (R_zero (d := k67) (ok := fun _ => True) HL_1.out HLg_1.out trivial) HUT_1.out (by decide)))
    have HD_2 := Aside0.mk ho
    clear ho hb hg hat
    clear HB_1 HU_1 HV_1 HUT_1 HL_1 HLg_1
    skip
    refine takeC 10 rfl (by kernel_rfl) (by rfl) (fun K hK => ?_)
    refine stepApps (ops := #[]) k67 (w0 := W4) W4.heap.size (by rfl) (.tmp 43) (.tmp 47) 23 67 (.agg #[(.string ⟨#[]⟩), (.string ⟨#[]⟩), (.int .i64 0)]) 40 rfl Tryd.underlying23 info67 rfl (by decide) (by omega) vD ([] ++ (madeZ N).drop k) ((madeZ N).take k) (some ⟨gv, 0, none⟩) k _ rfl rfl HD_2.out (HTK.out X2 HV_2.out) (fun _ _ h => h) HB_2.out HB_2.out.size (by simp only [List.nil_append, List.length_nil, List.length_drop, Nat.zero_add]; omega) ?_
    intro vE X3 ho hb hg hat
    refine hK.out _ _ ?_ (fun hHeld => ?_)
    ·exact trivial
    clear hK K
    try simp only [Act.put, sl1, sl2, sl3]
    have HB_3 := Aside0.mk hb
    have HV_3 := Aside0.mk (Kd.R_after HV_2.out hg hat)
    have HU_3 := Aside0.mk (Kd.R_over' HU_2.out (Kd.R_typed HD_2.out) (by decide) hg)
    have HUT_3 := Aside0.mk (blk_grown HUT_2.out hg (Kd.R_ne HD_2.out HUT_2.out (by decide)))
    have HE_3 := Aside0.mk ho
    clear ho hb hg hat
    clear HB_2 HU_2 HV_2 HUT_2 HD_2
    skip
    clear hHeld
    revert HE_3
    revert HV_3
    revert HUT_3
    revert HU_3
    revert HB_3
    revert zb
    revert vD
    revert vE
    revert X3
    exact hrest.out
  ·have u1 : X1.cell? ⟨ut, 1, none⟩ = some (.slice (some ⟨gv, 0, none⟩) (madeZ N).length cV) := (blk_cell HUT_1.out 1).trans rfl
   go_simp
   skip
   (try go_wp2_with fail)
   refine hK.out _ _ ?_ (fun hHeld => ?_)
   ·exact trivial
   clear hK K
   try simp only [Act.put, sl1, sl2, sl3]
   refine takeT 9 ?_ rfl (by kernel_rfl) (by kernel_rfl) (by kernel_rfl) (fun _ _ _ h => h) (by rfl) ?_ (by assumption) ?_
   rotate_left
   ·(intro w hSw; (try dsimp only at hSw); go_simp; (try with_reducible rfl))
   try simp only [Act.put, sl1, sl2, sl3]
   (try clear u1)
   refine takeC 2 rfl (by kernel_rfl) (by rfl) (fun K hK => ?_)
   have u1 : X1.cell? ⟨ut, 1, none⟩ = some (.slice (some ⟨gv, 0, none⟩) (madeZ N).length cV) := (blk_cell HUT_1.out 1).trans rfl
   go_simp
   skip
   (try go_wp2_with fail)
   refine hK.out _ _ ?_ (fun hHeld => ?_)
   ·exact trivial
   clear hK K
   try simp only [Act.put, sl1, sl2, sl3]
   refine takeT 4 ?_ rfl (by kernel_rfl) (by kernel_rfl) (by kernel_rfl) (fun _ _ _ h => h) (by rfl) ?_ (by assumption) ?_
   rotate_left
   ·(intro w hSw; (try dsimp only at hSw); go_simp; (try with_reducible rfl))
   try simp only [Act.put, sl1, sl2, sl3]
   (try clear u1)
   refine takeC 5 rfl (by kernel_rfl) (by rfl) (fun K hK => ?_)
   refine stepApps (ops := #[]) k67 (w0 := W4) W4.heap.size (by rfl) (.tmp 38) (.tmp 42) 23 67 (.agg #[(.string ⟨#[]⟩), (.string ⟨#[]⟩), (.int .i64 0)]) 40 rfl Tryd.underlying23 info67 rfl (by decide) (by omega) (Value.slice (some ⟨zb, 0, none⟩) 0 0) [] ((madeZ N).drop k) (some ⟨gv, k * 3, none⟩) ((madeZ N).length - k) _ rfl rfl (R_zero (d := k67) (ok := fun _ => True) HL_1.out HLg_1.out trivial) (HDR.out X1 HV_1.out) (fun _ _ h => h) HB_1.out HB_1.out.size (by simp only [List.nil_append, List.length_nil, List.length_drop, Nat.zero_add]; omega) ?_
   intro vD X2 ho hb hg hat
   refine hK.out _ _ ?_ (fun hHeld => ?_)
   ·exact trivial
   clear hK K
   try simp only [Act.put, sl1, sl2, sl3]
   have HB_2 := Aside0.mk hb
   have HV_2 := Aside0.mk (Kd.R_after HV_1.out hg hat)
   have HU_2 := Aside0.mk (Kd.R_over' HU_1.out (Kd.R_typed (R_zero (d := k67) (ok := fun _ => True) HL_1.out HLg_1.out trivial)) (by decide) hg)
   have HUT_2 := Aside0.mk (blk_grown HUT_1.out hg (Kd.R_ne (R_zero (d := k67) (ok := fun _ => True) HL_1.out HLg_1.out trivial) HUT_1.out (by decide)))
   have HD_2 := Aside0.mk ho
   clear ho hb hg hat
   clear HB_1 HU_1 HV_1 HUT_1 HL_1 HLg_1
   skip
   refine takeC 10 rfl (by kernel_rfl) (by rfl) (fun K hK => ?_)
   refine stepApps (ops := #[]) k67 (w0 := W4) W4.heap.size (by rfl) (.tmp 43) (.tmp 47) 23 67 (.agg #[(.string ⟨#[]⟩), (.string ⟨#[]⟩), (.int .i64 0)]) 40 rfl Tryd.underlying23 info67 rfl (by decide) (by omega) vD ([] ++ (madeZ N).drop k) ((madeZ N).take k) (some ⟨gv, 0, none⟩) k _ rfl rfl HD_2.out (HTK.out X2 HV_2.out) (fun _ _ h => h) HB_2.out HB_2.out.size (by simp only [List.nil_append, List.length_nil, List.length_drop, Nat.zero_add]; omega) ?_
   intro vE X3 ho hb hg hat
   refine hK.out _ _ ?_ (fun hHeld => ?_)
   ·exact trivial
   clear hK K
   try simp only [Act.put, sl1, sl2, sl3]
   have HB_3 := Aside0.mk hb
   have HV_3 := Aside0.mk (Kd.R_after HV_2.out hg hat)
   have HU_3 := Aside0.mk (Kd.R_over' HU_2.out (Kd.R_typed HD_2.out) (by decide) hg)
   have HUT_3 := Aside0.mk (blk_grown HUT_2.out hg (Kd.R_ne HD_2.out HUT_2.out (by decide)))
   have HE_3 := Aside0.mk ho
   clear ho hb hg hat
   clear HB_2 HU_2 HV_2 HUT_2 HD_2
   skip
   clear hHeld
   revert HE_3
   revert HV_3
   revert HUT_3
   revert HU_3
   revert HB_3
   revert zb
   revert vD
   revert vE
   revert X3
   exact hrest.out
 ·have u1 : X0.cell? ⟨ut, 1, none⟩ = some (.slice (some ⟨gv, 0, none⟩) (madeZ N).length cV) := (blk_cell HUT_0.out 1).trans rfl
  go_simp
  skip
  (try go_wp2_with fail)
  refine hK.out _ _ ?_ (fun hHeld => ?_)
  ·exact trivial
  clear hK K
  try simp only [Act.put, sl1, sl2, sl3]
  refine takeT 4 ?_ rfl (by kernel_rfl) (by kernel_rfl) (by kernel_rfl) (fun _ _ _ h => h) (by rfl) ?_ (by assumption) ?_
  rotate_left
  ·(intro w hSw; (try dsimp only at hSw); go_simp; (try with_reducible rfl))
  try simp only [Act.put, sl1, sl2, sl3]
  (try clear u1)
  refine takeC2 0 7 rfl rfl (by kernel_rfl) (by rfl) (by rfl) (fun K hK => ?_) (fun K hK => ?_)
  ·go_simp
   (try go_wp2_with fail)
   refine hK.out _ _ ?_ (fun hHeld => ?_)
   ·exact trivial
   clear hK K
   try simp only [Act.put, sl1, sl2, sl3]
   have hb := below_alloc (Below.refl X0.heap.size X0) (.cells #[] 67 (0, 0))
   have hnew := heap_alloc_new X0 (.cells #[] 67 (0, 0))
   have HV_1 := Aside0.mk (Kd.R_below (Kd.R_mono (ok' := fun k_ => True ∧ some k_ ≠ (Value.slice (some ⟨X0.heap.size, 0, none⟩) 0 0).ownBlock) (Kd.R_bound HV_0.out) (fun k_ hk_ => ⟨trivial, fun e_ => by have := hk_.2.2.1; simp [Value.ownBlock] at e_; omega⟩)) hb)
   have HB_1 := Aside0.mk (HB_0.out.trans (hb.mono HB_0.out.size))
   have HU_1 := Aside0.mk (Kd.R_below HU_0.out hb)
   have HUT_1 := Aside0.mk (blk_below HUT_0.out hb)
   have HL_1 := Aside0.mk hnew
   have HLg_1 : Aside0 (W4.heap.size ≤ X0.heap.size) := ⟨HB_0.out.size⟩
   clear hb hnew
   generalize X0.alloc (.cells #[] 67 (0, 0)) = X1 at *
   generalize X0.heap.size = zb at *
   refine takeC2 5 7 rfl rfl (by kernel_rfl) (by rfl) (by rfl) (fun K hK => ?_) (fun K hK => ?_)
   ·refine stepApps (ops := #[]) k67 (w0 := W4) W4.heap.size (by rfl) (.tmp 38) (.tmp 42) 23 67 (.agg #[(.string ⟨#[]⟩), (.string ⟨#[]⟩), (.int .i64 0)]) 40 rfl Tryd.underlying23 info67 rfl (by decide) (by omega) (Value.slice (some ⟨zb, 0, none⟩) 0 0) [] ((madeZ N).drop k) (some ⟨gv, k * 3, none⟩) ((madeZ N).length - k) _ rfl rfl (R_zero (d := k67) (ok := fun _ => True) HL_1.out HLg_1.out trivial) (HDR.out X1 HV_1.out) (fun _ _ h => h) HB_1.out HB_1.out.size (by simp only [List.nil_append, List.length_nil, List.length_drop, Nat.zero_add]; omega) ?_
    intro vD X2 ho hb hg hat
    refine hK.out _ _ ?_ (fun hHeld => ?_)
    ·exact trivial
    clear hK K
    try simp only [Act.put, sl1, sl2, sl3]
    have HB_2 := Aside0.mk hb
    have HV_2 := Aside0.mk (Kd.R_after HV_1.out hg hat)
    have HU_2 := Aside0.mk (Kd.R_over' HU_1.out (Kd.R_typed (R_zero (d := k67) (ok := fun _ => True) HL_1.out HLg_1.out trivial)) (by decide) hg)
    have HUT_2 := Aside0.mk (blk_grown HUT_1.out hg (Kd.R_ne (R_zero (d := k67) (ok := fun _ => True) HL_1.out HLg_1.out trivial) HUT_1.out (by decide)))
    have HD_2 := Aside0.mk ho
    clear ho hb hg hat
    clear HB_1 HU_1 HV_1 HUT_1 HL_1 HLg_1
    skip
    refine takeC 7 rfl (by kernel_rfl) (by rfl) (fun K hK => ?_)
    have u1 : X2.cell? ⟨ut, 1, none⟩ = some (.slice (some ⟨gv, 0, none⟩) (madeZ N).length cV) := (blk_cell HUT_2.out 1).trans rfl
    go_simp
    skip
    (try go_wp2_with fail)
    refine hK.out _ _ ?_ (fun hHeld => ?_)
    ·exact trivial
    clear hK K
    try simp only [Act.put, sl1, sl2, sl3]
    refine takeT 9 ?_ rfl (by kernel_rfl) (by kernel_rfl) (by kernel_rfl) (fun _ _ _ h => h) (by rfl) ?_ (by assumption) ?_
    rotate_left
    ·(intro w hSw; (try dsimp only at hSw); go_simp; (try with_reducible rfl))
    try simp only [Act.put, sl1, sl2, sl3]
    (try clear u1)
    refine takeC 10 rfl (by kernel_rfl) (by rfl) (fun K hK => ?_)
    refine stepApps (ops := #[]) k67 (w0 := W4) W4.heap.size (by rfl) (.tmp 43) (.tmp 47) 23 67 (.agg #[(.string ⟨#[]⟩), (.string ⟨#[]⟩), (.int .i64 0)]) 40 rfl Tryd.underlying23 info67 rfl (by decide) (by omega) vD ([] ++ (madeZ N).drop k) ((madeZ N).take k) (some ⟨gv, 0, none⟩) k _ rfl rfl HD_2.out (HTK.out X2 HV_2.out) (fun _ _ h => h) HB_2.out HB_2.out.size (by simp only [List.nil_append, List.length_nil, List.length_drop, Nat.zero_add]; omega) ?_
    intro vE X3 ho hb hg hat
    refine hK.out _ _ ?_ (fun hHeld => ?_)
    ·exact trivial
    clear hK K
    try simp only [Act.put, sl1, sl2, sl3]
    have HB_3 := Aside0.mk hb
    have HV_3 := Aside0.mk (Kd.R_after HV_2.out hg hat)
    have HU_3 := Aside0.mk (Kd.R_over' HU_2.out (Kd.R_typed HD_2.out) (by decide) hg)
    have HUT_3 := Aside0.mk (blk_grown HUT_2.out hg (Kd.R_ne HD_2.out HUT_2.out (by decide)))
    have HE_3 := Aside0.mk ho
    clear ho hb hg hat
    clear HB_2 HU_2 HV_2 HUT_2 HD_2
    skip
    clear hHeld
    revert HE_3
    revert HV_3
    revert HUT_3
    revert HU_3
    revert HB_3
    revert zb
    revert vD
    revert vE
    revert X3
    exact hrest.out
   ·have u1 : X1.cell? ⟨ut, 1, none⟩ = some (.slice (some ⟨gv, 0, none⟩) (madeZ N).length cV) := (blk_cell HUT_1.out 1).trans rfl
    go_simp
    skip
    (try go_wp2_with fail)
    refine hK.out _ _ ?_ (fun hHeld => ?_)
    ·exact trivial
    clear hK K
    try simp only [Act.put, sl1, sl2, sl3]
    refine takeT 9 ?_ rfl (by kernel_rfl) (by kernel_rfl) (by kernel_rfl) (fun _ _ _ h => h) (by rfl) ?_ (by assumption) ?_
    rotate_left
    ·(intro w hSw; (try dsimp only at hSw); go_simp; (try with_reducible rfl))
    try simp only [Act.put, sl1, sl2, sl3]
    (try clear u1)
    refine takeC 5 rfl (by kernel_rfl) (by rfl) (fun K hK => ?_)
    refine stepApps (ops := #[]) k67 (w0 := W4) W4.heap.size (by rfl) (.tmp 38) (.tmp 42) 23 67 (.agg #[(.string ⟨#[]⟩), (.string ⟨#[]⟩), (.int .i64 0)]) 40 rfl Tryd.underlying23 info67 rfl (by decide) (by omega) (Value.slice (some ⟨zb, 0, none⟩) 0 0) [] ((madeZ N).drop k) (some ⟨gv, k * 3, none⟩) ((madeZ N).length - k) _ rfl rfl (R_zero (d := k67) (ok := fun _ => True) HL_1.out HLg_1.out trivial) (HDR.out X1 HV_1.out) (fun _ _ h => h) HB_1.out HB_1.out.size (by simp only [List.nil_append, List.length_nil, List.length_drop, Nat.zero_add]; omega) ?_
    intro vD X2 ho hb hg hat
    refine hK.out _ _ ?_ (fun hHeld => ?_)
    ·exact trivial
    clear hK K
    try simp only [Act.put, sl1, sl2, sl3]
    have HB_2 := Aside0.mk hb
    have HV_2 := Aside0.mk (Kd.R_after HV_1.out hg hat)
    have HU_2 := Aside0.mk (Kd.R_over' HU_1.out (Kd.R_typed (R_zero (d := k67) (ok := fun _ => True) HL_1.out HLg_1.out trivial)) (by decide) hg)
    have HUT_2 := Aside0.mk (blk_grown HUT_1.out hg (Kd.R_ne (R_zero (d := k67) (ok := fun _ => True) HL_1.out HLg_1.out trivial) HUT_1.out (by decide)))
    have HD_2 := Aside0.mk ho
    clear ho hb hg hat
    clear HB_1 HU_1 HV_1 HUT_1 HL_1 HLg_1
    skip
    refine takeC 10 rfl (by kernel_rfl) (by rfl) (fun K hK => ?_)
    refine stepApps (ops := #[]) k67 (w0 := W4) W4.heap.size (by rfl) (.tmp 43) (.tmp 47) 23 67 (.agg #[(.string ⟨#[]⟩), (.string ⟨#[]⟩), (.int .i64 0)]) 40 rfl Tryd.underlying23 info67 rfl (by decide) (by omega) vD ([] ++ (madeZ N).drop k) ((madeZ N).take k) (some ⟨gv, 0, none⟩) k _ rfl rfl HD_2.out (HTK.out X2 HV_2.out) (fun _ _ h => h) HB_2.out HB_2.out.size (by simp only [List.nil_append, List.length_nil, List.length_drop, Nat.zero_add]; omega) ?_
    intro vE X3 ho hb hg hat
    refine hK.out _ _ ?_ (fun hHeld => ?_)
    ·exact trivial
    clear hK K
    try simp only [Act.put, sl1, sl2, sl3]
    have HB_3 := Aside0.mk hb
    have HV_3 := Aside0.mk (Kd.R_after HV_2.out hg hat)
    have HU_3 := Aside0.mk (Kd.R_over' HU_2.out (Kd.R_typed HD_2.out) (by decide) hg)
    have HUT_3 := Aside0.mk (blk_grown HUT_2.out hg (Kd.R_ne HD_2.out HUT_2.out (by decide)))
    have HE_3 := Aside0.mk ho
    clear ho hb hg hat
    clear HB_2 HU_2 HV_2 HUT_2 HD_2
    skip
    clear hHeld
    revert HE_3
    revert HV_3
    revert HUT_3
    revert HU_3
    revert HB_3
    revert zb
    revert vD
    revert vE
    revert X3
    exact hrest.out
  ·have u1 : X0.cell? ⟨ut, 1, none⟩ = some (.slice (some ⟨gv, 0, none⟩) (madeZ N).length cV) := (blk_cell HUT_0.out 1).trans rfl
   go_simp
   skip
   (try go_wp2_with fail)
   refine hK.out _ _ ?_ (fun hHeld => ?_)
   ·exact trivial
   clear hK K
   try simp only [Act.put, sl1, sl2, sl3]
   refine takeT 9 ?_ rfl (by kernel_rfl) (by kernel_rfl) (by kernel_rfl) (fun _ _ _ h => h) (by rfl) ?_ (by assumption) ?_
   rotate_left
   ·(intro w hSw; (try dsimp only at hSw); go_simp; (try with_reducible rfl))
   try simp only [Act.put, sl1, sl2, sl3]
   (try clear u1)
   refine takeC 0 rfl (by kernel_rfl) (by rfl) (fun K hK => ?_)
   go_simp
   (try go_wp2_with fail)
   refine hK.out _ _ ?_ (fun hHeld => ?_)
   ·exact trivial
   clear hK K
   try simp only [Act.put, sl1, sl2, sl3]
   have hb := below_alloc (Below.refl X0.heap.size X0) (.cells #[] 67 (0, 0))
   have hnew := heap_alloc_new X0 (.cells #[] 67 (0, 0))
   have HV_1 := Aside0.mk (Kd.R_below (Kd.R_mono (ok' := fun k_ => True ∧ some k_ ≠ (Value.slice (some ⟨X0.heap.size, 0, none⟩) 0 0).ownBlock) (Kd.R_bound HV_0.out) (fun k_ hk_ => ⟨trivial, fun e_ => by have := hk_.2.2.1; simp [Value.ownBlock] at e_; omega⟩)) hb)
   have HB_1 := Aside0.mk (HB_0.out.trans (hb.mono HB_0.out.size))
   have HU_1 := Aside0.mk (Kd.R_below HU_0.out hb)
   have HUT_1 := Aside0.mk (blk_below HUT_0.out hb)
   have HL_1 := Aside0.mk hnew
   have HLg_1 : Aside0 (W4.heap.size ≤ X0.heap.size) := ⟨HB_0.out.size⟩
   clear hb hnew
   generalize X0.alloc (.cells #[] 67 (0, 0)) = X1 at *
   generalize X0.heap.size = zb at *
   refine takeC 5 rfl (by kernel_rfl) (by rfl) (fun K hK => ?_)
   refine stepApps (ops := #[]) k67 (w0 := W4) W4.heap.size (by rfl) (.tmp 38) (.tmp 42) 23 67 (.agg #[(.string ⟨#[]⟩), (.string ⟨#[]⟩), (.int .i64 0)]) 40 rfl Tryd.underlying23 info67 rfl (by decide) (by omega) (Value.slice (some ⟨zb, 0, none⟩) 0 0) [] ((madeZ N).drop k) (some ⟨gv, k * 3, none⟩) ((madeZ N).length - k) _ rfl rfl (R_zero (d := k67) (ok := fun _ => True) HL_1.out HLg_1.out trivial) (HDR.out X1 HV_1.out) (fun _ _ h => h) HB_1.out HB_1.out.size (by simp only [List.nil_append, List.length_nil, List.length_drop, Nat.zero_add]; omega) ?_
   intro vD X2 ho hb hg hat
   refine hK.out _ _ ?_ (fun hHeld => ?_)
   ·exact trivial
   clear hK K
   try simp only [Act.put, sl1, sl2, sl3]
   have HB_2 := Aside0.mk hb
   have HV_2 := Aside0.mk (Kd.R_after HV_1.out hg hat)
   have HU_2 := Aside0.mk (Kd.R_over' HU_1.out (Kd.R_typed (R_zero (d := k67) (ok := fun _ => True) HL_1.out HLg_1.out trivial)) (by decide) hg)
   have HUT_2 := Aside0.mk (blk_grown HUT_1.out hg (Kd.R_ne (R_zero (d := k67) (ok := fun _ => True) HL_1.out HLg_1.out trivial) HUT_1.out (by decide)))
   have HD_2 := Aside0.mk ho
   clear ho hb hg hat
   clear HB_1 HU_1 HV_1 HUT_1 HL_1 HLg_1
   skip
   refine takeC 10 rfl (by kernel_rfl) (by rfl) (fun K hK => ?_)
   refine stepApps (ops := #[]) k67 (w0 := W4) W4.heap.size (by rfl) (.tmp 43) (.tmp 47) 23 67 (.agg #[(.string ⟨#[]⟩), (.string ⟨#[]⟩), (.int .i64 0)]) 40 rfl Tryd.underlying23 info67 rfl (by decide) (by omega) vD ([] ++ (madeZ N).drop k) ((madeZ N).take k) (some ⟨gv, 0, none⟩) k _ rfl rfl HD_2.out (HTK.out X2 HV_2.out) (fun _ _ h => h) HB_2.out HB_2.out.size (by simp only [List.nil_append, List.length_nil, List.length_drop, Nat.zero_add]; omega) ?_
   intro vE X3 ho hb hg hat
   refine hK.out _ _ ?_ (fun hHeld => ?_)
   ·exact trivial
   clear hK K
   try simp only [Act.put, sl1, sl2, sl3]
   have HB_3 := Aside0.mk hb
   have HV_3 := Aside0.mk (Kd.R_after HV_2.out hg hat)
   have HU_3 := Aside0.mk (Kd.R_over' HU_2.out (Kd.R_typed HD_2.out) (by decide) hg)
   have HUT_3 := Aside0.mk (blk_grown HUT_2.out hg (Kd.R_ne HD_2.out HUT_2.out (by decide)))
   have HE_3 := Aside0.mk ho
   clear ho hb hg hat
   clear HB_2 HU_2 HV_2 HUT_2 HD_2
   skip
   clear hHeld
   revert HE_3
   revert HV_3
   revert HUT_3
   revert HU_3
   revert HB_3
   revert zb
   revert vD
   revert vE
   revert X3
   exact hrest.out
 ·have u1 : X0.cell? ⟨ut, 1, none⟩ = some (.slice (some ⟨gv, 0, none⟩) (madeZ N).length cV) := (blk_cell HUT_0.out 1).trans rfl
  go_simp
  skip
  (try go_wp2_with fail)
  refine hK.out _ _ ?_ (fun hHeld => ?_)
  ·exact trivial
  clear hK K
  try simp only [Act.put, sl1, sl2, sl3]
  refine takeT 9 ?_ rfl (by kernel_rfl) (by kernel_rfl) (by kernel_rfl) (fun _ _ _ h => h) (by rfl) ?_ (by assumption) ?_
  rotate_left
  ·(intro w hSw; (try dsimp only at hSw); go_simp; (try with_reducible rfl))
  try simp only [Act.put, sl1, sl2, sl3]
  (try clear u1)
  refine takeC2 0 2 rfl rfl (by kernel_rfl) (by rfl) (by rfl) (fun K hK => ?_) (fun K hK => ?_)
  ·go_simp
   (try go_wp2_with fail)
   refine hK.out _ _ ?_ (fun hHeld => ?_)
   ·exact trivial
   clear hK K
   try simp only [Act.put, sl1, sl2, sl3]
   have hb := below_alloc (Below.refl X0.heap.size X0) (.cells #[] 67 (0, 0))
   have hnew := heap_alloc_new X0 (.cells #[] 67 (0, 0))
   have HV_1 := Aside0.mk (Kd.R_below (Kd.R_mono (ok' := fun k_ => True ∧ some k_ ≠ (Value.slice (some ⟨X0.heap.size, 0, none⟩) 0 0).ownBlock) (Kd.R_bound HV_0.out) (fun k_ hk_ => ⟨trivial, fun e_ => by have := hk_.2.2.1; simp [Value.ownBlock] at e_; omega⟩)) hb)
   have HB_1 := Aside0.mk (HB_0.out.trans (hb.mono HB_0.out.size))
   have HU_1 := Aside0.mk (Kd.R_below HU_0.out hb)
   have HUT_1 := Aside0.mk (blk_below HUT_0.out hb)
   have HL_1 := Aside0.mk hnew
   have HLg_1 : Aside0 (W4.heap.size ≤ X0.heap.size) := ⟨HB_0.out.size⟩
   clear hb hnew
   generalize X0.alloc (.cells #[] 67 (0, 0)) = X1 at *
   generalize X0.heap.size = zb at *
   refine takeC 2 rfl (by kernel_rfl) (by rfl) (fun K hK => ?_)
   have u1 : X1.cell? ⟨ut, 1, none⟩ = some (.slice (some ⟨gv, 0, none⟩) (madeZ N).length cV) := (blk_cell HUT_1.out 1).trans rfl
   go_simp
   skip
   (try go_wp2_with fail)
   refine hK.out _ _ ?_ (fun hHeld => ?_)
   ·exact trivial
   clear hK K
   try simp only [Act.put, sl1, sl2, sl3]
   refine takeT 4 ?_ rfl (by kernel_rfl) (by kernel_rfl) (by kernel_rfl) (fun _ _ _ h => h) (by rfl) ?_ (by assumption) ?_
   rotate_left
   ·(intro w hSw; (try dsimp only at hSw); go_simp; (try with_reducible rfl))
   try simp only [Act.put, sl1, sl2, sl3]
   (try clear u1)
   refine takeC 5 rfl (by kernel_rfl) (by rfl) (fun K hK => ?_)
   refine stepApps (ops := #[]) k67 (w0 := W4) W4.heap.size (by rfl) (.tmp 38) (.tmp 42) 23 67 (.agg #[(.string ⟨#[]⟩), (.string ⟨#[]⟩), (.int .i64 0)]) 40 rfl Tryd.underlying23 info67 rfl (by decide) (by omega) (Value.slice (some ⟨zb, 0, none⟩) 0 0) [] ((madeZ N).drop k) (some ⟨gv, k * 3, none⟩) ((madeZ N).length - k) _ rfl rfl (R_zero (d := k67) (ok := fun _ => True) HL_1.out HLg_1.out trivial) (HDR.out X1 HV_1.out) (fun _ _ h => h) HB_1.out HB_1.out.size (by simp only [List.nil_append, List.length_nil, List.length_drop, Nat.zero_add]; omega) ?_
   intro vD X2 ho hb hg hat
   refine hK.out _ _ ?_ (fun hHeld => ?_)
   ·exact trivial
   clear hK K
   try simp only [Act.put, sl1, sl2, sl3]
   have HB_2 := Aside0.mk hb
   have HV_2 := Aside0.mk (Kd.R_after HV_1.out hg hat)
   have HU_2 := Aside0.mk (Kd.R_over' HU_1.out (Kd.R_typed (R_zero (d := k67) (ok := fun _ => True) HL_1.out HLg_1.out trivial)) (by decide) hg)
   have HUT_2 := Aside0.mk (blk_grown HUT_1.out hg (Kd.R_ne (R_zero (d := k67) (ok := fun _ => True) HL_1.out HLg_1.out trivial) HUT_1.out (by decide)))
   have HD_2 := Aside0.mk ho
   clear ho hb hg hat
   clear HB_1 HU_1 HV_1 HUT_1 HL_1 HLg_1
   skip
   refine takeC 10 rfl (by kernel_rfl) (by rfl) (fun K hK => ?_)
   refine stepApps (ops := #[]) k67 (w0 := W4) W4.heap.size (by rfl) (.tmp 43) (.tmp 47) 23 67 (.agg #[(.string ⟨#[]⟩), (.string ⟨#[]⟩), (.int .i64 0)]) 40 rfl Tryd.underlying23 info67 rfl (by decide) (by omega) vD ([] ++ (madeZ N).drop k) ((madeZ N).take k) (some ⟨gv, 0, none⟩) k _ rfl rfl HD_2.out (HTK.out X2 HV_2.out) (fun _ _ h => h) HB_2.out HB_2.out.size (by simp only [List.nil_append, List.length_nil, List.length_drop, Nat.zero_add]; omega) ?_
   intro vE X3 ho hb hg hat
   refine hK.out _ _ ?_ (fun hHeld => ?_)
   ·exact trivial
   clear hK K
   try simp only [Act.put, sl1, sl2, sl3]
   have HB_3 := Aside0.mk hb
   have HV_3 := Aside0.mk (Kd.R_after HV_2.out hg hat)
   have HU_3 := Aside0.mk (Kd.R_over' HU_2.out (Kd.R_typed HD_2.out) (by decide) hg)
   have HUT_3 := Aside0.mk (blk_grown HUT_2.out hg (Kd.R_ne HD_2.out HUT_2.out (by decide)))
   have HE_3 := Aside0.mk ho
   clear ho hb hg hat
   clear HB_2 HU_2 HV_2 HUT_2 HD_2
   skip
   clear hHeld
   revert HE_3
   revert HV_3
   revert HUT_3
   revert HU_3
   revert HB_3
   revert zb
   revert vD
   revert vE
   revert X3
   exact hrest.out
  ·have u1 : X0.cell? ⟨ut, 1, none⟩ = some (.slice (some ⟨gv, 0, none⟩) (madeZ N).length cV) := (blk_cell HUT_0.out 1).trans rfl
   go_simp
   skip
   (try go_wp2_with fail)
   refine hK.out _ _ ?_ (fun hHeld => ?_)
   ·exact trivial
   clear hK K
   try simp only [Act.put, sl1, sl2, sl3]
   refine takeT 4 ?_ rfl (by kernel_rfl) (by kernel_rfl) (by kernel_rfl) (fun _ _ _ h => h) (by rfl) ?_ (by assumption) ?_
   rotate_left
   ·(intro w hSw; (try dsimp only at hSw); go_simp; (try with_reducible rfl))
   try simp only [Act.put, sl1, sl2, sl3]
   (try clear u1)
   refine takeC 0 rfl (by kernel_rfl) (by rfl) (fun K hK => ?_)
   go_simp
   (try go_wp2_with fail)
   refine hK.out _ _ ?_ (fun hHeld => ?_)
   ·exact trivial
   clear hK K
   try simp only [Act.put, sl1, sl2, sl3]
   have hb := below_alloc (Below.refl X0.heap.size X0) (.cells #[] 67 (0, 0))
   have hnew := heap_alloc_new X0 (.cells #[] 67 (0, 0))
   have HV_1 := Aside0.mk (Kd.R_below (Kd.R_mono (ok' := fun k_ => True ∧ some k_ ≠ (Value.slice (some ⟨X0.heap.size, 0, none⟩) 0 0).ownBlock) (Kd.R_bound HV_0.out) (fun k_ hk_ => ⟨trivial, fun e_ => by have := hk_.2.2.1; simp [Value.ownBlock] at e_; omega⟩)) hb)
   have HB_1 := Aside0.mk (HB_0.out.trans (hb.mono HB_0.out.size))
   have HU_1 := Aside0.mk (Kd.R_below HU_0.out hb)
   have HUT_1 := Aside0.mk (blk_below HUT_0.out hb)
   have HL_1 := Aside0.mk hnew
   have HLg_1 : Aside0 (W4.heap.size ≤ X0.heap.size) := ⟨HB_0.out.size⟩
   clear hb hnew
   generalize X0.alloc (.cells #[] 67 (0, 0)) = X1 at *
   generalize X0.heap.size = zb at *
   refine takeC 5 rfl (by kernel_rfl) (by rfl) (fun K hK => ?_)
   refine stepApps (ops := #[]) k67 (w0 := W4) W4.heap.size (by rfl) (.tmp 38) (.tmp 42) 23 67 (.agg #[(.string ⟨#[]⟩), (.string ⟨#[]⟩), (.int .i64 0)]) 40 rfl Tryd.underlying23 info67 rfl (by decide) (by omega) (Value.slice (some ⟨zb, 0, none⟩) 0 0) [] ((madeZ N).drop k) (some ⟨gv, k * 3, none⟩) ((madeZ N).length - k) _ rfl rfl (R_zero (d := k67) (ok := fun _ => True) HL_1.out HLg_1.out trivial) (HDR.out X1 HV_1.out) (fun _ _ h => h) HB_1.out HB_1.out.size (by simp only [List.nil_append, List.length_nil, List.length_drop, Nat.zero_add]; omega) ?_
   intro vD X2 ho hb hg hat
   refine hK.out _ _ ?_ (fun hHeld => ?_)
   ·exact trivial
   clear hK K
   try simp only [Act.put, sl1, sl2, sl3]
   have HB_2 := Aside0.mk hb
   have HV_2 := Aside0.mk (Kd.R_after HV_1.out hg hat)
   have HU_2 := Aside0.mk (Kd.R_over' HU_1.out (Kd.R_typed (R_zero (d := k67) (ok := fun _ => True) HL_1.out HLg_1.out trivial)) (by decide) hg)
   have HUT_2 := Aside0.mk (blk_grown HUT_1.out hg (Kd.R_ne (R_zero (d := k67) (ok := fun _ => True) HL_1.out HLg_1.out trivial) HUT_1.out (by decide)))
   have HD_2 := Aside0.mk ho
   clear ho hb hg hat
   clear HB_1 HU_1 HV_1 HUT_1 HL_1 HLg_1
   skip
   refine takeC 10 rfl (by kernel_rfl) (by rfl) (fun K hK => ?_)
   refine stepApps (ops := #[]) k67 (w0 := W4) W4.heap.size (by rfl) (.tmp 43) (.tmp 47) 23 67 (.agg #[(.string ⟨#[]⟩), (.string ⟨#[]⟩), (.int .i64 0)]) 40 rfl Tryd.underlying23 info67 rfl (by decide) (by omega) vD ([] ++ (madeZ N).drop k) ((madeZ N).take k) (some ⟨gv, 0, none⟩) k _ rfl rfl HD_2.out (HTK.out X2 HV_2.out) (fun _ _ h => h) HB_2.out HB_2.out.size (by simp only [List.nil_append, List.length_nil, List.length_drop, Nat.zero_add]; omega) ?_
   intro vE X3 ho hb hg hat
   refine hK.out _ _ ?_ (fun hHeld => ?_)
   ·exact trivial
   clear hK K
   try simp only [Act.put, sl1, sl2, sl3]
   have HB_3 := Aside0.mk hb
   have HV_3 := Aside0.mk (Kd.R_after HV_2.out hg hat)
   have HU_3 := Aside0.mk (Kd.R_over' HU_2.out (Kd.R_typed HD_2.out) (by decide) hg)
   have HUT_3 := Aside0.mk (blk_grown HUT_2.out hg (Kd.R_ne HD_2.out HUT_2.out (by decide)))
   have HE_3 := Aside0.mk ho
   clear ho hb hg hat
   clear HB_2 HU_2 HV_2 HUT_2 HD_2
   skip
   clear hHeld
   revert HE_3
   revert HV_3
   revert HUT_3
   revert HU_3
   revert HB_3
   revert zb
   revert vD
   revert vE
   revert X3
   exact hrest.out
 intro X1 vE vD zb HB1 HU1 HUT1 HV1 HE1
 clear HV1 HB_0 HU_0 HV_0 HUT_0
 rw [List.nil_append] at HE1
 have hZp := turn_perm (madeZ N) k
 generalize hZ2 : ((madeZ N).drop k ++ (madeZ N).take k) = Z2 at *
 obtain ⟨AE, cE, rfl, -, -⟩ := Kd.R_reads HE1.out
 have HZP := Aside0.mk hZp
 clear hZp hZ2
 have u1 : X1.cell? ⟨ut, 1, none⟩ = some (.slice (some ⟨gv, 0, none⟩) (madeZ N).length cV) := (blk_cell HUT1.out 1).trans rfl
 have f1 := blk_frozen HUT1.out 1
 have hSw : (fun _ : World => True) X1 := trivial
 refine takeT 11 ?_ rfl (by kernel_rfl) (by kernel_rfl) (by kernel_rfl) (fun _ _ _ h => h) (by rfl) ?_ (by assumption) ?_
 rotate_left
 ·(intro w hSw; (try dsimp only at hSw); go_simp; (try with_reducible rfl))
 try simp only [Act.put, sl1, sl2, sl3]
 refine takeC 12 rfl (by kernel_rfl) (by rfl) (fun K hK => ?_)
 go_simp
 (try go_wp2_with fail)
 refine hK.out _ _ ?_ (fun hHeld => ?_)
 ·exact trivial
 clear hK K
 try simp only [Act.put, sl1, sl2, sl3]
 clear hSw
 have hfar : ∀ q, q ≠ ut → (X1.setCell ⟨ut, 1, none⟩ (.slice AE Z2.length cE)).heap[q]? = X1.heap[q]? := fun q hq => Below.heap_setCell _ ⟨ut, 1, none⟩ _ _ hq
 have HU2 := Aside0.mk (R_but HU1.out HUT1.out (by decide) hfar)
 have HE2 := Aside0.mk (R_but HE1.out HUT1.out (by decide) hfar)
 have HB2 := Aside0.mk (HB1.out.setCell (p := ⟨ut, 1, none⟩) HUg.out (.slice AE Z2.length cE))
 have HUT2 := Aside0.mk (blk_put (cs' := #[.slice AU (madeR N l).length cU, .slice AE Z2.length cE]) HUT1.out 1 (.slice AE Z2.length cE) rfl)
 clear hfar u1 f1 HB1 HU1 HE1 HUT1 hHeld
 generalize X1.setCell ⟨ut, 1, none⟩ (.slice AE Z2.length cE) = X2 at *
 refine wpAnyH_done (by kernel_rfl) ?_ _
 have hbit := u8_and1 (by_ : Int) (by omega) (by omega)
 go_upto_if 52 with fail
 go_cut [] (fun wx => ∃ (AF : Option Addr) (cF : Nat) (Zr : List Zn), Aside0 (Zr.Perm (madeZ N)) ∧ Aside0 (Below W4.heap.size W4 wx) ∧ Aside0 (Kd.R k57 57 wx W4.heap.size (fun _ => True) (.slice AU (madeR N l).length cU) (madeR N l).reverse) ∧ Aside0 (wx.heap[ut]? = some (.cells #[.slice AU (madeR N l).length cU, .slice AF Zr.length cF] 25 (0, 0))) ∧ Aside0 (Kd.R k67 67 wx W4.heap.size (fun _ => True) (.slice AF Zr.length cF) Zr))
 case first =>
  by_cases hodd : by_ % 2 = 1
  ·have hbit2 : (by_ : Int) % 2 = 1 := by omega
   simp only [hbit2]
   rw [show decide ((0 : Int) < 1) = true from rfl]
   clear hbit hbit2
   have u1 : X2.cell? ⟨ut, 1, none⟩ = some (.slice AE Z2.length cE) := (blk_cell HUT2.out 1).trans rfl
   go_wp2_with fail
   clear u1
   refine (revZones.calls W4.heap.size (fun _ => True) (.slice AE Z2.length cE) Z2 X2 HE2.out).mono ?_
   rintro e X3 ⟨rfl, hR2, hb, ho⟩
   have HF1 := Aside0.mk (R_only HU2.out HE2.out (by decide) ho)
   have HF2 := Aside0.mk (blk_only HUT2.out HE2.out (by decide) ho)
   have HF3 := Aside0.mk (HB2.out.trans hb)
   have HF4 := Aside0.mk hR2
   clear hR2 hb ho
   go_wp2_with fail
   go_meet
   refine ⟨AE, cE, Z2.reverse, ⟨(List.reverse_perm Z2).trans HZP.out⟩, HF3, HF1, ?_, ?_⟩
   ·rw [List.length_reverse]
    exact HF2
   ·rw [List.length_reverse]
    exact HF4
  ·have hbit2 : (by_ : Int) % 2 = 0 := by omega
   simp only [hbit2]
   rw [show decide ((0 : Int) < 0) = false from rfl]
   clear hbit hbit2
   go_wp2_with fail
   go_meet
   exact ⟨AE, cE, Z2, HZP, HB2, HU2, HUT2, HE2⟩
 case rest =>
  obtain ⟨AF, cF, Zr, HZR, HBr, HUr, HUTr, HVr⟩ := hcut
  clear HB2 HU2 HUT2 HE2 HZP hbit
  rename World => Y0
  by_cases hcc : ci < mdC N
  ·have t0 : Y0.cell? ⟨tb, 0, none⟩ = some (.slice AR (madeR N l).length cR) := (blk_cell (blk_below HTB.out HBr.out) 0).trans rfl
   have t1 : Y0.cell? ⟨tb, 1, none⟩ = some (.slice AZ (madeZ N).length cZ) := (blk_cell (blk_below HTB.out HBr.out) 1).trans rfl
   have m0 : Y0.cell? ⟨mb, 0, none⟩ = some (.int .u8 ((ci : Int) + 1)) := (blk_cell (blk_below HMB.out HBr.out) 0).trans rfl
   have m1 : Y0.cell? ⟨mb, 1, none⟩ = some (.int .u8 1) := (blk_cell (blk_below HMB.out HBr.out) 1).trans rfl
   have m2 : Y0.cell? ⟨mb, 2, none⟩ = some (.string exFrom) := (blk_cell (blk_below HMB.out HBr.out) 2).trans rfl
   have m3 : Y0.cell? ⟨mb, 3, none⟩ = some (.slice AM (mlPieces ml (mlN ml)).length cM) := (blk_cell (blk_below HMB.out HBr.out) 3).trans rfl
   have u0 : Y0.cell? ⟨ut, 0, none⟩ = some (.slice AU (madeR N l).length cU) := (blk_cell HUTr.out 0).trans rfl
   have u1 : Y0.cell? ⟨ut, 1, none⟩ = some (.slice AF Zr.length cF) := (blk_cell HUTr.out 1).trans rfl
   go_wp2_with fail
   clear t0 t1 m0 m1 m2 m3 u0 u1
   refine (tariff_Bases.calls 3000 AR cR (madeR N l) AZ cZ (madeZ N) ((ci : Int) + 1) 1 exFrom AM cM (mlPieces ml (mlN ml)) ((mlPieces ml (mlN ml)).map (mdBase l N ci)) 0 Y0 (Kd.R_reads' (Kd.R_below HR.out HBr.out)).2.2 LR.out (Kd.R_reads' (Kd.R_below HZ.out HBr.out)).2.2 LZ.out (Kd.R_reads' (Kd.R_below HM.out HBr.out)).2.2 LM.out (bases_made N hf ci hcc hml 3000 (by omega))).mono ?_
   rintro e Y1 ⟨v, rfl, hn, hb⟩
   have HA := Aside0.mk hn
   obtain ⟨AA, cA, rfl, lA, -⟩ := Kd.R_reads hn
   replace HUTr := Aside0.mk (blk_below HUTr.out hb)
   replace HVr := Aside0.mk (Kd.R_below HVr.out hb)
   replace HUr := Aside0.mk (Kd.R_below HUr.out hb)
   replace HBr := Aside0.mk (HBr.out.trans (hb.mono HBr.out.size))
   clear hn hb
   have t0 : Y1.cell? ⟨tb, 0, none⟩ = some (.slice AR (madeR N l).length cR) := (blk_cell (blk_below HTB.out HBr.out) 0).trans rfl
   have t1 : Y1.cell? ⟨tb, 1, none⟩ = some (.slice AZ (madeZ N).length cZ) := (blk_cell (blk_below HTB.out HBr.out) 1).trans rfl
   have m0 : Y1.cell? ⟨mb, 0, none⟩ = some (.int .u8 ((ci : Int) + 1)) := (blk_cell (blk_below HMB.out HBr.out) 0).trans rfl
   have m1 : Y1.cell? ⟨mb, 1, none⟩ = some (.int .u8 1) := (blk_cell (blk_below HMB.out HBr.out) 1).trans rfl
   have m2 : Y1.cell? ⟨mb, 2, none⟩ = some (.string exFrom) := (blk_cell (blk_below HMB.out HBr.out) 2).trans rfl
   have m3 : Y1.cell? ⟨mb, 3, none⟩ = some (.slice AM (mlPieces ml (mlN ml)).length cM) := (blk_cell (blk_below HMB.out HBr.out) 3).trans rfl
   have u0 : Y1.cell? ⟨ut, 0, none⟩ = some (.slice AU (madeR N l).length cU) := (blk_cell HUTr.out 0).trans rfl
   have u1 : Y1.cell? ⟨ut, 1, none⟩ = some (.slice AF Zr.length cF) := (blk_cell HUTr.out 1).trans rfl
   go_wp2_with fail
   clear t0 t1 m0 m1 m2 m3 u0 u1
   have hcon := tariff_Bases.calls 3000 AU cU (madeR N l).reverse AF cF Zr ((ci : Int) + 1) 1 exFrom AM cM (mlPieces ml (mlN ml)) ((mlPieces ml (mlN ml)).map (mdBase l N ci)) 0 Y1 (Kd.R_reads' HUr.out).2.2 (by rw [List.length_reverse]; exact LU.out) (Kd.R_reads' HVr.out).2.2 (Kd.R_reads' HVr.out).2.1 (Kd.R_reads' (Kd.R_below HM.out HBr.out)).2.2 LM.out (bases_order N hf HZR.out ci hcc hml 3000 (by omega))
   rw [List.length_reverse] at hcon
   refine hcon.mono ?_
   rintro e Y2 ⟨v, rfl, hn, hb⟩
   have HC := Aside0.mk hn
   obtain ⟨AC, cC, rfl, lC, -⟩ := Kd.R_reads hn
   replace HA := Aside0.mk (Kd.R_below HA.out hb)
   replace HUTr := Aside0.mk (blk_below HUTr.out hb)
   replace HVr := Aside0.mk (Kd.R_below HVr.out hb)
   replace HUr := Aside0.mk (Kd.R_below HUr.out hb)
   replace HBr := Aside0.mk (HBr.out.trans (hb.mono HBr.out.size))
   clear hn hb hcon
   have t0 : Y2.cell? ⟨tb, 0, none⟩ = some (.slice AR (madeR N l).length cR) := (blk_cell (blk_below HTB.out HBr.out) 0).trans rfl
   have t1 : Y2.cell? ⟨tb, 1, none⟩ = some (.slice AZ (madeZ N).length cZ) := (blk_cell (blk_below HTB.out HBr.out) 1).trans rfl
   have m0 : Y2.cell? ⟨mb, 0, none⟩ = some (.int .u8 ((ci : Int) + 1)) := (blk_cell (blk_below HMB.out HBr.out) 0).trans rfl
   have m1 : Y2.cell? ⟨mb, 1, none⟩ = some (.int .u8 1) := (blk_cell (blk_below HMB.out HBr.out) 1).trans rfl
   have m2 : Y2.cell? ⟨mb, 2, none⟩ = some (.string exFrom) := (blk_cell (blk_below HMB.out HBr.out) 2).trans rfl
   have m3 : Y2.cell? ⟨mb, 3, none⟩ = some (.slice AM (mlPieces ml (mlN ml)).length cM) := (blk_cell (blk_below HMB.out HBr.out) 3).trans rfl
   have u0 : Y2.cell? ⟨ut, 0, none⟩ = some (.slice AU (madeR N l).length cU) := (blk_cell HUTr.out 0).trans rfl
   have u1 : Y2.cell? ⟨ut, 1, none⟩ = some (.slice AF Zr.length cF) := (blk_cell HUTr.out 1).trans rfl
   have hcls : ¬ ((ci : Int) + 1 > ((madeR N l).length : Int)) := by rw [madeR_length]; omega
   have hcls2 : ¬ ((madeR N l).length : Int) < (ci : Int) + 1 := by rw [madeR_length]; omega
   go_wp2_with fail
   clear t0 t1 m0 m1 m2 m3 u0 u1
   have hl1 := mlPieces_len ml (mlN ml)
   have hcon := letterbagkit_SameInts.calls 3000 AA cA ((mlPieces ml (mlN ml)).map (mdBase l N ci)) AC cC ((mlPieces ml (mlN ml)).map (mdBase l N ci)) true Y2 (Kd.R_reads' HA.out).2.2 lA (Kd.R_reads' HC.out).2.2 lC (same_refl _ (by rw [List.length_map, hl1]; omega) 3000 (by rw [List.length_map, hl1]; omega))
   simp only [List.length_map] at hcon
   have HCON := Aside0.mk hcon
   clear hcon lA lC hl1
   refine HCON.out.mono ?_
   rintro e Y3 ⟨rfl, hdA⟩
   have HBe := Aside0.mk (HB.out.trans ((HBr.out.trans (hdA.below.mono HBr.out.size)).mono HB.out.size))
   clear hdA HCON
   go_wp2_with fail
   go_ret
   exact ⟨rfl, HBe.out⟩
  ·have t0 : Y0.cell? ⟨tb, 0, none⟩ = some (.slice AR (madeR N l).length cR) := (blk_cell (blk_below HTB.out HBr.out) 0).trans rfl
   have t1 : Y0.cell? ⟨tb, 1, none⟩ = some (.slice AZ (madeZ N).length cZ) := (blk_cell (blk_below HTB.out HBr.out) 1).trans rfl
   have m0 : Y0.cell? ⟨mb, 0, none⟩ = some (.int .u8 ((ci : Int) + 1)) := (blk_cell (blk_below HMB.out HBr.out) 0).trans rfl
   have m1 : Y0.cell? ⟨mb, 1, none⟩ = some (.int .u8 1) := (blk_cell (blk_below HMB.out HBr.out) 1).trans rfl
   have m2 : Y0.cell? ⟨mb, 2, none⟩ = some (.string exFrom) := (blk_cell (blk_below HMB.out HBr.out) 2).trans rfl
   have m3 : Y0.cell? ⟨mb, 3, none⟩ = some (.slice AM (mlPieces ml (mlN ml)).length cM) := (blk_cell (blk_below HMB.out HBr.out) 3).trans rfl
   have u0 : Y0.cell? ⟨ut, 0, none⟩ = some (.slice AU (madeR N l).length cU) := (blk_cell HUTr.out 0).trans rfl
   have u1 : Y0.cell? ⟨ut, 1, none⟩ = some (.slice AF Zr.length cF) := (blk_cell HUTr.out 1).trans rfl
   go_wp2_with fail
   clear t0 t1 m0 m1 m2 m3 u0 u1
   refine (tariff_Bases.calls 3000 AR cR (madeR N l) AZ cZ (madeZ N) ((ci : Int) + 1) 1 exFrom AM cM (mlPieces ml (mlN ml)) [] 6 Y0 (Kd.R_reads' (Kd.R_below HR.out HBr.out)).2.2 LR.out (Kd.R_reads' (Kd.R_below HZ.out HBr.out)).2.2 LZ.out (Kd.R_reads' (Kd.R_below HM.out HBr.out)).2.2 LM.out (bases_over N hf _ (by omega) hml 3000 (by omega))).mono ?_
   rintro e Y1 ⟨v, rfl, hn, hb⟩
   have HA := Aside0.mk hn
   obtain ⟨AA, cA, rfl, lA, -⟩ := Kd.R_reads hn
   replace HUTr := Aside0.mk (blk_below HUTr.out hb)
   replace HVr := Aside0.mk (Kd.R_below HVr.out hb)
   replace HUr := Aside0.mk (Kd.R_below HUr.out hb)
   replace HBr := Aside0.mk (HBr.out.trans (hb.mono HBr.out.size))
   clear hn hb
   have t0 : Y1.cell? ⟨tb, 0, none⟩ = some (.slice AR (madeR N l).length cR) := (blk_cell (blk_below HTB.out HBr.out) 0).trans rfl
   have t1 : Y1.cell? ⟨tb, 1, none⟩ = some (.slice AZ (madeZ N).length cZ) := (blk_cell (blk_below HTB.out HBr.out) 1).trans rfl
   have m0 : Y1.cell? ⟨mb, 0, none⟩ = some (.int .u8 ((ci : Int) + 1)) := (blk_cell (blk_below HMB.out HBr.out) 0).trans rfl
   have m1 : Y1.cell? ⟨mb, 1, none⟩ = some (.int .u8 1) := (blk_cell (blk_below HMB.out HBr.out) 1).trans rfl
   have m2 : Y1.cell? ⟨mb, 2, none⟩ = some (.string exFrom) := (blk_cell (blk_below HMB.out HBr.out) 2).trans rfl
   have m3 : Y1.cell? ⟨mb, 3, none⟩ = some (.slice AM (mlPieces ml (mlN ml)).length cM) := (blk_cell (blk_below HMB.out HBr.out) 3).trans rfl
   have u0 : Y1.cell? ⟨ut, 0, none⟩ = some (.slice AU (madeR N l).length cU) := (blk_cell HUTr.out 0).trans rfl
   have u1 : Y1.cell? ⟨ut, 1, none⟩ = some (.slice AF Zr.length cF) := (blk_cell HUTr.out 1).trans rfl
   go_wp2_with fail
   clear t0 t1 m0 m1 m2 m3 u0 u1
   have hcon := tariff_Bases.calls 3000 AU cU (madeR N l).reverse AF cF Zr ((ci : Int) + 1) 1 exFrom AM cM (mlPieces ml (mlN ml)) [] 6 Y1 (Kd.R_reads' HUr.out).2.2 (by rw [List.length_reverse]; exact LU.out) (Kd.R_reads' HVr.out).2.2 (Kd.R_reads' HVr.out).2.1 (Kd.R_reads' (Kd.R_below HM.out HBr.out)).2.2 LM.out (bases_over_rev N hf HZR.out _ (by omega) hml 3000 (by omega))
   rw [List.length_reverse] at hcon
   refine hcon.mono ?_
   rintro e Y2 ⟨v, rfl, hn, hb⟩
   have HC := Aside0.mk hn
   obtain ⟨AC, cC, rfl, lC, -⟩ := Kd.R_reads hn
   replace HA := Aside0.mk (Kd.R_below HA.out hb)
   replace HUTr := Aside0.mk (blk_below HUTr.out hb)
   replace HVr := Aside0.mk (Kd.R_below HVr.out hb)
   replace HUr := Aside0.mk (Kd.R_below HUr.out hb)
   replace HBr := Aside0.mk (HBr.out.trans (hb.mono HBr.out.size))
   clear hn hb hcon
   have t0 : Y2.cell? ⟨tb, 0, none⟩ = some (.slice AR (madeR N l).length cR) := (blk_cell (blk_below HTB.out HBr.out) 0).trans rfl
   have t1 : Y2.cell? ⟨tb, 1, none⟩ = some (.slice AZ (madeZ N).length cZ) := (blk_cell (blk_below HTB.out HBr.out) 1).trans rfl
   have m0 : Y2.cell? ⟨mb, 0, none⟩ = some (.int .u8 ((ci : Int) + 1)) := (blk_cell (blk_below HMB.out HBr.out) 0).trans rfl
   have m1 : Y2.cell? ⟨mb, 1, none⟩ = some (.int .u8 1) := (blk_cell (blk_below HMB.out HBr.out) 1).trans rfl
   have m2 : Y2.cell? ⟨mb, 2, none⟩ = some (.string exFrom) := (blk_cell (blk_below HMB.out HBr.out) 2).trans rfl
   have m3 : Y2.cell? ⟨mb, 3, none⟩ = some (.slice AM (mlPieces ml (mlN ml)).length cM) := (blk_cell (blk_below HMB.out HBr.out) 3).trans rfl
   have u0 : Y2.cell? ⟨ut, 0, none⟩ = some (.slice AU (madeR N l).length cU) := (blk_cell HUTr.out 0).trans rfl
   have u1 : Y2.cell? ⟨ut, 1, none⟩ = some (.slice AF Zr.length cF) := (blk_cell HUTr.out 1).trans rfl
   have hcls : ((madeR N l).length : Int) < (ci : Int) + 1 := by rw [madeR_length]; omega
   have hcls2 : (ci : Int) + 1 > ((madeR N l).length : Int) := hcls
   go_wp2_with fail
   go_ret
   exact ⟨rfl, HB.out.trans (HBr.out.mono HB.out.size)⟩
end Go.Proofs.YtfglcfbcdhjcdaaDoor.Q

namespace Go.Proofs.YtfglcfbcdhjcdaaDoor.Q
open Go.RowKit Go.Proofs.YtfglcfbcdhjcdaaDoorW.PrintWords Go.Proofs.YtfglcfbcdhjcdaaDoorW.PrintLast Go.Proofs.YtfglcfbcdhjcdaaDoorW.PrintMore
theorem wf_u8 {x : Int} (h : (Lit.int .u8 x).wf = true) : 0 ≤ x ∧ x ≤ 255 := by
 simp [Lit.wf, IntKind.min, IntKind.max, IntKind.bits, IntKind.signed] at h
 omega
theorem wf_u32 {x : Int} (h : (Lit.int .u32 x).wf = true) : 0 ≤ x ∧ x < 4294967296 := by
 simp [Lit.wf, IntKind.min, IntKind.max, IntKind.bits, IntKind.signed] at h
 omega
theorem fits_wf {l : List Int} (h : ∀ x ∈ l, (Lit.int .u8 x).wf = true) : mdFits l = true := by
 unfold mdFits
 rw [List.all_eq_true]
 intro x hx
 have := wf_u8 (h x hx)
 simp only [Bool.and_eq_true, decide_eq_true_eq]
 exact this
theorem wf_u16 {x : Int} (h : (Lit.int .u16 x).wf = true) : 0 ≤ x ∧ x ≤ 65535 := by
 simp [Lit.wf, IntKind.min, IntKind.max, IntKind.bits, IntKind.signed] at h
 omega
theorem mlfits_wf {l : List Int} (h : ∀ x ∈ l, (Lit.int .u16 x).wf = true) : mlFits l = true := by
 unfold mlFits
 rw [List.all_eq_true]
 intro x hx
 have := wf_u16 (h x hx)
 simp only [Bool.and_eq_true, decide_eq_true_eq]
 exact this
def IsRow0 (k : IntKind) (w : World) (a : Option Addr) (len cap : Nat) (zs : List Int) : Prop :=
 (a = none ∧ len = 0 ∧ cap = 0 ∧ zs = []) ∨
 ∃ x, a = some x ∧ len ≤ cap ∧ cap ≤ maxLen ∧ zs.length = cap ∧ (∀ i, i < zs.length → w.cell? (x.add i) = some (.int k (zs.getD i 0))) ∧ ∀ n ∈ zs, (Lit.int k n).wf = true
theorem tariffOrder.walk (w : World) (n : Int) (hn : (Lit.int .u32 n).wf = true) (a2 : Option Addr) (len2 cap2 : Nat) (z2 : List Int) (w2 : IsRow0 .u8 w a2 len2 cap2 z2) (cl : Int) (hcl : (Lit.int .u8 cl).wf = true) (a6 : Option Addr) (len6 cap6 : Nat) (z6 : List Int) (w6 : IsRow0 .u16 w a6 len6 cap6 z6) (by_ : Int) (hby : (Lit.int .u8 by_).wf = true) :
  Calls Tryd.prog 9 #[.int .u32 n, .slice a2 len2 cap2, .int .u8 cl, .slice a6 len6 cap6, .int .u8 by_] w fun e w' => e = .returned (.bool true) ∧ Below w.heap.size w w' := by
 obtain ⟨l2, rfl, hr2, hm2, hw2, hc2⟩ := ReadsInt.ofRowC w2
 obtain ⟨l6, rfl, hr6, hm6, hw6, hc6⟩ := ReadsInt.ofRowC w6
 have h := wf_u32 hn
 have h2 := wf_u8 hby
 have h3 := wf_u8 hcl
 have hN : (n.toNat : Int) = n := by omega
 have hS : (by_.toNat : Int) = by_ := by omega
 have hC : (cl.toNat : Int) = cl := by omega
 have hh := order.calls0 n.toNat (by omega) a2 cap2 l2 (fits_wf hw2) cl.toNat (by omega) a6 cap6 l6 (mlfits_wf hw6) by_.toNat (by omega) w (Kd.C_of_reads (d := (0 : Int)) (h1 := fun _ => rfl) hr2) hc2 (Kd.C_of_reads (d := (0 : Int)) (h1 := fun _ => rfl) hr6) hc6
 rw [hN, hS, hC] at hh
 exact hh
end Go.Proofs.YtfglcfbcdhjcdaaDoor.Q
namespace Go.Proofs.YtfglcfbcdhjcdaaDoor.tariffOrder
open Go.ChangeShapes Go.WideShapes Go.ChangeAt Go.RowKit
set_option linter.unusedVariables false
theorem own : ownKnob Tryd.prog.godebug = none := by kernel_rfl
theorem laidOut : laidOutB Tryd.prog = true := by kernel_rfl
def IsRow (k : IntKind) (w : World) (a : Option Addr) (len cap : Nat) (zs : List Int) : Prop :=
 (a = none ∧ len = 0 ∧ cap = 0 ∧ zs = []) ∨
 ∃ x, a = some x ∧ len ≤ cap ∧ cap ≤ maxLen ∧ zs.length = cap ∧ (∀ i, i < zs.length → w.cell? (x.add i) = some (.int k (zs.getD i 0))) ∧ ∀ n ∈ zs, (Lit.int k n).wf = true
set_option maxRecDepth 100000 in
theorem contract (H : Type) (enc : TypeId × Value → H) (W : World) (base : Nat) (args : Array Value) (ds gs : List (DataW H)) (before : List MemPlace)
  (hval0 : ∀ (j : Nat) t v, Tryd.f9.params[j]? = some t → args[j]? = some v → Value.okWide Tryd.prog W .any base t v)
  (hW : DataW.Whole enc Tryd.prog Tryd.f9.params.toList Rows.tariffOrderSpec.vars false W args.toList ds gs before) :
  Calls Tryd.prog 9 args W fun e W' => ∃ v, e = .returned v ∧ Rows.tariffOrderSpec.post enc Tryd.prog Tryd.f9 false true false false W args v W' := by
 have hval : ∀ (j : Nat) t v, Tryd.f9.params[j]? = some t → args[j]? = some v → Value.okWide Tryd.prog W .any base t v := hval0
 have hW' := hW
 obtain ⟨p, q, hA0, hV, rfl, hfz, hnd⟩ := hW
 have hA : DataW.TrodAll enc Tryd.prog W 0 (fun _ => true) true Tryd.f9.params.toList args.toList ds p := hA0
 rw [Tryd.params9] at hA hval
 obtain ⟨v0, vs0, d0, ds0, p0, q0, hargs, rfl, rfl, h0, r0⟩ := trodAll_cons hA
 obtain ⟨v1, vs1, d1, ds1, p1, q1, rfl, rfl, rfl, h1, r1⟩ := trodAll_cons r0
 obtain ⟨v2, vs2, d2, ds2, p2, q2, rfl, rfl, rfl, h2, r2⟩ := trodAll_cons r1
 obtain ⟨v3, vs3, d3, ds3, p3, q3, rfl, rfl, rfl, h3, r3⟩ := trodAll_cons r2
 obtain ⟨v4, vs4, d4, ds4, p4, q4, rfl, rfl, rfl, h4, r4⟩ := trodAll_cons r3
 obtain ⟨rfl, rfl, rfl⟩ := trodAll_nil r4
 obtain rfl : args = #[v0, v1, v2, v3, v4] := by cases args; simp_all
 obtain ⟨rfl, rfl⟩ := trodVars_none hV
 have k0 := h0
 have k1 := h1
 have k2 := h2
 have k3 := h3
 have k4 := h4
 have lt1 : ∀ x ∈ p1, x.block < W.heap.size := by obtain ⟨m, hm⟩ := k1; exact DataW.trod_lt m _ _ _ hm
 have lt3 : ∀ x ∈ p3, x.block < W.heap.size := by obtain ⟨m, hm⟩ := k3; exact DataW.trod_lt m _ _ _ hm
 obtain ⟨n0, rfl, rfl, rfl, hw0⟩ := open_int Tryd.underlying28 (hval 0 28 v0 rfl rfl) h0
 obtain ⟨a1, len1, cap1, rfl⟩ := okWide_slice Tryd.underlying29 (hval 1 29 v1 rfl rfl)
 obtain ⟨n2, rfl, rfl, rfl, hw2⟩ := open_int Tryd.underlying5 (hval 2 5 v2 rfl rfl) h2
 obtain ⟨a3, len3, cap3, rfl⟩ := okWide_slice Tryd.underlying30 (hval 3 30 v3 rfl rfl)
 obtain ⟨n4, rfl, rfl, rfl, hw4⟩ := open_int Tryd.underlying5 (hval 4 5 v4 rfl rfl) h4
 obtain ⟨z1, w1⟩ : ∃ zs, IsRow .u8 W a1 len1 cap1 zs := by
  obtain ⟨fuel, hf⟩ := h1
  rcases open_ints Tryd.underlying29 Tryd.underlying5 (by kernel_rfl) hf with ⟨hcs, _⟩ | ⟨x, l, c, zs, hcs, _, hl, hm, hz, _, hcell, hwz⟩
  ·simp [Value.cells] at hcs
   obtain ⟨rfl, rfl, rfl⟩ := hcs
   exact ⟨[], .inl ⟨rfl, rfl, rfl, rfl⟩⟩
  ·simp [Value.cells] at hcs
   obtain ⟨rfl, rfl, rfl⟩ := hcs
   exact ⟨zs, .inr ⟨_, rfl, hl, hm, by simpa using hz, hcell, hwz⟩⟩
 obtain ⟨z3, w3⟩ : ∃ zs, IsRow .u16 W a3 len3 cap3 zs := by
  obtain ⟨fuel, hf⟩ := h3
  rcases open_ints Tryd.underlying30 Tryd.underlying72 (by kernel_rfl) hf with ⟨hcs, _⟩ | ⟨x, l, c, zs, hcs, _, hl, hm, hz, _, hcell, hwz⟩
  ·simp [Value.cells] at hcs
   obtain ⟨rfl, rfl, rfl⟩ := hcs
   exact ⟨[], .inl ⟨rfl, rfl, rfl, rfl⟩⟩
  ·simp [Value.cells] at hcs
   obtain ⟨rfl, rfl, rfl⟩ := hcs
   exact ⟨zs, .inr ⟨_, rfl, hl, hm, by simpa using hz, hcell, hwz⟩⟩
 clear hA0 hval0
 refine (Q.tariffOrder.walk W n0 hw0 a1 len1 cap1 z1 w1 n2 hw2 a3 len3 cap3 z3 w3 n4 hw4).mono fun e W' ⟨he, bel⟩ => ?_
 subst he
 exact ⟨_, rfl, _, _, _, [], _, [], hW', trodAll_mk1 (shut_bool Tryd.underlying4 _), (trodAll_cons_mk (shut_int Tryd.underlying28 hw0) (trodAll_cons_mk (Below.trod laidOut (by kernel_rfl) (of_decide_eq_true (by kernel_rfl)) k1 bel lt1) (trodAll_cons_mk (shut_int Tryd.underlying5 hw2) (trodAll_cons_mk (Below.trod laidOut (by kernel_rfl) (of_decide_eq_true (by kernel_rfl)) k3 bel lt3) (trodAll_cons_mk (shut_int Tryd.underlying5 hw4) trodAll_mk0))))), rfl, bel.frame _, fun h => by cases h⟩
def putBytes (l : List Nat) : Obj → Obj
 | .cells _ t frozen => .cells (l.map fun (n : Nat) => Value.int .u8 n).toArray t frozen
 | o => o
noncomputable def laidWorld (os : Os) : World :=
 { World.holding Tryd.prog os ⟨#[], #[], []⟩ with heap := ((World.holding Tryd.prog os ⟨#[], #[], []⟩).heap.modify 0 (putBytes Go.Pinned.utf8FirstZ)).modify 1 (putBytes [128, 191, 160, 191, 128, 159, 144, 191, 128, 143, 0, 0, 0, 0, 0, 0, 0, 0, 0, 0, 0, 0, 0, 0, 0, 0, 0, 0, 0, 0, 0, 0]) }
noncomputable def wargs : Array Value := #[.int .u32 0, .slice none 0 0, .int .u8 0, .slice none 0 0, .int .u8 0]
theorem laid_met (os : Os) : laidMet Tryd.prog Rows.tariffOrderRow.laid ((laidWorld os).forCall (fun _ _ => 0) ⟨#[], wargs, []⟩).memory :=
 laidMet_of_run' 8 (by kernel_rfl) (by kernel_rfl)
theorem reads (os : Os) {H : Type} (enc : TypeId × Value → H) : ∃ places, DataW.whole enc Tryd.prog ((laidWorld os).forCall (fun _ _ => 0) ⟨#[], wargs, []⟩).memory Tryd.f9.params.toList Rows.tariffOrderSpec.vars false wargs.toList 8 = some ([.lit (.int .u32 0), .nil, .lit (.int .u8 0), .nil, .lit (.int .u8 0)], [], places) :=
 ⟨[], by kernel_rfl⟩
set_option maxRecDepth 100000 in
theorem lifted (os : Os) (started : os.Started) (H : Type) (enc : TypeId × Value → H) (F : Stop.Interp) :
  ReturnsInHanded {} Tryd.checked os 9 .any ((OpenSpec.ofChange Rows.tariffOrderSpec).preRow enc Tryd.prog Tryd.f9 Rows.tariffOrderRow.domain false Rows.tariffOrderRow.laid) (((OpenSpec.ofChange Rows.tariffOrderSpec).at F).post enc Tryd.prog Tryd.f9 false true false false) := by
 obtain ⟨places, hx⟩ := reads os enc
 refine returnsInHanded_of_row (C := Tryd.checked) (s := OpenSpec.ofChange Rows.tariffOrderSpec) own started (by kernel_rfl) Tryd.func9
  (witness_row_at (enc := enc) (C := Tryd.checked) false (laidWorld os) wargs rfl (by kernel_rfl) (by kernel_rfl) (by kernel_rfl)
   (OpenSpec.preRow_of_cond 8 hx (by kernel_rfl) (fun k hk => by cases hk) (by kernel_rfl) (laid_met os))) ?_
 intro W base args ds gs before hval hW _ _ _ hL _ _
 exact contract H enc W base args ds gs before hval hW
theorem said : Rows.TariffOrderSaid :=
 OpenClaim.holds_of_cond 9 Tryd.f9 rfl rfl rfl rfl rfl rfl rfl ⟨rfl, rfl, rfl, rfl, rfl⟩ rfl rfl rfl rfl rfl (by kernel_rfl) Tryd.func9 (by kernel_rfl)
  (of_decide_eq_true (by kernel_rfl)) (by unfold Func.isWrapper; first | (rw [if_pos (by decide +kernel)]; kernel_rfl) | (rw [if_neg (by decide +kernel)]; exact ⟨rfl, rfl⟩))
  (fun os started H enc _ F => by rw [OpenClaim.pre_eq_preRow]; exact lifted os started H enc F)
theorem plain (f : FuncId) (fn : Func) (hf : Tryd.pinned.checked.prog.funcNamed "letterbag/letterbaglaw24.TariffOrder" = some f) (hfn : Tryd.pinned.checked.prog.funcs[f]? = some fn) :
  false = Tryd.pinned.checked.prog.looks [] ∧ ∀ (j : Nat) t, fn.params[j]? = some t → Tryd.pinned.checked.prog.wantsStandIn t = false := by
 obtain rfl : f = 9 := Option.some.inj ((show Tryd.prog.funcNamed "letterbag/letterbaglaw24.TariffOrder" = some 9 by kernel_rfl).symm.trans hf) |>.symm
 obtain rfl : fn = Tryd.f9 := (Option.some.inj (Tryd.func9.symm.trans hfn)).symm
 refine ⟨by kernel_rfl, fun j t ht => ?_⟩
 rw [Tryd.params9] at ht
 have hm : t ∈ [28, 29, 5, 30, 5] := by simpa using Array.mem_of_getElem? ht
 have hall : ([28, 29, 5, 30, 5].all fun u => !Tryd.prog.wantsStandIn u) = true := by kernel_rfl
 exact (show Tryd.prog.wantsStandIn t = false by simpa using List.all_eq_true.1 hall t hm)
theorem card : Rows.TariffOrderCardSaid :=
 Claim7.holds_tied_plain_at .later [] _ _ _ _ said (fun _ h => by cases h) (by kernel_rfl) (fun _ h => by cases h) tariffOrder_row_tie rfl ⟨rfl, rfl⟩ (by kernel_rfl) rfl plain (by kernel_rfl)
#print axioms card
end Go.Proofs.YtfglcfbcdhjcdaaDoor.tariffOrder
namespace Go.Proofs.YtfglcfbcdhjcdaaDoor
theorem tariffOrder_card : Rows.TariffOrderCardSaid := tariffOrder.card
end Go.Proofs.YtfglcfbcdhjcdaaDoor
