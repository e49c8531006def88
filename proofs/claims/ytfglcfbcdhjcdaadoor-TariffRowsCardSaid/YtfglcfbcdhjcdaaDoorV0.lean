/- For every input letterbaglaw24's law returns true and leaves its arguments as they were; the card of this row. Conditions: none but those of the statement. -/
import Derived.Below
import Derived.Deep.Draws
import Derived.Deep.AppendLies
import Derived.Maps.AppendAt
import Derived.OwnWalk
import Derived.Laws.BytesArg
import Derived.Laws.MakeOwn
import Derived.Laws.OwnMore
import Derived.Deep.OwnRows
import Derived.Tactics
import Derived.Lib.ConvBytes
import Derived.Laws.Slices
import Derived.WalkKit
import Derived.KernelRfl
import Derived.RowKit3
import Derived.Deep.LoopGhost
import Derived.Deep.QuietTactic
import Derived.BigQuiet
import Derived.WideLaws
import Derived.Deep.DeepCutAuto
import Derived.Deep.CutBlock
import Derived.Deep.RegionHeld3
import Derived.Laws.Rows
import Derived.Lib.AppendStr
import Derived.ArgAppend
import Derived.Laws.IdiomCopy
import Derived.RowKit
import Derived.Test.YtfglcfbcdhjcdaaDoorProg
import Derived.OrdersHeld
import Derived.Laws.BitsLemmas
import Derived.Test.YtfglcfbcdhjcdaaDoorCards
import Derived.Test.YtfglcfbcdhjcdaaDoorTie
import Derived.ProofKit
import Derived.OpenShut
import Derived.ShutString
import Derived.ChangeOld
import Derived.SizedLaws
import Derived.Deep.DeepHandedRow
import Derived.Lib.LaidTab
import Derived.Test.YtfglcfbcdhjcdaaDoorU0
import Derived.Test.YtfglcfbcdhjcdaaDoorU1
import Derived.Test.YtfglcfbcdhjcdaaDoorU2
import Derived.Test.YtfglcfbcdhjcdaaDoorU3
import Derived.Test.YtfglcfbcdhjcdaaDoorU4
import Derived.Test.YtfglcfbcdhjcdaaDoorU5
import Derived.Test.YtfglcfbcdhjcdaaDoorU6
set_option linter.unusedVariables false
set_option linter.unusedSimpArgs false
namespace Go.Proofs.YtfglcfbcdhjcdaaDoorW.PrintWords
open Go.RowKit
def nums (k : IntKind) (xs : List Int) : List Value := xs.map fun x => .int k x
theorem own_string {P : Program} {w : World} {base n : Nat} {e' src dst e : TypeId} {v : Value} {xs : List Int} (hs : P.underlying src = some (.slice e)) (he : P.underlying e = some (.int .u8)) (hd : P.underlying dst = some .string)
    (h : w.ownsRow base e' 1 v n (nums .u8 xs)) : (convert src dst v).run P w = .ok (.string (strOfNums xs)) w := by
  have hl : xs.length = n := by have := h.1; simp [nums] at this; exact this
  rcases h.2 with ⟨rfl, rfl⟩ | ⟨g, cap, cur, rfl, _⟩
  · obtain rfl : xs = [] := List.eq_nil_of_length_eq_zero hl
    exact run_convert_bytes_nil w src e hs he 0 0 dst hd
  · refine run_convert_bytes_arg w src e hs he g 0 n cap xs hl (fun i hi => ?_) dst hd
    have hc := h.cells (g := g) rfl i (.int .u8 (xs.getD i 0)) (by simp [nums, List.getElem?_eq_getElem (show i < xs.length by omega), List.getD_eq_getElem?_getD])
    have ha : (⟨g, 0, none⟩ : Addr).add i = ⟨g, 0 + i, none⟩ := by unfold Addr.add; split <;> simp_all
    rwa [ha] at hc
theorem ReadsRow.inner_ {α : Type} {R : α → List Value → Prop} {size : Nat} {w : World} {ad : Addr} {n : Nat} {ps : List α} (h : ReadsRow R size w (some ad) n ps) :
    ∃ inner, Reps R size ps inner ∧ ∀ j u, inner[j]? = some u → w.cell? (ad.add j) = some u := by
  have key : ∀ m, m ≤ ps.length → ∃ inner, Reps R size (ps.take m) inner ∧ ∀ j u, inner[j]? = some u → w.cell? (ad.add j) = some u := by
    intro m
    induction m with
    | zero => exact fun _ => ⟨[], Reps.none _ _, fun j u hu => by simp at hu⟩
    | succ m ih =>
      intro hm
      obtain ⟨inner, hr, hc⟩ := ih (by omega)
      obtain ⟨ad', he, hcell⟩ := h.2.2 (by have := h.1; omega)
      injection he with he
      subst he
      obtain ⟨c, hcl, hp, hcc⟩ := hcell m _ (List.getElem?_eq_getElem (show m < ps.length by omega))
      refine ⟨inner ++ c, ?_, fun j u hu => ?_⟩
      · rw [List.take_succ_eq_append_getElem (show m < ps.length by omega)]
        exact hr.snoc hp hcl
      · have hil : inner.length = m * size := by rw [hr.1, List.length_take, Nat.min_eq_left (by omega)]
        rcases Nat.lt_or_ge j inner.length with hj | hj
        · rw [List.getElem?_append_left hj] at hu
          exact hc j u hu
        · rw [List.getElem?_append_right hj] at hu
          have := hcc (j - inner.length) u hu
          rwa [hil, Nat.add_sub_cancel' (by omega)] at this
  obtain ⟨inner, hr, hc⟩ := key ps.length (Nat.le_refl _)
  rw [List.take_length] at hr
  exact ⟨inner, hr, hc⟩
namespace Kd
section
variable {α β : Type} {d : Kd α} {d' : Kd β} {e e' : Nat} {w w1 W : World} {base b b' : Nat} {ok ok' okv oku : Nat → Prop} {v u : Value} {xs : List α} {ys : List β}
theorem R_away (h : d.R e w base ok v xs) {g : Nat} (hok : ∀ k, ok k → k ≠ g) : some g ≠ v.ownBlock := fun e => hok g (h.1 g e.symm) rfl
end
end Kd
namespace Kd
section
variable {α : Type} {d : Kd α} {e e' : Nat} {w w1 W : World} {base : Nat} {ok : Nat → Prop} {u v : Value} {xs : List α}
theorem R_typed (h : d.R e w base ok v xs) : ∀ k, v.ownBlock = some k → ∃ cells, w.heap[k]? = some (.cells cells e (0, 0)) := by
  obtain ⟨inner, ho⟩ := R_own h
  exact fun k hk => own_typed ho k hk
theorem R_over' (h : d.R e W base ok u xs) (hty : ∀ k, v.ownBlock = some k → ∃ cells, W.heap[k]? = some (.cells cells e' (0, 0))) (ht : ∀ q, q ∈ e :: d.E → q ≠ e') (hg : W.grownBy w1 v.ownBlock) : d.R e w1 base ok u xs := by
  refine R_mono (R_move (R_bound h) (fun k hk => hg.block k hk.2.2.1 (fun he => ?_))) (fun _ hk => hk.1)
  obtain ⟨_, _, _, q, hq, cells, hc⟩ := hk
  obtain ⟨cells', hc'⟩ := hty k he.symm
  rw [hc] at hc'
  injection hc' with hc'
  injection hc' with _ hc'
  exact ht q hq hc'
theorem R_apart' (h : d.R e W base ok u xs) (hty : ∀ k, v.ownBlock = some k → ∃ cells, W.heap[k]? = some (.cells cells e' (0, 0))) (ht : ∀ q, q ∈ e :: d.E → q ≠ e') : d.R e W base (fun k => ok k ∧ some k ≠ v.ownBlock) u xs := by
  refine R_mono (R_bound h) (fun k hk => ⟨hk.1, fun he => ?_⟩)
  obtain ⟨_, _, _, q, hq, cells, hc⟩ := hk
  obtain ⟨cells', hc'⟩ := hty k he.symm
  rw [hc] at hc'
  injection hc' with hc'
  injection hc' with _ hc'
  exact ht q hq hc'
end
end Kd
namespace Kd
theorem reps_append {α : Type} {R : α → List Value → Prop} {size : Nat} {ps qs : List α} {cs ds : List Value} (h : Reps R size ps cs) (h' : Reps R size qs ds) : Reps R size (ps ++ qs) (cs ++ ds) := by
  refine ⟨by rw [List.length_append, List.length_append, h.1, h'.1, Nat.add_mul], fun j p hj => ?_⟩
  rcases Nat.lt_or_ge j ps.length with hlt | hge
  · rw [List.getElem?_append_left hlt] at hj
    have hle : j * size + size ≤ cs.length := by rw [h.1, ← Nat.succ_mul]; exact Nat.mul_le_mul_right _ hlt
    rw [List.drop_append_of_le_length (by omega), List.take_append_of_le_length (by rw [List.length_drop]; omega)]
    exact h.2 j p hj
  · rw [List.getElem?_append_right hge] at hj
    have h2 := h'.2 (j - ps.length) p hj
    have hle : ps.length * size ≤ j * size := Nat.mul_le_mul_right _ hge
    rw [List.drop_append, List.drop_eq_nil_of_le (by rw [h.1]; exact hle), List.nil_append, h.1, ← Nat.sub_mul]
    exact h2
section
variable {P : Program} {ops : Array Oper} {rest : List Oper} {o : Oper} {a : Act} {Q : Exit → Act → World → Prop} {α : Type}
theorem R_append_rows (d : Kd α) {Rr : α → List Value → Prop} {w0 W : World} (base : Nat) (hgd : o.guard = none) (s x : Operand) (t e : TypeId) (z : Value) (bytes : Nat)
    (ho : o.op = .call { callee := .builtin .append, args := #[s, x], argTypes := #[t, t] })
    (ht : P.underlying t = some (.slice e)) (hinfo : (P.info? e).map (fun i => (i.zero, i.size, i.bytes)) = some (some z, d.sz, bytes)) (hz : z.cells.size = d.sz) (hs0 : 0 < d.sz) (hb0 : 0 < bytes)
    (v : Value) (xs ys : List α) (A : Option Addr) (m c : Nat) (ok okp : Nat → Prop) (hs : a.eval s = v) (hx : a.eval x = .slice A m c)
    (HO : d.R e W base ok v xs) (HR : ReadsRow Rr d.sz W A m ys) (hKM : ∀ x cs, Rr x cs → d.M W base okp x cs) (hokp : ∀ k, okp k → ok k ∧ some k ≠ v.ownBlock) (hfresh : ∀ k, W.heap.size ≤ k → ok k)
    (HB : Below base w0 W) (hbase : base ≤ W.heap.size) (hl : (xs.length + m) * bytes ≤ 140737488355328)
    (h : ∀ v1 w1, d.R e w1 base ok v1 (xs ++ ys) → Below base w0 w1 → W.grownBy w1 v.ownBlock → (v1.ownBlock = v.ownBlock ∨ ∃ b, v1.ownBlock = some b ∧ W.heap.size ≤ b) → wpList P ops Q rest (a.put o.dst v1) w1) :
    wpList P ops Q (o :: rest) a W := by
  obtain ⟨i0, hi, hzz⟩ := Option.map_eq_some_iff.1 hinfo
  simp only [Prod.mk.injEq] at hzz
  obtain ⟨hz0, hz1, hz2⟩ := hzz
  have hm : ys.length = m := HR.1
  have hlen : xs.length + m ≤ 140737488355328 := Nat.le_trans (Nat.le_mul_of_pos_right _ hb0) hl
  obtain ⟨hok, inner, hown, hr⟩ := HO
  have hrun : ∃ v1 w1, (Builtin.append_ #[t, t] o.type #[v, .slice A m c]).run P W = .ok v1 w1 ∧ d.R e w1 base ok v1 (xs ++ ys) ∧ W.grownBy w1 v.ownBlock ∧ (v1.ownBlock = v.ownBlock ∨ ∃ b, v1.ownBlock = some b ∧ W.heap.size ≤ b) := by
    rcases A with _ | ad
    · have h0 : m = 0 := by
        rcases Nat.eq_zero_or_pos m with h0 | h0
        · exact h0
        · obtain ⟨ad, h, _⟩ := HR.2.2 h0
          cases h
      subst h0
      obtain rfl : ys = [] := List.eq_nil_of_length_eq_zero hm
      refine ⟨v, W, ?_, by rw [List.append_nil]; exact ⟨hok, inner, hown, hr⟩, World.grownBy.refl W _, .inl rfl⟩
      rcases hown.2 with ⟨rfl, hn⟩ | ⟨g, cap, cur, rfl, _, _, hnc, _⟩
      · simp [Builtin.append_, run_underlying ht, sizeOf, typeInfo, hi, Builtin.lenOf, Builtin.firstCells]
      · simp [Builtin.append_, run_underlying ht, sizeOf, typeInfo, hi, Builtin.lenOf, Builtin.firstCells, hnc, storeCells]
    · obtain ⟨news, hnr, hnc⟩ := ReadsRow.inner_ HR
      have hnM : Reps (d.M W base okp) d.sz ys news := hnr.imp_ (fun p c hp => hKM p c hp)
      have hone : ∀ u ∈ news, u.oneCell' = true := by
        intro u hu
        obtain ⟨q, hq, rfl⟩ := List.mem_iff_getElem.1 hu
        have hql : q / d.sz < ys.length := by
          rw [Nat.div_lt_iff_lt_mul hs0]
          rw [← hnM.1]
          exact hq
        have hc := hnM.2 (q / d.sz) _ (List.getElem?_eq_getElem hql)
        refine d.K_one (d.K_of_M hc) _ ?_
        rw [List.mem_iff_getElem?]
        refine ⟨q % d.sz, ?_⟩
        rw [List.getElem?_take, if_pos (Nat.mod_lt _ hs0), List.getElem?_drop, Nat.mul_comm, Nat.div_add_mod, List.getElem?_eq_getElem hq]
      obtain ⟨v1, w1, hrun, h2, hg, _, hat⟩ := run_append_own_at (P := P) W base t o.type e i0 z d.sz bytes ht hi hz0 hz1 hz2 hz hs0 v xs.length inner hown ad m c news (by rw [hnM.1, hm]) hnc hone (by simp only [maxLen]; omega) hl hbase
      have hat' : v1.ownBlock = v.ownBlock ∨ ∃ b, v1.ownBlock = some b ∧ W.heap.size ≤ b := by
        rcases hat with hat | hat
        · exact .inl hat
        · exact .inr ⟨_, hat, Nat.le_refl _⟩
      have hne : ∀ k, some k ≠ v.ownBlock → k < W.heap.size → some k ≠ v1.ownBlock := by
        intro k hk hlt
        rcases hat' with hat | ⟨b, hb, hle⟩
        · rw [hat]; exact hk
        · rw [hb]
          intro he
          injection he with he
          omega
      have step : ∀ {q : α} {c : List Value} {o : Nat → Prop}, d.M W base o q c → (∀ k, o k → ok k ∧ some k ≠ v.ownBlock) → d.M w1 base (fun k => ok k ∧ some k ≠ v1.ownBlock) q c := by
        intro q c o hq ho
        have h1 := d.M_move (w1 := w1) (fun k hk => hg.block k hk.2.2.1 (ho k hk.1).2) (d.M_bound hq)
        exact d.M_mono (fun k hk => ⟨(ho k hk.1).1, hne k (ho k hk.1).2 hk.2.2.1⟩) h1
      refine ⟨v1, w1, hrun, ⟨fun k hk => ?_, inner ++ news, by rw [List.length_append, hm]; exact h2, reps_append (hr.imp_ (fun _ _ hq => step hq (fun _ hk => hk))) (hnM.imp_ (fun _ _ hq => step hq hokp))⟩, hg, hat'⟩
      rcases hat' with hat | ⟨b, hb, hle⟩
      · exact hok k (hat ▸ hk)
      · rw [hb] at hk
        injection hk with hk
        exact hfresh k (by omega)
  obtain ⟨v1, w1, hr1, h1, hg, hat⟩ := hrun
  refine wpList_plain hgd fun K hK => ?_
  unfold Oper.wp execOp
  simp only [ho, resolve, invoke, builtin, Sem.run_bind, Sem.run_pure, Result.andThen_ok, List.map_toArray, List.map_cons, List.map_nil, hs, hx, hr1]
  exact hK _ _ (h v1 w1 h1 (HB.grown hg hbase (own_base hown)) hg hat)
end
end Kd
namespace Kd
section
variable {α : Type} {d : Kd α} {e base g : Nat} {ok : Nat → Prop} {w w1 : World} {v : Value} {xs : List α} {o : Obj}
theorem R_elderB (h : d.R e w base ok v xs) (a : Nat) (ha : w.heap.size ≤ a) : d.R e w base (fun k => ok k ∧ k ≠ a) v xs := R_mono (R_bound h) (fun k hk => ⟨hk.1, by have := hk.2.2.1; omega⟩)
end
end Kd
end Go.Proofs.YtfglcfbcdhjcdaaDoorW.PrintWords

namespace Go.Proofs.YtfglcfbcdhjcdaaDoorW.PrintWords
open Go.RowKit
namespace Kd
section
variable {α β : Type} {d : Kd α} {d' : Kd β} {e e' : Nat} {w w1 W : World} {base b : Nat} {ok ok' okv oku : Nat → Prop} {u v : Value} {xs : List α} {ys : List β}
theorem S_mono (h : S d e w base ok v xs) (hok : ∀ k, ok k → ok' k) : S d e w base ok' v xs := by
  obtain ⟨f, h⟩ := h
  exact ⟨f, R_mono h hok⟩
theorem S_bound (h : S d e w base ok v xs) : S d e w base (fun k => ok k ∧ base ≤ k ∧ k < w.heap.size ∧ ∃ q, q ∈ e :: d.E ∧ ∃ cells, w.heap[k]? = some (.cells cells q (0, 0))) v xs := by
  obtain ⟨f, h⟩ := h
  exact ⟨f, R_bound h⟩
theorem S_move (h : S d e w base ok v xs) (hm : ∀ k, ok k → w1.heap[k]? = w.heap[k]?) : S d e w1 base ok v xs := by
  obtain ⟨f, h⟩ := h
  exact ⟨f, R_move h hm⟩
theorem S_lower {base' : Nat} (h : S d e w base ok v xs) (hb : base' ≤ base) : S d e w base' ok v xs := by
  obtain ⟨f, h⟩ := h
  exact ⟨f, R_lower h hb⟩
theorem S_step (h : S d e w base ok v xs) (hm : ∀ k, ok k → k < w.heap.size → w1.heap[k]? = w.heap[k]?) : S d e w1 base ok v xs :=
  S_mono (S_move (S_bound h) (fun k hk => hm k hk.1 hk.2.2.1)) (fun _ hk => hk.1)
theorem S_below (h : S d e w base ok v xs) (hb : Below w.heap.size w w1) : S d e w1 base ok v xs := S_step h (fun k _ hk => hb.block k hk)
theorem S_far (h : S d e w base ok v xs) {p : Addr} (hok : ∀ k, ok k → k ≠ p.block) (u : Value) : S d e (w.setCell p u) base ok v xs := S_step h (fun k ho _ => Below.heap_setCell w p u k (hok k ho))
theorem S_types (h : S d e w base ok v xs) {g t : Nat} {cells : Array Value} (hb : w.heap[g]? = some (.cells cells t (0, 0))) (ht : ∀ q, q ∈ e :: d.E → q ≠ t) : S d e w base (fun k => ok k ∧ k ≠ g) v xs := by
  obtain ⟨f, h⟩ := h
  exact ⟨f, R_types h hb ht⟩
theorem S_typed (h : S d e w base ok v xs) : ∀ k, v.ownBlock = some k → ∃ cells, w.heap[k]? = some (.cells cells e (0, 0)) := R_typed (S_R h)
theorem S_base (h : S d e w base ok v xs) : ∀ k, v.ownBlock = some k → base ≤ k := R_base (S_R h)
theorem S_elder' (h : S d e W base ok u xs) (hbase : ∀ k, v.ownBlock = some k → W.heap.size ≤ k) (hb : Below W.heap.size W w1) : S d e w1 base (fun k => ok k ∧ some k ≠ v.ownBlock) u xs := by
  obtain ⟨f, h⟩ := h
  exact ⟨f, R_elder' h hbase hb⟩
theorem R_tag {f f' : Nat → Nat} {zs : List (α × Nat)} (h : (tag f d).R e w base ok v zs) (hf : ∀ k, ok k → k < w.heap.size → f' k = f k) : (tag f' d).R e w base ok v zs := by
  obtain ⟨h0, inner, ho, hr⟩ := R_bound h
  exact ⟨fun k hk => (h0 k hk).1, inner, ho, hr.1, fun j p hj => d.M_mono (fun k hk => ⟨⟨hk.1.1.1, hk.1.2⟩, (hf k hk.1.1.1 hk.1.1.2.2.1).trans hk.2⟩) (hr.2 j p hj)⟩
end
section
variable {α β : Type} {d : Kd α} {d' : Kd β} {e e' g : Nat} {w w1 W : World} {base b : Nat} {ok ok' okv oku : Nat → Prop} {u v : Value} {xs : List α} {ys : List β}
theorem S_away (h : S d e w base ok v xs) (hok : ∀ k, ok k → k ≠ g) : some g ≠ v.ownBlock := R_away (S_R h) hok
theorem S_slice (h : S d e w base ok v xs) : ∃ A c, v = .slice A xs.length c := R_slice (S_R h)
theorem S_elderB (h : S d e w base ok v xs) (a : Nat) (ha : w.heap.size ≤ a) : S d e w base (fun k => ok k ∧ k ≠ a) v xs := S_mono (S_bound h) (fun k hk => ⟨hk.1, by have := hk.2.2.1; omega⟩)
theorem zip_snoc (xs : List α) (p : α) : (xs ++ [p]).zipIdx = xs.zipIdx ++ [(p, xs.length)] := by rw [List.zipIdx_append]; simp
end
section
open Classical in
theorem S_tag {α : Type} {d : Kd α} {e base : Nat} {okv : Nat → Prop} {w : World} {v : Value} {xs : List α} (h : S d e w base okv v xs) (m : Nat) (okp : Nat → Prop) (hap : ∀ k, okp k → ¬ okv k) : ∃ f, (∀ k, okp k → f k = m) ∧ (tag f d).R e w base okv v xs.zipIdx := by
  obtain ⟨f, h⟩ := h
  exact ⟨fun k => if okp k then m else f k, fun k hk => if_pos hk, R_tag h (fun k hk _ => if_neg (fun h2 => hap k h2 hk))⟩
variable {P : Program} {ops : Array Oper} {rest : List Oper} {o : Oper} {a : Act} {Q : Exit → Act → World → Prop} {Kc : Act → World → Prop} {α : Type}
theorem S_append (d : Kd α) {w0 W : World} (base : Nat) (hgd : o.guard = none) (s x : Operand) (t e : TypeId) (z : Value) (bytes : Nat)
    (ho : o.op = .call { callee := .builtin .append, args := #[s, x], argTypes := #[t, t] })
    (ht : P.underlying t = some (.slice e)) (hinfo : (P.info? e).map (fun i => (i.zero, i.size, i.bytes)) = some (some z, d.sz, bytes)) (hz : z.cells.size = d.sz) (hs0 : 0 < d.sz) (hb0 : 0 < bytes)
    (v : Value) (xs : List α) (p : α) (cs : List Value) (ok okp : Nat → Prop) (hs : a.eval s = v) (hx : a.eval x = .slice (some ⟨W.heap.size, 0, none⟩) 1 1) (hp : d.M W base okp p cs) (hokp : ∀ k, okp k → ok k ∧ some k ≠ v.ownBlock) (hfresh : ∀ k, W.heap.size ≤ k → ok k)
    (HO : S d e W base (fun k => ok k ∧ ¬ okp k) v xs) (HB : Below base w0 W) (hbase : base ≤ W.heap.size) (hl : (xs.length + 1) * bytes ≤ 140737488355328)
    (h : ∀ v1 w1, S d e w1 base ok v1 (xs ++ [p]) → Below base w0 w1 → W.grownBy w1 v.ownBlock → (v1.ownBlock = v.ownBlock ∨ ∃ b, v1.ownBlock = some b ∧ W.heap.size ≤ b) → wpList P ops Q rest (a.put o.dst v1) w1) :
    wpList P ops Q (o :: rest) a (W.alloc (.cells cs.toArray e)) := by
  obtain ⟨f, hf, hR⟩ := S_tag HO xs.length okp (fun _ hk h2 => h2.2 hk)
  refine R_append (tag f d) base hgd s x t e z bytes ho ht hinfo hz hs0 hb0 v xs.zipIdx (p, xs.length) cs ok okp hs hx (d.M_mono (fun k hk => ⟨hk, hf k hk⟩) hp) hokp hfresh (R_mono hR (fun _ hk => hk.1)) HB hbase (by rw [List.length_zipIdx]; exact hl) ?_
  intro v1 w1 hr
  rw [← zip_snoc] at hr
  exact h v1 w1 ⟨f, hr⟩
end
section
variable {α β : Type} {d : Kd α} {e e' g n cap : Nat} {w w1 W : World} {base : Nat} {ok ok' oki okp : Nat → Prop} {u v : Value} {xs : List α} {i : Int} {c : List Value}
open Classical in
end
end Kd
end Go.Proofs.YtfglcfbcdhjcdaaDoorW.PrintWords

namespace Go.Proofs.YtfglcfbcdhjcdaaDoor.Q
open Go.RowKit Go.Proofs.YtfglcfbcdhjcdaaDoorW.PrintWords Go.Proofs.YtfglcfbcdhjcdaaDoorW.PrintLast Go.Proofs.YtfglcfbcdhjcdaaDoorW.PrintMore
attribute [local go_sem] max2_int min2_int max_two min_two max_three min_three max_four min_four
set_option linter.unusedVariables false
set_option linter.unusedSimpArgs false
theorem info9 : (Tryd.prog.info? 9).map (fun i => (i.zero, i.size, i.bytes)) = some (some (.string ⟨#[]⟩), 1, 16) := by kernel_rfl
end Go.Proofs.YtfglcfbcdhjcdaaDoor.Q

namespace Go.Proofs.YtfglcfbcdhjcdaaDoor.Q
open Go.RowKit Go.Proofs.YtfglcfbcdhjcdaaDoorW.PrintWords Go.Proofs.YtfglcfbcdhjcdaaDoorW.PrintLast Go.Proofs.YtfglcfbcdhjcdaaDoorW.PrintMore
attribute [local go_sem] max2_int min2_int max_two min_two max_three min_three max_four min_four
set_option linter.unusedVariables false
set_option linter.unusedSimpArgs false
set_option maxHeartbeats 8000000 in
set_option maxRecDepth 100000 in
theorem letterbaglaw24_levels.calls (k : Nat) (a0_0 : Int) (a0_1 : Int) (a0_2 : ByteArray) (A0_3 : Option Addr) (c0_3 : Nat) (l0_3 : List (S48)) (a1 : Int) (A2 : Option Addr) (c2 : Nat) (l2 : List Int) (r : List Int) (w : World) (hr0_3 : Kd.C k48 w A0_3 l0_3.length l0_3) (hc0_3 : l0_3.length ≤ c0_3) (hr2 : Kd.C (Kd.int .u8) w A2 l2.length l2) (hc2 : l2.length ≤ c2) (h : letterbaglaw24_levels.f k a0_0 a0_1 a0_2 l0_3 a1 l2 = some r) :
    Calls Tryd.prog 15 #[.agg #[.int .u8 a0_0, .int .u8 a0_1, .string a0_2, .slice A0_3 l0_3.length c0_3], .int .i64 a1, .slice A2 l2.length c2] w fun e w' => ∃ v0_ : Value, e = .returned (v0_) ∧ Kd.R (Kd.int .i64) 3 w' w.heap.size (fun _ => True) v0_ r ∧ Below w.heap.size w w' := by
  have hu36 := Tryd.underlying36
  have HR0_3 := Aside0.mk hr0_3
  have HC0_3 := Aside0.mk hc0_3
  clear hr0_3 hc0_3
  have HR2 := Aside0.mk hr2
  have HC2 := Aside0.mk hc2
  clear hr2 hc2
  have HB := Aside0.mk (Below.refl w.heap.size w)
  have H : (letterbaglaw24_levels.l0 k a1 l2 ([] : List Int) (l0_3.length : Int) 0) = some r := h
  clear h
  have H' := Aside0.mk H
  clear H
  go_enter Tryd.func15, Tryd.ntmps15
  go_wp2_with (first | ((with_reducible refine gate_dst (N := 3) rfl ?_); refine box_event ?hg (N := 3) ?hd (cs := #[.int .u8 a0_0, .int .u8 a0_1, .string a0_2, .slice A0_3 l0_3.length c0_3]) (t := 36) ?hr ?_; (case hd => rfl); (case hg => rfl); (case hr => first | (go_simp; done) | (go_simp; rfl)); intro gb242 hg w4 hbox hb; have n0_ := Aside0.mk (below_step (by repeat (first | (with_reducible first | exact HB.out | apply below_alloc | apply pw_below_drewN | apply below_drew1) | exact HB.out)) hb); have n1_ := Aside0.mk (hbox); have n2_ := Aside0.mk ((by rw [hg]; exact (below_size (by repeat (first | (with_reducible first | exact HB.out | apply below_alloc | apply pw_below_drewN | apply below_drew1) | exact HB.out))) : w.heap.size ≤ gb242)); have n3_ := Aside0.mk ((by rw [hg]; exact (below_size (by repeat (first | (with_reducible first | exact HB.out | apply below_alloc | apply pw_below_drewN | apply below_drew1) | exact HB.out))) : w.heap.size ≤ gb242)); clear HB; have HB := n0_; have BK242 := n1_; have GW242 := n2_; have GE242 := n3_; clear n0_ n1_ n2_ n3_; clear hb hbox hg; have hcz5_0 : w4.cell? ⟨gb242, 0, none⟩ = some (.int .u8 a0_0) := (blk_cell BK242.out 0).trans rfl; have hcz5_1 : w4.cell? ⟨gb242, 1, none⟩ = some (.int .u8 a0_1) := (blk_cell BK242.out 1).trans rfl; have hcz5_2 : w4.cell? ⟨gb242, 2, none⟩ = some (.string a0_2) := (blk_cell BK242.out 2).trans rfl; have hcz5_3 : w4.cell? ⟨gb242, 3, none⟩ = some (.slice A0_3 l0_3.length c0_3) := (blk_cell BK242.out 3).trans rfl; have hfz5_0 := blk_frozen BK242.out 0; have hfz5_1 := blk_frozen BK242.out 1; have hfz5_2 := blk_frozen BK242.out 2; have hfz5_3 := blk_frozen BK242.out 3))
  go_loopg [7, 13] k (fun kq v7 v13 w' => ∃ (x7_1 : List Int) (x13_1 : Int), v13 = .int .i64 x13_1 ∧ Aside0 (letterbaglaw24_levels.l0 kq a1 l2 x7_1 (l0_3.length : Int) x13_1 = some r) ∧ Aside0 (kq ≤ k) ∧ Aside0 (Kd.R (Kd.int .i64) 3 w' w.heap.size (fun _ => True) v7 x7_1) ∧ Aside0 (w'.heap[gb242]? = some (.cells #[.int .u8 a0_0, .int .u8 a0_1, .string a0_2, (.slice A0_3 l0_3.length c0_3)] 36 (0, 0))) ∧ Aside0 (Below w.heap.size w w'))
  case atStart => exact ⟨(([] : List Int)), (0), (by first | rfl | (simp; done) | (simp [*]; done)), H', ⟨Nat.le_refl _⟩, ⟨by first | exact Kd.R_nil _ _ _ _ _ | exact Kd.N_nil _ _ _ _ _ | exact Kd.V_nil _ _ _ _ _ | exact Kd.Q_nil _ _ _ _ _ | exact Kd.S_nil _ _ _ _ _⟩, ⟨by (with_reducible repeat (first | refine blk_drewN ?_ _ | refine blk_drew ?_ | refine blk_alloc ?_ _)); exact BK242.out⟩, ⟨by repeat (first | (with_reducible first | exact HB.out | apply below_alloc | apply pw_below_drewN | apply below_drew1 | refine below_set ?_ GE242.out) | exact HB.out)⟩⟩
  case round =>
    clear H'
    try clear c1
    try clear c2
    try clear p2
    try clear hcz5_0
    try clear hcz5_1
    try clear hcz5_2
    try clear hcz5_3
    try clear hfz5_0
    try clear hfz5_1
    try clear hfz5_2
    try clear hfz5_3
    obtain ⟨x7_1, x13_1, rfl, HA, HK1, HO_7, BK242, HB⟩ := hrel
    cases gk with
    | zero => exact absurd HA.out (by simp [letterbaglaw24_levels.l0])
    | succ k1 =>
      have H := HA.out
      clear HA
      simp only [letterbaglaw24_levels.l0] at H
      by_cases c6 : x13_1 < (l0_3.length : Int)
      · rw [if_pos c6] at H
        have c6b0 : decide (x13_1 < (l0_3.length : Int)) = true := decide_eq_true c6
        clear c6
        by_cases c7 : (l2.length : Int) > 0
        · rw [if_pos c7] at H
          have c7b0 : decide (0 < (l2.length : Int)) = true := decide_eq_true c7
          have c7b1 : decide (0 < l2.length) = true := decide_eq_true (by omega)
          clear c7
          by_cases c8 : (l2.length : Int) = 0
          · rw [if_pos c8] at H
            exact absurd H (by simp)
          · rw [if_neg c8] at H
            have c8b0 : ((l2.length : Int) == 0) = false := beq_eq_false_iff_ne.mpr c8
            have c8b1 : ((l2.length : Int) != 0) = true := bne_iff_ne.mpr c8
            have c8b2 : ¬ (l2 = []) := fun h_ => c8 (by rw [h_]; rfl)
            obtain ⟨ji9, hji9⟩ : ∃ j_ : Int, (Int.tmod x13_1 (l2.length : Int)) = j_ := ⟨_, rfl⟩
            replace H : (if 0 ≤ (ji9) then (if (ji9) < (l2.length : Int) then (if a1 = 0 then (none) else (if x7_1.length < 17592186044416 then (letterbaglaw24_levels.l0 k1 a1 l2 (x7_1 ++ [Int.tmod (wrap64 (rd l2 (ji9))) a1]) (l0_3.length : Int) (wrap64 (x13_1 + 1))) else (none))) else (none)) else (none)) = some r := by first | (rw [hji9] at H; exact H) | (simp only [hji9] at H ⊢; exact H)
            by_cases c10 : 0 ≤ (ji9)
            · rw [if_pos c10] at H
              have c10b0 : decide (0 ≤ (ji9)) = true := decide_eq_true c10
              clear c10
              by_cases c11 : (ji9) < (l2.length : Int)
              · rw [if_pos c11] at H
                have c11b0 : decide ((ji9) < (l2.length : Int)) = true := decide_eq_true c11
                clear c11
                by_cases c12 : a1 = 0
                · rw [if_pos c12] at H
                  exact absurd H (by simp)
                · rw [if_neg c12] at H
                  have c12b0 : (a1 == 0) = false := beq_eq_false_iff_ne.mpr c12
                  have c12b1 : (a1 != 0) = true := bne_iff_ne.mpr c12
                  by_cases c13 : x7_1.length < 17592186044416
                  · rw [if_pos c13] at H
                    have LMc13 := Aside0.mk c13
                    clear c13
                    obtain ⟨y244, hy244⟩ : ∃ y_ : List Int, y_ = (x7_1 ++ [Int.tmod (wrap64 (rd l2 (ji9))) a1]) := ⟨_, rfl⟩
                    replace H : (letterbaglaw24_levels.l0 k1 a1 l2 y244 (l0_3.length : Int) (wrap64 (x13_1 + 1))) = some r := by first | (rw [hy244]; with_reducible exact H) | (have H2_ := (Option.bind_some _ _).symm.trans H; rw [hy244]; with_reducible exact H2_) | (have H2_ := (Option.bind_some _ _).symm.trans H; with_reducible exact H2_) | with_reducible exact H | (rw [hy244]; exact H) | exact H
                    have Ny244 := Aside0.mk hy244
                    clear hy244
                    have H' := Aside0.mk H
                    clear H
                    have p243 : 0 ≤ ((ji9) : Int) := of_decide_eq_true (by first | (with_reducible assumption) | assumption)
                    have q243 : (ji9) < (l2.length : Int) := of_decide_eq_true (by first | (with_reducible assumption) | assumption)
                    obtain ⟨ad243, e243, hx243_0⟩ := Kd.at_int HR2.out (ji9) p243 q243
                    cases e243
                    replace hx243_0 := (HB.out.cell (World.block_lt_of_cell? w _ hx243_0)).trans hx243_0
                    replace p243 := eq_true p243
                    replace q243 := eq_true q243
                    go_wp2_with (first | ((with_reducible refine gate_builtin (b := .append) (xs := #[.tmp 29, .tmp 31]) rfl ?_); at_builtin; refine Kd.R_append (Kd.int .i64) (w0 := w) w.heap.size rfl (.tmp 29) (.tmp 31) 38 3 (.int .i64 0) 8 rfl Tryd.underlying38 info3 rfl (by decide) (by omega) u7 x7_1 (Int.tmod (wrap64 (rd l2 (ji9))) a1) [.int .i64 (Int.tmod (wrap64 (rd l2 (ji9))) a1)] (fun _ => True) (fun _ => False) rfl rfl ?aP (fun _ hk => hk.elim) ?aF ?aO ?aB ?aS ?aL ?_; (case aP => exact rfl); (case aB => exact (by repeat (first | (with_reducible first | exact HB.out | apply below_alloc | apply pw_below_drewN | apply below_drew1 | refine below_set ?_ GE242.out) | exact HB.out))); (case aF => exact (fun _ _ => trivial)); (case aO => exact (by (with_reducible repeat (first | apply Kd.R_alloc | apply Kd.R_drewN | apply Kd.R_drew)); exact HO_7.out)); (case aS => exact (below_size (by repeat (first | (with_reducible first | exact HB.out | apply below_alloc | apply pw_below_drewN | apply below_drew1 | refine below_set ?_ GE242.out) | exact HB.out)))); (case aL => have := LMc13.out; omega); intro v245 w14 ho hb hg hat; rw [← Ny244.out] at ho; have n0_ := Aside0.mk (blk_grown (g := gb242) (o := .cells #[.int .u8 a0_0, .int .u8 a0_1, .string a0_2, .slice A0_3 l0_3.length c0_3] 36 (0, 0)) (by (with_reducible repeat (first | refine blk_drewN ?_ _ | refine blk_drew ?_ | refine blk_alloc ?_ _)); exact BK242.out) hg (Kd.R_ne HO_7.out BK242.out (by decide))); have n1_ := Aside0.mk (hb); have n2_ := Aside0.mk (ho); clear BK242; clear HB; clear HO_7; have BK242 := n0_; have HB := n1_; have HO246 := n2_; clear n0_ n1_ n2_; clear ho hb hg hat))
                    go_roundg k1
                    case measure => have := HK1.out; omega
                    case rel => exact ⟨(y244), (wrap64 (x13_1 + 1)), (by first | rfl | (simp; done) | (simp [*]; done)), H', ⟨by have := HK1.out; omega⟩, ⟨by (with_reducible repeat (first | apply Kd.R_alloc | apply Kd.R_drewN | apply Kd.R_drew)); exact HO246.out⟩, ⟨by (with_reducible repeat (first | refine blk_drewN ?_ _ | refine blk_drew ?_ | refine blk_alloc ?_ _)); exact BK242.out⟩, ⟨by repeat (first | (with_reducible first | exact HB.out | apply below_alloc | apply pw_below_drewN | apply below_drew1 | refine below_set ?_ GE242.out) | exact HB.out)⟩⟩
                  · rw [if_neg c13] at H
                    exact absurd H (by simp)
              · rw [if_neg c11] at H
                exact absurd H (by simp)
            · rw [if_neg c10] at H
              exact absurd H (by simp)
        · rw [if_neg c7] at H
          have c7b0 : decide (0 < (l2.length : Int)) = false := decide_eq_false c7
          have c7b1 : decide (0 < l2.length) = false := decide_eq_false (by omega)
          clear c7
          by_cases c15 : x7_1.length < 17592186044416
          · rw [if_pos c15] at H
            have LMc15 := Aside0.mk c15
            clear c15
            obtain ⟨y247, hy247⟩ : ∃ y_ : List Int, y_ = (x7_1 ++ [0]) := ⟨_, rfl⟩
            replace H : (letterbaglaw24_levels.l0 k1 a1 l2 y247 (l0_3.length : Int) (wrap64 (x13_1 + 1))) = some r := by first | (rw [hy247]; with_reducible exact H) | (have H2_ := (Option.bind_some _ _).symm.trans H; rw [hy247]; with_reducible exact H2_) | (have H2_ := (Option.bind_some _ _).symm.trans H; with_reducible exact H2_) | with_reducible exact H | (rw [hy247]; exact H) | exact H
            have Ny247 := Aside0.mk hy247
            clear hy247
            have H' := Aside0.mk H
            clear H
            go_wp2_with (first | ((with_reducible refine gate_builtin (b := .append) (xs := #[.tmp 29, .tmp 31]) rfl ?_); at_builtin; refine Kd.R_append (Kd.int .i64) (w0 := w) w.heap.size rfl (.tmp 29) (.tmp 31) 38 3 (.int .i64 0) 8 rfl Tryd.underlying38 info3 rfl (by decide) (by omega) u7 x7_1 0 [.int .i64 0] (fun _ => True) (fun _ => False) rfl rfl ?aP (fun _ hk => hk.elim) ?aF ?aO ?aB ?aS ?aL ?_; (case aP => exact rfl); (case aB => exact (by repeat (first | (with_reducible first | exact HB.out | apply below_alloc | apply pw_below_drewN | apply below_drew1 | refine below_set ?_ GE242.out) | exact HB.out))); (case aF => exact (fun _ _ => trivial)); (case aO => exact (by (with_reducible repeat (first | apply Kd.R_alloc | apply Kd.R_drewN | apply Kd.R_drew)); exact HO_7.out)); (case aS => exact (below_size (by repeat (first | (with_reducible first | exact HB.out | apply below_alloc | apply pw_below_drewN | apply below_drew1 | refine below_set ?_ GE242.out) | exact HB.out)))); (case aL => have := LMc15.out; omega); intro v248 w16 ho hb hg hat; rw [← Ny247.out] at ho; have n0_ := Aside0.mk (blk_grown (g := gb242) (o := .cells #[.int .u8 a0_0, .int .u8 a0_1, .string a0_2, .slice A0_3 l0_3.length c0_3] 36 (0, 0)) (by (with_reducible repeat (first | refine blk_drewN ?_ _ | refine blk_drew ?_ | refine blk_alloc ?_ _)); exact BK242.out) hg (Kd.R_ne HO_7.out BK242.out (by decide))); have n1_ := Aside0.mk (hb); have n2_ := Aside0.mk (ho); clear BK242; clear HB; clear HO_7; have BK242 := n0_; have HB := n1_; have HO249 := n2_; clear n0_ n1_ n2_; clear ho hb hg hat))
            go_roundg k1
            case measure => have := HK1.out; omega
            case rel => exact ⟨(y247), (wrap64 (x13_1 + 1)), (by first | rfl | (simp; done) | (simp [*]; done)), H', ⟨by have := HK1.out; omega⟩, ⟨by (with_reducible repeat (first | apply Kd.R_alloc | apply Kd.R_drewN | apply Kd.R_drew)); exact HO249.out⟩, ⟨by (with_reducible repeat (first | refine blk_drewN ?_ _ | refine blk_drew ?_ | refine blk_alloc ?_ _)); exact BK242.out⟩, ⟨by repeat (first | (with_reducible first | exact HB.out | apply below_alloc | apply pw_below_drewN | apply below_drew1 | refine below_set ?_ GE242.out) | exact HB.out)⟩⟩
          · rw [if_neg c15] at H
            exact absurd H (by simp)
      · rw [if_neg c6] at H
        have c6b0 : decide (x13_1 < (l0_3.length : Int)) = false := decide_eq_false c6
        clear c6
        obtain rfl := Option.some.inj H
        go_wp2
        go_ret
        exact ⟨_, by first | rfl | (simp [errW_none, errW_some] <;> rfl) | (simp [*, errW_none, errW_some] <;> rfl), by (with_reducible repeat (first | apply Kd.R_alloc | apply Kd.R_drewN | apply Kd.R_drew)); exact HO_7.out, by repeat (first | (with_reducible first | exact HB.out | apply below_alloc | apply pw_below_drewN | apply below_drew1 | refine below_set ?_ GE242.out) | exact HB.out)⟩
set_option maxHeartbeats 8000000 in
set_option maxRecDepth 100000 in
theorem letterbagkit_CopyInts.calls (A0 : Option Addr) (c0 : Nat) (l0 : List Int) (r : List Int) (w : World) (hr0 : Kd.C (Kd.int .i64) w A0 l0.length l0) (hc0 : l0.length ≤ c0) (h : letterbagkit_CopyInts.f l0 = some r) :
    Calls Tryd.prog 111 #[.slice A0 l0.length c0] w fun e w' => ∃ v0_ : Value, e = .returned (v0_) ∧ Kd.R (Kd.int .i64) 3 w' w.heap.size (fun _ => True) v0_ r ∧ Below w.heap.size w w' := by
  have HR0 := Aside0.mk hr0
  have HC0 := Aside0.mk hc0
  clear hr0 hc0
  have HB := Aside0.mk (Below.refl w.heap.size w)
  have H : (if ([] : List Int).length + l0.length < 17592186044416 then (some (([] : List Int) ++ l0)) else (none)) = some r := h
  clear h
  by_cases c2 : ([] : List Int).length + l0.length < 17592186044416
  · rw [if_pos c2] at H
    have LMc2 := Aside0.mk c2
    clear c2
    obtain ⟨y314, hy314⟩ : ∃ y_ : List Int, y_ = (([] : List Int) ++ l0) := ⟨_, rfl⟩
    replace H : (some y314) = some r := by first | (rw [hy314]; with_reducible exact H) | (have H2_ := (Option.bind_some _ _).symm.trans H; rw [hy314]; with_reducible exact H2_) | (have H2_ := (Option.bind_some _ _).symm.trans H; with_reducible exact H2_) | with_reducible exact H | (rw [hy314]; exact H) | exact H
    have Ny314 := Aside0.mk hy314
    clear hy314
    obtain rfl := Option.some.inj H
    go_enter Tryd.func111, Tryd.ntmps111
    go_wp2_with (first | ((with_reducible refine gate_builtin (b := .append) (xs := #[.tmp 4, .tmp 5]) rfl ?_); at_builtin; refine Kd.R_append_rows (Kd.int .i64) (w0 := w) w.heap.size rfl (.tmp 4) (.tmp 5) 38 3 (.int .i64 0) 8 rfl Tryd.underlying38 info3 rfl (by decide) (by omega) (.slice none 0 0) ([] : List Int) l0 _ _ _ (fun _ => True) (fun _ => False) rfl rfl ?aO ?aR (fun _ _ h => h) (fun _ h => h.elim) ?aF ?aB ?aS ?aL ?_; (case aR => repeat (first | exact HR0.out | (with_reducible refine Kd.C_alloc ?_ _) | (with_reducible refine Kd.C_drewN ?_ _) | (with_reducible refine Kd.C_drew ?_))); (case aB => exact (by repeat (first | (with_reducible first | exact HB.out | apply below_alloc | apply pw_below_drewN | apply below_drew1) | exact HB.out))); (case aF => exact (fun _ _ => trivial)); (case aO => exact ((Kd.R_nil _ _ _ _ (fun _ => True)))); (case aS => exact (below_size (by repeat (first | (with_reducible first | exact HB.out | apply below_alloc | apply pw_below_drewN | apply below_drew1) | exact HB.out)))); (case aL => have := LMc2.out; omega); intro v315 w3 ho hb hg hat; rw [← Ny314.out] at ho; have n0_ := Aside0.mk (hb); have n1_ := Aside0.mk (ho); clear HB; have HB := n0_; have HO316 := n1_; clear n0_ n1_; clear ho hb hg hat))
    go_ret
    exact ⟨_, by first | rfl | (simp [errW_none, errW_some] <;> rfl) | (simp [*, errW_none, errW_some] <;> rfl), by (with_reducible repeat (first | apply Kd.R_alloc | apply Kd.R_drewN | apply Kd.R_drew)); exact HO316.out, by repeat (first | (with_reducible first | exact HB.out | apply below_alloc | apply pw_below_drewN | apply below_drew1) | exact HB.out)⟩
  · rw [if_neg c2] at H
    exact absurd H (by simp)
set_option maxHeartbeats 8000000 in
set_option maxRecDepth 100000 in
theorem letterbagkit_CopyStep.calls (a0_0 : Int) (A0_1 : Option Addr) (c0_1 : Nat) (l0_1 : List Int) (r1 : Int) (r2 : List Int) (w : World) (hr0_1 : Kd.C (Kd.int .i64) w A0_1 l0_1.length l0_1) (hc0_1 : l0_1.length ≤ c0_1) (h : letterbagkit_CopyStep.f a0_0 l0_1 = some (r1, r2)) :
    Calls Tryd.prog 101 #[.agg #[.int .i64 a0_0, .slice A0_1 l0_1.length c0_1]] w fun e w' => ∃ v1_ : Value, e = .returned (.agg #[.int .i64 r1, v1_]) ∧ Kd.R (Kd.int .i64) 3 w' w.heap.size (fun _ => True) v1_ r2 ∧ Below w.heap.size w w' := by
  have hu61 := Tryd.underlying61
  have HR0_1 := Aside0.mk hr0_1
  have HC0_1 := Aside0.mk hc0_1
  clear hr0_1 hc0_1
  have HB := Aside0.mk (Below.refl w.heap.size w)
  have H : ((letterbagkit_CopyInts.f l0_1).bind fun t319 => (some (a0_0, t319))) = some (r1, r2) := h
  clear h
  replace H := Option.bind_eq_some_iff.mp H
  obtain ⟨t319, A20, H⟩ := H
  replace H : (some (a0_0, t319)) = some (r1, r2) := H
  have A2 := Aside0.mk A20
  clear A20
  simp only [Option.some.injEq, Prod.mk.injEq] at H
  obtain ⟨rfl, rfl⟩ := H
  go_enter Tryd.func101, Tryd.ntmps101
  go_wp2_with (first | ((with_reducible refine gate_dst (N := 1) rfl ?_); refine box_event ?hg (N := 1) ?hd (cs := #[.int .i64 a0_0, .slice A0_1 l0_1.length c0_1]) (t := 61) ?hr ?_; (case hd => rfl); (case hg => rfl); (case hr => first | (go_simp; done) | (go_simp; rfl)); intro gb317 hg w3 hbox hb; have n0_ := Aside0.mk (below_step (by repeat (first | (with_reducible first | exact HB.out | apply below_alloc | apply pw_below_drewN | apply below_drew1) | exact HB.out)) hb); have n1_ := Aside0.mk (hbox); have n2_ := Aside0.mk ((by rw [hg]; exact (below_size (by repeat (first | (with_reducible first | exact HB.out | apply below_alloc | apply pw_below_drewN | apply below_drew1) | exact HB.out))) : w.heap.size ≤ gb317)); have n3_ := Aside0.mk ((by rw [hg]; exact (below_size (by repeat (first | (with_reducible first | exact HB.out | apply below_alloc | apply pw_below_drewN | apply below_drew1) | exact HB.out))) : w.heap.size ≤ gb317)); clear HB; have HB := n0_; have BK317 := n1_; have GW317 := n2_; have GE317 := n3_; clear n0_ n1_ n2_ n3_; clear hb hbox hg) | ((with_reducible refine gate_dst (N := 2) rfl ?_); refine box_event ?hg (N := 2) ?hd (cs := #[.int .i64 0, .slice none 0 0]) (t := 61) ?hr ?_; (case hd => rfl); (case hg => rfl); (case hr => first | (go_simp; done) | (go_simp; rfl)); intro gb318 hg w4 hbox hb; have n0_ := Aside0.mk (blk_below (g := gb317) (o := .cells #[.int .i64 a0_0, .slice A0_1 l0_1.length c0_1] 61 (0, 0)) (by (with_reducible repeat (first | refine blk_drewN ?_ _ | refine blk_drew ?_ | refine blk_alloc ?_ _)); exact BK317.out) hb); have n1_ := Aside0.mk (below_step (by repeat (first | (with_reducible first | exact HB.out | apply below_alloc | apply pw_below_drewN | apply below_drew1 | refine below_set ?_ GE317.out) | exact HB.out)) hb); have n2_ := Aside0.mk (hbox); have n3_ := Aside0.mk ((by rw [hg]; exact (below_size (by repeat (first | (with_reducible first | exact HB.out | apply below_alloc | apply pw_below_drewN | apply below_drew1 | refine below_set ?_ GE317.out) | exact HB.out))) : w.heap.size ≤ gb318)); have n4_ := Aside0.mk ((by rw [hg]; exact (below_size (by repeat (first | (with_reducible first | exact HB.out | apply below_alloc | apply pw_below_drewN | apply below_drew1 | refine below_set ?_ GE317.out) | exact HB.out))) : w.heap.size ≤ gb318)); have n5_ := Aside0.mk ((by rw [hg]; exact Nat.ne_of_lt (blk_lt (g := gb317) (o := .cells #[.int .i64 a0_0, .slice A0_1 l0_1.length c0_1] 61 (0, 0)) (by (with_reducible repeat (first | refine blk_drewN ?_ _ | refine blk_drew ?_ | refine blk_alloc ?_ _)); exact BK317.out)) : gb317 ≠ gb318)); have n6_ := Aside0.mk ((by rw [hg]; exact Nat.ne_of_gt (blk_lt (g := gb317) (o := .cells #[.int .i64 a0_0, .slice A0_1 l0_1.length c0_1] 61 (0, 0)) (by (with_reducible repeat (first | refine blk_drewN ?_ _ | refine blk_drew ?_ | refine blk_alloc ?_ _)); exact BK317.out)) : gb318 ≠ gb317)); clear BK317; clear HB; have BK317 := n0_; have HB := n1_; have BK318 := n2_; have GW318 := n3_; have GE318 := n4_; have NB317_318 := n5_; have NB318_317 := n6_; clear n0_ n1_ n2_ n3_ n4_ n5_ n6_; clear hb hbox hg; have hnb5 := NB317_318.out; have hnc5 := NB318_317.out; have hcz6_0 : w4.cell? ⟨gb317, 0, none⟩ = some (.int .i64 a0_0) := (blk_cell BK317.out 0).trans rfl; have hcz6_1 : w4.cell? ⟨gb317, 1, none⟩ = some (.slice A0_1 l0_1.length c0_1) := (blk_cell BK317.out 1).trans rfl; have hfz6_0 := blk_frozen BK317.out 0; have hfz6_1 := blk_frozen BK317.out 1) | ((with_reducible refine gate_callee (f := 111) rfl ?_); refine goesL_ (some 5) rfl rfl Tryd.func111 (by kernel_rfl) rfl #[.slice A0_1 l0_1.length c0_1] rfl (by (try simp only [List.map_toArray, List.map_cons, List.map_nil]); first | done | rfl | (simp only [List.length_drop, List.length_take]; rfl)) ?_; (with_reducible refine (letterbagkit_CopyInts.calls _ _ l0_1 t319 _ ?side1 ?side2 A2.out).mono ?_); (case side1 => repeat (first | exact (Kd.C_below HR0_1.out HB.out) | (with_reducible refine Kd.C_alloc ?_ _) | (with_reducible refine Kd.C_drewN ?_ _) | (with_reducible refine Kd.C_drew ?_))); (case side2 => exact HC0_1.out); rintro e w7 ⟨v320, rfl, ho0, hb⟩; refine ⟨_, rfl, ?_⟩; have n0_ := Aside0.mk (Kd.R_lower ho0 (below_size (by repeat (first | (with_reducible first | exact HB.out | apply below_alloc | apply pw_below_drewN | apply below_drew1 | refine below_set ?_ GE317.out | refine below_set ?_ GE318.out) | exact HB.out)))); have n1_ := Aside0.mk (blk_below (g := gb317) (o := .cells #[.int .i64 a0_0, .slice A0_1 l0_1.length c0_1] 61 (0, 0)) (by (with_reducible repeat (first | refine blk_drewN ?_ _ | refine blk_drew ?_ | refine blk_alloc ?_ _)); exact BK317.out) hb); have n2_ := Aside0.mk (blk_below (g := gb318) (o := .cells #[.int .i64 0, .slice none 0 0] 61 (0, 0)) (by (with_reducible repeat (first | refine blk_drewN ?_ _ | refine blk_drew ?_ | refine blk_alloc ?_ _)); exact BK318.out) hb); have n3_ := Aside0.mk (below_step (by repeat (first | (with_reducible first | exact HB.out | apply below_alloc | apply pw_below_drewN | apply below_drew1 | refine below_set ?_ GE317.out | refine below_set ?_ GE318.out) | exact HB.out)) hb); clear BK317; clear BK318; clear HB; have HO321 := n0_; have BK317 := n1_; have BK318 := n2_; have HB := n3_; clear n0_ n1_ n2_ n3_; (try clear hb); (try clear hb2); (try clear hk); (try clear hi); (try clear ho0); obtain ⟨Ao8, co8, eo8⟩ := Kd.R_slice HO321.out; subst eo8; have hcz9_0 : w7.cell? ⟨gb317, 0, none⟩ = some (.int .i64 a0_0) := (blk_cell BK317.out 0).trans rfl; have hcz9_1 : w7.cell? ⟨gb317, 1, none⟩ = some (.slice A0_1 l0_1.length c0_1) := (blk_cell BK317.out 1).trans rfl; have hfz9_0 := blk_frozen BK317.out 0; have hfz9_1 := blk_frozen BK317.out 1; have hcz10_0 : w7.cell? ⟨gb318, 0, none⟩ = some (.int .i64 0) := (blk_cell BK318.out 0).trans rfl; have hcz10_1 : w7.cell? ⟨gb318, 1, none⟩ = some (.slice none 0 0) := (blk_cell BK318.out 1).trans rfl; have hfz10_0 := blk_frozen BK318.out 0; have hfz10_1 := blk_frozen BK318.out 1))
  refine bodyPost_ret (results_cell_row rfl _ _ gb318 61 #[.int .i64 a0_0, .slice Ao8 t319.length co8] (0, 0) _ rfl (by (with_reducible repeat (first | refine blk_drewN ?_ _ | refine blk_drew ?_ | refine blk_alloc ?_ _)); refine blk_put (cs := #[.int .i64 a0_0, .slice none 0 0]) ?_ 1 _ rfl; (with_reducible repeat (first | refine blk_drewN ?_ _ | refine blk_drew ?_ | refine blk_alloc ?_ _)); refine blk_put (cs := #[.int .i64 0, .slice none 0 0]) ?_ 0 _ rfl; (with_reducible repeat (first | refine blk_drewN ?_ _ | refine blk_drew ?_ | refine blk_alloc ?_ _)); refine blk_far ?_ NB318_317.out _; (with_reducible repeat (first | refine blk_drewN ?_ _ | refine blk_drew ?_ | refine blk_alloc ?_ _)); exact BK318.out) Tryd.underlying61 rfl (by kernel_rfl)) rfl ?_
  exact ⟨_, by first | rfl | (simp [errW_none, errW_some] <;> rfl) | (simp [*, errW_none, errW_some] <;> rfl), by (with_reducible repeat (first | apply Kd.R_alloc | apply Kd.R_drewN | apply Kd.R_drew)); exact Kd.R_mono (Kd.R_far (p := ⟨gb318, 1, none⟩) (Kd.R_far (p := ⟨gb318, 0, none⟩) (Kd.R_far (p := ⟨gb317, 1, none⟩) (Kd.R_types (Kd.R_types HO321.out BK317.out (by decide)) BK318.out (by decide)) (fun _ hk => hk.1.2) (.slice Ao8 t319.length co8)) (fun _ hk => hk.2) (.int .i64 a0_0)) (fun _ hk => hk.2) (.slice Ao8 t319.length co8)) (fun _ hk => trivial), by repeat (first | (with_reducible first | exact HB.out | apply below_alloc | apply pw_below_drewN | apply below_drew1 | refine below_set ?_ GE317.out | refine below_set ?_ GE318.out) | exact HB.out)⟩
set_option maxHeartbeats 8000000 in
set_option maxRecDepth 100000 in
theorem letterbagkit_CopySteps.calls (k : Nat) (A0 : Option Addr) (c0 : Nat) (l0 : List (S61)) (r : List (S61)) (w : World) (hr0 : Kd.C k61 w A0 l0.length l0) (hc0 : l0.length ≤ c0) (h : letterbagkit_CopySteps.f k l0 = some r) :
    Calls Tryd.prog 86 #[.slice A0 l0.length c0] w fun e w' => ∃ v0_ : Value, e = .returned (v0_) ∧ Kd.S k61 61 w' w.heap.size (fun _ => True) v0_ r ∧ Below w.heap.size w w' := by
  have hu61 := Tryd.underlying61
  have HR0 := Aside0.mk hr0
  have HC0 := Aside0.mk hc0
  clear hr0 hc0
  have HB := Aside0.mk (Below.refl w.heap.size w)
  have H : (letterbagkit_CopySteps.l0 k l0 ([] : List (S61)) 0) = some r := h
  clear h
  have H' := Aside0.mk H
  clear H
  go_enter Tryd.func86, Tryd.ntmps86
  go_wp2
  go_loopg [3, 4] k (fun kq v3 v4 w' => ∃ (x3_1 : List (S61)) (x4_1 : Int), v4 = .int .i64 x4_1 ∧ Aside0 (letterbagkit_CopySteps.l0 kq l0 x3_1 x4_1 = some r) ∧ Aside0 (kq ≤ k) ∧ Aside0 (Kd.S k61 61 w' w.heap.size (fun _ => True) v3 x3_1) ∧ Aside0 (Below w.heap.size w w'))
  case atStart => exact ⟨(([] : List (S61))), (0), (by first | rfl | (simp; done) | (simp [*]; done)), H', ⟨Nat.le_refl _⟩, ⟨by first | exact Kd.S_nil _ _ _ _ _ | exact Kd.N_nil _ _ _ _ _ | exact Kd.V_nil _ _ _ _ _ | exact Kd.Q_nil _ _ _ _ _ | exact Kd.R_nil _ _ _ _ _⟩, ⟨by repeat (first | (with_reducible first | exact HB.out | apply below_alloc | apply pw_below_drewN | apply below_drew1) | exact HB.out)⟩⟩
  case round =>
    clear H'
    obtain ⟨x3_1, x4_1, rfl, HA, HK1, HO_3, HB⟩ := hrel
    cases gk with
    | zero => exact absurd HA.out (by simp [letterbagkit_CopySteps.l0])
    | succ k1 =>
      have H := HA.out
      clear HA
      simp only [letterbagkit_CopySteps.l0] at H
      by_cases c2 : x4_1 < (l0.length : Int)
      · rw [if_pos c2] at H
        have c2b0 : decide (x4_1 < (l0.length : Int)) = true := decide_eq_true c2
        clear c2
        by_cases c3 : 0 ≤ x4_1
        · rw [if_pos c3] at H
          have c3b0 : decide (0 ≤ x4_1) = true := decide_eq_true c3
          clear c3
          replace H := Option.bind_eq_some_iff.mp H
          obtain ⟨⟨t323, t324⟩, A40, H⟩ := H
          replace H : (if x3_1.length < 4398046511104 then (letterbagkit_CopySteps.l0 k1 l0 (x3_1 ++ [(⟨t323, t324⟩ : S61)]) (wrap64 (x4_1 + 1))) else (none)) = some r := H
          have A4 := Aside0.mk A40
          clear A40
          by_cases c5 : x3_1.length < 4398046511104
          · rw [if_pos c5] at H
            have LMc5 := Aside0.mk c5
            clear c5
            obtain ⟨y328, hy328⟩ : ∃ y_ : List (S61), y_ = (x3_1 ++ [(⟨t323, t324⟩ : S61)]) := ⟨_, rfl⟩
            replace H : (letterbagkit_CopySteps.l0 k1 l0 y328 (wrap64 (x4_1 + 1))) = some r := by first | (rw [hy328]; with_reducible exact H) | (have H2_ := (Option.bind_some _ _).symm.trans H; rw [hy328]; with_reducible exact H2_) | (have H2_ := (Option.bind_some _ _).symm.trans H; with_reducible exact H2_) | with_reducible exact H | (rw [hy328]; exact H) | exact H
            have Ny328 := Aside0.mk hy328
            clear hy328
            have H' := Aside0.mk H
            clear H
            have p322 : 0 ≤ (x4_1 : Int) := of_decide_eq_true (by first | (with_reducible assumption) | assumption)
            have q322 : x4_1 < (l0.length : Int) := of_decide_eq_true (by first | (with_reducible assumption) | assumption)
            obtain ⟨ad322, A322_1, c322_1, e322, hx322_0, hx322_1, hl322_1, hi322_1⟩ := at_T61 HR0.out x4_1 p322 q322
            cases e322
            replace hx322_0 := (HB.out.cell (World.block_lt_of_cell? w _ hx322_0)).trans hx322_0
            replace hx322_1 := (HB.out.cell (World.block_lt_of_cell? w _ hx322_1)).trans hx322_1
            have HR322_1 := Aside0.mk hi322_1
            have HC322_1 := Aside0.mk hl322_1
            clear hi322_1 hl322_1
            replace p322 := eq_true p322
            replace q322 := eq_true q322
            go_wp2_with (first | ((with_reducible refine gate_callee (f := 101) rfl ?_); refine goesL_ (some 16) rfl rfl Tryd.func101 (by kernel_rfl) rfl #[.agg #[.int .i64 ((rd_T61 l0 x4_1).f0), .slice A322_1 ((rd_T61 l0 x4_1).f1).length c322_1]] rfl (by (try simp only [List.map_toArray, List.map_cons, List.map_nil]); first | done | rfl | (simp only [List.length_drop, List.length_take]; rfl)) ?_; (with_reducible refine (letterbagkit_CopyStep.calls ((rd_T61 l0 x4_1).f0) _ _ ((rd_T61 l0 x4_1).f1) t323 t324 _ ?side1 ?side2 A4.out).mono ?_); (case side1 => repeat (first | exact (Kd.C_below HR322_1.out HB.out) | (with_reducible refine Kd.C_alloc ?_ _) | (with_reducible refine Kd.C_drewN ?_ _) | (with_reducible refine Kd.C_drew ?_))); (case side2 => exact HC322_1.out); rintro e w6 ⟨v325, rfl, ho0, hb⟩; refine ⟨_, rfl, ?_⟩; have n0_ := Aside0.mk (Kd.S_elder' (by (with_reducible repeat (first | apply Kd.S_alloc | apply Kd.S_drewN | apply Kd.S_drew)); exact HO_3.out) (Kd.R_base ho0) hb); have n1_ := Aside0.mk (Kd.R_lower ho0 (below_size (by repeat (first | (with_reducible first | exact HB.out | apply below_alloc | apply pw_below_drewN | apply below_drew1) | exact HB.out)))); have n2_ := Aside0.mk (below_step (by repeat (first | (with_reducible first | exact HB.out | apply below_alloc | apply pw_below_drewN | apply below_drew1) | exact HB.out)) hb); clear HO_3; clear HB; have HO_3 := n0_; have HO326 := n1_; have HB := n2_; clear n0_ n1_ n2_; (try clear hb); (try clear hb2); (try clear hk); (try clear hi); (try clear ho0)) | ((with_reducible refine gate_dst (N := 5) rfl ?_); refine box_event ?hg (N := 5) ?hd (cs := #[.int .i64 0, .slice none 0 0]) (t := 61) ?hr ?_; (case hd => rfl); (case hg => rfl); (case hr => first | (go_simp; done) | (go_simp; rfl)); intro gb327 hg w7 hbox hb; have n0_ := Aside0.mk (Kd.S_below (Kd.S_elderB (by (with_reducible repeat (first | apply Kd.S_alloc | apply Kd.S_drewN | apply Kd.S_drew)); exact HO_3.out) gb327 (Nat.le_of_eq hg.symm)) hb); have n1_ := Aside0.mk (Kd.R_below (by (with_reducible repeat (first | apply Kd.R_alloc | apply Kd.R_drewN | apply Kd.R_drew)); exact HO326.out) hb); have n2_ := Aside0.mk (below_step (by repeat (first | (with_reducible first | exact HB.out | apply below_alloc | apply pw_below_drewN | apply below_drew1) | exact HB.out)) hb); have n3_ := Aside0.mk (hbox); have n4_ := Aside0.mk ((by rw [hg]; exact (below_size (by repeat (first | (with_reducible first | exact HB.out | apply below_alloc | apply pw_below_drewN | apply below_drew1) | exact HB.out))) : w.heap.size ≤ gb327)); have n5_ := Aside0.mk ((by rw [hg]; exact (below_size (by repeat (first | (with_reducible first | exact HB.out | apply below_alloc | apply pw_below_drewN | apply below_drew1) | exact HB.out))) : w.heap.size ≤ gb327)); clear HO_3; clear HO326; clear HB; have HO_3 := n0_; have HO326 := n1_; have HB := n2_; have BK327 := n3_; have GW327 := n4_; have GE327 := n5_; clear n0_ n1_ n2_ n3_ n4_ n5_; clear hb hbox hg; have hcz8_0 : w7.cell? ⟨gb327, 0, none⟩ = some (.int .i64 0) := (blk_cell BK327.out 0).trans rfl; have hcz8_1 : w7.cell? ⟨gb327, 1, none⟩ = some (.slice none 0 0) := (blk_cell BK327.out 1).trans rfl; have hfz8_0 := blk_frozen BK327.out 0; have hfz8_1 := blk_frozen BK327.out 1; obtain ⟨Ao9, co9, eo9⟩ := Kd.R_slice HO326.out; subst eo9) | ((with_reducible refine gate_store (t := 61) (p := 5) rfl ?_); refine store_event (t := 61) (p := 5) (v := ?vo_w10) (w1 := ((w7.setCell ⟨gb327, 0, none⟩ (.int .i64 t323)).setCell ⟨gb327, 1, none⟩ (.slice Ao9 t324.length co9))) ?hg ?ho ?hn ?hr ?_; (case ho => rfl); (case hg => rfl); (case hn => rfl); (case hr => first | (go_simp; done) | (go_simp; rfl)); intro w10 hw; have n0_ : Aside0 (Kd.S k61 61 w10 w.heap.size (fun k_ => some k_ ≠ (.slice Ao9 t324.length co9 : Value).ownBlock ∧ k_ ≠ gb327) u3 x3_1) := ⟨(by rw [hw]; exact (by (with_reducible repeat (first | apply Kd.S_alloc | apply Kd.S_drewN | apply Kd.S_drew)); exact Kd.S_mono (Kd.S_far (p := ⟨gb327, 1, none⟩) (Kd.S_far (p := ⟨gb327, 0, none⟩) (Kd.S_mono HO_3.out (fun k_ hk => (⟨hk, hk.2⟩ : _ ∧ k_ ≠ gb327))) (fun _ hk => hk.2) (.int .i64 t323)) (fun _ hk => hk.2) (.slice Ao9 t324.length co9)) (fun _ hk => ⟨hk.1.1.2, hk.1.2⟩)))⟩; have n1_ : Aside0 (Kd.R (Kd.int .i64) 3 w10 w.heap.size (fun _ => True) (.slice Ao9 t324.length co9) t324) := ⟨(by rw [hw]; exact (by (with_reducible repeat (first | apply Kd.R_alloc | apply Kd.R_drewN | apply Kd.R_drew)); exact Kd.R_mono (Kd.R_far (p := ⟨gb327, 1, none⟩) (Kd.R_far (p := ⟨gb327, 0, none⟩) (Kd.R_types HO326.out BK327.out (by decide)) (fun _ hk => hk.2) (.int .i64 t323)) (fun _ hk => hk.2) (.slice Ao9 t324.length co9)) (fun _ hk => trivial)))⟩; have n2_ : Aside0 (w10.heap[gb327]? = some (.cells #[.int .i64 t323, .slice Ao9 t324.length co9] 61 (0, 0))) := ⟨(by rw [hw]; exact (by (with_reducible repeat (first | refine blk_drewN ?_ _ | refine blk_drew ?_ | refine blk_alloc ?_ _)); refine blk_put (cs := #[.int .i64 t323, .slice none 0 0]) ?_ 1 _ rfl; (with_reducible repeat (first | refine blk_drewN ?_ _ | refine blk_drew ?_ | refine blk_alloc ?_ _)); refine blk_put (cs := #[.int .i64 0, .slice none 0 0]) ?_ 0 _ rfl; (with_reducible repeat (first | refine blk_drewN ?_ _ | refine blk_drew ?_ | refine blk_alloc ?_ _)); exact BK327.out))⟩; have n3_ : Aside0 (Below w.heap.size w w10) := ⟨(by rw [hw]; exact (by repeat (first | (with_reducible first | exact HB.out | apply below_alloc | apply pw_below_drewN | apply below_drew1 | refine below_set ?_ GE327.out) | exact HB.out)))⟩; clear hw; clear HO_3; clear HO326; clear BK327; clear HB; have HO_3 := n0_; have HO326 := n1_; have BK327 := n2_; have HB := n3_; clear n0_ n1_ n2_ n3_; have hcz11_0 : w10.cell? ⟨gb327, 0, none⟩ = some (.int .i64 t323) := (blk_cell BK327.out 0).trans rfl; have hcz11_1 : w10.cell? ⟨gb327, 1, none⟩ = some (.slice Ao9 t324.length co9) := (blk_cell BK327.out 1).trans rfl; have hfz11_0 := blk_frozen BK327.out 0; have hfz11_1 := blk_frozen BK327.out 1) | ((with_reducible refine gate_builtin (b := .append) (xs := #[.tmp 17, .tmp 19]) rfl ?_); at_builtin; refine Kd.S_append k61 (w0 := w) w.heap.size rfl (.tmp 17) (.tmp 19) 55 61 (.agg #[(.int .i64 0), (.slice none 0 0)]) 32 rfl Tryd.underlying55 info61 rfl (by decide) (by omega) u3 x3_1 (⟨t323, t324⟩ : S61) [.int .i64 t323, .slice Ao9 t324.length co9] (fun k_ => k_ ≠ gb327) (fun k_ => some k_ = (.slice Ao9 t324.length co9 : Value).ownBlock) rfl rfl ?aP (fun k_ hk_ => ((Kd.R_mono (ok' := fun k_ => ((fun k_ => k_ ≠ gb327)) k_ ∧ some k_ ≠ (u3 : Value).ownBlock) (Kd.R_types (Kd.R_apart' (HO326.out) (Kd.S_typed HO_3.out) (by decide)) BK327.out (by decide)) (fun k_ hk => ⟨hk.2, hk.1.2⟩))).1 k_ hk_.symm) ?aF ?aO ?aB ?aS ?aL ?_; (case aP => exact k61_mkM _ _ _ (⟨t323, t324⟩ : S61) (Kd.R_mono (Kd.R_tight rfl (Kd.R_mono (ok' := fun k_ => ((fun k_ => k_ ≠ gb327)) k_ ∧ some k_ ≠ (u3 : Value).ownBlock) (Kd.R_types (Kd.R_apart' (HO326.out) (Kd.S_typed HO_3.out) (by decide)) BK327.out (by decide)) (fun k_ hk => ⟨hk.2, hk.1.2⟩))) (fun _ h_ => h_))); (case aB => exact (by repeat (first | (with_reducible first | exact HB.out | apply below_alloc | apply pw_below_drewN | apply below_drew1 | refine below_set ?_ GE327.out) | exact HB.out))); (case aF => exact (fun k_ hk => Kd.freshB (g := gb327) (o := .cells #[.int .i64 t323, .slice Ao9 t324.length co9] 61 (0, 0)) (by (with_reducible repeat (first | refine blk_drewN ?_ _ | refine blk_drew ?_ | refine blk_alloc ?_ _)); exact BK327.out) k_ hk)); (case aO => exact (by (with_reducible repeat (first | apply Kd.S_alloc | apply Kd.S_drewN | apply Kd.S_drew)); exact Kd.S_mono HO_3.out (fun k_ hk => ⟨hk.2, fun e_ => hk.1 e_⟩))); (case aS => exact (below_size (by repeat (first | (with_reducible first | exact HB.out | apply below_alloc | apply pw_below_drewN | apply below_drew1 | refine below_set ?_ GE327.out) | exact HB.out)))); (case aL => have := LMc5.out; omega); intro v329 w12 ho hb hg hat; rw [← Ny328.out] at ho; have n0_ := Aside0.mk (blk_grown (g := gb327) (o := .cells #[.int .i64 t323, .slice Ao9 t324.length co9] 61 (0, 0)) (by (with_reducible repeat (first | refine blk_drewN ?_ _ | refine blk_drew ?_ | refine blk_alloc ?_ _)); exact BK327.out) hg (Kd.S_away HO_3.out (fun _ hk => hk.2))); have n1_ := Aside0.mk (hb); have n2_ := Aside0.mk (ho); clear BK327; clear HB; clear HO_3; clear HO326; have BK327 := n0_; have HB := n1_; have HO330 := n2_; clear n0_ n1_ n2_; clear ho hb hg hat))
            go_roundg k1
            case measure => have := HK1.out; omega
            case rel => exact ⟨(y328), (wrap64 (x4_1 + 1)), (by first | rfl | (simp; done) | (simp [*]; done)), H', ⟨by have := HK1.out; omega⟩, ⟨by (with_reducible repeat (first | apply Kd.S_alloc | apply Kd.S_drewN | apply Kd.S_drew)); exact Kd.S_mono HO330.out (fun _ hk => trivial)⟩, ⟨by repeat (first | (with_reducible first | exact HB.out | apply below_alloc | apply pw_below_drewN | apply below_drew1 | refine below_set ?_ GE327.out) | exact HB.out)⟩⟩
          · rw [if_neg c5] at H
            exact absurd H (by simp)
        · rw [if_neg c3] at H
          exact absurd H (by simp)
      · rw [if_neg c2] at H
        have c2b0 : decide (x4_1 < (l0.length : Int)) = false := decide_eq_false c2
        clear c2
        obtain rfl := Option.some.inj H
        go_wp2
        go_ret
        exact ⟨_, by first | rfl | (simp [errW_none, errW_some] <;> rfl) | (simp [*, errW_none, errW_some] <;> rfl), by (with_reducible repeat (first | apply Kd.S_alloc | apply Kd.S_drewN | apply Kd.S_drew)); exact HO_3.out, by repeat (first | (with_reducible first | exact HB.out | apply below_alloc | apply pw_below_drewN | apply below_drew1) | exact HB.out)⟩
set_option maxHeartbeats 8000000 in
set_option maxRecDepth 100000 in
theorem letterbagkit_CopyRate.calls (k : Nat) (a0_0 : Int) (A0_1 : Option Addr) (c0_1 : Nat) (l0_1 : List (S61)) (a0_2 : Int) (r1 : Int) (r2 : List (S61)) (r3 : Int) (w : World) (hr0_1 : Kd.C k61 w A0_1 l0_1.length l0_1) (hc0_1 : l0_1.length ≤ c0_1) (h : letterbagkit_CopyRate.f k a0_0 l0_1 a0_2 = some (r1, r2, r3)) :
    Calls Tryd.prog 71 #[.agg #[.int .u8 a0_0, .slice A0_1 l0_1.length c0_1, .int .i64 a0_2]] w fun e w' => ∃ v1_ : Value, e = .returned (.agg #[.int .u8 r1, v1_, .int .i64 r3]) ∧ Kd.S k61 61 w' w.heap.size (fun _ => True) v1_ r2 ∧ Below w.heap.size w w' := by
  have hu57 := Tryd.underlying57
  have HR0_1 := Aside0.mk hr0_1
  have HC0_1 := Aside0.mk hc0_1
  clear hr0_1 hc0_1
  have HB := Aside0.mk (Below.refl w.heap.size w)
  have H : ((letterbagkit_CopySteps.f k l0_1).bind fun t333 => (some (a0_0, t333, a0_2))) = some (r1, r2, r3) := h
  clear h
  replace H := Option.bind_eq_some_iff.mp H
  obtain ⟨t333, A20, H⟩ := H
  replace H : (some (a0_0, t333, a0_2)) = some (r1, r2, r3) := H
  have A2 := Aside0.mk A20
  clear A20
  simp only [Option.some.injEq, Prod.mk.injEq] at H
  obtain ⟨rfl, rfl, rfl⟩ := H
  go_enter Tryd.func71, Tryd.ntmps71
  go_wp2_with (first | ((with_reducible refine gate_dst (N := 1) rfl ?_); refine box_event ?hg (N := 1) ?hd (cs := #[.int .u8 a0_0, .slice A0_1 l0_1.length c0_1, .int .i64 a0_2]) (t := 57) ?hr ?_; (case hd => rfl); (case hg => rfl); (case hr => first | (go_simp; done) | (go_simp; rfl)); intro gb331 hg w3 hbox hb; have n0_ := Aside0.mk (below_step (by repeat (first | (with_reducible first | exact HB.out | apply below_alloc | apply pw_below_drewN | apply below_drew1) | exact HB.out)) hb); have n1_ := Aside0.mk (hbox); have n2_ := Aside0.mk ((by rw [hg]; exact (below_size (by repeat (first | (with_reducible first | exact HB.out | apply below_alloc | apply pw_below_drewN | apply below_drew1) | exact HB.out))) : w.heap.size ≤ gb331)); have n3_ := Aside0.mk ((by rw [hg]; exact (below_size (by repeat (first | (with_reducible first | exact HB.out | apply below_alloc | apply pw_below_drewN | apply below_drew1) | exact HB.out))) : w.heap.size ≤ gb331)); clear HB; have HB := n0_; have BK331 := n1_; have GW331 := n2_; have GE331 := n3_; clear n0_ n1_ n2_ n3_; clear hb hbox hg) | ((with_reducible refine gate_dst (N := 2) rfl ?_); refine box_event ?hg (N := 2) ?hd (cs := #[.int .u8 0, .slice none 0 0, .int .i64 0]) (t := 57) ?hr ?_; (case hd => rfl); (case hg => rfl); (case hr => first | (go_simp; done) | (go_simp; rfl)); intro gb332 hg w4 hbox hb; have n0_ := Aside0.mk (blk_below (g := gb331) (o := .cells #[.int .u8 a0_0, .slice A0_1 l0_1.length c0_1, .int .i64 a0_2] 57 (0, 0)) (by (with_reducible repeat (first | refine blk_drewN ?_ _ | refine blk_drew ?_ | refine blk_alloc ?_ _)); exact BK331.out) hb); have n1_ := Aside0.mk (below_step (by repeat (first | (with_reducible first | exact HB.out | apply below_alloc | apply pw_below_drewN | apply below_drew1 | refine below_set ?_ GE331.out) | exact HB.out)) hb); have n2_ := Aside0.mk (hbox); have n3_ := Aside0.mk ((by rw [hg]; exact (below_size (by repeat (first | (with_reducible first | exact HB.out | apply below_alloc | apply pw_below_drewN | apply below_drew1 | refine below_set ?_ GE331.out) | exact HB.out))) : w.heap.size ≤ gb332)); have n4_ := Aside0.mk ((by rw [hg]; exact (below_size (by repeat (first | (with_reducible first | exact HB.out | apply below_alloc | apply pw_below_drewN | apply below_drew1 | refine below_set ?_ GE331.out) | exact HB.out))) : w.heap.size ≤ gb332)); have n5_ := Aside0.mk ((by rw [hg]; exact Nat.ne_of_lt (blk_lt (g := gb331) (o := .cells #[.int .u8 a0_0, .slice A0_1 l0_1.length c0_1, .int .i64 a0_2] 57 (0, 0)) (by (with_reducible repeat (first | refine blk_drewN ?_ _ | refine blk_drew ?_ | refine blk_alloc ?_ _)); exact BK331.out)) : gb331 ≠ gb332)); have n6_ := Aside0.mk ((by rw [hg]; exact Nat.ne_of_gt (blk_lt (g := gb331) (o := .cells #[.int .u8 a0_0, .slice A0_1 l0_1.length c0_1, .int .i64 a0_2] 57 (0, 0)) (by (with_reducible repeat (first | refine blk_drewN ?_ _ | refine blk_drew ?_ | refine blk_alloc ?_ _)); exact BK331.out)) : gb332 ≠ gb331)); clear BK331; clear HB; have BK331 := n0_; have HB := n1_; have BK332 := n2_; have GW332 := n3_; have GE332 := n4_; have NB331_332 := n5_; have NB332_331 := n6_; clear n0_ n1_ n2_ n3_ n4_ n5_ n6_; clear hb hbox hg; have hnb5 := NB331_332.out; have hnc5 := NB332_331.out; have hcz6_0 : w4.cell? ⟨gb331, 0, none⟩ = some (.int .u8 a0_0) := (blk_cell BK331.out 0).trans rfl; have hcz6_1 : w4.cell? ⟨gb331, 1, none⟩ = some (.slice A0_1 l0_1.length c0_1) := (blk_cell BK331.out 1).trans rfl; have hcz6_2 : w4.cell? ⟨gb331, 2, none⟩ = some (.int .i64 a0_2) := (blk_cell BK331.out 2).trans rfl; have hfz6_0 := blk_frozen BK331.out 0; have hfz6_1 := blk_frozen BK331.out 1; have hfz6_2 := blk_frozen BK331.out 2) | ((with_reducible refine gate_callee (f := 86) rfl ?_); refine goesL_ (some 5) rfl rfl Tryd.func86 (by kernel_rfl) rfl #[.slice A0_1 l0_1.length c0_1] rfl (by (try simp only [List.map_toArray, List.map_cons, List.map_nil]); first | done | rfl | (simp only [List.length_drop, List.length_take]; rfl)) ?_; (with_reducible refine (letterbagkit_CopySteps.calls k _ _ l0_1 t333 _ ?side1 ?side2 A2.out).mono ?_); (case side1 => repeat (first | exact (Kd.C_below HR0_1.out HB.out) | (with_reducible refine Kd.C_alloc ?_ _) | (with_reducible refine Kd.C_drewN ?_ _) | (with_reducible refine Kd.C_drew ?_))); (case side2 => exact HC0_1.out); rintro e w7 ⟨v334, rfl, ho0, hb⟩; refine ⟨_, rfl, ?_⟩; have n0_ := Aside0.mk (Kd.S_lower ho0 (below_size (by repeat (first | (with_reducible first | exact HB.out | apply below_alloc | apply pw_below_drewN | apply below_drew1 | refine below_set ?_ GE331.out | refine below_set ?_ GE332.out) | exact HB.out)))); have n1_ := Aside0.mk (blk_below (g := gb331) (o := .cells #[.int .u8 a0_0, .slice A0_1 l0_1.length c0_1, .int .i64 a0_2] 57 (0, 0)) (by (with_reducible repeat (first | refine blk_drewN ?_ _ | refine blk_drew ?_ | refine blk_alloc ?_ _)); exact BK331.out) hb); have n2_ := Aside0.mk (blk_below (g := gb332) (o := .cells #[.int .u8 0, .slice none 0 0, .int .i64 0] 57 (0, 0)) (by (with_reducible repeat (first | refine blk_drewN ?_ _ | refine blk_drew ?_ | refine blk_alloc ?_ _)); exact BK332.out) hb); have n3_ := Aside0.mk (below_step (by repeat (first | (with_reducible first | exact HB.out | apply below_alloc | apply pw_below_drewN | apply below_drew1 | refine below_set ?_ GE331.out | refine below_set ?_ GE332.out) | exact HB.out)) hb); clear BK331; clear BK332; clear HB; have HO335 := n0_; have BK331 := n1_; have BK332 := n2_; have HB := n3_; clear n0_ n1_ n2_ n3_; (try clear hb); (try clear hb2); (try clear hk); (try clear hi); (try clear ho0); obtain ⟨Ao8, co8, eo8⟩ := Kd.S_slice HO335.out; subst eo8; have hcz9_0 : w7.cell? ⟨gb331, 0, none⟩ = some (.int .u8 a0_0) := (blk_cell BK331.out 0).trans rfl; have hcz9_1 : w7.cell? ⟨gb331, 1, none⟩ = some (.slice A0_1 l0_1.length c0_1) := (blk_cell BK331.out 1).trans rfl; have hcz9_2 : w7.cell? ⟨gb331, 2, none⟩ = some (.int .i64 a0_2) := (blk_cell BK331.out 2).trans rfl; have hfz9_0 := blk_frozen BK331.out 0; have hfz9_1 := blk_frozen BK331.out 1; have hfz9_2 := blk_frozen BK331.out 2; have hcz10_0 : w7.cell? ⟨gb332, 0, none⟩ = some (.int .u8 0) := (blk_cell BK332.out 0).trans rfl; have hcz10_1 : w7.cell? ⟨gb332, 1, none⟩ = some (.slice none 0 0) := (blk_cell BK332.out 1).trans rfl; have hcz10_2 : w7.cell? ⟨gb332, 2, none⟩ = some (.int .i64 0) := (blk_cell BK332.out 2).trans rfl; have hfz10_0 := blk_frozen BK332.out 0; have hfz10_1 := blk_frozen BK332.out 1; have hfz10_2 := blk_frozen BK332.out 2))
  refine bodyPost_ret (results_cell_row rfl _ _ gb332 57 #[.int .u8 a0_0, .slice Ao8 t333.length co8, .int .i64 a0_2] (0, 0) _ rfl (by (with_reducible repeat (first | refine blk_drewN ?_ _ | refine blk_drew ?_ | refine blk_alloc ?_ _)); refine blk_put (cs := #[.int .u8 a0_0, .slice Ao8 t333.length co8, .int .i64 0]) ?_ 2 _ rfl; (with_reducible repeat (first | refine blk_drewN ?_ _ | refine blk_drew ?_ | refine blk_alloc ?_ _)); refine blk_put (cs := #[.int .u8 a0_0, .slice none 0 0, .int .i64 0]) ?_ 1 _ rfl; (with_reducible repeat (first | refine blk_drewN ?_ _ | refine blk_drew ?_ | refine blk_alloc ?_ _)); refine blk_put (cs := #[.int .u8 0, .slice none 0 0, .int .i64 0]) ?_ 0 _ rfl; (with_reducible repeat (first | refine blk_drewN ?_ _ | refine blk_drew ?_ | refine blk_alloc ?_ _)); refine blk_far ?_ NB332_331.out _; (with_reducible repeat (first | refine blk_drewN ?_ _ | refine blk_drew ?_ | refine blk_alloc ?_ _)); exact BK332.out) Tryd.underlying57 rfl (by kernel_rfl)) rfl ?_
  exact ⟨_, by first | rfl | (simp [errW_none, errW_some] <;> rfl) | (simp [*, errW_none, errW_some] <;> rfl), by (with_reducible repeat (first | apply Kd.S_alloc | apply Kd.S_drewN | apply Kd.S_drew)); exact Kd.S_mono (Kd.S_far (p := ⟨gb332, 2, none⟩) (Kd.S_far (p := ⟨gb332, 1, none⟩) (Kd.S_far (p := ⟨gb332, 0, none⟩) (Kd.S_far (p := ⟨gb331, 1, none⟩) (Kd.S_types (Kd.S_types HO335.out BK331.out (by decide)) BK332.out (by decide)) (fun _ hk => hk.1.2) (.slice Ao8 t333.length co8)) (fun _ hk => hk.2) (.int .u8 a0_0)) (fun _ hk => hk.2) (.slice Ao8 t333.length co8)) (fun _ hk => hk.2) (.int .i64 a0_2)) (fun _ hk => trivial), by repeat (first | (with_reducible first | exact HB.out | apply below_alloc | apply pw_below_drewN | apply below_drew1 | refine below_set ?_ GE331.out | refine below_set ?_ GE332.out) | exact HB.out)⟩
set_option maxHeartbeats 8000000 in
set_option maxRecDepth 100000 in
theorem letterbagkit_CopyRates.calls (k : Nat) (A0 : Option Addr) (c0 : Nat) (l0 : List (S57)) (r : List (S57)) (w : World) (hr0 : Kd.C k57 w A0 l0.length l0) (hc0 : l0.length ≤ c0) (h : letterbagkit_CopyRates.f k l0 = some r) :
    Calls Tryd.prog 49 #[.slice A0 l0.length c0] w fun e w' => ∃ v0_ : Value, e = .returned (v0_) ∧ Kd.R k57 57 w' w.heap.size (fun _ => True) v0_ r ∧ Below w.heap.size w w' := by
  have hu57 := Tryd.underlying57
  have HR0 := Aside0.mk hr0
  have HC0 := Aside0.mk hc0
  clear hr0 hc0
  have HB := Aside0.mk (Below.refl w.heap.size w)
  have H : (letterbagkit_CopyRates.l0 k l0 ([] : List (S57)) 0) = some r := h
  clear h
  have H' := Aside0.mk H
  clear H
  go_enter Tryd.func49, Tryd.ntmps49
  go_wp2
  go_loopg [3, 4] k (fun kq v3 v4 w' => ∃ (x3_1 : List (S57)) (x4_1 : Int), v4 = .int .i64 x4_1 ∧ Aside0 (letterbagkit_CopyRates.l0 kq l0 x3_1 x4_1 = some r) ∧ Aside0 (kq ≤ k) ∧ Aside0 (Kd.R k57 57 w' w.heap.size (fun _ => True) v3 x3_1) ∧ Aside0 (Below w.heap.size w w'))
  case atStart => exact ⟨(([] : List (S57))), (0), (by first | rfl | (simp; done) | (simp [*]; done)), H', ⟨Nat.le_refl _⟩, ⟨by first | exact Kd.R_nil _ _ _ _ _ | exact Kd.N_nil _ _ _ _ _ | exact Kd.V_nil _ _ _ _ _ | exact Kd.Q_nil _ _ _ _ _ | exact Kd.S_nil _ _ _ _ _⟩, ⟨by repeat (first | (with_reducible first | exact HB.out | apply below_alloc | apply pw_below_drewN | apply below_drew1) | exact HB.out)⟩⟩
  case round =>
    clear H'
    obtain ⟨x3_1, x4_1, rfl, HA, HK1, HO_3, HB⟩ := hrel
    cases gk with
    | zero => exact absurd HA.out (by simp [letterbagkit_CopyRates.l0])
    | succ k1 =>
      have H := HA.out
      clear HA
      simp only [letterbagkit_CopyRates.l0] at H
      by_cases c2 : x4_1 < (l0.length : Int)
      · rw [if_pos c2] at H
        have c2b0 : decide (x4_1 < (l0.length : Int)) = true := decide_eq_true c2
        clear c2
        by_cases c3 : 0 ≤ x4_1
        · rw [if_pos c3] at H
          have c3b0 : decide (0 ≤ x4_1) = true := decide_eq_true c3
          clear c3
          replace H := Option.bind_eq_some_iff.mp H
          obtain ⟨⟨t337, t338, t341⟩, A40, H⟩ := H
          replace H : (if x3_1.length < 3518437208883 then (letterbagkit_CopyRates.l0 k1 l0 (x3_1 ++ [(⟨t337, t338, t341⟩ : S57)]) (wrap64 (x4_1 + 1))) else (none)) = some r := H
          have A4 := Aside0.mk A40
          clear A40
          by_cases c5 : x3_1.length < 3518437208883
          · rw [if_pos c5] at H
            have LMc5 := Aside0.mk c5
            clear c5
            obtain ⟨y343, hy343⟩ : ∃ y_ : List (S57), y_ = (x3_1 ++ [(⟨t337, t338, t341⟩ : S57)]) := ⟨_, rfl⟩
            replace H : (letterbagkit_CopyRates.l0 k1 l0 y343 (wrap64 (x4_1 + 1))) = some r := by first | (rw [hy343]; with_reducible exact H) | (have H2_ := (Option.bind_some _ _).symm.trans H; rw [hy343]; with_reducible exact H2_) | (have H2_ := (Option.bind_some _ _).symm.trans H; with_reducible exact H2_) | with_reducible exact H | (rw [hy343]; exact H) | exact H
            have Ny343 := Aside0.mk hy343
            clear hy343
            have H' := Aside0.mk H
            clear H
            have p336 : 0 ≤ (x4_1 : Int) := of_decide_eq_true (by first | (with_reducible assumption) | assumption)
            have q336 : x4_1 < (l0.length : Int) := of_decide_eq_true (by first | (with_reducible assumption) | assumption)
            obtain ⟨ad336, A336_1, c336_1, e336, hx336_0, hx336_1, hx336_2, hl336_1, hi336_1⟩ := at_T57 HR0.out x4_1 p336 q336
            cases e336
            replace hx336_0 := (HB.out.cell (World.block_lt_of_cell? w _ hx336_0)).trans hx336_0
            replace hx336_1 := (HB.out.cell (World.block_lt_of_cell? w _ hx336_1)).trans hx336_1
            replace hx336_2 := (HB.out.cell (World.block_lt_of_cell? w _ hx336_2)).trans hx336_2
            have HR336_1 := Aside0.mk hi336_1
            have HC336_1 := Aside0.mk hl336_1
            clear hi336_1 hl336_1
            replace p336 := eq_true p336
            replace q336 := eq_true q336
            go_wp2_with (first | ((with_reducible refine gate_callee (f := 71) rfl ?_); refine goesL_ (some 16) rfl rfl Tryd.func71 (by kernel_rfl) rfl #[.agg #[.int .u8 ((rd_T57 l0 x4_1).f0), .slice A336_1 ((rd_T57 l0 x4_1).f1).length c336_1, .int .i64 ((rd_T57 l0 x4_1).f2)]] rfl (by (try simp only [List.map_toArray, List.map_cons, List.map_nil]); first | done | rfl | (simp only [List.length_drop, List.length_take]; rfl)) ?_; (with_reducible refine (letterbagkit_CopyRate.calls k1 ((rd_T57 l0 x4_1).f0) _ _ ((rd_T57 l0 x4_1).f1) ((rd_T57 l0 x4_1).f2) t337 t338 t341 _ ?side1 ?side2 A4.out).mono ?_); (case side1 => repeat (first | exact (Kd.C_below HR336_1.out HB.out) | (with_reducible refine Kd.C_alloc ?_ _) | (with_reducible refine Kd.C_drewN ?_ _) | (with_reducible refine Kd.C_drew ?_))); (case side2 => exact HC336_1.out); rintro e w6 ⟨v339, rfl, ho0, hb⟩; refine ⟨_, rfl, ?_⟩; have n0_ := Aside0.mk (Kd.R_elder' (by (with_reducible repeat (first | apply Kd.R_alloc | apply Kd.R_drewN | apply Kd.R_drew)); exact HO_3.out) (Kd.S_base ho0) hb); have n1_ := Aside0.mk (Kd.S_lower ho0 (below_size (by repeat (first | (with_reducible first | exact HB.out | apply below_alloc | apply pw_below_drewN | apply below_drew1) | exact HB.out)))); have n2_ := Aside0.mk (below_step (by repeat (first | (with_reducible first | exact HB.out | apply below_alloc | apply pw_below_drewN | apply below_drew1) | exact HB.out)) hb); clear HO_3; clear HB; have HO_3 := n0_; have HO340 := n1_; have HB := n2_; clear n0_ n1_ n2_; (try clear hb); (try clear hb2); (try clear hk); (try clear hi); (try clear ho0)) | ((with_reducible refine gate_dst (N := 5) rfl ?_); refine box_event ?hg (N := 5) ?hd (cs := #[.int .u8 0, .slice none 0 0, .int .i64 0]) (t := 57) ?hr ?_; (case hd => rfl); (case hg => rfl); (case hr => first | (go_simp; done) | (go_simp; rfl)); intro gb342 hg w7 hbox hb; have n0_ := Aside0.mk (Kd.R_below (Kd.R_elderB (by (with_reducible repeat (first | apply Kd.R_alloc | apply Kd.R_drewN | apply Kd.R_drew)); exact HO_3.out) gb342 (Nat.le_of_eq hg.symm)) hb); have n1_ := Aside0.mk (Kd.S_below (by (with_reducible repeat (first | apply Kd.S_alloc | apply Kd.S_drewN | apply Kd.S_drew)); exact HO340.out) hb); have n2_ := Aside0.mk (below_step (by repeat (first | (with_reducible first | exact HB.out | apply below_alloc | apply pw_below_drewN | apply below_drew1) | exact HB.out)) hb); have n3_ := Aside0.mk (hbox); have n4_ := Aside0.mk ((by rw [hg]; exact (below_size (by repeat (first | (with_reducible first | exact HB.out | apply below_alloc | apply pw_below_drewN | apply below_drew1) | exact HB.out))) : w.heap.size ≤ gb342)); have n5_ := Aside0.mk ((by rw [hg]; exact (below_size (by repeat (first | (with_reducible first | exact HB.out | apply below_alloc | apply pw_below_drewN | apply below_drew1) | exact HB.out))) : w.heap.size ≤ gb342)); clear HO_3; clear HO340; clear HB; have HO_3 := n0_; have HO340 := n1_; have HB := n2_; have BK342 := n3_; have GW342 := n4_; have GE342 := n5_; clear n0_ n1_ n2_ n3_ n4_ n5_; clear hb hbox hg; have hcz8_0 : w7.cell? ⟨gb342, 0, none⟩ = some (.int .u8 0) := (blk_cell BK342.out 0).trans rfl; have hcz8_1 : w7.cell? ⟨gb342, 1, none⟩ = some (.slice none 0 0) := (blk_cell BK342.out 1).trans rfl; have hcz8_2 : w7.cell? ⟨gb342, 2, none⟩ = some (.int .i64 0) := (blk_cell BK342.out 2).trans rfl; have hfz8_0 := blk_frozen BK342.out 0; have hfz8_1 := blk_frozen BK342.out 1; have hfz8_2 := blk_frozen BK342.out 2; obtain ⟨Ao9, co9, eo9⟩ := Kd.S_slice HO340.out; subst eo9) | ((with_reducible refine gate_store (t := 57) (p := 5) rfl ?_); refine store_event (t := 57) (p := 5) (v := ?vo_w10) (w1 := (((w7.setCell ⟨gb342, 0, none⟩ (.int .u8 t337)).setCell ⟨gb342, 1, none⟩ (.slice Ao9 t338.length co9)).setCell ⟨gb342, 2, none⟩ (.int .i64 t341))) ?hg ?ho ?hn ?hr ?_; (case ho => rfl); (case hg => rfl); (case hn => rfl); (case hr => first | (go_simp; done) | (go_simp; rfl)); intro w10 hw; have n0_ : Aside0 (Kd.R k57 57 w10 w.heap.size (fun k_ => some k_ ≠ (.slice Ao9 t338.length co9 : Value).ownBlock ∧ k_ ≠ gb342) u3 x3_1) := ⟨(by rw [hw]; exact (by (with_reducible repeat (first | apply Kd.R_alloc | apply Kd.R_drewN | apply Kd.R_drew)); exact Kd.R_mono (Kd.R_far (p := ⟨gb342, 2, none⟩) (Kd.R_far (p := ⟨gb342, 1, none⟩) (Kd.R_far (p := ⟨gb342, 0, none⟩) (Kd.R_mono HO_3.out (fun k_ hk => (⟨hk, hk.2⟩ : _ ∧ k_ ≠ gb342))) (fun _ hk => hk.2) (.int .u8 t337)) (fun _ hk => hk.2) (.slice Ao9 t338.length co9)) (fun _ hk => hk.2) (.int .i64 t341)) (fun _ hk => ⟨hk.1.1.2, hk.1.2⟩)))⟩; have n1_ : Aside0 (Kd.S k61 61 w10 w.heap.size (fun _ => True) (.slice Ao9 t338.length co9) t338) := ⟨(by rw [hw]; exact (by (with_reducible repeat (first | apply Kd.S_alloc | apply Kd.S_drewN | apply Kd.S_drew)); exact Kd.S_mono (Kd.S_far (p := ⟨gb342, 2, none⟩) (Kd.S_far (p := ⟨gb342, 1, none⟩) (Kd.S_far (p := ⟨gb342, 0, none⟩) (Kd.S_types HO340.out BK342.out (by decide)) (fun _ hk => hk.2) (.int .u8 t337)) (fun _ hk => hk.2) (.slice Ao9 t338.length co9)) (fun _ hk => hk.2) (.int .i64 t341)) (fun _ hk => trivial)))⟩; have n2_ : Aside0 (w10.heap[gb342]? = some (.cells #[.int .u8 t337, .slice Ao9 t338.length co9, .int .i64 t341] 57 (0, 0))) := ⟨(by rw [hw]; exact (by (with_reducible repeat (first | refine blk_drewN ?_ _ | refine blk_drew ?_ | refine blk_alloc ?_ _)); refine blk_put (cs := #[.int .u8 t337, .slice Ao9 t338.length co9, .int .i64 0]) ?_ 2 _ rfl; (with_reducible repeat (first | refine blk_drewN ?_ _ | refine blk_drew ?_ | refine blk_alloc ?_ _)); refine blk_put (cs := #[.int .u8 t337, .slice none 0 0, .int .i64 0]) ?_ 1 _ rfl; (with_reducible repeat (first | refine blk_drewN ?_ _ | refine blk_drew ?_ | refine blk_alloc ?_ _)); refine blk_put (cs := #[.int .u8 0, .slice none 0 0, .int .i64 0]) ?_ 0 _ rfl; (with_reducible repeat (first | refine blk_drewN ?_ _ | refine blk_drew ?_ | refine blk_alloc ?_ _)); exact BK342.out))⟩; have n3_ : Aside0 (Below w.heap.size w w10) := ⟨(by rw [hw]; exact (by repeat (first | (with_reducible first | exact HB.out | apply below_alloc | apply pw_below_drewN | apply below_drew1 | refine below_set ?_ GE342.out) | exact HB.out)))⟩; clear hw; clear HO_3; clear HO340; clear BK342; clear HB; have HO_3 := n0_; have HO340 := n1_; have BK342 := n2_; have HB := n3_; clear n0_ n1_ n2_ n3_; have hcz11_0 : w10.cell? ⟨gb342, 0, none⟩ = some (.int .u8 t337) := (blk_cell BK342.out 0).trans rfl; have hcz11_1 : w10.cell? ⟨gb342, 1, none⟩ = some (.slice Ao9 t338.length co9) := (blk_cell BK342.out 1).trans rfl; have hcz11_2 : w10.cell? ⟨gb342, 2, none⟩ = some (.int .i64 t341) := (blk_cell BK342.out 2).trans rfl; have hfz11_0 := blk_frozen BK342.out 0; have hfz11_1 := blk_frozen BK342.out 1; have hfz11_2 := blk_frozen BK342.out 2) | ((with_reducible refine gate_builtin (b := .append) (xs := #[.tmp 17, .tmp 19]) rfl ?_); at_builtin; refine Kd.R_append k57 (w0 := w) w.heap.size rfl (.tmp 17) (.tmp 19) 22 57 (.agg #[(.int .u8 0), (.slice none 0 0), (.int .i64 0)]) 40 rfl Tryd.underlying22 info57 rfl (by decide) (by omega) u3 x3_1 (⟨t337, t338, t341⟩ : S57) [.int .u8 t337, .slice Ao9 t338.length co9, .int .i64 t341] (fun k_ => k_ ≠ gb342) (fun k_ => ((fun k_ => k_ ≠ gb342)) k_ ∧ some k_ ≠ (u3 : Value).ownBlock) rfl rfl ?aP (fun _ hk => hk) ?aF ?aO ?aB ?aS ?aL ?_; (case aP => exact k57_mkM _ _ _ (⟨t337, t338, t341⟩ : S57) (Kd.R_mono (Kd.R_types (Kd.R_apart' ((Kd.S_R HO340.out)) (Kd.R_typed HO_3.out) (by decide)) BK342.out (by decide)) (fun k_ hk => ⟨hk.2, hk.1.2⟩))); (case aB => exact (by repeat (first | (with_reducible first | exact HB.out | apply below_alloc | apply pw_below_drewN | apply below_drew1 | refine below_set ?_ GE342.out) | exact HB.out))); (case aF => exact (fun k_ hk => Kd.freshB (g := gb342) (o := .cells #[.int .u8 t337, .slice Ao9 t338.length co9, .int .i64 t341] 57 (0, 0)) (by (with_reducible repeat (first | refine blk_drewN ?_ _ | refine blk_drew ?_ | refine blk_alloc ?_ _)); exact BK342.out) k_ hk)); (case aO => exact (by (with_reducible repeat (first | apply Kd.R_alloc | apply Kd.R_drewN | apply Kd.R_drew)); exact Kd.R_mono HO_3.out (fun _ hk => hk.2))); (case aS => exact (below_size (by repeat (first | (with_reducible first | exact HB.out | apply below_alloc | apply pw_below_drewN | apply below_drew1 | refine below_set ?_ GE342.out) | exact HB.out)))); (case aL => have := LMc5.out; omega); intro v344 w12 ho hb hg hat; rw [← Ny343.out] at ho; have n0_ := Aside0.mk (blk_grown (g := gb342) (o := .cells #[.int .u8 t337, .slice Ao9 t338.length co9, .int .i64 t341] 57 (0, 0)) (by (with_reducible repeat (first | refine blk_drewN ?_ _ | refine blk_drew ?_ | refine blk_alloc ?_ _)); exact BK342.out) hg (Kd.R_away HO_3.out (fun _ hk => hk.2))); have n1_ := Aside0.mk (hb); have n2_ := Aside0.mk (ho); clear BK342; clear HB; clear HO_3; clear HO340; have BK342 := n0_; have HB := n1_; have HO345 := n2_; clear n0_ n1_ n2_; clear ho hb hg hat))
            go_roundg k1
            case measure => have := HK1.out; omega
            case rel => exact ⟨(y343), (wrap64 (x4_1 + 1)), (by first | rfl | (simp; done) | (simp [*]; done)), H', ⟨by have := HK1.out; omega⟩, ⟨by (with_reducible repeat (first | apply Kd.R_alloc | apply Kd.R_drewN | apply Kd.R_drew)); exact Kd.R_mono HO345.out (fun _ hk => trivial)⟩, ⟨by repeat (first | (with_reducible first | exact HB.out | apply below_alloc | apply pw_below_drewN | apply below_drew1 | refine below_set ?_ GE342.out) | exact HB.out)⟩⟩
          · rw [if_neg c5] at H
            exact absurd H (by simp)
        · rw [if_neg c3] at H
          exact absurd H (by simp)
      · rw [if_neg c2] at H
        have c2b0 : decide (x4_1 < (l0.length : Int)) = false := decide_eq_false c2
        clear c2
        obtain rfl := Option.some.inj H
        go_wp2
        go_ret
        exact ⟨_, by first | rfl | (simp [errW_none, errW_some] <;> rfl) | (simp [*, errW_none, errW_some] <;> rfl), by (with_reducible repeat (first | apply Kd.R_alloc | apply Kd.R_drewN | apply Kd.R_drew)); exact HO_3.out, by repeat (first | (with_reducible first | exact HB.out | apply below_alloc | apply pw_below_drewN | apply below_drew1) | exact HB.out)⟩
set_option maxHeartbeats 8000000 in
set_option maxRecDepth 100000 in
theorem letterbagkit_CopyZones.calls (A0 : Option Addr) (c0 : Nat) (l0 : List (S67)) (r : List (S67)) (w : World) (hr0 : Kd.C k67 w A0 l0.length l0) (hc0 : l0.length ≤ c0) (h : letterbagkit_CopyZones.f l0 = some r) :
    Calls Tryd.prog 50 #[.slice A0 l0.length c0] w fun e w' => ∃ v0_ : Value, e = .returned (v0_) ∧ Kd.R k67 67 w' w.heap.size (fun _ => True) v0_ r ∧ Below w.heap.size w w' := by
  have HR0 := Aside0.mk hr0
  have HC0 := Aside0.mk hc0
  clear hr0 hc0
  have HB := Aside0.mk (Below.refl w.heap.size w)
  have H : (if ([] : List (S67)).length + l0.length < 3518437208883 then (some (([] : List (S67)) ++ l0)) else (none)) = some r := h
  clear h
  by_cases c2 : ([] : List (S67)).length + l0.length < 3518437208883
  · rw [if_pos c2] at H
    have LMc2 := Aside0.mk c2
    clear c2
    obtain ⟨y346, hy346⟩ : ∃ y_ : List (S67), y_ = (([] : List (S67)) ++ l0) := ⟨_, rfl⟩
    replace H : (some y346) = some r := by first | (rw [hy346]; with_reducible exact H) | (have H2_ := (Option.bind_some _ _).symm.trans H; rw [hy346]; with_reducible exact H2_) | (have H2_ := (Option.bind_some _ _).symm.trans H; with_reducible exact H2_) | with_reducible exact H | (rw [hy346]; exact H) | exact H
    have Ny346 := Aside0.mk hy346
    clear hy346
    obtain rfl := Option.some.inj H
    go_enter Tryd.func50, Tryd.ntmps50
    go_wp2_with (first | ((with_reducible refine gate_builtin (b := .append) (xs := #[.tmp 4, .tmp 5]) rfl ?_); at_builtin; refine Kd.R_append_rows k67 (w0 := w) w.heap.size rfl (.tmp 4) (.tmp 5) 23 67 (.agg #[(.string ⟨#[]⟩), (.string ⟨#[]⟩), (.int .i64 0)]) 40 rfl Tryd.underlying23 info67 rfl (by decide) (by omega) (.slice none 0 0) ([] : List (S67)) l0 _ _ _ (fun _ => True) (fun _ => False) rfl rfl ?aO ?aR (fun _ _ h => h) (fun _ h => h.elim) ?aF ?aB ?aS ?aL ?_; (case aR => repeat (first | exact HR0.out | (with_reducible refine Kd.C_alloc ?_ _) | (with_reducible refine Kd.C_drewN ?_ _) | (with_reducible refine Kd.C_drew ?_))); (case aB => exact (by repeat (first | (with_reducible first | exact HB.out | apply below_alloc | apply pw_below_drewN | apply below_drew1) | exact HB.out))); (case aF => exact (fun _ _ => trivial)); (case aO => exact ((Kd.R_nil _ _ _ _ (fun _ => True)))); (case aS => exact (below_size (by repeat (first | (with_reducible first | exact HB.out | apply below_alloc | apply pw_below_drewN | apply below_drew1) | exact HB.out)))); (case aL => have := LMc2.out; omega); intro v347 w3 ho hb hg hat; rw [← Ny346.out] at ho; have n0_ := Aside0.mk (hb); have n1_ := Aside0.mk (ho); clear HB; have HB := n0_; have HO348 := n1_; clear n0_ n1_; clear ho hb hg hat))
    go_ret
    exact ⟨_, by first | rfl | (simp [errW_none, errW_some] <;> rfl) | (simp [*, errW_none, errW_some] <;> rfl), by (with_reducible repeat (first | apply Kd.R_alloc | apply Kd.R_drewN | apply Kd.R_drew)); exact HO348.out, by repeat (first | (with_reducible first | exact HB.out | apply below_alloc | apply pw_below_drewN | apply below_drew1) | exact HB.out)⟩
  · rw [if_neg c2] at H
    exact absurd H (by simp)
set_option maxHeartbeats 8000000 in
set_option maxRecDepth 100000 in
theorem letterbagkit_CopyTariff.calls (k : Nat) (A0_0 : Option Addr) (c0_0 : Nat) (l0_0 : List (S57)) (A0_1 : Option Addr) (c0_1 : Nat) (l0_1 : List (S67)) (r1 : List (S57)) (r2 : List (S67)) (w : World) (hr0_0 : Kd.C k57 w A0_0 l0_0.length l0_0) (hc0_0 : l0_0.length ≤ c0_0) (hr0_1 : Kd.C k67 w A0_1 l0_1.length l0_1) (hc0_1 : l0_1.length ≤ c0_1) (h : letterbagkit_CopyTariff.f k l0_0 l0_1 = some (r1, r2)) :
    Calls Tryd.prog 25 #[.agg #[.slice A0_0 l0_0.length c0_0, .slice A0_1 l0_1.length c0_1]] w fun e w' => ∃ v0_ v1_ : Value, e = .returned (.agg #[v0_, v1_]) ∧ Kd.R k57 57 w' w.heap.size (fun _ => True) v0_ r1 ∧ Kd.R k67 67 w' w.heap.size (fun _ => True) v1_ r2 ∧ Below w.heap.size w w' := by
  have hu25 := Tryd.underlying25
  have HR0_0 := Aside0.mk hr0_0
  have HC0_0 := Aside0.mk hc0_0
  clear hr0_0 hc0_0
  have HR0_1 := Aside0.mk hr0_1
  have HC0_1 := Aside0.mk hc0_1
  clear hr0_1 hc0_1
  have HB := Aside0.mk (Below.refl w.heap.size w)
  have H : ((letterbagkit_CopyRates.f k l0_0).bind fun t351 => ((letterbagkit_CopyZones.f l0_1).bind fun t354 => (some (t351, t354)))) = some (r1, r2) := h
  clear h
  replace H := Option.bind_eq_some_iff.mp H
  obtain ⟨t351, A20, H⟩ := H
  replace H : ((letterbagkit_CopyZones.f l0_1).bind fun t354 => (some (t351, t354))) = some (r1, r2) := H
  have A2 := Aside0.mk A20
  clear A20
  replace H := Option.bind_eq_some_iff.mp H
  obtain ⟨t354, A30, H⟩ := H
  replace H : (some (t351, t354)) = some (r1, r2) := H
  have A3 := Aside0.mk A30
  clear A30
  simp only [Option.some.injEq, Prod.mk.injEq] at H
  obtain ⟨rfl, rfl⟩ := H
  go_enter Tryd.func25, Tryd.ntmps25
  go_wp2_with (first | ((with_reducible refine gate_dst (N := 1) rfl ?_); refine box_event ?hg (N := 1) ?hd (cs := #[.slice A0_0 l0_0.length c0_0, .slice A0_1 l0_1.length c0_1]) (t := 25) ?hr ?_; (case hd => rfl); (case hg => rfl); (case hr => first | (go_simp; done) | (go_simp; rfl)); intro gb349 hg w4 hbox hb; have n0_ := Aside0.mk (below_step (by repeat (first | (with_reducible first | exact HB.out | apply below_alloc | apply pw_below_drewN | apply below_drew1) | exact HB.out)) hb); have n1_ := Aside0.mk (hbox); have n2_ := Aside0.mk ((by rw [hg]; exact (below_size (by repeat (first | (with_reducible first | exact HB.out | apply below_alloc | apply pw_below_drewN | apply below_drew1) | exact HB.out))) : w.heap.size ≤ gb349)); have n3_ := Aside0.mk ((by rw [hg]; exact (below_size (by repeat (first | (with_reducible first | exact HB.out | apply below_alloc | apply pw_below_drewN | apply below_drew1) | exact HB.out))) : w.heap.size ≤ gb349)); clear HB; have HB := n0_; have BK349 := n1_; have GW349 := n2_; have GE349 := n3_; clear n0_ n1_ n2_ n3_; clear hb hbox hg) | ((with_reducible refine gate_dst (N := 2) rfl ?_); refine box_event ?hg (N := 2) ?hd (cs := #[.slice none 0 0, .slice none 0 0]) (t := 25) ?hr ?_; (case hd => rfl); (case hg => rfl); (case hr => first | (go_simp; done) | (go_simp; rfl)); intro gb350 hg w5 hbox hb; have n0_ := Aside0.mk (blk_below (g := gb349) (o := .cells #[.slice A0_0 l0_0.length c0_0, .slice A0_1 l0_1.length c0_1] 25 (0, 0)) (by (with_reducible repeat (first | refine blk_drewN ?_ _ | refine blk_drew ?_ | refine blk_alloc ?_ _)); exact BK349.out) hb); have n1_ := Aside0.mk (below_step (by repeat (first | (with_reducible first | exact HB.out | apply below_alloc | apply pw_below_drewN | apply below_drew1 | refine below_set ?_ GE349.out) | exact HB.out)) hb); have n2_ := Aside0.mk (hbox); have n3_ := Aside0.mk ((by rw [hg]; exact (below_size (by repeat (first | (with_reducible first | exact HB.out | apply below_alloc | apply pw_below_drewN | apply below_drew1 | refine below_set ?_ GE349.out) | exact HB.out))) : w.heap.size ≤ gb350)); have n4_ := Aside0.mk ((by rw [hg]; exact (below_size (by repeat (first | (with_reducible first | exact HB.out | apply below_alloc | apply pw_below_drewN | apply below_drew1 | refine below_set ?_ GE349.out) | exact HB.out))) : w.heap.size ≤ gb350)); have n5_ := Aside0.mk ((by rw [hg]; exact Nat.ne_of_lt (blk_lt (g := gb349) (o := .cells #[.slice A0_0 l0_0.length c0_0, .slice A0_1 l0_1.length c0_1] 25 (0, 0)) (by (with_reducible repeat (first | refine blk_drewN ?_ _ | refine blk_drew ?_ | refine blk_alloc ?_ _)); exact BK349.out)) : gb349 ≠ gb350)); have n6_ := Aside0.mk ((by rw [hg]; exact Nat.ne_of_gt (blk_lt (g := gb349) (o := .cells #[.slice A0_0 l0_0.length c0_0, .slice A0_1 l0_1.length c0_1] 25 (0, 0)) (by (with_reducible repeat (first | refine blk_drewN ?_ _ | refine blk_drew ?_ | refine blk_alloc ?_ _)); exact BK349.out)) : gb350 ≠ gb349)); clear BK349; clear HB; have BK349 := n0_; have HB := n1_; have BK350 := n2_; have GW350 := n3_; have GE350 := n4_; have NB349_350 := n5_; have NB350_349 := n6_; clear n0_ n1_ n2_ n3_ n4_ n5_ n6_; clear hb hbox hg; have hnb6 := NB349_350.out; have hnc6 := NB350_349.out; have hcz7_0 : w5.cell? ⟨gb349, 0, none⟩ = some (.slice A0_0 l0_0.length c0_0) := (blk_cell BK349.out 0).trans rfl; have hcz7_1 : w5.cell? ⟨gb349, 1, none⟩ = some (.slice A0_1 l0_1.length c0_1) := (blk_cell BK349.out 1).trans rfl; have hfz7_0 := blk_frozen BK349.out 0; have hfz7_1 := blk_frozen BK349.out 1) | ((with_reducible refine gate_callee (f := 49) rfl ?_); refine goesL_ (some 5) rfl rfl Tryd.func49 (by kernel_rfl) rfl #[.slice A0_0 l0_0.length c0_0] rfl (by (try simp only [List.map_toArray, List.map_cons, List.map_nil]); first | done | rfl | (simp only [List.length_drop, List.length_take]; rfl)) ?_; (with_reducible refine (letterbagkit_CopyRates.calls k _ _ l0_0 t351 _ ?side1 ?side2 A2.out).mono ?_); (case side1 => repeat (first | exact (Kd.C_below HR0_0.out HB.out) | (with_reducible refine Kd.C_alloc ?_ _) | (with_reducible refine Kd.C_drewN ?_ _) | (with_reducible refine Kd.C_drew ?_))); (case side2 => exact HC0_0.out); rintro e w8 ⟨v352, rfl, ho0, hb⟩; refine ⟨_, rfl, ?_⟩; have n0_ := Aside0.mk (Kd.R_lower ho0 (below_size (by repeat (first | (with_reducible first | exact HB.out | apply below_alloc | apply pw_below_drewN | apply below_drew1 | refine below_set ?_ GE349.out | refine below_set ?_ GE350.out) | exact HB.out)))); have n1_ := Aside0.mk (blk_below (g := gb349) (o := .cells #[.slice A0_0 l0_0.length c0_0, .slice A0_1 l0_1.length c0_1] 25 (0, 0)) (by (with_reducible repeat (first | refine blk_drewN ?_ _ | refine blk_drew ?_ | refine blk_alloc ?_ _)); exact BK349.out) hb); have n2_ := Aside0.mk (blk_below (g := gb350) (o := .cells #[.slice none 0 0, .slice none 0 0] 25 (0, 0)) (by (with_reducible repeat (first | refine blk_drewN ?_ _ | refine blk_drew ?_ | refine blk_alloc ?_ _)); exact BK350.out) hb); have n3_ := Aside0.mk (below_step (by repeat (first | (with_reducible first | exact HB.out | apply below_alloc | apply pw_below_drewN | apply below_drew1 | refine below_set ?_ GE349.out | refine below_set ?_ GE350.out) | exact HB.out)) hb); clear BK349; clear BK350; clear HB; have HO353 := n0_; have BK349 := n1_; have BK350 := n2_; have HB := n3_; clear n0_ n1_ n2_ n3_; (try clear hb); (try clear hb2); (try clear hk); (try clear hi); (try clear ho0); obtain ⟨Ao9, co9, eo9⟩ := Kd.R_slice HO353.out; subst eo9; have hcz10_0 : w8.cell? ⟨gb349, 0, none⟩ = some (.slice A0_0 l0_0.length c0_0) := (blk_cell BK349.out 0).trans rfl; have hcz10_1 : w8.cell? ⟨gb349, 1, none⟩ = some (.slice A0_1 l0_1.length c0_1) := (blk_cell BK349.out 1).trans rfl; have hfz10_0 := blk_frozen BK349.out 0; have hfz10_1 := blk_frozen BK349.out 1) | ((with_reducible refine gate_callee (f := 50) rfl ?_); refine goesL_ (some 9) rfl rfl Tryd.func50 (by kernel_rfl) rfl #[.slice A0_1 l0_1.length c0_1] rfl (by (try simp only [List.map_toArray, List.map_cons, List.map_nil]); first | done | rfl | (simp only [List.length_drop, List.length_take]; rfl)) ?_; (with_reducible refine (letterbagkit_CopyZones.calls _ _ l0_1 t354 _ ?side1 ?side2 A3.out).mono ?_); (case side1 => exact Kd.C_below HR0_1.out (by repeat (first | (with_reducible first | exact HB.out | apply below_alloc | apply pw_below_drewN | apply below_drew1 | refine below_set ?_ GE349.out | refine below_set ?_ GE350.out) | exact HB.out))); (case side2 => exact HC0_1.out); rintro e w11 ⟨v355, rfl, ho0, hb⟩; refine ⟨_, rfl, ?_⟩; have n0_ := Aside0.mk (Kd.R_below (by (with_reducible repeat (first | apply Kd.R_alloc | apply Kd.R_drewN | apply Kd.R_drew)); exact (Kd.R_mono (Kd.R_far (p := ⟨gb349, 0, none⟩) (Kd.R_types HO353.out BK349.out (by decide)) (fun _ hk => hk.2) (.slice Ao9 t351.length co9)) (fun _ h_ => h_.1))) hb); have n1_ := Aside0.mk (Kd.R_lower ho0 (below_size (by repeat (first | (with_reducible first | exact HB.out | apply below_alloc | apply pw_below_drewN | apply below_drew1 | refine below_set ?_ GE349.out | refine below_set ?_ GE350.out) | exact HB.out)))); have n2_ := Aside0.mk (blk_below (g := gb349) (o := .cells #[.slice Ao9 t351.length co9, .slice A0_1 l0_1.length c0_1] 25 (0, 0)) (by (with_reducible repeat (first | refine blk_drewN ?_ _ | refine blk_drew ?_ | refine blk_alloc ?_ _)); refine blk_put (cs := #[.slice A0_0 l0_0.length c0_0, .slice A0_1 l0_1.length c0_1]) ?_ 0 _ rfl; (with_reducible repeat (first | refine blk_drewN ?_ _ | refine blk_drew ?_ | refine blk_alloc ?_ _)); exact BK349.out) hb); have n3_ := Aside0.mk (blk_below (g := gb350) (o := .cells #[.slice none 0 0, .slice none 0 0] 25 (0, 0)) (by (with_reducible repeat (first | refine blk_drewN ?_ _ | refine blk_drew ?_ | refine blk_alloc ?_ _)); refine blk_far ?_ NB350_349.out _; (with_reducible repeat (first | refine blk_drewN ?_ _ | refine blk_drew ?_ | refine blk_alloc ?_ _)); exact BK350.out) hb); have n4_ := Aside0.mk (below_step (by repeat (first | (with_reducible first | exact HB.out | apply below_alloc | apply pw_below_drewN | apply below_drew1 | refine below_set ?_ GE349.out | refine below_set ?_ GE350.out) | exact HB.out)) hb); clear HO353; clear BK349; clear BK350; clear HB; have HO353 := n0_; have HO356 := n1_; have BK349 := n2_; have BK350 := n3_; have HB := n4_; clear n0_ n1_ n2_ n3_ n4_; (try clear hb); (try clear hb2); (try clear hk); (try clear hi); (try clear ho0); obtain ⟨Ao12, co12, eo12⟩ := Kd.R_slice HO356.out; subst eo12; have hcz13_0 : w11.cell? ⟨gb349, 0, none⟩ = some (.slice Ao9 t351.length co9) := (blk_cell BK349.out 0).trans rfl; have hcz13_1 : w11.cell? ⟨gb349, 1, none⟩ = some (.slice A0_1 l0_1.length c0_1) := (blk_cell BK349.out 1).trans rfl; have hfz13_0 := blk_frozen BK349.out 0; have hfz13_1 := blk_frozen BK349.out 1; have hcz14_0 : w11.cell? ⟨gb350, 0, none⟩ = some (.slice none 0 0) := (blk_cell BK350.out 0).trans rfl; have hcz14_1 : w11.cell? ⟨gb350, 1, none⟩ = some (.slice none 0 0) := (blk_cell BK350.out 1).trans rfl; have hfz14_0 := blk_frozen BK350.out 0; have hfz14_1 := blk_frozen BK350.out 1))
  refine bodyPost_ret (results_cell_row rfl _ _ gb350 25 #[.slice Ao9 t351.length co9, .slice Ao12 t354.length co12] (0, 0) _ rfl (by (with_reducible repeat (first | refine blk_drewN ?_ _ | refine blk_drew ?_ | refine blk_alloc ?_ _)); refine blk_put (cs := #[.slice Ao9 t351.length co9, .slice none 0 0]) ?_ 1 _ rfl; (with_reducible repeat (first | refine blk_drewN ?_ _ | refine blk_drew ?_ | refine blk_alloc ?_ _)); refine blk_put (cs := #[.slice none 0 0, .slice none 0 0]) ?_ 0 _ rfl; (with_reducible repeat (first | refine blk_drewN ?_ _ | refine blk_drew ?_ | refine blk_alloc ?_ _)); refine blk_far ?_ NB350_349.out _; (with_reducible repeat (first | refine blk_drewN ?_ _ | refine blk_drew ?_ | refine blk_alloc ?_ _)); exact BK350.out) Tryd.underlying25 rfl (by kernel_rfl)) rfl ?_
  exact ⟨_, _, by first | rfl | (simp [errW_none, errW_some] <;> rfl) | (simp [*, errW_none, errW_some] <;> rfl), by (with_reducible repeat (first | apply Kd.R_alloc | apply Kd.R_drewN | apply Kd.R_drew)); exact Kd.R_mono (Kd.R_far (p := ⟨gb350, 1, none⟩) (Kd.R_far (p := ⟨gb350, 0, none⟩) (Kd.R_far (p := ⟨gb349, 1, none⟩) (Kd.R_types (Kd.R_types HO353.out BK349.out (by decide)) BK350.out (by decide)) (fun _ hk => hk.1.2) (.slice Ao12 t354.length co12)) (fun _ hk => hk.2) (.slice Ao9 t351.length co9)) (fun _ hk => hk.2) (.slice Ao12 t354.length co12)) (fun _ hk => trivial), by (with_reducible repeat (first | apply Kd.R_alloc | apply Kd.R_drewN | apply Kd.R_drew)); exact Kd.R_mono (Kd.R_far (p := ⟨gb350, 1, none⟩) (Kd.R_far (p := ⟨gb350, 0, none⟩) (Kd.R_far (p := ⟨gb349, 1, none⟩) (Kd.R_types (Kd.R_types HO356.out BK349.out (by decide)) BK350.out (by decide)) (fun _ hk => hk.1.2) (.slice Ao12 t354.length co12)) (fun _ hk => hk.2) (.slice Ao9 t351.length co9)) (fun _ hk => hk.2) (.slice Ao12 t354.length co12)) (fun _ hk => trivial), by repeat (first | (with_reducible first | exact HB.out | apply below_alloc | apply pw_below_drewN | apply below_drew1 | refine below_set ?_ GE349.out | refine below_set ?_ GE350.out) | exact HB.out)⟩
end Go.Proofs.YtfglcfbcdhjcdaaDoor.Q

namespace Go.Proofs.YtfglcfbcdhjcdaaDoor.Q
open Go.RowKit Go.Proofs.YtfglcfbcdhjcdaaDoorW.PrintWords Go.Proofs.YtfglcfbcdhjcdaaDoorW.PrintLast Go.Proofs.YtfglcfbcdhjcdaaDoorW.PrintMore
attribute [local go_sem] max2_int min2_int max_two min_two max_three min_three max_four min_four
set_option linter.unusedVariables false
set_option linter.unusedSimpArgs false
def letterbaglaw23_Codes.l0 : Nat → List Int → List ByteArray → Int → Option (List ByteArray)
  | 0, _, _, _ => none
  | k + 1, x0, x3, x4 => if x4 < (x0.length : Int) then (if x4 < 2000 then (if 0 ≤ x4 then (if x3.length < 8796093022208 then (letterbaglaw23_Codes.l0 k x0 (x3 ++ [strOfNums (([(wrap64 (49 + (Int.tmod (wrap64 (rd x0 x4)) 3))) % 256, (wrap64 (48 + (Int.tmod (wrap64 (Int.tdiv (wrap64 (rd x0 x4)) 3)) 3))) % 256, (wrap64 (48 + (Int.tmod (wrap64 (Int.tdiv (wrap64 (rd x0 x4)) 9)) 3))) % 256, (wrap64 (48 + (Int.tmod (wrap64 (Int.tdiv (wrap64 (rd x0 x4)) 27)) 3))) % 256, (wrap64 (48 + (Int.tmod (wrap64 (Int.tdiv (wrap64 (rd x0 x4)) 81)) 3))) % 256] : List Int))]) (wrap64 (x4 + 1))) else (none)) else (none)) else (some x3)) else (some x3)
def letterbaglaw23_Codes.f (k : Nat) (l0 : List Int) : Option (List ByteArray) := letterbaglaw23_Codes.l0 k l0 ([] : List ByteArray) 0
set_option maxHeartbeats 8000000 in
set_option maxRecDepth 100000 in
theorem letterbaglaw23_Codes.calls (k : Nat) (A0 : Option Addr) (c0 : Nat) (l0 : List Int) (r : List ByteArray) (w : World) (hr0 : Kd.C (Kd.int .u8) w A0 l0.length l0) (hc0 : l0.length ≤ c0) (h : letterbaglaw23_Codes.f k l0 = some r) :
    Calls Tryd.prog 24 #[.slice A0 l0.length c0] w fun e w' => ∃ v0_ : Value, e = .returned (v0_) ∧ Kd.R Kd.string 9 w' w.heap.size (fun _ => True) v0_ r ∧ Below w.heap.size w w' := by
  have HR0 := Aside0.mk hr0
  have HC0 := Aside0.mk hc0
  clear hr0 hc0
  have HB := Aside0.mk (Below.refl w.heap.size w)
  have H : (letterbaglaw23_Codes.l0 k l0 ([] : List ByteArray) 0) = some r := h
  clear h
  have H' := Aside0.mk H
  clear H
  go_enter Tryd.func24, Tryd.ntmps24
  go_wp2
  go_loopg [3, 4] k (fun kq v3 v4 w' => ∃ (x3_1 : List ByteArray) (x4_1 : Int), v4 = .int .i64 x4_1 ∧ Aside0 (letterbaglaw23_Codes.l0 kq l0 x3_1 x4_1 = some r) ∧ Aside0 (kq ≤ k) ∧ Aside0 (Kd.R Kd.string 9 w' w.heap.size (fun _ => True) v3 x3_1) ∧ Aside0 (Below w.heap.size w w'))
  case atStart => exact ⟨(([] : List ByteArray)), (0), (by first | rfl | (simp; done) | (simp [*]; done)), H', ⟨Nat.le_refl _⟩, ⟨by first | exact Kd.R_nil _ _ _ _ _ | exact Kd.N_nil _ _ _ _ _ | exact Kd.V_nil _ _ _ _ _ | exact Kd.Q_nil _ _ _ _ _ | exact Kd.S_nil _ _ _ _ _⟩, ⟨by repeat (first | (with_reducible first | exact HB.out | apply below_alloc | apply pw_below_drewN | apply below_drew1) | exact HB.out)⟩⟩
  case round =>
    clear H'
    obtain ⟨x3_1, x4_1, rfl, HA, HK1, HO_3, HB⟩ := hrel
    cases gk with
    | zero => exact absurd HA.out (by simp [letterbaglaw23_Codes.l0])
    | succ k1 =>
      have H := HA.out
      clear HA
      simp only [letterbaglaw23_Codes.l0] at H
      by_cases c2 : x4_1 < (l0.length : Int)
      · rw [if_pos c2] at H
        have c2b0 : decide (x4_1 < (l0.length : Int)) = true := decide_eq_true c2
        clear c2
        by_cases c3 : x4_1 < 2000
        · rw [if_pos c3] at H
          have c3b0 : decide (x4_1 < 2000) = true := decide_eq_true c3
          clear c3
          by_cases c4 : 0 ≤ x4_1
          · rw [if_pos c4] at H
            have c4b0 : decide (0 ≤ x4_1) = true := decide_eq_true c4
            clear c4
            obtain ⟨y223, hy223⟩ : ∃ y_ : List Int, y_ = (([(wrap64 (49 + (Int.tmod (wrap64 (rd l0 x4_1)) 3))) % 256, (wrap64 (48 + (Int.tmod (wrap64 (Int.tdiv (wrap64 (rd l0 x4_1)) 3)) 3))) % 256, (wrap64 (48 + (Int.tmod (wrap64 (Int.tdiv (wrap64 (rd l0 x4_1)) 9)) 3))) % 256, (wrap64 (48 + (Int.tmod (wrap64 (Int.tdiv (wrap64 (rd l0 x4_1)) 27)) 3))) % 256, (wrap64 (48 + (Int.tmod (wrap64 (Int.tdiv (wrap64 (rd l0 x4_1)) 81)) 3))) % 256] : List Int)) := ⟨_, rfl⟩
            replace H : (if x3_1.length < 8796093022208 then (letterbaglaw23_Codes.l0 k1 l0 (x3_1 ++ [strOfNums y223]) (wrap64 (x4_1 + 1))) else (none)) = some r := by first | (rw [hy223]; with_reducible exact H) | (have H2_ := (Option.bind_some _ _).symm.trans H; rw [hy223]; with_reducible exact H2_) | (have H2_ := (Option.bind_some _ _).symm.trans H; with_reducible exact H2_) | with_reducible exact H | (rw [hy223]; exact H) | exact H
            have Ny223 := Aside0.mk hy223
            clear hy223
            by_cases c5 : x3_1.length < 8796093022208
            · rw [if_pos c5] at H
              have LMc5 := Aside0.mk c5
              clear c5
              obtain ⟨y226, hy226⟩ : ∃ y_ : List ByteArray, y_ = (x3_1 ++ [strOfNums y223]) := ⟨_, rfl⟩
              replace H : (letterbaglaw23_Codes.l0 k1 l0 y226 (wrap64 (x4_1 + 1))) = some r := by first | (rw [hy226]; with_reducible exact H) | (have H2_ := (Option.bind_some _ _).symm.trans H; rw [hy226]; with_reducible exact H2_) | (have H2_ := (Option.bind_some _ _).symm.trans H; with_reducible exact H2_) | with_reducible exact H | (rw [hy226]; exact H) | exact H
              have Ny226 := Aside0.mk hy226
              clear hy226
              have H' := Aside0.mk H
              clear H
              have p222 : 0 ≤ (x4_1 : Int) := of_decide_eq_true (by first | (with_reducible assumption) | assumption)
              have q222 : x4_1 < (l0.length : Int) := of_decide_eq_true (by first | (with_reducible assumption) | assumption)
              obtain ⟨ad222, e222, hx222_0⟩ := Kd.at_int HR0.out x4_1 p222 q222
              cases e222
              replace hx222_0 := (HB.out.cell (World.block_lt_of_cell? w _ hx222_0)).trans hx222_0
              replace p222 := eq_true p222
              replace q222 := eq_true q222
              go_wp2_with (first | ((with_reducible refine gate_dst (N := 46) rfl ?_); refine Kd.R_lit (Kd.int .u8) _ 5 ?hg (N := 46) ?hd (xs := ([(wrap64 (49 + (Int.tmod (wrap64 (rd l0 x4_1)) 3))) % 256, (wrap64 (48 + (Int.tmod (wrap64 (Int.tdiv (wrap64 (rd l0 x4_1)) 3)) 3))) % 256, (wrap64 (48 + (Int.tmod (wrap64 (Int.tdiv (wrap64 (rd l0 x4_1)) 9)) 3))) % 256, (wrap64 (48 + (Int.tmod (wrap64 (Int.tdiv (wrap64 (rd l0 x4_1)) 27)) 3))) % 256, (wrap64 (48 + (Int.tmod (wrap64 (Int.tdiv (wrap64 (rd l0 x4_1)) 81)) 3))) % 256] : List Int)) (inner := [.int .u8 ((wrap64 (49 + (Int.tmod (wrap64 (rd l0 x4_1)) 3))) % 256), .int .u8 ((wrap64 (48 + (Int.tmod (wrap64 (Int.tdiv (wrap64 (rd l0 x4_1)) 3)) 3))) % 256), .int .u8 ((wrap64 (48 + (Int.tmod (wrap64 (Int.tdiv (wrap64 (rd l0 x4_1)) 9)) 3))) % 256), .int .u8 ((wrap64 (48 + (Int.tmod (wrap64 (Int.tdiv (wrap64 (rd l0 x4_1)) 27)) 3))) % 256), .int .u8 ((wrap64 (48 + (Int.tmod (wrap64 (Int.tdiv (wrap64 (rd l0 x4_1)) 81)) 3))) % 256)]) (ok := fun _ => True) (okp := fun _ => True) ?hr ?hp (fun _ hk => hk) trivial (Below.refl _ _) (Nat.le_refl _) (by simp) ?_; (case hd => rfl); (case hg => rfl); (case hr => first | (go_simp; done) | (go_simp; rfl)); (case hp => exact (Reps.one (show Kd.M (Kd.int .u8) _ _ _ ((wrap64 (49 + (Int.tmod (wrap64 (rd l0 x4_1)) 3))) % 256) [.int .u8 ((wrap64 (49 + (Int.tmod (wrap64 (rd l0 x4_1)) 3))) % 256)] from rfl) (Reps.one (show Kd.M (Kd.int .u8) _ _ _ ((wrap64 (48 + (Int.tmod (wrap64 (Int.tdiv (wrap64 (rd l0 x4_1)) 3)) 3))) % 256) [.int .u8 ((wrap64 (48 + (Int.tmod (wrap64 (Int.tdiv (wrap64 (rd l0 x4_1)) 3)) 3))) % 256)] from rfl) (Reps.one (show Kd.M (Kd.int .u8) _ _ _ ((wrap64 (48 + (Int.tmod (wrap64 (Int.tdiv (wrap64 (rd l0 x4_1)) 9)) 3))) % 256) [.int .u8 ((wrap64 (48 + (Int.tmod (wrap64 (Int.tdiv (wrap64 (rd l0 x4_1)) 9)) 3))) % 256)] from rfl) (Reps.one (show Kd.M (Kd.int .u8) _ _ _ ((wrap64 (48 + (Int.tmod (wrap64 (Int.tdiv (wrap64 (rd l0 x4_1)) 27)) 3))) % 256) [.int .u8 ((wrap64 (48 + (Int.tmod (wrap64 (Int.tdiv (wrap64 (rd l0 x4_1)) 27)) 3))) % 256)] from rfl) (Reps.one (show Kd.M (Kd.int .u8) _ _ _ ((wrap64 (48 + (Int.tmod (wrap64 (Int.tdiv (wrap64 (rd l0 x4_1)) 81)) 3))) % 256) [.int .u8 ((wrap64 (48 + (Int.tmod (wrap64 (Int.tdiv (wrap64 (rd l0 x4_1)) 81)) 3))) % 256)] from rfl) (Reps.none _ _))))))); intro v224 w6 ho7 hb hg_ hnew_; clear hg_ hnew_; (first | rw [← Ny223.out] at ho7 | (simp only [Int.reduceToNat] at ho7; rw [← Ny223.out] at ho7)); have n0_ := Aside0.mk (Kd.R_below (by (with_reducible repeat (first | apply Kd.R_alloc | apply Kd.R_drewN | apply Kd.R_drew)); exact HO_3.out) hb); have n1_ := Aside0.mk (Kd.R_lower ho7 (below_size (by repeat (first | (with_reducible first | exact HB.out | apply below_alloc | apply pw_below_drewN | apply below_drew1) | exact HB.out)))); have n2_ := Aside0.mk (below_step (by repeat (first | (with_reducible first | exact HB.out | apply below_alloc | apply pw_below_drewN | apply below_drew1) | exact HB.out)) hb); clear HO_3; clear HB; have HO_3 := n0_; have HO225 := n1_; have HB := n2_; clear n0_ n1_ n2_; clear hb ho7; have hcv8 := own_string (P := Tryd.prog) Tryd.underlying29 Tryd.underlying5 Tryd.underlying9 (Kd.own_of_R HO225.out)) | ((with_reducible refine gate_builtin (b := .append) (xs := #[.tmp 21, .tmp 48]) rfl ?_); at_builtin; refine Kd.R_append Kd.string (w0 := w) w.heap.size rfl (.tmp 21) (.tmp 48) 63 9 (.string ⟨#[]⟩) 16 rfl Tryd.underlying63 info9 rfl (by decide) (by omega) u3 x3_1 (strOfNums y223) [.string (strOfNums y223)] (fun _ => True) (fun _ => False) rfl rfl ?aP (fun _ hk => hk.elim) ?aF ?aO ?aB ?aS ?aL ?_; (case aP => exact rfl); (case aB => exact (by repeat (first | (with_reducible first | exact HB.out | apply below_alloc | apply pw_below_drewN | apply below_drew1) | exact HB.out))); (case aF => exact (fun _ _ => trivial)); (case aO => exact (by (with_reducible repeat (first | apply Kd.R_alloc | apply Kd.R_drewN | apply Kd.R_drew)); exact HO_3.out)); (case aS => exact (below_size (by repeat (first | (with_reducible first | exact HB.out | apply below_alloc | apply pw_below_drewN | apply below_drew1) | exact HB.out)))); (case aL => have := LMc5.out; omega); intro v227 w9 ho hb hg hat; rw [← Ny226.out] at ho; have n0_ := Aside0.mk (Kd.R_over' (by (with_reducible repeat (first | apply Kd.R_alloc | apply Kd.R_drewN | apply Kd.R_drew)); exact HO225.out) (Kd.R_typed (by (with_reducible repeat (first | apply Kd.R_alloc | apply Kd.R_drewN | apply Kd.R_drew)); exact HO_3.out)) (by decide) hg); have n1_ := Aside0.mk (hb); have n2_ := Aside0.mk (ho); clear HO225; clear HB; clear HO_3; have HO225 := n0_; have HB := n1_; have HO228 := n2_; clear n0_ n1_ n2_; clear ho hb hg hat))
              go_roundg k1
              case measure => have := HK1.out; omega
              case rel => exact ⟨(y226), (wrap64 (x4_1 + 1)), (by first | rfl | (simp; done) | (simp [*]; done)), H', ⟨by have := HK1.out; omega⟩, ⟨by (with_reducible repeat (first | apply Kd.R_alloc | apply Kd.R_drewN | apply Kd.R_drew)); exact HO228.out⟩, ⟨by repeat (first | (with_reducible first | exact HB.out | apply below_alloc | apply pw_below_drewN | apply below_drew1) | exact HB.out)⟩⟩
            · rw [if_neg c5] at H
              exact absurd H (by simp)
          · rw [if_neg c4] at H
            exact absurd H (by simp)
        · rw [if_neg c3] at H
          have c3b0 : decide (x4_1 < 2000) = false := decide_eq_false c3
          clear c3
          obtain rfl := Option.some.inj H
          go_wp2
          go_ret
          exact ⟨_, by first | rfl | (simp [errW_none, errW_some] <;> rfl) | (simp [*, errW_none, errW_some] <;> rfl), by (with_reducible repeat (first | apply Kd.R_alloc | apply Kd.R_drewN | apply Kd.R_drew)); exact HO_3.out, by repeat (first | (with_reducible first | exact HB.out | apply below_alloc | apply pw_below_drewN | apply below_drew1) | exact HB.out)⟩
      · rw [if_neg c2] at H
        have c2b0 : decide (x4_1 < (l0.length : Int)) = false := decide_eq_false c2
        clear c2
        obtain rfl := Option.some.inj H
        go_wp2
        go_ret
        exact ⟨_, by first | rfl | (simp [errW_none, errW_some] <;> rfl) | (simp [*, errW_none, errW_some] <;> rfl), by (with_reducible repeat (first | apply Kd.R_alloc | apply Kd.R_drewN | apply Kd.R_drew)); exact HO_3.out, by repeat (first | (with_reducible first | exact HB.out | apply below_alloc | apply pw_below_drewN | apply below_drew1) | exact HB.out)⟩
end Go.Proofs.YtfglcfbcdhjcdaaDoor.Q

namespace Go.Proofs.YtfglcfbcdhjcdaaDoor.Q
open Go.RowKit Go.Proofs.YtfglcfbcdhjcdaaDoorW.PrintWords Go.Proofs.YtfglcfbcdhjcdaaDoorW.PrintLast Go.Proofs.YtfglcfbcdhjcdaaDoorW.PrintMore
set_option linter.unusedVariables false
set_option linter.unusedSimpArgs false
def prefB (a p : ByteArray) : Bool := decide (p.size ≤ a.size) && ((a.extract 0 p.size).toList == p.toList)
theorem prefix_is (a p : ByteArray) : strings_HasPrefix.f a p = some (prefB a p) := by
  unfold strings_HasPrefix.f stringslite_HasPrefix.f prefB
  by_cases h : p.size ≤ a.size
  · rw [if_pos (by omega), if_pos (by omega), if_pos (by omega), Int.toNat_natCast, decide_eq_true h, Bool.true_and]
    rfl
  · rw [if_neg (by omega), decide_eq_false h]
    rfl
def zoneStep (a b : ByteArray) (s : Int × Int) (z : Zn) : Int × Int :=
  if s.2 < 100 * (z.f0.size : Int) + (z.f1.size : Int) ∧ prefB a z.f0 = true ∧ prefB b z.f1 = true then (z.f2, 100 * (z.f0.size : Int) + (z.f1.size : Int)) else s
def zoneB (Z : List Zn) (a b : ByteArray) : Int := (Z.foldl (zoneStep a b) (0, -1)).1
theorem zn_get (Z : List Zn) (i : Nat) (h : i < Z.length) : rd_T67 Z (i : Int) = Z[i] := by
  unfold rd_T67
  rw [Int.toNat_natCast, List.getD_eq_getElem?_getD, List.getElem?_eq_getElem h]
  rfl
theorem zone_go (a b : ByteArray) (Z : List Zn) (hs : ∀ z ∈ Z, z.f0.size ≤ 1000 ∧ z.f1.size ≤ 1000) (hl : Z.length ≤ 1000000) : ∀ d i : Nat, i + d = Z.length → ∀ (k : Nat) (best long : Int), d < k → -1 ≤ long →
    tariff_zone.l0 k a b best long Z (Z.length : Int) (i : Int) = some (((Z.drop i).foldl (zoneStep a b) (best, long)).1) := by
  intro d
  induction d with
  | zero =>
    intro i hi k best long hk _
    obtain ⟨k, rfl⟩ : ∃ m, k = m + 1 := ⟨k - 1, by omega⟩
    simp only [tariff_zone.l0]
    rw [if_neg (by omega), List.drop_of_length_le (by omega)]
    rfl
  | succ d ih =>
    intro i hi k best long hk hlong
    obtain ⟨k, rfl⟩ : ∃ m, k = m + 1 := ⟨k - 1, by omega⟩
    have hlt : i < Z.length := by omega
    have hz := hs _ (List.getElem_mem hlt)
    simp only [tariff_zone.l0]
    rw [if_pos (by omega), if_pos (by omega), if_pos (by omega), zn_get Z i hlt, wrap64_id (100 * (Z[i].f0.size : Int)) (by omega) (by omega), wrap64_id (100 * (Z[i].f0.size : Int) + (Z[i].f1.size : Int)) (by omega) (by omega), wrap64_id ((i : Int) + 1) (by omega) (by omega)]
    rw [List.drop_eq_getElem_cons hlt, List.foldl_cons]
    have e : ((i : Int) + 1) = ((i + 1 : Nat) : Int) := by omega
    rw [e, prefix_is, prefix_is]
    simp only [Option.bind_some]
    unfold zoneStep
    by_cases h1 : long < 100 * (Z[i].f0.size : Int) + (Z[i].f1.size : Int)
    · rw [if_pos (show 100 * (Z[i].f0.size : Int) + (Z[i].f1.size : Int) > long from h1)]
      by_cases h2 : prefB a Z[i].f0 = true
      · rw [if_pos h2]
        by_cases h3 : prefB b Z[i].f1 = true
        · rw [if_pos h3, if_pos ⟨h1, h2, h3⟩]
          exact ih (i + 1) (by omega) k _ _ (by omega) (by omega)
        · rw [if_neg h3, if_neg (fun h => h3 h.2.2)]
          exact ih (i + 1) (by omega) k _ _ (by omega) (by omega)
      · rw [if_neg h2, if_neg (fun h => h2 h.2.1)]
        exact ih (i + 1) (by omega) k _ _ (by omega) (by omega)
    · rw [if_neg (show ¬ 100 * (Z[i].f0.size : Int) + (Z[i].f1.size : Int) > long from h1), if_neg (fun h => h1 h.1)]
      exact ih (i + 1) (by omega) k _ _ (by omega) (by omega)
theorem zone_is (R : List Rt) (Z : List Zn) (a b : ByteArray) (hs : ∀ z ∈ Z, z.f0.size ≤ 1000 ∧ z.f1.size ≤ 1000) (hl : Z.length ≤ 1000000) (k : Nat) (hk : Z.length < k) : tariff_zone.f k R Z a b = some (zoneB Z a b) := by
  have h := zone_go a b Z hs hl Z.length 0 (by omega) k 0 (-1) hk (by omega)
  rw [List.drop_zero] at h
  exact h
theorem zoneStep_long (a b : ByteArray) : ∀ (Z : List Zn) (s : Int × Int) (m : Int), (∀ z ∈ Z, 100 * (z.f0.size : Int) + (z.f1.size : Int) ≤ m) → s.2 ≤ m → (Z.foldl (zoneStep a b) s).2 ≤ m
  | [], s, m, _, h => h
  | z :: zs, s, m, hz, h => by
    rw [List.foldl_cons]
    refine zoneStep_long a b zs _ m (fun y hy => hz y (List.mem_cons_of_mem _ hy)) ?_
    unfold zoneStep
    split
    · exact hz z List.mem_cons_self
    · exact h
theorem extract_all (a : ByteArray) : (a.extract 0 a.size).toList = a.toList := by
  rw [ByteArray.extract_zero_size]
theorem pref_same (a p : ByteArray) (h : p.size = a.size) : prefB a p = (a.toList == p.toList) := by
  unfold prefB
  rw [h, extract_all]
  simp
theorem zone_more (Z : List Zn) (c0 c1 a b : ByteArray) (n : Int) (m : Int) (hm : ∀ z ∈ Z, 100 * (z.f0.size : Int) + (z.f1.size : Int) ≤ m) (h0 : 0 ≤ m) (hc : m < 100 * (c0.size : Int) + (c1.size : Int)) :
    zoneB (Z ++ [⟨c0, c1, n⟩]) a b = if prefB a c0 = true ∧ prefB b c1 = true then n else zoneB Z a b := by
  have h := zoneStep_long a b Z (0, -1) m hm (by show (-1 : Int) ≤ m; omega)
  unfold zoneB
  rw [List.foldl_append, List.foldl_cons, List.foldl_nil]
  generalize Z.foldl (zoneStep a b) (0, -1) = s at *
  unfold zoneStep
  by_cases hp : prefB a c0 = true ∧ prefB b c1 = true
  · rw [if_pos hp, if_pos ⟨by show s.2 < 100 * (c0.size : Int) + (c1.size : Int); omega, hp⟩]
  · rw [if_neg hp, if_neg (fun h => hp h.2)]
theorem rowCnt_app (Z : List Zn) (r : Zn) (k : Nat) (hk : k ≤ Z.length) (p : ByteArray × ByteArray) : rowCnt (Z ++ [r]) k p = rowCnt Z k p := by
  unfold rowCnt
  rw [List.take_append_of_le_length hk]
theorem rowCnt_last (Z : List Zn) (r : Zn) (p : ByteArray × ByteArray) : rowCnt (Z ++ [r]) (Z.length + 1) p = rowCnt Z Z.length p + (if (r.f0, r.f1) = p then 1 else 0) := by
  unfold rowCnt
  rw [List.take_of_length_le (by simp), List.take_length, List.filter_append, List.length_append]
  congr 1
  by_cases h : (r.f0, r.f1) = p <;> simp [h]
theorem rowsGo_app (n : Int) (Z : List Zn) (r : Zn) (h : rowCnt Z Z.length (r.f0, r.f1) = 0) (h1 : 1 ≤ r.f2) (h2 : r.f2 ≤ n) (h3 : endOk r.f0 = true) (h4 : endOk r.f1 = true) :
    ∀ (T : List Zn) (k : Nat), k + T.length = Z.length → rowsGo n Z k T = true → rowsGo n (Z ++ [r]) k (T ++ [r]) = true
  | [], k, hk, _ => by
    have : k = Z.length := by simpa using hk
    subst this
    show (decide (rowCnt (Z ++ [r]) Z.length (r.f0, r.f1) = 0) && (decide (1 ≤ r.f2) && (decide (r.f2 ≤ n) && (endOk r.f0 && (endOk r.f1 && true))))) = true
    rw [rowCnt_app Z r _ (Nat.le_refl _), h, h3, h4, decide_eq_true h1, decide_eq_true h2]
    rfl
  | t :: ts, k, hk, hg => by
    simp only [List.length_cons] at hk
    unfold rowsGo at hg
    simp only [Bool.and_eq_true, decide_eq_true_eq] at hg
    obtain ⟨g1, g2, g3, g4, g5, g6⟩ := hg
    show (decide (rowCnt (Z ++ [r]) k (t.f0, t.f1) = 0) && (decide (1 ≤ t.f2) && (decide (t.f2 ≤ n) && (endOk t.f0 && (endOk t.f1 && rowsGo n (Z ++ [r]) (k + 1) (ts ++ [r])))))) = true
    rw [rowCnt_app Z r _ (by omega), g1, g4, g5, decide_eq_true g2, decide_eq_true g3, rowsGo_app n Z r h h1 h2 h3 h4 ts (k + 1) (by omega) g6]
    rfl
end Go.Proofs.YtfglcfbcdhjcdaaDoor.Q

namespace Go.Proofs.YtfglcfbcdhjcdaaDoor.Q
open Go.RowKit Go.Proofs.YtfglcfbcdhjcdaaDoorW.PrintWords Go.Proofs.YtfglcfbcdhjcdaaDoorW.PrintLast Go.Proofs.YtfglcfbcdhjcdaaDoorW.PrintMore
set_option linter.unusedVariables false
set_option linter.unusedSimpArgs false
def code5 (x : Nat) : ByteArray := mdText [UInt8.ofNat (49 + x % 3), UInt8.ofNat (48 + x / 3 % 3), UInt8.ofNat (48 + x / 9 % 3), UInt8.ofNat (48 + x / 27 % 3), UInt8.ofNat (48 + x / 81 % 3)]
set_option maxRecDepth 100000 in
theorem code5_is : ∀ x ∈ List.range 256, strOfNums (([(wrap64 (49 + (Int.tmod (wrap64 (x : Int)) 3))) % 256, (wrap64 (48 + (Int.tmod (wrap64 (Int.tdiv (wrap64 (x : Int)) 3)) 3))) % 256, (wrap64 (48 + (Int.tmod (wrap64 (Int.tdiv (wrap64 (x : Int)) 9)) 3))) % 256, (wrap64 (48 + (Int.tmod (wrap64 (Int.tdiv (wrap64 (x : Int)) 27)) 3))) % 256, (wrap64 (48 + (Int.tmod (wrap64 (Int.tdiv (wrap64 (x : Int)) 81)) 3))) % 256] : List Int)) = code5 x := by decide +kernel
set_option maxRecDepth 100000 in
theorem code5_facts : ∀ x ∈ List.range 256, ((code5 x).size == 5 && (codeB (code5 x) && (codeB (code5 x ++ ⟨#[55]⟩) && (codeB (code5 x ++ ⟨#[65]⟩) && (prefB (code5 x ++ ⟨#[55]⟩) (code5 x) && (prefB (code5 x ++ ⟨#[65]⟩) (code5 x) && ((code5 x ++ ⟨#[55]⟩).size == 6 && (code5 x ++ ⟨#[65]⟩).size == 6))))))) = true := by decide +kernel
theorem codes_go (l : List Int) (hl : ∀ x ∈ l, 0 ≤ x ∧ x ≤ 255) (hn : l.length ≤ 1000) : ∀ d i : Nat, i + d = l.length → ∀ (k : Nat) (acc : List ByteArray), d < k → acc.length = i → letterbaglaw23_Codes.l0 k l acc (i : Int) = some (acc ++ (l.drop i).map (fun x => code5 x.toNat)) := by
  intro d
  induction d with
  | zero =>
    intro i hi k acc hk _
    obtain ⟨k, rfl⟩ : ∃ m, k = m + 1 := ⟨k - 1, by omega⟩
    simp only [letterbaglaw23_Codes.l0]
    rw [if_neg (by omega), List.drop_of_length_le (by omega), List.map_nil, List.append_nil]
  | succ d ih =>
    intro i hi k acc hk ha
    obtain ⟨k, rfl⟩ : ∃ m, k = m + 1 := ⟨k - 1, by omega⟩
    have hlt : i < l.length := by omega
    have hx := hl _ (List.getElem_mem hlt)
    have hrd : rd l (i : Int) = l[i] := by
      unfold rd
      rw [Int.toNat_natCast, List.getD_eq_getElem?_getD, List.getElem?_eq_getElem hlt]
      rfl
    simp only [letterbaglaw23_Codes.l0]
    rw [if_pos (by omega), if_pos (by omega), if_pos (by omega), if_pos (by omega), hrd]
    have hc := code5_is l[i].toNat (List.mem_range.2 (by omega))
    rw [show ((l[i].toNat : Nat) : Int) = l[i] by omega] at hc
    rw [hc, wrap64_id ((i : Int) + 1) (by omega) (by omega), show ((i : Int) + 1) = ((i + 1 : Nat) : Int) by omega, ih (i + 1) (by omega) k _ (by omega) (by simp [ha]), List.drop_eq_getElem_cons hlt, List.map_cons, List.append_assoc]
    rfl
theorem codes_is (l : List Int) (hl : ∀ x ∈ l, 0 ≤ x ∧ x ≤ 255) (hn : l.length ≤ 1000) (k : Nat) (hk : l.length < k) : letterbaglaw23_Codes.f k l = some (l.map (fun x => code5 x.toNat)) := by
  have h := codes_go l hl hn l.length 0 (by omega) k [] hk rfl
  rw [List.drop_zero, List.nil_append] at h
  exact h
theorem st_get (L : List Sp) (i : Nat) (h : i < L.length) : rd_T61 L (i : Int) = L[i] := by
  unfold rd_T61
  rw [Int.toNat_natCast, List.getD_eq_getElem?_getD, List.getElem?_eq_getElem h]
  rfl
theorem rt_get (L : List Rt) (i : Nat) (h : i < L.length) : rd_T57 L (i : Int) = L[i] := by
  unfold rd_T57
  rw [Int.toNat_natCast, List.getD_eq_getElem?_getD, List.getElem?_eq_getElem h]
  rfl
theorem copy_steps_go (L : List Sp) (hn : L.length ≤ 1000) (hc : ∀ s ∈ L, s.f1.length ≤ 1000) : ∀ d i : Nat, i + d = L.length → ∀ (k : Nat), d < k → letterbagkit_CopySteps.l0 k L (L.take i) (i : Int) = some L := by
  intro d
  induction d with
  | zero =>
    intro i hi k hk
    obtain ⟨k, rfl⟩ : ∃ m, k = m + 1 := ⟨k - 1, by omega⟩
    simp only [letterbagkit_CopySteps.l0]
    rw [if_neg (by omega), List.take_of_length_le (by omega)]
  | succ d ih =>
    intro i hi k hk
    obtain ⟨k, rfl⟩ : ∃ m, k = m + 1 := ⟨k - 1, by omega⟩
    have hlt : i < L.length := by omega
    have h1 := hc _ (List.getElem_mem hlt)
    simp only [letterbagkit_CopySteps.l0]
    rw [if_pos (by omega), if_pos (by omega), st_get L i hlt]
    unfold letterbagkit_CopyStep.f letterbagkit_CopyInts.f
    rw [if_pos (by simp; omega)]
    simp only [List.nil_append, Option.bind_some]
    rw [if_pos (by rw [List.length_take]; omega), wrap64_id ((i : Int) + 1) (by omega) (by omega), show ((i : Int) + 1) = ((i + 1 : Nat) : Int) by omega]
    have e : L.take i ++ [(⟨L[i].f0, L[i].f1⟩ : Sp)] = L.take (i + 1) := by
      rw [List.take_succ_eq_append_getElem hlt]
    rw [e]
    exact ih (i + 1) (by omega) k (by omega)
theorem copy_steps (L : List Sp) (hn : L.length ≤ 1000) (hc : ∀ s ∈ L, s.f1.length ≤ 1000) (k : Nat) (hk : L.length < k) : letterbagkit_CopySteps.f k L = some L := copy_steps_go L hn hc L.length 0 (by omega) k hk
theorem copy_rates_go (L : List Rt) (hn : L.length ≤ 1000) (hc : ∀ r ∈ L, r.f1.length ≤ 20 ∧ ∀ s ∈ r.f1, s.f1.length ≤ 1000) : ∀ d i : Nat, i + d = L.length → ∀ (k : Nat), d + 21 < k → letterbagkit_CopyRates.l0 k L (L.take i) (i : Int) = some L := by
  intro d
  induction d with
  | zero =>
    intro i hi k hk
    obtain ⟨k, rfl⟩ : ∃ m, k = m + 1 := ⟨k - 1, by omega⟩
    simp only [letterbagkit_CopyRates.l0]
    rw [if_neg (by omega), List.take_of_length_le (by omega)]
  | succ d ih =>
    intro i hi k hk
    obtain ⟨k, rfl⟩ : ∃ m, k = m + 1 := ⟨k - 1, by omega⟩
    have hlt : i < L.length := by omega
    have h1 := hc _ (List.getElem_mem hlt)
    simp only [letterbagkit_CopyRates.l0]
    rw [if_pos (by omega), if_pos (by omega), rt_get L i hlt]
    unfold letterbagkit_CopyRate.f
    rw [copy_steps L[i].f1 (by omega) h1.2 k (by omega)]
    simp only [Option.bind_some]
    rw [if_pos (by rw [List.length_take]; omega), wrap64_id ((i : Int) + 1) (by omega) (by omega), show ((i : Int) + 1) = ((i + 1 : Nat) : Int) by omega]
    have e : L.take i ++ [(⟨L[i].f0, L[i].f1, L[i].f2⟩ : Rt)] = L.take (i + 1) := by
      rw [List.take_succ_eq_append_getElem hlt]
    rw [e]
    exact ih (i + 1) (by omega) k (by omega)
theorem copy_tariff (R : List Rt) (Z : List Zn) (hn : R.length ≤ 1000) (hc : ∀ r ∈ R, r.f1.length ≤ 20 ∧ ∀ s ∈ r.f1, s.f1.length ≤ 1000) (hz : Z.length ≤ 1000) (k : Nat) (hk : R.length + 21 < k) : letterbagkit_CopyTariff.f k R Z = some (R, Z) := by
  have h := copy_rates_go R hn hc R.length 0 (by omega) k hk
  unfold letterbagkit_CopyTariff.f letterbagkit_CopyZones.f
  rw [show letterbagkit_CopyRates.f k R = some R from h, if_pos (by simp; omega)]
  rfl
theorem made_copy (N : Nat) (l : List Int) : letterbagkit_CopyTariff.f 30 (madeR N l) (madeZ N) = some (madeR N l, madeZ N) := by
  have hc := mdC_range N
  have hs := mdS_range N
  have hz := mdZ_range N
  obtain ⟨-, -, h3, -⟩ := made_rows N
  refine copy_tariff _ _ (by rw [madeR_length]; omega) (fun r hr => ?_) (by omega) 30 (by rw [madeR_length]; omega)
  unfold madeR mdRates at hr
  obtain ⟨c, hc2, rfl⟩ := List.mem_map.1 hr
  refine ⟨by simp [mdRate]; omega, fun s hs2 => ?_⟩
  obtain ⟨j, hj, rfl⟩ := List.mem_map.1 (show s ∈ (List.range (mdS N)).map (mdStep l (mdZ N) c) from hs2)
  rw [mdStep_len]
  omega
end Go.Proofs.YtfglcfbcdhjcdaaDoor.Q

namespace Go.Proofs.YtfglcfbcdhjcdaaDoor.Q
open Go.RowKit Go.Proofs.YtfglcfbcdhjcdaaDoorW.PrintWords Go.Proofs.YtfglcfbcdhjcdaaDoorW.PrintLast Go.Proofs.YtfglcfbcdhjcdaaDoorW.PrintMore
set_option linter.unusedVariables false
set_option linter.unusedSimpArgs false
theorem zone_f (R : List Rt) (Z : List Zn) (a b : ByteArray) (hR : tariff_Right.f R Z = some true) (hs : ∀ z ∈ Z, z.f0.size ≤ 1000 ∧ z.f1.size ≤ 1000) (hl : Z.length ≤ 20) (ha : codeB a = true) (ha2 : a.size ≤ 100) (hb : codeB b = true) (hb2 : b.size ≤ 100) :
    tariff_Zone.f 30 R Z a b = some (zoneB Z a b, 0) := by
  unfold tariff_Zone.f
  rw [hR]
  simp only [Option.bind_some, if_true]
  rw [code_is a (by omega), ha]
  simp only [Option.bind_some, if_true]
  rw [code_is b (by omega), hb]
  simp only [Option.bind_some, if_true]
  rw [zone_is R Z a b hs (by omega) 30 (by omega)]
  rfl
set_option maxRecDepth 100000 in
theorem mdRows_short : ∀ nz ∈ [1, 2, 3], ∀ x ∈ List.range 512, ((mdRows nz x 9).all (fun z => decide (z.f0.size ≤ 3) && decide (z.f1.size ≤ 4))) = true := by decide +kernel
theorem made_short (N : Nat) : ∀ z ∈ madeZ N, z.f0.size ≤ 3 ∧ z.f1.size ≤ 4 := by
  have h := mdRows_short (mdZ N) (by have := mdZ_range N; simp; omega) (mdX N) (List.mem_range.2 (mdX_range N))
  simp only [List.all_eq_true, Bool.and_eq_true, decide_eq_true_eq] at h
  exact h
structure IsCode (c : ByteArray) : Prop where
  sz : c.size = 5
  ok : codeB c = true
  ok7 : codeB (c ++ ⟨#[55]⟩) = true
  okA : codeB (c ++ ⟨#[65]⟩) = true
  pre7 : prefB (c ++ ⟨#[55]⟩) c = true
  preA : prefB (c ++ ⟨#[65]⟩) c = true
  sz7 : (c ++ ⟨#[55]⟩).size = 6
  szA : (c ++ ⟨#[65]⟩).size = 6
theorem isCode (x : Nat) (h : x < 256) : IsCode (code5 x) := by
  have f := code5_facts x (List.mem_range.2 h)
  simp only [Bool.and_eq_true, beq_iff_eq] at f
  obtain ⟨h1, h2, h3, h4, h5, h6, h7, h8⟩ := f
  exact ⟨h1, h2, h3, h4, h5, h6, h7, h8⟩
theorem code_ne_nil {c : ByteArray} (h : IsCode c) : c ≠ noText := by
  intro e
  have := h.sz
  rw [e] at this
  exact absurd this (by decide)
theorem made_more_right (N : Nat) (l : List Int) (hf : mdFits l = true) (c0 c1 : ByteArray) (h0 : IsCode c0) (h1 : IsCode c1) (z : Nat) (hz1 : 1 ≤ z) (hz2 : z ≤ mdZ N) : tariff_Right.f (madeR N l) (madeZ N ++ [⟨c0, c1, (z : Int)⟩]) = some true := by
  have hc := mdC_range N
  have hzr := mdZ_range N
  obtain ⟨g1, g2, g3, g4⟩ := made_rows N
  have hR := made_right_f N l hf
  have hB := made_right N l hf
  have hcnt : rowCnt (madeZ N) (madeZ N).length (c0, c1) = 0 := by
    unfold rowCnt
    rw [List.take_length, List.length_eq_zero_iff, List.filter_eq_nil_iff]
    intro y hy hd
    have := (made_short N y hy).1
    simp only [decide_eq_true_eq, Prod.mk.injEq] at hd
    rw [hd.1, h0.sz] at this
    omega
  unfold tariff_Right.f at hR ⊢
  split at hR
  · rename_i hcond
    rw [Bool.and_eq_true] at hcond
    rw [if_pos (by
      rw [Bool.and_eq_true, List.all_append, hcond.1, hcond.2]
      refine ⟨rfl, ?_⟩
      have a1 := h0.sz
      have a2 := h1.sz
      simp [zoneFitsB, a1, a2])]
    congr 1
    unfold tariffB at hB ⊢
    simp only [Bool.and_eq_true, decide_eq_true_eq] at hB
    obtain ⟨b1, b2, b3, b4, b5, b6, b7⟩ := hB
    have hzn : zonesN (madeR N l) = (mdZ N : Nat) := mdRates_zones _ _ _ _ (mdS_range N).1 hc.1 _
    have hrg := rowsGo_app (zonesN (madeR N l)) (madeZ N) ⟨c0, c1, (z : Int)⟩ hcnt (by show (1 : Int) ≤ z; omega) (by show (z : Int) ≤ _; rw [hzn]; omega) (by unfold endOk; rw [h0.ok, Bool.or_true]) (by unfold endOk; rw [h1.ok, Bool.or_true]) (madeZ N) 0 (by simp) b6
    have hl : (madeZ N ++ [(⟨c0, c1, (z : Int)⟩ : Zn)]).length = (madeZ N).length + 1 := by simp
    rw [hrg, hl, rowCnt_last, b7, b5, decide_eq_true b1, decide_eq_true b2, decide_eq_true b3, decide_eq_true (show (madeZ N).length + 1 ≤ 500 by omega), if_neg (by
      intro e
      injection e with e _
      exact code_ne_nil h0 e)]
    rfl
  · cases hR
theorem more_sizes (N : Nat) (c0 c1 : ByteArray) (h0 : IsCode c0) (h1 : IsCode c1) (z : Int) : ∀ y ∈ madeZ N ++ [(⟨c0, c1, z⟩ : Zn)], y.f0.size ≤ 1000 ∧ y.f1.size ≤ 1000 := by
  intro y hy
  rcases List.mem_append.1 hy with h | h
  · have := made_short N y h; omega
  · obtain rfl := List.mem_singleton.1 h
    have a := h0.sz
    have b := h1.sz
    exact ⟨by show c0.size ≤ 1000; omega, by show c1.size ≤ 1000; omega⟩
theorem more_zone (N : Nat) (c0 c1 a b : ByteArray) (h0 : IsCode c0) (h1 : IsCode c1) (z : Int) : zoneB (madeZ N ++ [⟨c0, c1, z⟩]) a b = if prefB a c0 = true ∧ prefB b c1 = true then z else zoneB (madeZ N) a b :=
  zone_more (madeZ N) c0 c1 a b z 304 (fun y hy => by have := made_short N y hy; omega) (by omega) (by have a := h0.sz; have b := h1.sz; omega)
theorem pref_codes {a c : ByteArray} (ha : IsCode a) (hc : IsCode c) : prefB a c = true ↔ a = c := by
  rw [pref_same a c (by rw [ha.sz, hc.sz])]
  constructor
  · intro h
    have e : a.toList = c.toList := by simpa using h
    exact WideShapes.bytes_inj (by rw [← Lib.toList_data, ← Lib.toList_data]; exact e)
  · rintro rfl
    simp
end Go.Proofs.YtfglcfbcdhjcdaaDoor.Q

namespace Go.Proofs.YtfglcfbcdhjcdaaDoor.Q
open Go.RowKit Go.Proofs.YtfglcfbcdhjcdaaDoorW.PrintWords Go.Proofs.YtfglcfbcdhjcdaaDoorW.PrintLast Go.Proofs.YtfglcfbcdhjcdaaDoorW.PrintMore
set_option linter.unusedVariables false
set_option linter.unusedSimpArgs false
theorem row_C (k : IntKind) (e : Nat) (w : World) (xs : List Int) (hl : xs.length ≤ 1000) : Kd.C (Kd.int k) (w.alloc (.cells (xs.map (Value.int k)).toArray e (0, 0))) (some ⟨w.heap.size, 0, none⟩) xs.length xs := by
  have hR : Kd.R (Kd.int k) e (w.alloc (.cells (xs.map (Value.int k)).toArray e (0, 0))) 0 (fun _ => True) (.slice (some ⟨w.heap.size, 0, none⟩) xs.length xs.length) xs := by
    have hsz : (Kd.int k).sz = 1 := rfl
    refine ⟨fun _ _ => trivial, xs.map (Value.int k), ⟨by rw [hsz]; simp, .inr ⟨w.heap.size, xs.length, (xs.map (Value.int k)).toArray, rfl, Nat.zero_le _, heap_alloc_new _ _, Nat.le_refl _, by unfold maxLen; omega, by rw [hsz]; simp, ?_⟩⟩, ?_⟩
    · rw [hsz, List.toList_toArray, List.take_of_length_le (by simp)]
    · refine ⟨by rw [hsz]; simp, fun j p hj => ?_⟩
      rw [hsz]
      show ((xs.map (Value.int k)).drop (j * 1)).take 1 = [Value.int k p]
      have hlt : j < xs.length := (List.getElem?_eq_some_iff.1 hj).1
      rw [Nat.mul_one, List.drop_eq_getElem_cons (by simpa using hlt), List.take_succ_cons, List.take_zero, List.getElem_map]
      have := (List.getElem?_eq_some_iff.1 hj).2
      rw [this]
  exact (Kd.R_reads' hR).2.2
theorem str_at {W : World} {A : Option Addr} {n : Nat} {xs : List ByteArray} (h : Kd.C Kd.string W A n xs) (i : Nat) (hi : i < n) : ∃ ad, A = some ad ∧ W.cell? (ad.add i) = some (.string (xs.getD i ByteArray.empty)) := by
  obtain ⟨ad, cs, rfl, -, hk, hcell⟩ := Kd.C_get h ByteArray.empty (i : Int) (by omega) (by exact_mod_cast hi)
  rw [Int.toNat_natCast] at hk hcell
  have hcs : cs = [.string (xs.getD i ByteArray.empty)] := hk
  subst hcs
  have hc := hcell 0 _ rfl
  have hsz : Kd.string.sz = 1 := rfl
  rw [hsz, Nat.mul_one, Nat.add_zero] at hc
  exact ⟨ad, rfl, hc⟩
theorem str_ne {a b : ByteArray} (h : a ≠ b) : (a.toList == b.toList) = false := by
  rw [beq_eq_false_iff_ne]
  exact fun e => h (WideShapes.bytes_inj (by rw [← Lib.toList_data, ← Lib.toList_data]; exact e))
theorem more_put {R : List Rt} {Z Z' : List Zn} {W W1 : World} {mb base : Nat} {v3 v4 v1 : Value} (h3 : Kd.R k57 57 W base (fun k => k ≠ mb) v3 R) (h4 : Kd.R k67 67 W base (fun k => k ≠ mb) v4 Z) (hb : W.heap[mb]? = some (.cells #[v3, v4] 25 (0, 0)))
    (ho : Kd.R k67 67 W1 base (fun k => k ≠ mb) v1 Z') (hg : W.grownBy W1 v4.ownBlock) :
    (W1.setCell ⟨mb, 1, none⟩ v1).heap[mb]? = some (.cells #[v3, v1] 25 (0, 0)) ∧ Kd.R k57 57 (W1.setCell ⟨mb, 1, none⟩ v1) base (fun k => k ≠ mb) v3 R ∧ Kd.R k67 67 (W1.setCell ⟨mb, 1, none⟩ v1) base (fun k => k ≠ mb) v1 Z' :=
  ⟨blk_put ((hg.block _ (blk_lt hb) (fun e => h4.1 _ e.symm rfl)).trans hb) 1 v1 rfl, Kd.R_far (Kd.R_over h3 h4 (by decide) hg) (fun _ hk => hk) v1, Kd.R_far ho (fun _ hk => hk) v1⟩
set_option maxHeartbeats 8000000 in
set_option maxRecDepth 100000 in
theorem rows.calls0 (N : Nat) (hN : N < 4294967296) (a b c d z : Int) (ha : 0 ≤ a ∧ a ≤ 255) (hb : 0 ≤ b ∧ b ≤ 255) (hc : 0 ≤ c ∧ c ≤ 255) (hd : 0 ≤ d ∧ d ≤ 255) (w : World) :
    Calls Tryd.prog 6 #[.int .u32 (N : Int), .int .u8 a, .int .u8 b, .int .u8 c, .int .u8 d, .int .i64 z] w fun e w' => e = .returned (.bool true) ∧ Below w.heap.size w w' := by
  have HMF := Aside0.mk (made_f N hN [] rfl)
  have hzr := mdZ_range N
  have hsr := mdS_range N
  have hcr := mdC_range N
  have HCD : Aside0 (letterbaglaw23_Codes.f 10 [a, b, c, d] = some [code5 a.toNat, code5 b.toNat, code5 c.toNat, code5 d.toNat]) := ⟨codes_is [a, b, c, d] (fun x hx => by
    rcases List.mem_cons.1 hx with h | hx
    · rw [h]; exact ha
    rcases List.mem_cons.1 hx with h | hx
    · rw [h]; exact hb
    rcases List.mem_cons.1 hx with h | hx
    · rw [h]; exact hc
    rcases List.mem_cons.1 hx with h | hx
    · rw [h]; exact hd
    cases hx) (by show 4 ≤ 1000; omega) 10 (by show 4 < 10; omega)⟩
  have I0 := Aside0.mk (isCode a.toNat (by omega))
  have I1 := Aside0.mk (isCode b.toNat (by omega))
  have I2 := Aside0.mk (isCode c.toNat (by omega))
  have I3 := Aside0.mk (isCode d.toNat (by omega))
  generalize code5 a.toNat = k0 at *
  generalize code5 b.toNat = k1 at *
  generalize code5 c.toNat = k2 at *
  generalize code5 d.toNat = k3 at *
  go_enter Tryd.func6, Tryd.ntmps6
  go_wp2_with fail
  refine (awake.calls0 w).mono ?_
  rintro e wA ⟨rfl, hbA⟩
  have HBA := Aside0.mk hbA
  clear hbA
  go_wp2_with fail
  refine (letterbaglaw24_Made.calls (N : Int) none 0 [] (madeR N []) (madeZ N) wA (Kd.C_nil _ _) (Nat.le_refl _) HMF.out).mono ?_
  rintro e w1 ⟨v0, v1, rfl, hn0, hn1, hb1⟩
  obtain ⟨A0, c0, rfl, hc0, hr0⟩ := Kd.R_reads hn0
  obtain ⟨A1, c1, rfl, hc1, hr1⟩ := Kd.R_reads hn1
  have HC0 := Aside0.mk hc0
  have HC1 := Aside0.mk hc1
  have hba := below_alloc (Below.refl w1.heap.size w1) (.cells #[.slice A0 (madeR N []).length c0, .slice A1 (madeZ N).length c1] 25 (0, 0))
  have HT := Aside0.mk (heap_alloc_new w1 (.cells #[.slice A0 (madeR N []).length c0, .slice A1 (madeZ N).length c1] 25 (0, 0)))
  have HR0 := Aside0.mk (Kd.C_below hr0 hba)
  have HR1 := Aside0.mk (Kd.C_below hr1 hba)
  have HW := Aside0.mk (HBA.out.trans ((hb1.mono HBA.out.size).trans (hba.mono (Nat.le_trans HBA.out.size hb1.size))))
  clear hn0 hn1 hb1 hr0 hr1 hba hc0 hc1 HMF
  have hsz : (w1.alloc (.cells #[.slice A0 (madeR N []).length c0, .slice A1 (madeZ N).length c1] 25 (0, 0))).heap.size = w1.heap.size + 1 := by simp
  go_wp2_with fail
  generalize w1.alloc (.cells #[.slice A0 (madeR N []).length c0, .slice A1 (madeZ N).length c1] 25 (0, 0)) = Wt at *
  generalize w1.heap.size = tb at *
  have hlt := blk_lt HT.out
  have hba := below_alloc (Below.refl Wt.heap.size Wt) (.cells #[.int .u8 a, .int .u8 b, .int .u8 c, .int .u8 d] 5 (0, 0))
  have hrow : Kd.C (Kd.int .u8) (Wt.alloc (.cells #[.int .u8 a, .int .u8 b, .int .u8 c, .int .u8 d] 5 (0, 0))) (some ⟨tb + 1, 0, none⟩) [a, b, c, d].length [a, b, c, d] := by rw [← hsz]; exact row_C .u8 5 Wt [a, b, c, d] (by simp)
  have hcon := letterbaglaw23_Codes.calls 10 (some ⟨tb + 1, 0, none⟩) 4 [a, b, c, d] [k0, k1, k2, k3] (Wt.alloc (.cells #[.int .u8 a, .int .u8 b, .int .u8 c, .int .u8 d] 5 (0, 0))) hrow (Nat.le_refl _) HCD.out
  refine hcon.mono ?_
  rintro e wC ⟨v2, rfl, hn2, hbC⟩
  obtain ⟨cg, c2, ec2, -⟩ := Kd.R_form hn2 (by simp)
  subst ec2
  obtain ⟨-, hc2, hr2⟩ := Kd.R_reads' hn2
  have HBC := Aside0.mk (hba.trans (hbC.mono hba.size))
  have HR2 := Aside0.mk hr2
  clear hn2 hbC hba hc2 hr2 HCD

  have hlenR : (madeR N []).length = mdC N := madeR_length N []
  obtain ⟨ad, As, cs, rfl, -, e1, -, hls, hrs⟩ := at_T57 (Kd.C_below HR0.out HBC.out) (0 : Int) (by omega) (by rw [hlenR]; omega)
  have hx : rd_T57 (madeR N []) (0 : Int) = mdRate [] (mdZ N) (mdS N) (mdBar N) 0 := rates_rd _ _ _ _ _ 0 (by omega)
  rw [hx] at e1 hrs hls
  have hlenS : (mdRate [] (mdZ N) (mdS N) (mdBar N) 0).f1.length = mdS N := by simp [mdRate]
  rw [hlenS] at e1
  have e1 : wC.cell? ⟨ad.block, ad.off + 1, none⟩ = some (.slice As (mdS N) cs) := by simpa [Addr.add] using e1
  obtain ⟨ad2, A3, c3, rfl, -, s1, -, -⟩ := at_T61 hrs (0 : Int) (by omega) (by rw [hlenS]; omega)
  have hx0 : rd_T61 (mdRate [] (mdZ N) (mdS N) (mdBar N) 0).f1 (0 : Int) = mdStep [] (mdZ N) 0 0 := steps_rd [] (mdZ N) 0 (mdS N) 0 (by omega)
  rw [hx0, mdStep_len] at s1
  have s1 : wC.cell? ⟨ad2.block, ad2.off + 1, none⟩ = some (.slice A3 (mdZ N) c3) := by simpa [Addr.add] using s1
  obtain ⟨zi, hp2, hzi⟩ := pick_is z (mdZ N) (by omega) (by omega)
  have HP2 := Aside0.mk hp2
  have HTC := Aside0.mk ((HBC.out.block tb hlt).trans HT.out)
  have t0 : wC.cell? ⟨tb, 0, none⟩ = some (.slice (some ad) (madeR N []).length c0) := (blk_cell HTC.out 0).trans rfl
  have t1 : wC.cell? ⟨tb, 1, none⟩ = some (.slice A1 (madeZ N).length c1) := (blk_cell HTC.out 1).trans rfl
  have HLR := Aside0.mk hlenR
  clear hls hrs hx hx0 hp2 hlenS
  have hlr : 0 < (madeR N []).length := by rw [HLR.out]; omega
  have hls0 : 0 < mdS N := by omega
  clear hlenR
  go_wp2_with fail
  refine (letterbagkit_Pick.calls z ((mdZ N : Nat) : Int) (zi : Int) wC HP2.out).mono ?_
  rintro e wQ ⟨rfl, hdQ⟩
  have HBQ := Aside0.mk (HBC.out.trans (hdQ.below.mono HBC.out.size))
  have HTQ := Aside0.mk ((HBQ.out.block tb hlt).trans HT.out)
  have HR2Q := Aside0.mk (Kd.C_below HR2.out hdQ.below)
  have t0 : wQ.cell? ⟨tb, 0, none⟩ = some (.slice (some ad) (madeR N []).length c0) := (blk_cell HTQ.out 0).trans rfl
  have t1 : wQ.cell? ⟨tb, 1, none⟩ = some (.slice A1 (madeZ N).length c1) := (blk_cell HTQ.out 1).trans rfl
  clear hdQ s1 e1 hlr hls0 HP2 HR2
  go_wp2_with fail
  refine (letterbagkit_CopyTariff.calls 30 (some ad) c0 (madeR N []) A1 c1 (madeZ N) (madeR N []) (madeZ N) wQ (Kd.C_below HR0.out HBQ.out) HC0.out (Kd.C_below HR1.out HBQ.out) HC1.out (made_copy N [])).mono ?_
  rintro e wD ⟨v3, v4, rfl, hn3, hn4, hbD⟩
  obtain ⟨A4, c4, e4⟩ := Kd.R_slice hn3
  obtain ⟨A5, c5, e5⟩ := Kd.R_slice hn4
  subst e4 e5
  have hba := below_alloc (Below.refl wD.heap.size wD) (.cells #[.slice A4 (madeR N []).length c4, .slice A5 (madeZ N).length c5] 25 (0, 0))
  have HM0 := Aside0.mk (heap_alloc_new wD (.cells #[.slice A4 (madeR N []).length c4, .slice A5 (madeZ N).length c5] 25 (0, 0)))
  have HN3 := Aside0.mk (Kd.R_mono (Kd.R_below (Kd.R_elderB hn3 wD.heap.size (Nat.le_refl _)) hba) (fun _ hk => hk.2))
  have HN4 := Aside0.mk (Kd.R_mono (Kd.R_below (Kd.R_elderB hn4 wD.heap.size (Nat.le_refl _)) hba) (fun _ hk => hk.2))
  have HBM := Aside0.mk (hbD.trans (hba.mono hbD.size))
  have hmq : wQ.heap.size ≤ wD.heap.size := hbD.size
  clear hn3 hn4 hbD hba t0 t1
  go_wp2_with fail
  generalize wD.alloc (.cells #[.slice A4 (madeR N []).length c4, .slice A5 (madeZ N).length c5] 25 (0, 0)) = wM at *
  generalize wD.heap.size = mb at *
  have q0 : wQ.cell? ⟨cg, 0, none⟩ = some (.string k0) := by obtain ⟨x, e, q⟩ := str_at HR2Q.out 0 (by simp); cases e; simpa [Addr.add] using q
  have q1 : wQ.cell? ⟨cg, 1, none⟩ = some (.string k1) := by obtain ⟨x, e, q⟩ := str_at HR2Q.out 1 (by simp); cases e; simpa [Addr.add] using q
  have q2 : wQ.cell? ⟨cg, 2, none⟩ = some (.string k2) := by obtain ⟨x, e, q⟩ := str_at HR2Q.out 2 (by simp); cases e; simpa [Addr.add] using q
  have q3 : wQ.cell? ⟨cg, 3, none⟩ = some (.string k3) := by obtain ⟨x, e, q⟩ := str_at HR2Q.out 3 (by simp); cases e; simpa [Addr.add] using q
  have hcg : cg < wQ.heap.size := World.block_lt_of_cell? wQ _ q0
  have HQ := Aside0.mk (And.intro q0 (And.intro q1 (And.intro q2 q3)))
  have hmlt : mb < wM.drew.heap.size := blk_lt HM0.out
  have u0 : wM.drew.cell? ⟨cg, 0, none⟩ = some (.string k0) := (HBM.out.cell (p := ⟨cg, 0, none⟩) hcg).trans q0
  have u1 : wM.drew.cell? ⟨cg, 1, none⟩ = some (.string k1) := (HBM.out.cell (p := ⟨cg, 1, none⟩) hcg).trans q1
  have m1 : wM.drew.cell? ⟨mb, 1, none⟩ = some (.slice A5 (madeZ N).length c5) := (blk_cell (w := wM.drew) HM0.out 1).trans rfl
  have hba := below_alloc (Below.refl wM.heap.size wM) (.cells #[.string k0, .string k1, .int .i64 (1 + (zi : Int))] 67 (0, 0))
  have m2 : (wM.alloc (.cells #[.string k0, .string k1, .int .i64 (1 + (zi : Int))] 67 (0, 0))).drew.cell? ⟨mb, 1, none⟩ = some (.slice A5 (madeZ N).length c5) := (hba.cell (p := ⟨mb, 1, none⟩) hmlt).trans m1
  have hcm : cg < wM.heap.size := Nat.lt_of_lt_of_le hcg HBM.out.size
  have g0 : (wM.alloc (.cells #[.string k0, .string k1, .int .i64 (1 + (zi : Int))] 67 (0, 0))).drew.cell? ⟨cg, 0, none⟩ = some (.string k0) := (hba.cell (p := ⟨cg, 0, none⟩) hcm).trans u0
  have g1 : (wM.alloc (.cells #[.string k0, .string k1, .int .i64 (1 + (zi : Int))] 67 (0, 0))).drew.cell? ⟨cg, 1, none⟩ = some (.string k1) := (hba.cell (p := ⟨cg, 1, none⟩) hcm).trans u1
  have hZ20 : (madeZ N).length ≤ 10 := (made_rows N).2.2.1
  have hwz : IntKind.i64.wrap (1 + (zi : Int)) = 1 + (zi : Int) := wrap_i64_int (by omega) (by omega)
  have HBMD : Aside0 (Below wQ.heap.size wQ wM.drew) := ⟨HBM.out.drew⟩
  have HN3D : Aside0 (Kd.R k57 57 wM.drew wQ.heap.size (fun k => k ≠ mb) (.slice A4 (madeR N []).length c4) (madeR N [])) := ⟨Kd.R_drew HN3.out⟩
  have HN4D : Aside0 (Kd.R k67 67 wM.drew wQ.heap.size (fun k => k ≠ mb) (.slice A5 (madeZ N).length c5) (madeZ N)) := ⟨Kd.R_drew HN4.out⟩
  have HM0D : Aside0 (wM.drew.heap[mb]? = some (.cells #[.slice A4 (madeR N []).length c4, .slice A5 (madeZ N).length c5] 25 (0, 0))) := ⟨HM0.out⟩
  clear hba q0 q1 q2 q3
  refine wp_region_held_drew (S := (fun w' => w'.cell? ⟨cg, 0, none⟩ = some (.string k0) ∧ w'.cell? ⟨cg, 1, none⟩ = some (.string k1))) (by kernel_rfl) ?_ (fun hHeld => ?_)
  · ((try dsimp only); first | exact ⟨u0, u1⟩ | exact ⟨g0, g1⟩ | exact ⟨x0, x1⟩ | exact ⟨y0, y1⟩ | go_keep)
  refine takeT 0 ?_ rfl (by kernel_rfl) (by kernel_rfl) (by kernel_rfl) (fun _ _ _ h => h) (by rfl) ?_ (by assumption) ?_
  rotate_left
  · (intro w hSw; (try dsimp only at hSw); go_simp; (try with_reducible rfl))
  try simp only [Act.put, List.setIfInBounds_toArray, List.set_cons_zero, List.set_cons_succ]
  refine takeT 2 ?_ rfl (by kernel_rfl) (by kernel_rfl) (by kernel_rfl) (fun _ _ _ h => h) (by rfl) ?_ (by assumption) ?_
  rotate_left
  · (intro w hSw; (try dsimp only at hSw); go_simp; (try with_reducible rfl))
  try simp only [Act.put, List.setIfInBounds_toArray, List.set_cons_zero, List.set_cons_succ]
  refine takeT 3 ?_ rfl (by kernel_rfl) (by kernel_rfl) (by kernel_rfl) (fun _ _ _ h => h) (by rfl) ?_ (by assumption) ?_
  rotate_left
  · (intro w hSw; (try dsimp only at hSw); go_simp; (try with_reducible rfl))
  try simp only [Act.put, List.setIfInBounds_toArray, List.set_cons_zero, List.set_cons_succ]
  refine takeT 4 ?_ rfl (by kernel_rfl) (by kernel_rfl) (by kernel_rfl) (fun _ _ _ h => h) (by rfl) ?_ (by assumption) ?_
  rotate_left
  · (intro w hSw; (try dsimp only at hSw); go_simp; (try with_reducible rfl))
  try simp only [Act.put, List.setIfInBounds_toArray, List.set_cons_zero, List.set_cons_succ]
  refine takeT 5 ?_ rfl (by kernel_rfl) (by kernel_rfl) (by kernel_rfl) (fun _ _ _ h => h) (by rfl) ?_ (by assumption) ?_
  rotate_left
  · (intro w hSw; (try dsimp only at hSw); go_simp; (try with_reducible rfl))
  try simp only [Act.put, List.setIfInBounds_toArray, List.set_cons_zero, List.set_cons_succ]
  refine takeT 6 ?_ rfl (by kernel_rfl) (by kernel_rfl) (by kernel_rfl) (fun _ _ _ h => h) (by rfl) ?_ (by assumption) ?_
  rotate_left
  · (intro w hSw; (try dsimp only at hSw); go_simp; (try with_reducible rfl))
  try simp only [Act.put, List.setIfInBounds_toArray, List.set_cons_zero, List.set_cons_succ]
  refine takeT 7 ?_ rfl (by kernel_rfl) (by kernel_rfl) (by kernel_rfl) (fun _ _ _ h => h) (by rfl) ?_ (by assumption) ?_
  rotate_left
  · (intro w hSw; (try dsimp only at hSw); go_simp; (try with_reducible rfl))
  try simp only [Act.put, List.setIfInBounds_toArray, List.set_cons_zero, List.set_cons_succ]
  refine takeT 8 ?_ rfl (by kernel_rfl) (by kernel_rfl) (by kernel_rfl) (fun _ _ _ h => h) (by rfl) ?_ (by assumption) ?_
  rotate_left
  · (intro w hSw; (try dsimp only at hSw); go_simp; (try with_reducible rfl))
  try simp only [Act.put, List.setIfInBounds_toArray, List.set_cons_zero, List.set_cons_succ]
  refine takeT 9 ?_ rfl (by kernel_rfl) (by kernel_rfl) (by kernel_rfl) (fun _ _ _ h => h) (by rfl) ?_ (by assumption) ?_
  rotate_left
  · (intro w hSw; (try dsimp only at hSw); go_simp; (try with_reducible rfl))
  try simp only [Act.put, List.setIfInBounds_toArray, List.set_cons_zero, List.set_cons_succ]
  apply bothWays
  intro hrest
  refine takeC2 1 10 rfl rfl (by kernel_rfl) (by rfl) (by rfl) (fun K hK => ?_) (fun K hK => ?_)
  · go_simp
    skip
    (try go_wp2_with fail)
    refine hK.out _ _ ?_ (fun hHeld => ?_)
    · ((try dsimp only); first | exact ⟨u0, u1⟩ | exact ⟨g0, g1⟩ | exact ⟨x0, x1⟩ | exact ⟨y0, y1⟩ | go_keep)
    clear hK K
    try simp only [Act.put, List.setIfInBounds_toArray, List.set_cons_zero, List.set_cons_succ]
    refine takeC 10 rfl (by kernel_rfl) (by rfl) (fun K hK => ?_)
    go_simp
    skip
    (try go_wp2_with fail)
    refine hK.out _ _ ?_ (fun hHeld => ?_)
    · ((try dsimp only); first | exact ⟨u0, u1⟩ | exact ⟨g0, g1⟩ | exact ⟨x0, x1⟩ | exact ⟨y0, y1⟩ | go_keep)
    clear hK K
    try simp only [Act.put, List.setIfInBounds_toArray, List.set_cons_zero, List.set_cons_succ]
    refine takeApp k67 11 (w0 := wQ) wQ.heap.size rfl (by kernel_rfl) (by rfl) (.tmp 49) (.tmp 58) 23 67 (.agg #[(.string ⟨#[]⟩), (.string ⟨#[]⟩), (.int .i64 0)]) 40 rfl Tryd.underlying23 info67 rfl (by decide) (by omega) (.slice A5 (madeZ N).length c5) (madeZ N) (⟨k0, k1, 1 + (zi : Int)⟩ : Zn) [.string k0, .string k1, .int .i64 (1 + (zi : Int))] (fun k => k ≠ mb) (fun _ => False) rfl rfl (k67_mkM _ _ _ ⟨k0, k1, 1 + (zi : Int)⟩) (fun _ hk => hk.elim) (fun k hk => by omega) HN4D.out HBMD.out HBMD.out.size (by omega) ?_
    intro v1 w1 ho hb hg hat
    obtain ⟨Av, cv, ev⟩ := Kd.R_slice ho
    generalize hlen : (madeZ N ++ [(⟨k0, k1, 1 + (zi : Int)⟩ : Zn)]).length = len at ev
    subst ev
    clear hlen
    have HMP := Aside0.mk (more_put HN3D.out HN4D.out HM0D.out ho hg)
    have zb1 := (hg.block _ (blk_lt HM0D.out) (fun e => HN4D.out.1 _ e.symm rfl)).trans HM0D.out
    have m3 : w1.cell? ⟨mb, 1, none⟩ = some (.slice A5 (madeZ N).length c5) := (blk_cell zb1 1).trans rfl
    have f3 := blk_frozen zb1 1
    have x0 : w1.cell? ⟨cg, 0, none⟩ = some (.string k0) := (hb.cell (p := ⟨cg, 0, none⟩) hcg).trans HQ.out.1
    have x1 : w1.cell? ⟨cg, 1, none⟩ = some (.string k1) := (hb.cell (p := ⟨cg, 1, none⟩) hcg).trans HQ.out.2.1
    have y0 : (w1.setCell ⟨mb, 1, none⟩ (.slice Av len cv)).cell? ⟨cg, 0, none⟩ = some (.string k0) := ((hb.setCell (p := ⟨mb, 1, none⟩) hmq _).cell (p := ⟨cg, 0, none⟩) hcg).trans HQ.out.1
    have y1 : (w1.setCell ⟨mb, 1, none⟩ (.slice Av len cv)).cell? ⟨cg, 1, none⟩ = some (.string k1) := ((hb.setCell (p := ⟨mb, 1, none⟩) hmq _).cell (p := ⟨cg, 1, none⟩) hcg).trans HQ.out.2.1
    refine ⟨⟨x0, x1⟩, fun hH12 => ?_⟩
    try simp only [Act.put, List.setIfInBounds_toArray, List.set_cons_zero, List.set_cons_succ]
    refine takeT 12 ?_ rfl (by kernel_rfl) (by kernel_rfl) (by kernel_rfl) (fun _ _ _ h => h) (by rfl) ?_ (by assumption) ?_
    rotate_left
    · (intro w hSw; (try dsimp only at hSw); go_simp; (try with_reducible rfl))
    try simp only [Act.put, List.setIfInBounds_toArray, List.set_cons_zero, List.set_cons_succ]
    refine takeC 13 rfl (by kernel_rfl) (by rfl) (fun K hK => ?_)
    go_simp
    skip
    (try go_wp2_with fail)
    refine hK.out _ _ ?_ (fun hHeld => ?_)
    · ((try dsimp only); first | exact ⟨u0, u1⟩ | exact ⟨g0, g1⟩ | exact ⟨x0, x1⟩ | exact ⟨y0, y1⟩ | go_keep)
    clear hK K
    try simp only [Act.put, List.setIfInBounds_toArray, List.set_cons_zero, List.set_cons_succ]
    refine wpAnyH_done (by kernel_rfl) ?_ _
    have HF : Aside0 (Below wQ.heap.size wQ (w1.setCell ⟨mb, 1, none⟩ (.slice Av len cv)) ∧ _) := ⟨⟨hb.setCell (p := ⟨mb, 1, none⟩) hmq _, HMP.out⟩⟩; clear ho hb hg hat zb1 x0 x1 y0 y1 hH12 hHeld HMP m3 f3; generalize w1.setCell ⟨mb, 1, none⟩ (.slice Av len cv) = W2 at HF ⊢; clear w1; revert HF W2 cv len Av
    exact hrest.out
  · go_simp
    skip
    (try go_wp2_with fail)
    refine hK.out _ _ ?_ (fun hHeld => ?_)
    · ((try dsimp only); first | exact ⟨u0, u1⟩ | exact ⟨g0, g1⟩ | exact ⟨x0, x1⟩ | exact ⟨y0, y1⟩ | go_keep)
    clear hK K
    try simp only [Act.put, List.setIfInBounds_toArray, List.set_cons_zero, List.set_cons_succ]
    refine takeC 1 rfl (by kernel_rfl) (by rfl) (fun K hK => ?_)
    go_simp
    skip
    (try go_wp2_with fail)
    refine hK.out _ _ ?_ (fun hHeld => ?_)
    · ((try dsimp only); first | exact ⟨u0, u1⟩ | exact ⟨g0, g1⟩ | exact ⟨x0, x1⟩ | exact ⟨y0, y1⟩ | go_keep)
    clear hK K
    try simp only [Act.put, List.setIfInBounds_toArray, List.set_cons_zero, List.set_cons_succ]
    refine takeApp k67 11 (w0 := wQ) wQ.heap.size rfl (by kernel_rfl) (by rfl) (.tmp 49) (.tmp 58) 23 67 (.agg #[(.string ⟨#[]⟩), (.string ⟨#[]⟩), (.int .i64 0)]) 40 rfl Tryd.underlying23 info67 rfl (by decide) (by omega) (.slice A5 (madeZ N).length c5) (madeZ N) (⟨k0, k1, 1 + (zi : Int)⟩ : Zn) [.string k0, .string k1, .int .i64 (1 + (zi : Int))] (fun k => k ≠ mb) (fun _ => False) rfl rfl (k67_mkM _ _ _ ⟨k0, k1, 1 + (zi : Int)⟩) (fun _ hk => hk.elim) (fun k hk => by omega) HN4D.out HBMD.out HBMD.out.size (by omega) ?_
    intro v1 w1 ho hb hg hat
    obtain ⟨Av, cv, ev⟩ := Kd.R_slice ho
    generalize hlen : (madeZ N ++ [(⟨k0, k1, 1 + (zi : Int)⟩ : Zn)]).length = len at ev
    subst ev
    clear hlen
    have HMP := Aside0.mk (more_put HN3D.out HN4D.out HM0D.out ho hg)
    have zb1 := (hg.block _ (blk_lt HM0D.out) (fun e => HN4D.out.1 _ e.symm rfl)).trans HM0D.out
    have m3 : w1.cell? ⟨mb, 1, none⟩ = some (.slice A5 (madeZ N).length c5) := (blk_cell zb1 1).trans rfl
    have f3 := blk_frozen zb1 1
    have x0 : w1.cell? ⟨cg, 0, none⟩ = some (.string k0) := (hb.cell (p := ⟨cg, 0, none⟩) hcg).trans HQ.out.1
    have x1 : w1.cell? ⟨cg, 1, none⟩ = some (.string k1) := (hb.cell (p := ⟨cg, 1, none⟩) hcg).trans HQ.out.2.1
    have y0 : (w1.setCell ⟨mb, 1, none⟩ (.slice Av len cv)).cell? ⟨cg, 0, none⟩ = some (.string k0) := ((hb.setCell (p := ⟨mb, 1, none⟩) hmq _).cell (p := ⟨cg, 0, none⟩) hcg).trans HQ.out.1
    have y1 : (w1.setCell ⟨mb, 1, none⟩ (.slice Av len cv)).cell? ⟨cg, 1, none⟩ = some (.string k1) := ((hb.setCell (p := ⟨mb, 1, none⟩) hmq _).cell (p := ⟨cg, 1, none⟩) hcg).trans HQ.out.2.1
    refine ⟨⟨x0, x1⟩, fun hH12 => ?_⟩
    try simp only [Act.put, List.setIfInBounds_toArray, List.set_cons_zero, List.set_cons_succ]
    refine takeT 12 ?_ rfl (by kernel_rfl) (by kernel_rfl) (by kernel_rfl) (fun _ _ _ h => h) (by rfl) ?_ (by assumption) ?_
    rotate_left
    · (intro w hSw; (try dsimp only at hSw); go_simp; (try with_reducible rfl))
    try simp only [Act.put, List.setIfInBounds_toArray, List.set_cons_zero, List.set_cons_succ]
    refine takeC 13 rfl (by kernel_rfl) (by rfl) (fun K hK => ?_)
    go_simp
    skip
    (try go_wp2_with fail)
    refine hK.out _ _ ?_ (fun hHeld => ?_)
    · ((try dsimp only); first | exact ⟨u0, u1⟩ | exact ⟨g0, g1⟩ | exact ⟨x0, x1⟩ | exact ⟨y0, y1⟩ | go_keep)
    clear hK K
    try simp only [Act.put, List.setIfInBounds_toArray, List.set_cons_zero, List.set_cons_succ]
    refine wpAnyH_done (by kernel_rfl) ?_ _
    have HF : Aside0 (Below wQ.heap.size wQ (w1.setCell ⟨mb, 1, none⟩ (.slice Av len cv)) ∧ _) := ⟨⟨hb.setCell (p := ⟨mb, 1, none⟩) hmq _, HMP.out⟩⟩; clear ho hb hg hat zb1 x0 x1 y0 y1 hH12 hHeld HMP m3 f3; generalize w1.setCell ⟨mb, 1, none⟩ (.slice Av len cv) = W2 at HF ⊢; clear w1; revert HF W2 cv len Av
    exact hrest.out
  intro Av cv len W2 HF
  obtain ⟨hb2, hm2, h3, h4⟩ := HF.out
  obtain ⟨Z1, HZ1⟩ : ∃ Z1, Aside0 (madeZ N ++ [(⟨k0, k1, 1 + (zi : Int)⟩ : Zn)] = Z1) := ⟨_, ⟨rfl⟩⟩
  rw [HZ1.out] at h4
  obtain ⟨el, hcv, hr4⟩ := Kd.R_reads' h4
  subst el
  obtain ⟨-, hc4, hr3⟩ := Kd.R_reads' h3
  have HC4 := Aside0.mk hc4
  have HCV := Aside0.mk hcv
  have HM3 := Aside0.mk hr3
  have HM4 := Aside0.mk hr4
  have HBT := Aside0.mk (HBQ.out.trans (hb2.mono HBQ.out.size))
  have HT0 := Aside0.mk (Kd.C_below HR0.out HBT.out)
  have HT1 := Aside0.mk (Kd.C_below HR1.out HBT.out)
  have HWW := Aside0.mk (HW.out.trans (HBT.out.mono HW.out.size))
  have hT2 := (HBT.out.block tb hlt).trans HT.out
  have HJ := Aside0.mk (And.intro ((blk_cell hm2 0).trans rfl) (And.intro ((blk_cell hm2 1).trans rfl) (And.intro ((hb2.cell (p := ⟨cg, 0, none⟩) hcg).trans HQ.out.1) (And.intro ((hb2.cell (p := ⟨cg, 1, none⟩) hcg).trans HQ.out.2.1) (And.intro ((hb2.cell (p := ⟨cg, 2, none⟩) hcg).trans HQ.out.2.2.1) (And.intro ((hb2.cell (p := ⟨cg, 3, none⟩) hcg).trans HQ.out.2.2.2) (And.intro ((blk_cell hT2 0).trans rfl) ((blk_cell hT2 1).trans rfl))))))))
  have Lmb := blk_lt hm2
  have Ltb := blk_lt hT2
  have Lcg := Nat.lt_of_lt_of_le hcg hb2.size
  have hzz : (1 + (zi : Int)) = ((zi + 1 : Nat) : Int) := by omega
  have hR1 : tariff_Right.f (madeR N []) Z1 = some true := by rw [← HZ1.out, hzz]; exact made_more_right N [] rfl k0 k1 I0.out I1.out (zi + 1) (by omega) (by omega)
  have hR0 := made_right_f N [] rfl
  have hs1 : ∀ y ∈ Z1, y.f0.size ≤ 1000 ∧ y.f1.size ≤ 1000 := by rw [← HZ1.out]; exact more_sizes N k0 k1 I0.out I1.out _
  have hs0 : ∀ y ∈ madeZ N, y.f0.size ≤ 1000 ∧ y.f1.size ≤ 1000 := fun y hy => by have := made_short N y hy; omega
  have hl1 : Z1.length ≤ 20 := by rw [← HZ1.out, List.length_append, List.length_singleton]; omega
  have hmz := fun a b => more_zone N k0 k1 a b I0.out I1.out (1 + (zi : Int))
  rw [HZ1.out] at hmz
  have ZX := Aside0.mk (zone_f (madeR N []) Z1 k0 k1 hR1 hs1 hl1 I0.out.ok (by rw [I0.out.sz]; omega) I1.out.ok (by rw [I1.out.sz]; omega))
  have ZY := Aside0.mk (zone_f (madeR N []) Z1 k2 k3 hR1 hs1 hl1 I2.out.ok (by rw [I2.out.sz]; omega) I3.out.ok (by rw [I3.out.sz]; omega))
  have ZO := Aside0.mk (zone_f (madeR N []) (madeZ N) k2 k3 hR0 hs0 (by omega) I2.out.ok (by rw [I2.out.sz]; omega) I3.out.ok (by rw [I3.out.sz]; omega))
  have ZL := Aside0.mk (zone_f (madeR N []) Z1 (k0 ++ ⟨#[55]⟩) (k1 ++ ⟨#[65]⟩) hR1 hs1 hl1 I0.out.ok7 (by rw [I0.out.sz7]; omega) I1.out.okA (by rw [I1.out.szA]; omega))
  have hx0 : zoneB Z1 k0 k1 = 1 + (zi : Int) := by rw [hmz, if_pos ⟨(pref_codes I0.out I0.out).2 rfl, (pref_codes I1.out I1.out).2 rfl⟩]
  have hxl : zoneB Z1 (k0 ++ ⟨#[55]⟩) (k1 ++ ⟨#[65]⟩) = 1 + (zi : Int) := by rw [hmz, if_pos ⟨I0.out.pre7, I1.out.preA⟩]
  have HY := Aside0.mk (show zoneB Z1 k2 k3 = if k2 = k0 ∧ k3 = k1 then 1 + (zi : Int) else zoneB (madeZ N) k2 k3 by rw [hmz]; simp only [pref_codes I2.out I0.out, pref_codes I3.out I1.out])
  rw [hx0] at ZX
  rw [hxl] at ZL
  generalize zoneB Z1 k2 k3 = yv at *
  generalize zoneB (madeZ N) k2 k3 = ov at *
  clear hb2 hm2 h3 h4 hcv hr4 hc4 hr3 hT2 hR1 hR0 hs1 hs0 hl1 hmz hx0 hxl hzz u0 u1 m1 m2 g0 g1
  have HB := Aside0.mk (Below.refl W2.heap.size W2)
  have j0 : W2.cell? ⟨mb, 0, none⟩ = some (.slice A4 (madeR N []).length c4) := (HB.out.cell (p := ⟨mb, 0, none⟩) Lmb).trans HJ.out.1
  have j1 : W2.cell? ⟨mb, 1, none⟩ = some (.slice Av Z1.length cv) := (HB.out.cell (p := ⟨mb, 1, none⟩) Lmb).trans HJ.out.2.1
  have j2 : W2.cell? ⟨cg, 0, none⟩ = some (.string k0) := (HB.out.cell (p := ⟨cg, 0, none⟩) Lcg).trans HJ.out.2.2.1
  have j3 : W2.cell? ⟨cg, 1, none⟩ = some (.string k1) := (HB.out.cell (p := ⟨cg, 1, none⟩) Lcg).trans HJ.out.2.2.2.1
  have j4 : W2.cell? ⟨cg, 2, none⟩ = some (.string k2) := (HB.out.cell (p := ⟨cg, 2, none⟩) Lcg).trans HJ.out.2.2.2.2.1
  have j5 : W2.cell? ⟨cg, 3, none⟩ = some (.string k3) := (HB.out.cell (p := ⟨cg, 3, none⟩) Lcg).trans HJ.out.2.2.2.2.2.1
  have j6 : W2.cell? ⟨tb, 0, none⟩ = some (.slice (some ad) (madeR N []).length c0) := (HB.out.cell (p := ⟨tb, 0, none⟩) Ltb).trans HJ.out.2.2.2.2.2.2.1
  have j7 : W2.cell? ⟨tb, 1, none⟩ = some (.slice A1 (madeZ N).length c1) := (HB.out.cell (p := ⟨tb, 1, none⟩) Ltb).trans HJ.out.2.2.2.2.2.2.2
  clear HF
  go_wp2_with fail
  replace HB := Aside0.mk HB.out.drew
  refine wp_region_held_drew (S := (fun w' => w'.cell? ⟨mb, 0, none⟩ = some (.slice A4 (madeR N []).length c4) ∧ w'.cell? ⟨mb, 1, none⟩ = some (.slice Av Z1.length cv) ∧ w'.cell? ⟨cg, 0, none⟩ = some (.string k0) ∧ w'.cell? ⟨cg, 1, none⟩ = some (.string k1) ∧ w'.cell? ⟨cg, 2, none⟩ = some (.string k2) ∧ w'.cell? ⟨cg, 3, none⟩ = some (.string k3) ∧ w'.cell? ⟨tb, 0, none⟩ = some (.slice (some ad) (madeR N []).length c0) ∧ w'.cell? ⟨tb, 1, none⟩ = some (.slice A1 (madeZ N).length c1))) (by kernel_rfl) ?_ (fun hHeld => ?_)
  · ((try dsimp only); exact ⟨j0, j1, j2, j3, j4, j5, j6, j7⟩)
  refine takeT 0 ?_ rfl (by kernel_rfl) (by kernel_rfl) (by kernel_rfl) (fun _ _ _ h => h) (by rfl) ?_ (by assumption) ?_
  rotate_left
  · (intro w hSw; (try dsimp only at hSw); go_simp; (try with_reducible rfl))
  try simp only [Act.put, List.setIfInBounds_toArray, List.set_cons_zero, List.set_cons_succ]
  refine takeT 1 ?_ rfl (by kernel_rfl) (by kernel_rfl) (by kernel_rfl) (fun _ _ _ h => h) (by rfl) ?_ (by assumption) ?_
  rotate_left
  · (intro w hSw; (try dsimp only at hSw); go_simp; (try with_reducible rfl))
  try simp only [Act.put, List.setIfInBounds_toArray, List.set_cons_zero, List.set_cons_succ]
  refine takeT 2 ?_ rfl (by kernel_rfl) (by kernel_rfl) (by kernel_rfl) (fun _ _ _ h => h) (by rfl) ?_ (by assumption) ?_
  rotate_left
  · (intro w hSw; (try dsimp only at hSw); go_simp; (try with_reducible rfl))
  try simp only [Act.put, List.setIfInBounds_toArray, List.set_cons_zero, List.set_cons_succ]
  refine takeT 3 ?_ rfl (by kernel_rfl) (by kernel_rfl) (by kernel_rfl) (fun _ _ _ h => h) (by rfl) ?_ (by assumption) ?_
  rotate_left
  · (intro w hSw; (try dsimp only at hSw); go_simp; (try with_reducible rfl))
  try simp only [Act.put, List.setIfInBounds_toArray, List.set_cons_zero, List.set_cons_succ]
  refine takeT 4 ?_ rfl (by kernel_rfl) (by kernel_rfl) (by kernel_rfl) (fun _ _ _ h => h) (by rfl) ?_ (by assumption) ?_
  rotate_left
  · (intro w hSw; (try dsimp only at hSw); go_simp; (try with_reducible rfl))
  try simp only [Act.put, List.setIfInBounds_toArray, List.set_cons_zero, List.set_cons_succ]
  refine takeT 5 ?_ rfl (by kernel_rfl) (by kernel_rfl) (by kernel_rfl) (fun _ _ _ h => h) (by rfl) ?_ (by assumption) ?_
  rotate_left
  · (intro w hSw; (try dsimp only at hSw); go_simp; (try with_reducible rfl))
  try simp only [Act.put, List.setIfInBounds_toArray, List.set_cons_zero, List.set_cons_succ]
  refine takeT 6 ?_ rfl (by kernel_rfl) (by kernel_rfl) (by kernel_rfl) (fun _ _ _ h => h) (by rfl) ?_ (by assumption) ?_
  rotate_left
  · (intro w hSw; (try dsimp only at hSw); go_simp; (try with_reducible rfl))
  try simp only [Act.put, List.setIfInBounds_toArray, List.set_cons_zero, List.set_cons_succ]
  refine takeC 7 rfl (by kernel_rfl) (by rfl) (fun K hK => ?_)
  go_simp
  (refine (tariff_Zone.calls 30 A4 c4 (madeR N []) Av cv Z1 k0 k1 (1 + (zi : Int)) 0 _ (Kd.C_below HM3.out HB.out) HC4.out (Kd.C_below HM4.out HB.out) HCV.out ZX.out).mono ?_; rintro e wX ⟨rfl, hbX⟩; replace HB := Aside0.mk (HB.out.trans (hbX.mono HB.out.size)); have j0 : wX.cell? ⟨mb, 0, none⟩ = some (.slice A4 (madeR N []).length c4) := (HB.out.cell (p := ⟨mb, 0, none⟩) Lmb).trans HJ.out.1; have j1 : wX.cell? ⟨mb, 1, none⟩ = some (.slice Av Z1.length cv) := (HB.out.cell (p := ⟨mb, 1, none⟩) Lmb).trans HJ.out.2.1; have j2 : wX.cell? ⟨cg, 0, none⟩ = some (.string k0) := (HB.out.cell (p := ⟨cg, 0, none⟩) Lcg).trans HJ.out.2.2.1; have j3 : wX.cell? ⟨cg, 1, none⟩ = some (.string k1) := (HB.out.cell (p := ⟨cg, 1, none⟩) Lcg).trans HJ.out.2.2.2.1; have j4 : wX.cell? ⟨cg, 2, none⟩ = some (.string k2) := (HB.out.cell (p := ⟨cg, 2, none⟩) Lcg).trans HJ.out.2.2.2.2.1; have j5 : wX.cell? ⟨cg, 3, none⟩ = some (.string k3) := (HB.out.cell (p := ⟨cg, 3, none⟩) Lcg).trans HJ.out.2.2.2.2.2.1; have j6 : wX.cell? ⟨tb, 0, none⟩ = some (.slice (some ad) (madeR N []).length c0) := (HB.out.cell (p := ⟨tb, 0, none⟩) Ltb).trans HJ.out.2.2.2.2.2.2.1; have j7 : wX.cell? ⟨tb, 1, none⟩ = some (.slice A1 (madeZ N).length c1) := (HB.out.cell (p := ⟨tb, 1, none⟩) Ltb).trans HJ.out.2.2.2.2.2.2.2; clear hbX)
  (try go_wp2_with fail)
  refine hK.out _ _ ?_ (fun hHeld => ?_)
  · ((try dsimp only); exact ⟨j0, j1, j2, j3, j4, j5, j6, j7⟩)
  clear hK K
  try simp only [Act.put, List.setIfInBounds_toArray, List.set_cons_zero, List.set_cons_succ]
  refine takeT 8 ?_ rfl (by kernel_rfl) (by kernel_rfl) (by kernel_rfl) (fun _ _ _ h => h) (by rfl) ?_ (by assumption) ?_
  rotate_left
  · (intro w hSw; (try dsimp only at hSw); go_simp; (try with_reducible rfl))
  try simp only [Act.put, List.setIfInBounds_toArray, List.set_cons_zero, List.set_cons_succ]
  refine takeT 9 ?_ rfl (by kernel_rfl) (by kernel_rfl) (by kernel_rfl) (fun _ _ _ h => h) (by rfl) ?_ (by assumption) ?_
  rotate_left
  · (intro w hSw; (try dsimp only at hSw); go_simp; (try with_reducible rfl))
  try simp only [Act.put, List.setIfInBounds_toArray, List.set_cons_zero, List.set_cons_succ]
  refine takeT 10 ?_ rfl (by kernel_rfl) (by kernel_rfl) (by kernel_rfl) (fun _ _ _ h => h) (by rfl) ?_ (by assumption) ?_
  rotate_left
  · (intro w hSw; (try dsimp only at hSw); go_simp; (try with_reducible rfl))
  try simp only [Act.put, List.setIfInBounds_toArray, List.set_cons_zero, List.set_cons_succ]
  refine takeT 11 ?_ rfl (by kernel_rfl) (by kernel_rfl) (by kernel_rfl) (fun _ _ _ h => h) (by rfl) ?_ (by assumption) ?_
  rotate_left
  · (intro w hSw; (try dsimp only at hSw); go_simp; (try with_reducible rfl))
  try simp only [Act.put, List.setIfInBounds_toArray, List.set_cons_zero, List.set_cons_succ]
  refine takeT 12 ?_ rfl (by kernel_rfl) (by kernel_rfl) (by kernel_rfl) (fun _ _ _ h => h) (by rfl) ?_ (by assumption) ?_
  rotate_left
  · (intro w hSw; (try dsimp only at hSw); go_simp; (try with_reducible rfl))
  try simp only [Act.put, List.setIfInBounds_toArray, List.set_cons_zero, List.set_cons_succ]
  refine wpAnyH_done (by kernel_rfl) ?_ _
  go_wp2_with fail
  replace HB := Aside0.mk HB.out.drew
  refine wp_region_held_drew (S := (fun w' => w'.cell? ⟨mb, 0, none⟩ = some (.slice A4 (madeR N []).length c4) ∧ w'.cell? ⟨mb, 1, none⟩ = some (.slice Av Z1.length cv) ∧ w'.cell? ⟨cg, 0, none⟩ = some (.string k0) ∧ w'.cell? ⟨cg, 1, none⟩ = some (.string k1) ∧ w'.cell? ⟨cg, 2, none⟩ = some (.string k2) ∧ w'.cell? ⟨cg, 3, none⟩ = some (.string k3) ∧ w'.cell? ⟨tb, 0, none⟩ = some (.slice (some ad) (madeR N []).length c0) ∧ w'.cell? ⟨tb, 1, none⟩ = some (.slice A1 (madeZ N).length c1))) (by kernel_rfl) ?_ (fun hHeld => ?_)
  · ((try dsimp only); exact ⟨j0, j1, j2, j3, j4, j5, j6, j7⟩)
  refine takeT 0 ?_ rfl (by kernel_rfl) (by kernel_rfl) (by kernel_rfl) (fun _ _ _ h => h) (by rfl) ?_ (by assumption) ?_
  rotate_left
  · (intro w hSw; (try dsimp only at hSw); go_simp; (try with_reducible rfl))
  try simp only [Act.put, List.setIfInBounds_toArray, List.set_cons_zero, List.set_cons_succ]
  refine takeT 1 ?_ rfl (by kernel_rfl) (by kernel_rfl) (by kernel_rfl) (fun _ _ _ h => h) (by rfl) ?_ (by assumption) ?_
  rotate_left
  · (intro w hSw; (try dsimp only at hSw); go_simp; (try with_reducible rfl))
  try simp only [Act.put, List.setIfInBounds_toArray, List.set_cons_zero, List.set_cons_succ]
  refine takeT 2 ?_ rfl (by kernel_rfl) (by kernel_rfl) (by kernel_rfl) (fun _ _ _ h => h) (by rfl) ?_ (by assumption) ?_
  rotate_left
  · (intro w hSw; (try dsimp only at hSw); go_simp; (try with_reducible rfl))
  try simp only [Act.put, List.setIfInBounds_toArray, List.set_cons_zero, List.set_cons_succ]
  refine takeT 3 ?_ rfl (by kernel_rfl) (by kernel_rfl) (by kernel_rfl) (fun _ _ _ h => h) (by rfl) ?_ (by assumption) ?_
  rotate_left
  · (intro w hSw; (try dsimp only at hSw); go_simp; (try with_reducible rfl))
  try simp only [Act.put, List.setIfInBounds_toArray, List.set_cons_zero, List.set_cons_succ]
  refine takeT 4 ?_ rfl (by kernel_rfl) (by kernel_rfl) (by kernel_rfl) (fun _ _ _ h => h) (by rfl) ?_ (by assumption) ?_
  rotate_left
  · (intro w hSw; (try dsimp only at hSw); go_simp; (try with_reducible rfl))
  try simp only [Act.put, List.setIfInBounds_toArray, List.set_cons_zero, List.set_cons_succ]
  refine takeT 5 ?_ rfl (by kernel_rfl) (by kernel_rfl) (by kernel_rfl) (fun _ _ _ h => h) (by rfl) ?_ (by assumption) ?_
  rotate_left
  · (intro w hSw; (try dsimp only at hSw); go_simp; (try with_reducible rfl))
  try simp only [Act.put, List.setIfInBounds_toArray, List.set_cons_zero, List.set_cons_succ]
  refine takeT 6 ?_ rfl (by kernel_rfl) (by kernel_rfl) (by kernel_rfl) (fun _ _ _ h => h) (by rfl) ?_ (by assumption) ?_
  rotate_left
  · (intro w hSw; (try dsimp only at hSw); go_simp; (try with_reducible rfl))
  try simp only [Act.put, List.setIfInBounds_toArray, List.set_cons_zero, List.set_cons_succ]
  refine takeC 7 rfl (by kernel_rfl) (by rfl) (fun K hK => ?_)
  go_simp
  (refine (tariff_Zone.calls 30 A4 c4 (madeR N []) Av cv Z1 k2 k3 yv 0 _ (Kd.C_below HM3.out HB.out) HC4.out (Kd.C_below HM4.out HB.out) HCV.out ZY.out).mono ?_; rintro e wY ⟨rfl, hbX⟩; replace HB := Aside0.mk (HB.out.trans (hbX.mono HB.out.size)); have j0 : wY.cell? ⟨mb, 0, none⟩ = some (.slice A4 (madeR N []).length c4) := (HB.out.cell (p := ⟨mb, 0, none⟩) Lmb).trans HJ.out.1; have j1 : wY.cell? ⟨mb, 1, none⟩ = some (.slice Av Z1.length cv) := (HB.out.cell (p := ⟨mb, 1, none⟩) Lmb).trans HJ.out.2.1; have j2 : wY.cell? ⟨cg, 0, none⟩ = some (.string k0) := (HB.out.cell (p := ⟨cg, 0, none⟩) Lcg).trans HJ.out.2.2.1; have j3 : wY.cell? ⟨cg, 1, none⟩ = some (.string k1) := (HB.out.cell (p := ⟨cg, 1, none⟩) Lcg).trans HJ.out.2.2.2.1; have j4 : wY.cell? ⟨cg, 2, none⟩ = some (.string k2) := (HB.out.cell (p := ⟨cg, 2, none⟩) Lcg).trans HJ.out.2.2.2.2.1; have j5 : wY.cell? ⟨cg, 3, none⟩ = some (.string k3) := (HB.out.cell (p := ⟨cg, 3, none⟩) Lcg).trans HJ.out.2.2.2.2.2.1; have j6 : wY.cell? ⟨tb, 0, none⟩ = some (.slice (some ad) (madeR N []).length c0) := (HB.out.cell (p := ⟨tb, 0, none⟩) Ltb).trans HJ.out.2.2.2.2.2.2.1; have j7 : wY.cell? ⟨tb, 1, none⟩ = some (.slice A1 (madeZ N).length c1) := (HB.out.cell (p := ⟨tb, 1, none⟩) Ltb).trans HJ.out.2.2.2.2.2.2.2; clear hbX)
  (try go_wp2_with fail)
  refine hK.out _ _ ?_ (fun hHeld => ?_)
  · ((try dsimp only); exact ⟨j0, j1, j2, j3, j4, j5, j6, j7⟩)
  clear hK K
  try simp only [Act.put, List.setIfInBounds_toArray, List.set_cons_zero, List.set_cons_succ]
  refine takeT 8 ?_ rfl (by kernel_rfl) (by kernel_rfl) (by kernel_rfl) (fun _ _ _ h => h) (by rfl) ?_ (by assumption) ?_
  rotate_left
  · (intro w hSw; (try dsimp only at hSw); go_simp; (try with_reducible rfl))
  try simp only [Act.put, List.setIfInBounds_toArray, List.set_cons_zero, List.set_cons_succ]
  refine takeT 9 ?_ rfl (by kernel_rfl) (by kernel_rfl) (by kernel_rfl) (fun _ _ _ h => h) (by rfl) ?_ (by assumption) ?_
  rotate_left
  · (intro w hSw; (try dsimp only at hSw); go_simp; (try with_reducible rfl))
  try simp only [Act.put, List.setIfInBounds_toArray, List.set_cons_zero, List.set_cons_succ]
  refine takeT 10 ?_ rfl (by kernel_rfl) (by kernel_rfl) (by kernel_rfl) (fun _ _ _ h => h) (by rfl) ?_ (by assumption) ?_
  rotate_left
  · (intro w hSw; (try dsimp only at hSw); go_simp; (try with_reducible rfl))
  try simp only [Act.put, List.setIfInBounds_toArray, List.set_cons_zero, List.set_cons_succ]
  refine takeT 11 ?_ rfl (by kernel_rfl) (by kernel_rfl) (by kernel_rfl) (fun _ _ _ h => h) (by rfl) ?_ (by assumption) ?_
  rotate_left
  · (intro w hSw; (try dsimp only at hSw); go_simp; (try with_reducible rfl))
  try simp only [Act.put, List.setIfInBounds_toArray, List.set_cons_zero, List.set_cons_succ]
  refine takeT 12 ?_ rfl (by kernel_rfl) (by kernel_rfl) (by kernel_rfl) (fun _ _ _ h => h) (by rfl) ?_ (by assumption) ?_
  rotate_left
  · (intro w hSw; (try dsimp only at hSw); go_simp; (try with_reducible rfl))
  try simp only [Act.put, List.setIfInBounds_toArray, List.set_cons_zero, List.set_cons_succ]
  refine wpAnyH_done (by kernel_rfl) ?_ _
  go_wp2_with fail
  replace HB := Aside0.mk HB.out.drew
  refine wp_region_held_drew (S := (fun w' => w'.cell? ⟨mb, 0, none⟩ = some (.slice A4 (madeR N []).length c4) ∧ w'.cell? ⟨mb, 1, none⟩ = some (.slice Av Z1.length cv) ∧ w'.cell? ⟨cg, 0, none⟩ = some (.string k0) ∧ w'.cell? ⟨cg, 1, none⟩ = some (.string k1) ∧ w'.cell? ⟨cg, 2, none⟩ = some (.string k2) ∧ w'.cell? ⟨cg, 3, none⟩ = some (.string k3) ∧ w'.cell? ⟨tb, 0, none⟩ = some (.slice (some ad) (madeR N []).length c0) ∧ w'.cell? ⟨tb, 1, none⟩ = some (.slice A1 (madeZ N).length c1))) (by kernel_rfl) ?_ (fun hHeld => ?_)
  · ((try dsimp only); exact ⟨j0, j1, j2, j3, j4, j5, j6, j7⟩)
  refine takeT 0 ?_ rfl (by kernel_rfl) (by kernel_rfl) (by kernel_rfl) (fun _ _ _ h => h) (by rfl) ?_ (by assumption) ?_
  rotate_left
  · (intro w hSw; (try dsimp only at hSw); go_simp; (try with_reducible rfl))
  try simp only [Act.put, List.setIfInBounds_toArray, List.set_cons_zero, List.set_cons_succ]
  refine takeT 1 ?_ rfl (by kernel_rfl) (by kernel_rfl) (by kernel_rfl) (fun _ _ _ h => h) (by rfl) ?_ (by assumption) ?_
  rotate_left
  · (intro w hSw; (try dsimp only at hSw); go_simp; (try with_reducible rfl))
  try simp only [Act.put, List.setIfInBounds_toArray, List.set_cons_zero, List.set_cons_succ]
  refine takeT 2 ?_ rfl (by kernel_rfl) (by kernel_rfl) (by kernel_rfl) (fun _ _ _ h => h) (by rfl) ?_ (by assumption) ?_
  rotate_left
  · (intro w hSw; (try dsimp only at hSw); go_simp; (try with_reducible rfl))
  try simp only [Act.put, List.setIfInBounds_toArray, List.set_cons_zero, List.set_cons_succ]
  refine takeT 3 ?_ rfl (by kernel_rfl) (by kernel_rfl) (by kernel_rfl) (fun _ _ _ h => h) (by rfl) ?_ (by assumption) ?_
  rotate_left
  · (intro w hSw; (try dsimp only at hSw); go_simp; (try with_reducible rfl))
  try simp only [Act.put, List.setIfInBounds_toArray, List.set_cons_zero, List.set_cons_succ]
  refine takeT 4 ?_ rfl (by kernel_rfl) (by kernel_rfl) (by kernel_rfl) (fun _ _ _ h => h) (by rfl) ?_ (by assumption) ?_
  rotate_left
  · (intro w hSw; (try dsimp only at hSw); go_simp; (try with_reducible rfl))
  try simp only [Act.put, List.setIfInBounds_toArray, List.set_cons_zero, List.set_cons_succ]
  refine takeT 5 ?_ rfl (by kernel_rfl) (by kernel_rfl) (by kernel_rfl) (fun _ _ _ h => h) (by rfl) ?_ (by assumption) ?_
  rotate_left
  · (intro w hSw; (try dsimp only at hSw); go_simp; (try with_reducible rfl))
  try simp only [Act.put, List.setIfInBounds_toArray, List.set_cons_zero, List.set_cons_succ]
  refine takeT 6 ?_ rfl (by kernel_rfl) (by kernel_rfl) (by kernel_rfl) (fun _ _ _ h => h) (by rfl) ?_ (by assumption) ?_
  rotate_left
  · (intro w hSw; (try dsimp only at hSw); go_simp; (try with_reducible rfl))
  try simp only [Act.put, List.setIfInBounds_toArray, List.set_cons_zero, List.set_cons_succ]
  refine takeC 7 rfl (by kernel_rfl) (by rfl) (fun K hK => ?_)
  go_simp
  (refine (tariff_Zone.calls 30 (some ad) c0 (madeR N []) A1 c1 (madeZ N) k2 k3 ov 0 _ (Kd.C_below HT0.out HB.out) HC0.out (Kd.C_below HT1.out HB.out) HC1.out ZO.out).mono ?_; rintro e wO ⟨rfl, hbX⟩; replace HB := Aside0.mk (HB.out.trans (hbX.mono HB.out.size)); have j0 : wO.cell? ⟨mb, 0, none⟩ = some (.slice A4 (madeR N []).length c4) := (HB.out.cell (p := ⟨mb, 0, none⟩) Lmb).trans HJ.out.1; have j1 : wO.cell? ⟨mb, 1, none⟩ = some (.slice Av Z1.length cv) := (HB.out.cell (p := ⟨mb, 1, none⟩) Lmb).trans HJ.out.2.1; have j2 : wO.cell? ⟨cg, 0, none⟩ = some (.string k0) := (HB.out.cell (p := ⟨cg, 0, none⟩) Lcg).trans HJ.out.2.2.1; have j3 : wO.cell? ⟨cg, 1, none⟩ = some (.string k1) := (HB.out.cell (p := ⟨cg, 1, none⟩) Lcg).trans HJ.out.2.2.2.1; have j4 : wO.cell? ⟨cg, 2, none⟩ = some (.string k2) := (HB.out.cell (p := ⟨cg, 2, none⟩) Lcg).trans HJ.out.2.2.2.2.1; have j5 : wO.cell? ⟨cg, 3, none⟩ = some (.string k3) := (HB.out.cell (p := ⟨cg, 3, none⟩) Lcg).trans HJ.out.2.2.2.2.2.1; have j6 : wO.cell? ⟨tb, 0, none⟩ = some (.slice (some ad) (madeR N []).length c0) := (HB.out.cell (p := ⟨tb, 0, none⟩) Ltb).trans HJ.out.2.2.2.2.2.2.1; have j7 : wO.cell? ⟨tb, 1, none⟩ = some (.slice A1 (madeZ N).length c1) := (HB.out.cell (p := ⟨tb, 1, none⟩) Ltb).trans HJ.out.2.2.2.2.2.2.2; clear hbX)
  (try go_wp2_with fail)
  refine hK.out _ _ ?_ (fun hHeld => ?_)
  · ((try dsimp only); exact ⟨j0, j1, j2, j3, j4, j5, j6, j7⟩)
  clear hK K
  try simp only [Act.put, List.setIfInBounds_toArray, List.set_cons_zero, List.set_cons_succ]
  refine takeT 8 ?_ rfl (by kernel_rfl) (by kernel_rfl) (by kernel_rfl) (fun _ _ _ h => h) (by rfl) ?_ (by assumption) ?_
  rotate_left
  · (intro w hSw; (try dsimp only at hSw); go_simp; (try with_reducible rfl))
  try simp only [Act.put, List.setIfInBounds_toArray, List.set_cons_zero, List.set_cons_succ]
  refine takeT 9 ?_ rfl (by kernel_rfl) (by kernel_rfl) (by kernel_rfl) (fun _ _ _ h => h) (by rfl) ?_ (by assumption) ?_
  rotate_left
  · (intro w hSw; (try dsimp only at hSw); go_simp; (try with_reducible rfl))
  try simp only [Act.put, List.setIfInBounds_toArray, List.set_cons_zero, List.set_cons_succ]
  refine takeT 10 ?_ rfl (by kernel_rfl) (by kernel_rfl) (by kernel_rfl) (fun _ _ _ h => h) (by rfl) ?_ (by assumption) ?_
  rotate_left
  · (intro w hSw; (try dsimp only at hSw); go_simp; (try with_reducible rfl))
  try simp only [Act.put, List.setIfInBounds_toArray, List.set_cons_zero, List.set_cons_succ]
  refine takeT 11 ?_ rfl (by kernel_rfl) (by kernel_rfl) (by kernel_rfl) (fun _ _ _ h => h) (by rfl) ?_ (by assumption) ?_
  rotate_left
  · (intro w hSw; (try dsimp only at hSw); go_simp; (try with_reducible rfl))
  try simp only [Act.put, List.setIfInBounds_toArray, List.set_cons_zero, List.set_cons_succ]
  refine takeT 12 ?_ rfl (by kernel_rfl) (by kernel_rfl) (by kernel_rfl) (fun _ _ _ h => h) (by rfl) ?_ (by assumption) ?_
  rotate_left
  · (intro w hSw; (try dsimp only at hSw); go_simp; (try with_reducible rfl))
  try simp only [Act.put, List.setIfInBounds_toArray, List.set_cons_zero, List.set_cons_succ]
  refine wpAnyH_done (by kernel_rfl) ?_ _
  go_wp2_with fail
  replace HB := Aside0.mk HB.out.drew
  by_cases h20 : k2 = k0
  · obtain rfl : k0 = k2 := h20.symm
    by_cases h31 : k3 = k1
    · obtain rfl : k1 = k3 := h31.symm
      have hy : yv = 1 + (zi : Int) := by rw [HY.out, if_pos ⟨rfl, rfl⟩]
      subst hy
      refine wp_region_held_drew (S := (fun w' => w'.cell? ⟨mb, 0, none⟩ = some (.slice A4 (madeR N []).length c4) ∧ w'.cell? ⟨mb, 1, none⟩ = some (.slice Av Z1.length cv) ∧ w'.cell? ⟨cg, 0, none⟩ = some (.string k0) ∧ w'.cell? ⟨cg, 1, none⟩ = some (.string k1) ∧ w'.cell? ⟨cg, 2, none⟩ = some (.string k0) ∧ w'.cell? ⟨cg, 3, none⟩ = some (.string k1) ∧ w'.cell? ⟨tb, 0, none⟩ = some (.slice (some ad) (madeR N []).length c0) ∧ w'.cell? ⟨tb, 1, none⟩ = some (.slice A1 (madeZ N).length c1))) (by kernel_rfl) ?_ (fun hHeld => ?_)
      · ((try dsimp only); exact ⟨j0, j1, j2, j3, j4, j5, j6, j7⟩)
      refine takeT 0 ?_ rfl (by kernel_rfl) (by kernel_rfl) (by kernel_rfl) (fun _ _ _ h => h) (by rfl) ?_ (by assumption) ?_
      rotate_left
      · (intro w hSw; (try dsimp only at hSw); go_simp; (try with_reducible rfl))
      try simp only [Act.put, List.setIfInBounds_toArray, List.set_cons_zero, List.set_cons_succ]
      refine takeT 1 ?_ rfl (by kernel_rfl) (by kernel_rfl) (by kernel_rfl) (fun _ _ _ h => h) (by rfl) ?_ (by assumption) ?_
      rotate_left
      · (intro w hSw; (try dsimp only at hSw); go_simp; (try with_reducible rfl))
      try simp only [Act.put, List.setIfInBounds_toArray, List.set_cons_zero, List.set_cons_succ]
      refine takeT 2 ?_ rfl (by kernel_rfl) (by kernel_rfl) (by kernel_rfl) (fun _ _ _ h => h) (by rfl) ?_ (by assumption) ?_
      rotate_left
      · (intro w hSw; (try dsimp only at hSw); go_simp; (try with_reducible rfl))
      try simp only [Act.put, List.setIfInBounds_toArray, List.set_cons_zero, List.set_cons_succ]
      refine takeT 3 ?_ rfl (by kernel_rfl) (by kernel_rfl) (by kernel_rfl) (fun _ _ _ h => h) (by rfl) ?_ (by assumption) ?_
      rotate_left
      · (intro w hSw; (try dsimp only at hSw); go_simp; (try with_reducible rfl))
      try simp only [Act.put, List.setIfInBounds_toArray, List.set_cons_zero, List.set_cons_succ]
      refine takeT 4 ?_ rfl (by kernel_rfl) (by kernel_rfl) (by kernel_rfl) (fun _ _ _ h => h) (by rfl) ?_ (by assumption) ?_
      rotate_left
      · (intro w hSw; (try dsimp only at hSw); go_simp; (try with_reducible rfl))
      try simp only [Act.put, List.setIfInBounds_toArray, List.set_cons_zero, List.set_cons_succ]
      refine takeT 5 ?_ rfl (by kernel_rfl) (by kernel_rfl) (by kernel_rfl) (fun _ _ _ h => h) (by rfl) ?_ (by assumption) ?_
      rotate_left
      · (intro w hSw; (try dsimp only at hSw); go_simp; (try with_reducible rfl))
      try simp only [Act.put, List.setIfInBounds_toArray, List.set_cons_zero, List.set_cons_succ]
      refine takeT 6 ?_ rfl (by kernel_rfl) (by kernel_rfl) (by kernel_rfl) (fun _ _ _ h => h) (by rfl) ?_ (by assumption) ?_
      rotate_left
      · (intro w hSw; (try dsimp only at hSw); go_simp; (try with_reducible rfl))
      try simp only [Act.put, List.setIfInBounds_toArray, List.set_cons_zero, List.set_cons_succ]
      refine takeT 7 ?_ rfl (by kernel_rfl) (by kernel_rfl) (by kernel_rfl) (fun _ _ _ h => h) (by rfl) ?_ (by assumption) ?_
      rotate_left
      · (intro w hSw; (try dsimp only at hSw); go_simp; (try with_reducible rfl))
      try simp only [Act.put, List.setIfInBounds_toArray, List.set_cons_zero, List.set_cons_succ]
      refine takeT 8 ?_ rfl (by kernel_rfl) (by kernel_rfl) (by kernel_rfl) (fun _ _ _ h => h) (by rfl) ?_ (by assumption) ?_
      rotate_left
      · (intro w hSw; (try dsimp only at hSw); go_simp; (try with_reducible rfl))
      try simp only [Act.put, List.setIfInBounds_toArray, List.set_cons_zero, List.set_cons_succ]
      refine takeT 9 ?_ rfl (by kernel_rfl) (by kernel_rfl) (by kernel_rfl) (fun _ _ _ h => h) (by rfl) ?_ (by assumption) ?_
      rotate_left
      · (intro w hSw; (try dsimp only at hSw); go_simp; (try with_reducible rfl))
      try simp only [Act.put, List.setIfInBounds_toArray, List.set_cons_zero, List.set_cons_succ]
      refine takeT 10 ?_ rfl (by kernel_rfl) (by kernel_rfl) (by kernel_rfl) (fun _ _ _ h => h) (by rfl) ?_ (by assumption) ?_
      rotate_left
      · (intro w hSw; (try dsimp only at hSw); go_simp; (try with_reducible rfl))
      try simp only [Act.put, List.setIfInBounds_toArray, List.set_cons_zero, List.set_cons_succ]
      refine takeT 11 ?_ rfl (by kernel_rfl) (by kernel_rfl) (by kernel_rfl) (fun _ _ _ h => h) (by rfl) ?_ (by assumption) ?_
      rotate_left
      · (intro w hSw; (try dsimp only at hSw); go_simp; (try with_reducible rfl))
      try simp only [Act.put, List.setIfInBounds_toArray, List.set_cons_zero, List.set_cons_succ]
      refine takeT 12 ?_ rfl (by kernel_rfl) (by kernel_rfl) (by kernel_rfl) (fun _ _ _ h => h) (by rfl) ?_ (by assumption) ?_
      rotate_left
      · (intro w hSw; (try dsimp only at hSw); go_simp; (try with_reducible rfl))
      try simp only [Act.put, List.setIfInBounds_toArray, List.set_cons_zero, List.set_cons_succ]
      refine takeT 13 ?_ rfl (by kernel_rfl) (by kernel_rfl) (by kernel_rfl) (fun _ _ _ h => h) (by rfl) ?_ (by assumption) ?_
      rotate_left
      · (intro w hSw; (try dsimp only at hSw); go_simp; (try with_reducible rfl))
      try simp only [Act.put, List.setIfInBounds_toArray, List.set_cons_zero, List.set_cons_succ]
      refine takeT 14 ?_ rfl (by kernel_rfl) (by kernel_rfl) (by kernel_rfl) (fun _ _ _ h => h) (by rfl) ?_ (by assumption) ?_
      rotate_left
      · (intro w hSw; (try dsimp only at hSw); go_simp; (try with_reducible rfl))
      try simp only [Act.put, List.setIfInBounds_toArray, List.set_cons_zero, List.set_cons_succ]
      refine takeT 15 ?_ rfl (by kernel_rfl) (by kernel_rfl) (by kernel_rfl) (fun _ _ _ h => h) (by rfl) ?_ (by assumption) ?_
      rotate_left
      · (intro w hSw; (try dsimp only at hSw); go_simp; (try with_reducible rfl))
      try simp only [Act.put, List.setIfInBounds_toArray, List.set_cons_zero, List.set_cons_succ]
      refine wpAnyH_done (by kernel_rfl) ?_ _
      go_wp2_with fail
      go_ret
      exact ⟨rfl, HWW.out.trans (HB.out.mono HWW.out.size)⟩
    · have hy : yv = ov := by rw [HY.out, if_neg (fun h => h31 h.2)]
      subst hy
      have e2 : (k3.toList == k1.toList) = false := str_ne h31
      refine wp_region_held_drew (S := (fun w' => w'.cell? ⟨mb, 0, none⟩ = some (.slice A4 (madeR N []).length c4) ∧ w'.cell? ⟨mb, 1, none⟩ = some (.slice Av Z1.length cv) ∧ w'.cell? ⟨cg, 0, none⟩ = some (.string k0) ∧ w'.cell? ⟨cg, 1, none⟩ = some (.string k1) ∧ w'.cell? ⟨cg, 2, none⟩ = some (.string k0) ∧ w'.cell? ⟨cg, 3, none⟩ = some (.string k3) ∧ w'.cell? ⟨tb, 0, none⟩ = some (.slice (some ad) (madeR N []).length c0) ∧ w'.cell? ⟨tb, 1, none⟩ = some (.slice A1 (madeZ N).length c1))) (by kernel_rfl) ?_ (fun hHeld => ?_)
      · ((try dsimp only); exact ⟨j0, j1, j2, j3, j4, j5, j6, j7⟩)
      refine takeT 0 ?_ rfl (by kernel_rfl) (by kernel_rfl) (by kernel_rfl) (fun _ _ _ h => h) (by rfl) ?_ (by assumption) ?_
      rotate_left
      · (intro w hSw; (try dsimp only at hSw); go_simp; (try with_reducible rfl))
      try simp only [Act.put, List.setIfInBounds_toArray, List.set_cons_zero, List.set_cons_succ]
      refine takeT 1 ?_ rfl (by kernel_rfl) (by kernel_rfl) (by kernel_rfl) (fun _ _ _ h => h) (by rfl) ?_ (by assumption) ?_
      rotate_left
      · (intro w hSw; (try dsimp only at hSw); go_simp; (try with_reducible rfl))
      try simp only [Act.put, List.setIfInBounds_toArray, List.set_cons_zero, List.set_cons_succ]
      refine takeT 2 ?_ rfl (by kernel_rfl) (by kernel_rfl) (by kernel_rfl) (fun _ _ _ h => h) (by rfl) ?_ (by assumption) ?_
      rotate_left
      · (intro w hSw; (try dsimp only at hSw); go_simp; (try with_reducible rfl))
      try simp only [Act.put, List.setIfInBounds_toArray, List.set_cons_zero, List.set_cons_succ]
      refine takeT 3 ?_ rfl (by kernel_rfl) (by kernel_rfl) (by kernel_rfl) (fun _ _ _ h => h) (by rfl) ?_ (by assumption) ?_
      rotate_left
      · (intro w hSw; (try dsimp only at hSw); go_simp; (try with_reducible rfl))
      try simp only [Act.put, List.setIfInBounds_toArray, List.set_cons_zero, List.set_cons_succ]
      refine takeT 4 ?_ rfl (by kernel_rfl) (by kernel_rfl) (by kernel_rfl) (fun _ _ _ h => h) (by rfl) ?_ (by assumption) ?_
      rotate_left
      · (intro w hSw; (try dsimp only at hSw); go_simp; (try with_reducible rfl))
      try simp only [Act.put, List.setIfInBounds_toArray, List.set_cons_zero, List.set_cons_succ]
      refine takeT 5 ?_ rfl (by kernel_rfl) (by kernel_rfl) (by kernel_rfl) (fun _ _ _ h => h) (by rfl) ?_ (by assumption) ?_
      rotate_left
      · (intro w hSw; (try dsimp only at hSw); go_simp; (try with_reducible rfl))
      try simp only [Act.put, List.setIfInBounds_toArray, List.set_cons_zero, List.set_cons_succ]
      refine takeT 6 ?_ rfl (by kernel_rfl) (by kernel_rfl) (by kernel_rfl) (fun _ _ _ h => h) (by rfl) ?_ (by assumption) ?_
      rotate_left
      · (intro w hSw; (try dsimp only at hSw); go_simp; (try with_reducible rfl))
      try simp only [Act.put, List.setIfInBounds_toArray, List.set_cons_zero, List.set_cons_succ]
      refine takeT 7 ?_ rfl (by kernel_rfl) (by kernel_rfl) (by kernel_rfl) (fun _ _ _ h => h) (by rfl) ?_ (by assumption) ?_
      rotate_left
      · (intro w hSw; (try dsimp only at hSw); go_simp; (try with_reducible rfl))
      try simp only [Act.put, List.setIfInBounds_toArray, List.set_cons_zero, List.set_cons_succ]
      refine takeT 8 ?_ rfl (by kernel_rfl) (by kernel_rfl) (by kernel_rfl) (fun _ _ _ h => h) (by rfl) ?_ (by assumption) ?_
      rotate_left
      · (intro w hSw; (try dsimp only at hSw); go_simp; (try with_reducible rfl))
      try simp only [Act.put, List.setIfInBounds_toArray, List.set_cons_zero, List.set_cons_succ]
      refine takeT 9 ?_ rfl (by kernel_rfl) (by kernel_rfl) (by kernel_rfl) (fun _ _ _ h => h) (by rfl) ?_ (by assumption) ?_
      rotate_left
      · (intro w hSw; (try dsimp only at hSw); go_simp; (try with_reducible rfl))
      try simp only [Act.put, List.setIfInBounds_toArray, List.set_cons_zero, List.set_cons_succ]
      refine takeT 10 ?_ rfl (by kernel_rfl) (by kernel_rfl) (by kernel_rfl) (fun _ _ _ h => h) (by rfl) ?_ (by assumption) ?_
      rotate_left
      · (intro w hSw; (try dsimp only at hSw); go_simp; (try with_reducible rfl))
      try simp only [Act.put, List.setIfInBounds_toArray, List.set_cons_zero, List.set_cons_succ]
      refine takeT 11 ?_ rfl (by kernel_rfl) (by kernel_rfl) (by kernel_rfl) (fun _ _ _ h => h) (by rfl) ?_ (by assumption) ?_
      rotate_left
      · (intro w hSw; (try dsimp only at hSw); go_simp; (try with_reducible rfl))
      try simp only [Act.put, List.setIfInBounds_toArray, List.set_cons_zero, List.set_cons_succ]
      refine takeT 12 ?_ rfl (by kernel_rfl) (by kernel_rfl) (by kernel_rfl) (fun _ _ _ h => h) (by rfl) ?_ (by assumption) ?_
      rotate_left
      · (intro w hSw; (try dsimp only at hSw); go_simp; (try with_reducible rfl))
      try simp only [Act.put, List.setIfInBounds_toArray, List.set_cons_zero, List.set_cons_succ]
      refine takeT 13 ?_ rfl (by kernel_rfl) (by kernel_rfl) (by kernel_rfl) (fun _ _ _ h => h) (by rfl) ?_ (by assumption) ?_
      rotate_left
      · (intro w hSw; (try dsimp only at hSw); go_simp; (try with_reducible rfl))
      try simp only [Act.put, List.setIfInBounds_toArray, List.set_cons_zero, List.set_cons_succ]
      refine takeT 14 ?_ rfl (by kernel_rfl) (by kernel_rfl) (by kernel_rfl) (fun _ _ _ h => h) (by rfl) ?_ (by assumption) ?_
      rotate_left
      · (intro w hSw; (try dsimp only at hSw); go_simp; (try with_reducible rfl))
      try simp only [Act.put, List.setIfInBounds_toArray, List.set_cons_zero, List.set_cons_succ]
      refine takeT 15 ?_ rfl (by kernel_rfl) (by kernel_rfl) (by kernel_rfl) (fun _ _ _ h => h) (by rfl) ?_ (by assumption) ?_
      rotate_left
      · (intro w hSw; (try dsimp only at hSw); go_simp; (try with_reducible rfl))
      try simp only [Act.put, List.setIfInBounds_toArray, List.set_cons_zero, List.set_cons_succ]
      refine wpAnyH_done (by kernel_rfl) ?_ _
      go_wp2_with fail
      replace HB := Aside0.mk HB.out.drew
      have hk0 : ¬ 9223372036854775807 < k0.size + 1 := by rw [I0.out.sz]; omega
      have hk1 : ¬ 9223372036854775807 < k1.size + 1 := by rw [I1.out.sz]; omega
      refine wp_region_held_drew (S := (fun w' => w'.cell? ⟨mb, 0, none⟩ = some (.slice A4 (madeR N []).length c4) ∧ w'.cell? ⟨mb, 1, none⟩ = some (.slice Av Z1.length cv) ∧ w'.cell? ⟨cg, 0, none⟩ = some (.string k0) ∧ w'.cell? ⟨cg, 1, none⟩ = some (.string k1) ∧ w'.cell? ⟨cg, 2, none⟩ = some (.string k0) ∧ w'.cell? ⟨cg, 3, none⟩ = some (.string k3) ∧ w'.cell? ⟨tb, 0, none⟩ = some (.slice (some ad) (madeR N []).length c0) ∧ w'.cell? ⟨tb, 1, none⟩ = some (.slice A1 (madeZ N).length c1))) (by kernel_rfl) ?_ (fun hHeld => ?_)
      · ((try dsimp only); exact ⟨j0, j1, j2, j3, j4, j5, j6, j7⟩)
      refine takeT 0 ?_ rfl (by kernel_rfl) (by kernel_rfl) (by kernel_rfl) (fun _ _ _ h => h) (by rfl) ?_ (by assumption) ?_
      rotate_left
      · (intro w hSw; (try dsimp only at hSw); go_simp; (try with_reducible rfl))
      try simp only [Act.put, List.setIfInBounds_toArray, List.set_cons_zero, List.set_cons_succ]
      refine takeT 1 ?_ rfl (by kernel_rfl) (by kernel_rfl) (by kernel_rfl) (fun _ _ _ h => h) (by rfl) ?_ (by assumption) ?_
      rotate_left
      · (intro w hSw; (try dsimp only at hSw); go_simp; (try with_reducible rfl))
      try simp only [Act.put, List.setIfInBounds_toArray, List.set_cons_zero, List.set_cons_succ]
      refine takeT 2 ?_ rfl (by kernel_rfl) (by kernel_rfl) (by kernel_rfl) (fun _ _ _ h => h) (by rfl) ?_ (by assumption) ?_
      rotate_left
      · (intro w hSw; (try dsimp only at hSw); go_simp; (try with_reducible rfl))
      try simp only [Act.put, List.setIfInBounds_toArray, List.set_cons_zero, List.set_cons_succ]
      refine takeT 3 ?_ rfl (by kernel_rfl) (by kernel_rfl) (by kernel_rfl) (fun _ _ _ h => h) (by rfl) ?_ (by assumption) ?_
      rotate_left
      · (intro w hSw; (try dsimp only at hSw); go_simp; (try with_reducible rfl))
      try simp only [Act.put, List.setIfInBounds_toArray, List.set_cons_zero, List.set_cons_succ]
      refine takeT 4 ?_ rfl (by kernel_rfl) (by kernel_rfl) (by kernel_rfl) (fun _ _ _ h => h) (by rfl) ?_ (by assumption) ?_
      rotate_left
      · (intro w hSw; (try dsimp only at hSw); go_simp; (try with_reducible rfl))
      try simp only [Act.put, List.setIfInBounds_toArray, List.set_cons_zero, List.set_cons_succ]
      refine takeT 5 ?_ rfl (by kernel_rfl) (by kernel_rfl) (by kernel_rfl) (fun _ _ _ h => h) (by rfl) ?_ (by assumption) ?_
      rotate_left
      · (intro w hSw; (try dsimp only at hSw); go_simp; (try with_reducible rfl))
      try simp only [Act.put, List.setIfInBounds_toArray, List.set_cons_zero, List.set_cons_succ]
      refine takeT 6 ?_ rfl (by kernel_rfl) (by kernel_rfl) (by kernel_rfl) (fun _ _ _ h => h) (by rfl) ?_ (by assumption) ?_
      rotate_left
      · (intro w hSw; (try dsimp only at hSw); go_simp; (try with_reducible rfl))
      try simp only [Act.put, List.setIfInBounds_toArray, List.set_cons_zero, List.set_cons_succ]
      refine takeT 7 ?_ rfl (by kernel_rfl) (by kernel_rfl) (by kernel_rfl) (fun _ _ _ h => h) (by rfl) ?_ (by assumption) ?_
      rotate_left
      · (intro w hSw; (try dsimp only at hSw); go_simp; (try with_reducible rfl))
      try simp only [Act.put, List.setIfInBounds_toArray, List.set_cons_zero, List.set_cons_succ]
      refine takeT 8 ?_ rfl (by kernel_rfl) (by kernel_rfl) (by kernel_rfl) (fun _ _ _ h => h) (by rfl) ?_ (by assumption) ?_
      rotate_left
      · (intro w hSw; (try dsimp only at hSw); go_simp; (try with_reducible rfl))
      try simp only [Act.put, List.setIfInBounds_toArray, List.set_cons_zero, List.set_cons_succ]
      refine takeC 9 rfl (by kernel_rfl) (by rfl) (fun K hK => ?_)
      go_simp
      (refine (tariff_Zone.calls 30 A4 c4 (madeR N []) Av cv Z1 (k0 ++ ⟨#[55]⟩) (k1 ++ ⟨#[65]⟩) (1 + (zi : Int)) 0 _ (Kd.C_below HM3.out HB.out) HC4.out (Kd.C_below HM4.out HB.out) HCV.out ZL.out).mono ?_; rintro e wL ⟨rfl, hbX⟩; replace HB := Aside0.mk (HB.out.trans (hbX.mono HB.out.size)); have j0 : wL.cell? ⟨mb, 0, none⟩ = some (.slice A4 (madeR N []).length c4) := (HB.out.cell (p := ⟨mb, 0, none⟩) Lmb).trans HJ.out.1; have j1 : wL.cell? ⟨mb, 1, none⟩ = some (.slice Av Z1.length cv) := (HB.out.cell (p := ⟨mb, 1, none⟩) Lmb).trans HJ.out.2.1; have j2 : wL.cell? ⟨cg, 0, none⟩ = some (.string k0) := (HB.out.cell (p := ⟨cg, 0, none⟩) Lcg).trans HJ.out.2.2.1; have j3 : wL.cell? ⟨cg, 1, none⟩ = some (.string k1) := (HB.out.cell (p := ⟨cg, 1, none⟩) Lcg).trans HJ.out.2.2.2.1; have j4 : wL.cell? ⟨cg, 2, none⟩ = some (.string k0) := (HB.out.cell (p := ⟨cg, 2, none⟩) Lcg).trans HJ.out.2.2.2.2.1; have j5 : wL.cell? ⟨cg, 3, none⟩ = some (.string k3) := (HB.out.cell (p := ⟨cg, 3, none⟩) Lcg).trans HJ.out.2.2.2.2.2.1; have j6 : wL.cell? ⟨tb, 0, none⟩ = some (.slice (some ad) (madeR N []).length c0) := (HB.out.cell (p := ⟨tb, 0, none⟩) Ltb).trans HJ.out.2.2.2.2.2.2.1; have j7 : wL.cell? ⟨tb, 1, none⟩ = some (.slice A1 (madeZ N).length c1) := (HB.out.cell (p := ⟨tb, 1, none⟩) Ltb).trans HJ.out.2.2.2.2.2.2.2; clear hbX)
      (try go_wp2_with fail)
      refine hK.out _ _ ?_ (fun hHeld => ?_)
      · ((try dsimp only); exact ⟨j0, j1, j2, j3, j4, j5, j6, j7⟩)
      clear hK K
      try simp only [Act.put, List.setIfInBounds_toArray, List.set_cons_zero, List.set_cons_succ]
      refine takeT 10 ?_ rfl (by kernel_rfl) (by kernel_rfl) (by kernel_rfl) (fun _ _ _ h => h) (by rfl) ?_ (by assumption) ?_
      rotate_left
      · (intro w hSw; (try dsimp only at hSw); go_simp; (try with_reducible rfl))
      try simp only [Act.put, List.setIfInBounds_toArray, List.set_cons_zero, List.set_cons_succ]
      refine takeT 11 ?_ rfl (by kernel_rfl) (by kernel_rfl) (by kernel_rfl) (fun _ _ _ h => h) (by rfl) ?_ (by assumption) ?_
      rotate_left
      · (intro w hSw; (try dsimp only at hSw); go_simp; (try with_reducible rfl))
      try simp only [Act.put, List.setIfInBounds_toArray, List.set_cons_zero, List.set_cons_succ]
      refine takeT 12 ?_ rfl (by kernel_rfl) (by kernel_rfl) (by kernel_rfl) (fun _ _ _ h => h) (by rfl) ?_ (by assumption) ?_
      rotate_left
      · (intro w hSw; (try dsimp only at hSw); go_simp; (try with_reducible rfl))
      try simp only [Act.put, List.setIfInBounds_toArray, List.set_cons_zero, List.set_cons_succ]
      refine takeT 13 ?_ rfl (by kernel_rfl) (by kernel_rfl) (by kernel_rfl) (fun _ _ _ h => h) (by rfl) ?_ (by assumption) ?_
      rotate_left
      · (intro w hSw; (try dsimp only at hSw); go_simp; (try with_reducible rfl))
      try simp only [Act.put, List.setIfInBounds_toArray, List.set_cons_zero, List.set_cons_succ]
      refine takeT 14 ?_ rfl (by kernel_rfl) (by kernel_rfl) (by kernel_rfl) (fun _ _ _ h => h) (by rfl) ?_ (by assumption) ?_
      rotate_left
      · (intro w hSw; (try dsimp only at hSw); go_simp; (try with_reducible rfl))
      try simp only [Act.put, List.setIfInBounds_toArray, List.set_cons_zero, List.set_cons_succ]
      refine wpAnyH_done (by kernel_rfl) ?_ _
      go_wp2_with fail
      go_ret
      exact ⟨rfl, HWW.out.trans (HB.out.mono HWW.out.size)⟩
  · have hy : yv = ov := by rw [HY.out, if_neg (fun h => h20 h.1)]
    subst hy
    have e2 : (k2.toList == k0.toList) = false := str_ne h20
    refine wp_region_held_drew (S := (fun w' => w'.cell? ⟨mb, 0, none⟩ = some (.slice A4 (madeR N []).length c4) ∧ w'.cell? ⟨mb, 1, none⟩ = some (.slice Av Z1.length cv) ∧ w'.cell? ⟨cg, 0, none⟩ = some (.string k0) ∧ w'.cell? ⟨cg, 1, none⟩ = some (.string k1) ∧ w'.cell? ⟨cg, 2, none⟩ = some (.string k2) ∧ w'.cell? ⟨cg, 3, none⟩ = some (.string k3) ∧ w'.cell? ⟨tb, 0, none⟩ = some (.slice (some ad) (madeR N []).length c0) ∧ w'.cell? ⟨tb, 1, none⟩ = some (.slice A1 (madeZ N).length c1))) (by kernel_rfl) ?_ (fun hHeld => ?_)
    · ((try dsimp only); exact ⟨j0, j1, j2, j3, j4, j5, j6, j7⟩)
    refine takeT 0 ?_ rfl (by kernel_rfl) (by kernel_rfl) (by kernel_rfl) (fun _ _ _ h => h) (by rfl) ?_ (by assumption) ?_
    rotate_left
    · (intro w hSw; (try dsimp only at hSw); go_simp; (try with_reducible rfl))
    try simp only [Act.put, List.setIfInBounds_toArray, List.set_cons_zero, List.set_cons_succ]
    refine takeT 1 ?_ rfl (by kernel_rfl) (by kernel_rfl) (by kernel_rfl) (fun _ _ _ h => h) (by rfl) ?_ (by assumption) ?_
    rotate_left
    · (intro w hSw; (try dsimp only at hSw); go_simp; (try with_reducible rfl))
    try simp only [Act.put, List.setIfInBounds_toArray, List.set_cons_zero, List.set_cons_succ]
    refine takeT 2 ?_ rfl (by kernel_rfl) (by kernel_rfl) (by kernel_rfl) (fun _ _ _ h => h) (by rfl) ?_ (by assumption) ?_
    rotate_left
    · (intro w hSw; (try dsimp only at hSw); go_simp; (try with_reducible rfl))
    try simp only [Act.put, List.setIfInBounds_toArray, List.set_cons_zero, List.set_cons_succ]
    refine takeT 3 ?_ rfl (by kernel_rfl) (by kernel_rfl) (by kernel_rfl) (fun _ _ _ h => h) (by rfl) ?_ (by assumption) ?_
    rotate_left
    · (intro w hSw; (try dsimp only at hSw); go_simp; (try with_reducible rfl))
    try simp only [Act.put, List.setIfInBounds_toArray, List.set_cons_zero, List.set_cons_succ]
    refine takeT 4 ?_ rfl (by kernel_rfl) (by kernel_rfl) (by kernel_rfl) (fun _ _ _ h => h) (by rfl) ?_ (by assumption) ?_
    rotate_left
    · (intro w hSw; (try dsimp only at hSw); go_simp; (try with_reducible rfl))
    try simp only [Act.put, List.setIfInBounds_toArray, List.set_cons_zero, List.set_cons_succ]
    refine takeT 5 ?_ rfl (by kernel_rfl) (by kernel_rfl) (by kernel_rfl) (fun _ _ _ h => h) (by rfl) ?_ (by assumption) ?_
    rotate_left
    · (intro w hSw; (try dsimp only at hSw); go_simp; (try with_reducible rfl))
    try simp only [Act.put, List.setIfInBounds_toArray, List.set_cons_zero, List.set_cons_succ]
    refine takeT 6 ?_ rfl (by kernel_rfl) (by kernel_rfl) (by kernel_rfl) (fun _ _ _ h => h) (by rfl) ?_ (by assumption) ?_
    rotate_left
    · (intro w hSw; (try dsimp only at hSw); go_simp; (try with_reducible rfl))
    try simp only [Act.put, List.setIfInBounds_toArray, List.set_cons_zero, List.set_cons_succ]
    refine takeT 7 ?_ rfl (by kernel_rfl) (by kernel_rfl) (by kernel_rfl) (fun _ _ _ h => h) (by rfl) ?_ (by assumption) ?_
    rotate_left
    · (intro w hSw; (try dsimp only at hSw); go_simp; (try with_reducible rfl))
    try simp only [Act.put, List.setIfInBounds_toArray, List.set_cons_zero, List.set_cons_succ]
    refine takeF 8 rfl (by kernel_rfl) (by kernel_rfl) (by kernel_rfl) (fun _ _ _ h => h) (by rfl) (by assumption) ?_
    try simp only [Act.put, List.setIfInBounds_toArray, List.set_cons_zero, List.set_cons_succ]
    refine takeF 9 rfl (by kernel_rfl) (by kernel_rfl) (by kernel_rfl) (fun _ _ _ h => h) (by rfl) (by assumption) ?_
    try simp only [Act.put, List.setIfInBounds_toArray, List.set_cons_zero, List.set_cons_succ]
    refine takeF 10 rfl (by kernel_rfl) (by kernel_rfl) (by kernel_rfl) (fun _ _ _ h => h) (by rfl) (by assumption) ?_
    try simp only [Act.put, List.setIfInBounds_toArray, List.set_cons_zero, List.set_cons_succ]
    refine takeF 11 rfl (by kernel_rfl) (by kernel_rfl) (by kernel_rfl) (fun _ _ _ h => h) (by rfl) (by assumption) ?_
    try simp only [Act.put, List.setIfInBounds_toArray, List.set_cons_zero, List.set_cons_succ]
    refine takeF 12 rfl (by kernel_rfl) (by kernel_rfl) (by kernel_rfl) (fun _ _ _ h => h) (by rfl) (by assumption) ?_
    try simp only [Act.put, List.setIfInBounds_toArray, List.set_cons_zero, List.set_cons_succ]
    refine takeF 13 rfl (by kernel_rfl) (by kernel_rfl) (by kernel_rfl) (fun _ _ _ h => h) (by rfl) (by assumption) ?_
    try simp only [Act.put, List.setIfInBounds_toArray, List.set_cons_zero, List.set_cons_succ]
    refine takeF 14 rfl (by kernel_rfl) (by kernel_rfl) (by kernel_rfl) (fun _ _ _ h => h) (by rfl) (by assumption) ?_
    try simp only [Act.put, List.setIfInBounds_toArray, List.set_cons_zero, List.set_cons_succ]
    refine takeT 15 ?_ rfl (by kernel_rfl) (by kernel_rfl) (by kernel_rfl) (fun _ _ _ h => h) (by rfl) ?_ (by assumption) ?_
    rotate_left
    · (intro w hSw; (try dsimp only at hSw); go_simp; (try with_reducible rfl))
    try simp only [Act.put, List.setIfInBounds_toArray, List.set_cons_zero, List.set_cons_succ]
    refine wpAnyH_done (by kernel_rfl) ?_ _
    go_wp2_with fail
    replace HB := Aside0.mk HB.out.drew
    have hk0 : ¬ 9223372036854775807 < k0.size + 1 := by rw [I0.out.sz]; omega
    have hk1 : ¬ 9223372036854775807 < k1.size + 1 := by rw [I1.out.sz]; omega
    refine wp_region_held_drew (S := (fun w' => w'.cell? ⟨mb, 0, none⟩ = some (.slice A4 (madeR N []).length c4) ∧ w'.cell? ⟨mb, 1, none⟩ = some (.slice Av Z1.length cv) ∧ w'.cell? ⟨cg, 0, none⟩ = some (.string k0) ∧ w'.cell? ⟨cg, 1, none⟩ = some (.string k1) ∧ w'.cell? ⟨cg, 2, none⟩ = some (.string k2) ∧ w'.cell? ⟨cg, 3, none⟩ = some (.string k3) ∧ w'.cell? ⟨tb, 0, none⟩ = some (.slice (some ad) (madeR N []).length c0) ∧ w'.cell? ⟨tb, 1, none⟩ = some (.slice A1 (madeZ N).length c1))) (by kernel_rfl) ?_ (fun hHeld => ?_)
    · ((try dsimp only); exact ⟨j0, j1, j2, j3, j4, j5, j6, j7⟩)
    refine takeT 0 ?_ rfl (by kernel_rfl) (by kernel_rfl) (by kernel_rfl) (fun _ _ _ h => h) (by rfl) ?_ (by assumption) ?_
    rotate_left
    · (intro w hSw; (try dsimp only at hSw); go_simp; (try with_reducible rfl))
    try simp only [Act.put, List.setIfInBounds_toArray, List.set_cons_zero, List.set_cons_succ]
    refine takeT 1 ?_ rfl (by kernel_rfl) (by kernel_rfl) (by kernel_rfl) (fun _ _ _ h => h) (by rfl) ?_ (by assumption) ?_
    rotate_left
    · (intro w hSw; (try dsimp only at hSw); go_simp; (try with_reducible rfl))
    try simp only [Act.put, List.setIfInBounds_toArray, List.set_cons_zero, List.set_cons_succ]
    refine takeT 2 ?_ rfl (by kernel_rfl) (by kernel_rfl) (by kernel_rfl) (fun _ _ _ h => h) (by rfl) ?_ (by assumption) ?_
    rotate_left
    · (intro w hSw; (try dsimp only at hSw); go_simp; (try with_reducible rfl))
    try simp only [Act.put, List.setIfInBounds_toArray, List.set_cons_zero, List.set_cons_succ]
    refine takeT 3 ?_ rfl (by kernel_rfl) (by kernel_rfl) (by kernel_rfl) (fun _ _ _ h => h) (by rfl) ?_ (by assumption) ?_
    rotate_left
    · (intro w hSw; (try dsimp only at hSw); go_simp; (try with_reducible rfl))
    try simp only [Act.put, List.setIfInBounds_toArray, List.set_cons_zero, List.set_cons_succ]
    refine takeT 4 ?_ rfl (by kernel_rfl) (by kernel_rfl) (by kernel_rfl) (fun _ _ _ h => h) (by rfl) ?_ (by assumption) ?_
    rotate_left
    · (intro w hSw; (try dsimp only at hSw); go_simp; (try with_reducible rfl))
    try simp only [Act.put, List.setIfInBounds_toArray, List.set_cons_zero, List.set_cons_succ]
    refine takeT 5 ?_ rfl (by kernel_rfl) (by kernel_rfl) (by kernel_rfl) (fun _ _ _ h => h) (by rfl) ?_ (by assumption) ?_
    rotate_left
    · (intro w hSw; (try dsimp only at hSw); go_simp; (try with_reducible rfl))
    try simp only [Act.put, List.setIfInBounds_toArray, List.set_cons_zero, List.set_cons_succ]
    refine takeT 6 ?_ rfl (by kernel_rfl) (by kernel_rfl) (by kernel_rfl) (fun _ _ _ h => h) (by rfl) ?_ (by assumption) ?_
    rotate_left
    · (intro w hSw; (try dsimp only at hSw); go_simp; (try with_reducible rfl))
    try simp only [Act.put, List.setIfInBounds_toArray, List.set_cons_zero, List.set_cons_succ]
    refine takeT 7 ?_ rfl (by kernel_rfl) (by kernel_rfl) (by kernel_rfl) (fun _ _ _ h => h) (by rfl) ?_ (by assumption) ?_
    rotate_left
    · (intro w hSw; (try dsimp only at hSw); go_simp; (try with_reducible rfl))
    try simp only [Act.put, List.setIfInBounds_toArray, List.set_cons_zero, List.set_cons_succ]
    refine takeT 8 ?_ rfl (by kernel_rfl) (by kernel_rfl) (by kernel_rfl) (fun _ _ _ h => h) (by rfl) ?_ (by assumption) ?_
    rotate_left
    · (intro w hSw; (try dsimp only at hSw); go_simp; (try with_reducible rfl))
    try simp only [Act.put, List.setIfInBounds_toArray, List.set_cons_zero, List.set_cons_succ]
    refine takeC 9 rfl (by kernel_rfl) (by rfl) (fun K hK => ?_)
    go_simp
    (refine (tariff_Zone.calls 30 A4 c4 (madeR N []) Av cv Z1 (k0 ++ ⟨#[55]⟩) (k1 ++ ⟨#[65]⟩) (1 + (zi : Int)) 0 _ (Kd.C_below HM3.out HB.out) HC4.out (Kd.C_below HM4.out HB.out) HCV.out ZL.out).mono ?_; rintro e wL ⟨rfl, hbX⟩; replace HB := Aside0.mk (HB.out.trans (hbX.mono HB.out.size)); have j0 : wL.cell? ⟨mb, 0, none⟩ = some (.slice A4 (madeR N []).length c4) := (HB.out.cell (p := ⟨mb, 0, none⟩) Lmb).trans HJ.out.1; have j1 : wL.cell? ⟨mb, 1, none⟩ = some (.slice Av Z1.length cv) := (HB.out.cell (p := ⟨mb, 1, none⟩) Lmb).trans HJ.out.2.1; have j2 : wL.cell? ⟨cg, 0, none⟩ = some (.string k0) := (HB.out.cell (p := ⟨cg, 0, none⟩) Lcg).trans HJ.out.2.2.1; have j3 : wL.cell? ⟨cg, 1, none⟩ = some (.string k1) := (HB.out.cell (p := ⟨cg, 1, none⟩) Lcg).trans HJ.out.2.2.2.1; have j4 : wL.cell? ⟨cg, 2, none⟩ = some (.string k2) := (HB.out.cell (p := ⟨cg, 2, none⟩) Lcg).trans HJ.out.2.2.2.2.1; have j5 : wL.cell? ⟨cg, 3, none⟩ = some (.string k3) := (HB.out.cell (p := ⟨cg, 3, none⟩) Lcg).trans HJ.out.2.2.2.2.2.1; have j6 : wL.cell? ⟨tb, 0, none⟩ = some (.slice (some ad) (madeR N []).length c0) := (HB.out.cell (p := ⟨tb, 0, none⟩) Ltb).trans HJ.out.2.2.2.2.2.2.1; have j7 : wL.cell? ⟨tb, 1, none⟩ = some (.slice A1 (madeZ N).length c1) := (HB.out.cell (p := ⟨tb, 1, none⟩) Ltb).trans HJ.out.2.2.2.2.2.2.2; clear hbX)
    (try go_wp2_with fail)
    refine hK.out _ _ ?_ (fun hHeld => ?_)
    · ((try dsimp only); exact ⟨j0, j1, j2, j3, j4, j5, j6, j7⟩)
    clear hK K
    try simp only [Act.put, List.setIfInBounds_toArray, List.set_cons_zero, List.set_cons_succ]
    refine takeT 10 ?_ rfl (by kernel_rfl) (by kernel_rfl) (by kernel_rfl) (fun _ _ _ h => h) (by rfl) ?_ (by assumption) ?_
    rotate_left
    · (intro w hSw; (try dsimp only at hSw); go_simp; (try with_reducible rfl))
    try simp only [Act.put, List.setIfInBounds_toArray, List.set_cons_zero, List.set_cons_succ]
    refine takeT 11 ?_ rfl (by kernel_rfl) (by kernel_rfl) (by kernel_rfl) (fun _ _ _ h => h) (by rfl) ?_ (by assumption) ?_
    rotate_left
    · (intro w hSw; (try dsimp only at hSw); go_simp; (try with_reducible rfl))
    try simp only [Act.put, List.setIfInBounds_toArray, List.set_cons_zero, List.set_cons_succ]
    refine takeT 12 ?_ rfl (by kernel_rfl) (by kernel_rfl) (by kernel_rfl) (fun _ _ _ h => h) (by rfl) ?_ (by assumption) ?_
    rotate_left
    · (intro w hSw; (try dsimp only at hSw); go_simp; (try with_reducible rfl))
    try simp only [Act.put, List.setIfInBounds_toArray, List.set_cons_zero, List.set_cons_succ]
    refine takeT 13 ?_ rfl (by kernel_rfl) (by kernel_rfl) (by kernel_rfl) (fun _ _ _ h => h) (by rfl) ?_ (by assumption) ?_
    rotate_left
    · (intro w hSw; (try dsimp only at hSw); go_simp; (try with_reducible rfl))
    try simp only [Act.put, List.setIfInBounds_toArray, List.set_cons_zero, List.set_cons_succ]
    refine takeT 14 ?_ rfl (by kernel_rfl) (by kernel_rfl) (by kernel_rfl) (fun _ _ _ h => h) (by rfl) ?_ (by assumption) ?_
    rotate_left
    · (intro w hSw; (try dsimp only at hSw); go_simp; (try with_reducible rfl))
    try simp only [Act.put, List.setIfInBounds_toArray, List.set_cons_zero, List.set_cons_succ]
    refine wpAnyH_done (by kernel_rfl) ?_ _
    go_wp2_with fail
    go_ret
    exact ⟨rfl, HWW.out.trans (HB.out.mono HWW.out.size)⟩
end Go.Proofs.YtfglcfbcdhjcdaaDoor.Q

namespace Go.Proofs.YtfglcfbcdhjcdaaDoor.Q
open Go.RowKit Go.Proofs.YtfglcfbcdhjcdaaDoorW.PrintWords Go.Proofs.YtfglcfbcdhjcdaaDoorW.PrintLast Go.Proofs.YtfglcfbcdhjcdaaDoorW.PrintMore
theorem rwf_u8 {x : Int} (h : (Lit.int .u8 x).wf = true) : 0 ≤ x ∧ x ≤ 255 := by
  simp [Lit.wf, IntKind.min, IntKind.max, IntKind.bits, IntKind.signed] at h
  omega
theorem rwf_u32 {x : Int} (h : (Lit.int .u32 x).wf = true) : 0 ≤ x ∧ x < 4294967296 := by
  simp [Lit.wf, IntKind.min, IntKind.max, IntKind.bits, IntKind.signed] at h
  omega
theorem tariffRows.walk (n : Int) (hn : (Lit.int .u32 n).wf = true) (a b c d z : Int) (ha : (Lit.int .u8 a).wf = true) (hb : (Lit.int .u8 b).wf = true) (hc : (Lit.int .u8 c).wf = true) (hd : (Lit.int .u8 d).wf = true) (w : World) :
    Calls Tryd.prog 6 #[.int .u32 n, .int .u8 a, .int .u8 b, .int .u8 c, .int .u8 d, .int .i64 z] w fun e w' => e = .returned (.bool true) ∧ Below w.heap.size w w' := by
  have h := rwf_u32 hn
  have hN : (n.toNat : Int) = n := by omega
  have hh := rows.calls0 n.toNat (by omega) a b c d z (rwf_u8 ha) (rwf_u8 hb) (rwf_u8 hc) (rwf_u8 hd) w
  rw [hN] at hh
  exact hh
end Go.Proofs.YtfglcfbcdhjcdaaDoor.Q
namespace Go.Proofs.YtfglcfbcdhjcdaaDoor.tariffRows
open Go.ChangeShapes Go.WideShapes Go.ChangeAt Go.RowKit
set_option linter.unusedVariables false
theorem own : ownKnob Tryd.prog.godebug = none := by kernel_rfl
set_option maxRecDepth 100000 in
theorem contract (H : Type) (enc : TypeId × Value → H) (W : World) (base : Nat) (args : Array Value) (ds gs : List (DataW H)) (before : List MemPlace)
    (hval0 : ∀ (j : Nat) t v, Tryd.f6.params[j]? = some t → args[j]? = some v → Value.okWide Tryd.prog W .any base t v)
    (hW : DataW.Whole enc Tryd.prog Tryd.f6.params.toList Rows.tariffRowsSpec.vars false W args.toList ds gs before) :
    Calls Tryd.prog 6 args W fun e W' => ∃ v, e = .returned v ∧ Rows.tariffRowsSpec.post enc Tryd.prog Tryd.f6 false true false false W args v W' := by
  have hval : ∀ (j : Nat) t v, Tryd.f6.params[j]? = some t → args[j]? = some v → Value.okWide Tryd.prog W .any base t v := hval0
  have hW' := hW
  obtain ⟨p, q, hA0, hV, rfl, hfz, hnd⟩ := hW
  have hA : DataW.TrodAll enc Tryd.prog W 0 (fun _ => true) true Tryd.f6.params.toList args.toList ds p := hA0
  rw [Tryd.params6] at hA hval
  obtain ⟨v0, vs0, d0, ds0, p0, q0, hargs, rfl, rfl, h0, r0⟩ := trodAll_cons hA
  obtain ⟨v1, vs1, d1, ds1, p1, q1, rfl, rfl, rfl, h1, r1⟩ := trodAll_cons r0
  obtain ⟨v2, vs2, d2, ds2, p2, q2, rfl, rfl, rfl, h2, r2⟩ := trodAll_cons r1
  obtain ⟨v3, vs3, d3, ds3, p3, q3, rfl, rfl, rfl, h3, r3⟩ := trodAll_cons r2
  obtain ⟨v4, vs4, d4, ds4, p4, q4, rfl, rfl, rfl, h4, r4⟩ := trodAll_cons r3
  obtain ⟨v5, vs5, d5, ds5, p5, q5, rfl, rfl, rfl, h5, r5⟩ := trodAll_cons r4
  obtain ⟨rfl, rfl, rfl⟩ := trodAll_nil r5
  obtain rfl : args = #[v0, v1, v2, v3, v4, v5] := by cases args; simp_all
  obtain ⟨rfl, rfl⟩ := trodVars_none hV
  obtain ⟨n0, rfl, rfl, rfl, hw0⟩ := open_int Tryd.underlying28 (hval 0 28 v0 rfl rfl) h0
  obtain ⟨n1, rfl, rfl, rfl, hw1⟩ := open_int Tryd.underlying5 (hval 1 5 v1 rfl rfl) h1
  obtain ⟨n2, rfl, rfl, rfl, hw2⟩ := open_int Tryd.underlying5 (hval 2 5 v2 rfl rfl) h2
  obtain ⟨n3, rfl, rfl, rfl, hw3⟩ := open_int Tryd.underlying5 (hval 3 5 v3 rfl rfl) h3
  obtain ⟨n4, rfl, rfl, rfl, hw4⟩ := open_int Tryd.underlying5 (hval 4 5 v4 rfl rfl) h4
  obtain ⟨n5, rfl, rfl, rfl, hw5⟩ := open_int Tryd.underlying3 (hval 5 3 v5 rfl rfl) h5
  clear hA0 hval0
  refine (Q.tariffRows.walk n0 hw0 n1 n2 n3 n4 n5 hw1 hw2 hw3 hw4 W).mono fun e W' ⟨he, bel⟩ => ?_
  subst he
  exact ⟨_, rfl, _, _, _, [], _, [], hW', trodAll_mk1 (shut_bool Tryd.underlying4 _), (trodAll_cons_mk (shut_int Tryd.underlying28 hw0) (trodAll_cons_mk (shut_int Tryd.underlying5 hw1) (trodAll_cons_mk (shut_int Tryd.underlying5 hw2) (trodAll_cons_mk (shut_int Tryd.underlying5 hw3) (trodAll_cons_mk (shut_int Tryd.underlying5 hw4) (trodAll_cons_mk (shut_int Tryd.underlying3 hw5) trodAll_mk0)))))), rfl, bel.frame _, fun h => by cases h⟩
def putBytes (l : List Nat) : Obj → Obj
  | .cells _ t frozen => .cells (l.map fun (n : Nat) => Value.int .u8 n).toArray t frozen
  | o => o
noncomputable def laidWorld (os : Os) : World :=
  { World.holding Tryd.prog os ⟨#[], #[], []⟩ with heap := ((World.holding Tryd.prog os ⟨#[], #[], []⟩).heap.modify 0 (putBytes Go.Pinned.utf8FirstZ)).modify 1 (putBytes [128, 191, 160, 191, 128, 159, 144, 191, 128, 143, 0, 0, 0, 0, 0, 0, 0, 0, 0, 0, 0, 0, 0, 0, 0, 0, 0, 0, 0, 0, 0, 0]) }
noncomputable def wargs : Array Value := #[.int .u32 0, .int .u8 0, .int .u8 0, .int .u8 0, .int .u8 0, .int .i64 0]
theorem laid_met (os : Os) : laidMet Tryd.prog Rows.tariffRowsRow.laid ((laidWorld os).forCall (fun _ _ => 0) ⟨#[], wargs, []⟩).memory :=
  laidMet_of_run' 8 (by kernel_rfl) (by kernel_rfl)
theorem reads (os : Os) {H : Type} (enc : TypeId × Value → H) : ∃ places, DataW.whole enc Tryd.prog ((laidWorld os).forCall (fun _ _ => 0) ⟨#[], wargs, []⟩).memory Tryd.f6.params.toList Rows.tariffRowsSpec.vars false wargs.toList 8 = some ([.lit (.int .u32 0), .lit (.int .u8 0), .lit (.int .u8 0), .lit (.int .u8 0), .lit (.int .u8 0), .lit (.int .i64 0)], [], places) :=
  ⟨[], by kernel_rfl⟩
set_option maxRecDepth 100000 in
theorem lifted (os : Os) (started : os.Started) (H : Type) (enc : TypeId × Value → H) (F : Stop.Interp) :
    ReturnsInHanded {} Tryd.checked os 6 .any ((OpenSpec.ofChange Rows.tariffRowsSpec).preRow enc Tryd.prog Tryd.f6 Rows.tariffRowsRow.domain false Rows.tariffRowsRow.laid) (((OpenSpec.ofChange Rows.tariffRowsSpec).at F).post enc Tryd.prog Tryd.f6 false true false false) := by
  obtain ⟨places, hx⟩ := reads os enc
  refine returnsInHanded_of_row (C := Tryd.checked) (s := OpenSpec.ofChange Rows.tariffRowsSpec) own started (by kernel_rfl) Tryd.func6
    (witness_row_at (enc := enc) (C := Tryd.checked) false (laidWorld os) wargs rfl (by kernel_rfl) (by kernel_rfl) (by kernel_rfl)
      (OpenSpec.preRow_of_cond 8 hx (by kernel_rfl) (fun k hk => by cases hk) (by kernel_rfl) (laid_met os))) ?_
  intro W base args ds gs before hval hW _ _ _ hL _ _
  exact contract H enc W base args ds gs before hval hW
theorem said : Rows.TariffRowsSaid :=
  OpenClaim.holds_of_cond 6 Tryd.f6 rfl rfl rfl rfl rfl rfl rfl ⟨rfl, rfl, rfl, rfl, rfl⟩ rfl rfl rfl rfl rfl (by kernel_rfl) Tryd.func6 (by kernel_rfl)
    (of_decide_eq_true (by kernel_rfl)) (by unfold Func.isWrapper; first | (rw [if_pos (by decide +kernel)]; kernel_rfl) | (rw [if_neg (by decide +kernel)]; exact ⟨rfl, rfl⟩))
    (fun os started H enc _ F => by rw [OpenClaim.pre_eq_preRow]; exact lifted os started H enc F)
theorem plain (f : FuncId) (fn : Func) (hf : Tryd.pinned.checked.prog.funcNamed "letterbag/letterbaglaw24.TariffRows" = some f) (hfn : Tryd.pinned.checked.prog.funcs[f]? = some fn) :
    false = Tryd.pinned.checked.prog.looks [] ∧ ∀ (j : Nat) t, fn.params[j]? = some t → Tryd.pinned.checked.prog.wantsStandIn t = false := by
  obtain rfl : f = 6 := Option.some.inj ((show Tryd.prog.funcNamed "letterbag/letterbaglaw24.TariffRows" = some 6 by kernel_rfl).symm.trans hf) |>.symm
  obtain rfl : fn = Tryd.f6 := (Option.some.inj (Tryd.func6.symm.trans hfn)).symm
  refine ⟨by kernel_rfl, fun j t ht => ?_⟩
  rw [Tryd.params6] at ht
  have hm : t ∈ [28, 5, 5, 5, 5, 3] := by simpa using Array.mem_of_getElem? ht
  have hall : ([28, 5, 5, 5, 5, 3].all fun u => !Tryd.prog.wantsStandIn u) = true := by kernel_rfl
  exact (show Tryd.prog.wantsStandIn t = false by simpa using List.all_eq_true.1 hall t hm)
theorem card : Rows.TariffRowsCardSaid :=
  Claim7.holds_tied_plain_at .later [] _ _ _ _ said (fun _ h => by cases h) (by kernel_rfl) (fun _ h => by cases h) tariffRows_row_tie rfl ⟨rfl, rfl⟩ (by kernel_rfl) rfl plain (by kernel_rfl)
#print axioms card
end Go.Proofs.YtfglcfbcdhjcdaaDoor.tariffRows
namespace Go.Proofs.YtfglcfbcdhjcdaaDoor
theorem tariffRows_card : Rows.TariffRowsCardSaid := tariffRows.card
end Go.Proofs.YtfglcfbcdhjcdaaDoor
