/- A part of the proof of a law of the chapter (lemmas and walks of functions). Conditions: none but those of the statement. -/
import Derived.Test.YtfglcfbcdhjcdaaDoorProg
import Derived.Below
import Derived.Deep.Draws
import Derived.Deep.AppendLies
import Derived.Maps.AppendAt
import Derived.OwnWalk
import Derived.Laws.BytesArg
import Derived.Laws.MakeOwn
import Derived.Laws.OwnMore
import Derived.Deep.OwnRows
import Derived.Tactics
import Derived.Lib.ConvBytes
import Derived.Laws.Slices
import Derived.WalkKit
import Derived.KernelRfl
import Derived.RowKit3
import Derived.Deep.LoopGhost
import Derived.Deep.QuietTactic
import Derived.BigQuiet
import Derived.WideLaws
import Derived.Deep.DeepCutAuto
import Derived.Deep.CutBlock
import Derived.Deep.RegionHeld3
import Derived.Laws.Rows
import Derived.Lib.AppendStr
import Derived.ArgAppend
import Derived.Laws.IdiomCopy
import Derived.OrdersHeld
import Derived.Laws.BitsLemmas
import Derived.RowKit
import Derived.WalkLawsBesides
import Derived.WalkSpells
import Derived.Ground.NamesProg
import Derived.Shelf.Strings.SlTrimAscii
import Derived.Maps.OwnSet
import Derived.StringKeys
import Derived.DeepKeys4
import Derived.OneCell
import Derived.WideKeyEntry
import Derived.Test.YtfglcfbcdhjcdaaDoorA0
namespace Go.Proofs.YtfglcfbcdhjcdaaDoor.Q
open Go.RowKit Go.Proofs.YtfglcfbcdhjcdaaDoorW.PrintWords Go.Proofs.YtfglcfbcdhjcdaaDoorW.PrintLast Go.Proofs.YtfglcfbcdhjcdaaDoorW.PrintMore
attribute [local go_sem] max2_int min2_int max_two min_two max_three min_three max_four min_four
set_option linter.unusedVariables false
set_option linter.unusedSimpArgs false
def errW : Option Int → Value
 | none => .nilIface
 | some c => .iface 0 (.int .i64 c)
theorem errW_none : errW none = .nilIface := rfl
theorem errW_some (c : Int) : errW (some c) = .iface 0 (.int .i64 c) := rfl
theorem info3 : (Tryd.prog.info? 3).map (fun i => (i.zero, i.size, i.bytes)) = some (some (.int .i64 0), 1, 8) := by kernel_rfl
theorem info9 : (Tryd.prog.info? 9).map (fun i => (i.zero, i.size, i.bytes)) = some (some (.string ⟨#[]⟩), 1, 16) := by kernel_rfl
theorem info48 : (Tryd.prog.info? 48).map (fun i => (i.zero, i.size, i.bytes)) = some (some (.agg #[(.int .i64 0), (.int .i64 0), (.string ⟨#[]⟩), (.int .i64 0), (.bool false)]), 5, 48) := by kernel_rfl
theorem info54 : (Tryd.prog.info? 54).map (fun i => (i.zero, i.size, i.bytes)) = some (some (.agg #[(.string ⟨#[]⟩), (.int .i64 0), (.slice none 0 0), (.int .i64 0), (.int .i64 0)]), 5, 64) := by kernel_rfl
theorem info57 : (Tryd.prog.info? 57).map (fun i => (i.zero, i.size, i.bytes)) = some (some (.agg #[(.int .u8 0), (.slice none 0 0), (.int .i64 0)]), 3, 40) := by kernel_rfl
theorem info61 : (Tryd.prog.info? 61).map (fun i => (i.zero, i.size, i.bytes)) = some (some (.agg #[(.int .i64 0), (.slice none 0 0)]), 2, 32) := by kernel_rfl
theorem info67 : (Tryd.prog.info? 67).map (fun i => (i.zero, i.size, i.bytes)) = some (some (.agg #[(.string ⟨#[]⟩), (.string ⟨#[]⟩), (.int .i64 0)]), 3, 40) := by kernel_rfl
theorem info90 : (Tryd.prog.info? 90).map (fun i => (i.zero, i.size, i.bytes)) = some (some (.agg #[(.string ⟨#[]⟩), (.string ⟨#[]⟩)]), 2, 32) := by kernel_rfl
structure S61 where
 f0 : Int
 f1 : (List Int)
def z61 : S61 := ⟨(0 : Int), ([] : List Int)⟩
def k61 : Kd S61 := Kd.iso (Kd.pair (Kd.int .i64) (Kd.slice 3 (Kd.int .i64))) (fun x : S61 => (x.f0, x.f1))
theorem k61_heap : Kd.Heap k61 := Kd.heap_iso _ (Kd.heap_pair (Kd.heap_int .i64) (Kd.heap_slice 3 (Kd.heap_int .i64)))
theorem k61_open {w : World} {x : S61} {cs : List Value} (h : k61.K w x cs) : ∃ A1 c1, cs = [.int .i64 x.f0, .slice A1 x.f1.length c1] ∧ x.f1.length ≤ c1 ∧ (Kd.int .i64).C w A1 x.f1.length x.f1 := by
 obtain ⟨_, _, rfl, rfl, ⟨A1, c1, rfl, l1, g1⟩⟩ := h
 exact ⟨A1, c1, rfl, l1, g1⟩
theorem k61_mk (w : World) (x : S61) {A1 : Option Addr} {c1 : Nat} (l1 : x.f1.length ≤ c1) (g1 : (Kd.int .i64).C w A1 x.f1.length x.f1) : k61.K w x [.int .i64 x.f0, .slice A1 x.f1.length c1] := ⟨[.int .i64 x.f0], [.slice A1 x.f1.length c1], rfl, rfl, ⟨A1, c1, rfl, l1, g1⟩⟩
theorem k61_mkM (w : World) (base : Nat) (ok : Nat → Prop) (x : S61) {v1 : Value} (g1 : (Kd.int .i64).R 3 w base ok v1 x.f1) : k61.M w base ok x [.int .i64 x.f0, v1] := ⟨[.int .i64 x.f0], [v1], rfl, rfl, ⟨v1, rfl, g1⟩⟩
theorem k61_mkF (W : World) (ok : Nat → Prop) (x : S61) {A1 : Option Addr} {c1 : Nat} (l1 : x.f1.length ≤ c1) (g1 : Kd.F (Kd.int .i64) W ok A1 x.f1.length x.f1) : Kd.FK k61 W ok x [.int .i64 x.f0, .slice A1 x.f1.length c1] := fun W2 hW => k61_mk W2 x l1 (g1 W2 hW)
def rd_T61 (xs : List S61) (i : Int) : S61 := xs.getD i.toNat z61
theorem at_T61 {w : World} {A : Option Addr} {n : Nat} {xs : List S61} (h : Kd.C k61 w A n xs) (i : Int) (h0 : 0 ≤ i) (h1 : i < n) : ∃ ad A1 c1, A = some ad ∧ w.cell? (ad.add (i.toNat * 2)) = some (.int .i64 (rd_T61 xs i).f0) ∧ w.cell? ⟨(ad.add (i.toNat * 2)).block, (ad.add (i.toNat * 2)).off + 1, none⟩ = some (.slice A1 (rd_T61 xs i).f1.length c1) ∧ (rd_T61 xs i).f1.length ≤ c1 ∧ (Kd.int .i64).C w A1 (rd_T61 xs i).f1.length (rd_T61 xs i).f1 := by
 obtain ⟨ad, c, e, _, hK, hc0⟩ := Kd.C_get h z61 i h0 h1
 have hc : ∀ j u, c[j]? = some u → w.cell? (ad.add (i.toNat * 2 + j)) = some u := hc0
 obtain ⟨A1, c1, rfl, l1, g1⟩ := k61_open hK
 exact ⟨ad, A1, c1, e, hc 0 _ rfl, by rw [← add_field _ _ 1 (by omega)]; exact hc 1 _ rfl, l1, g1⟩
structure S57 where
 f0 : Int
 f1 : (List S61)
 f2 : Int
def z57 : S57 := ⟨(0 : Int), ([] : List S61), (0 : Int)⟩
def k57 : Kd S57 := Kd.iso (Kd.pair (Kd.int .u8) (Kd.pair (Kd.slice 61 k61) (Kd.int .i64))) (fun x : S57 => (x.f0, x.f1, x.f2))
theorem k57_heap : Kd.Heap k57 := Kd.heap_iso _ (Kd.heap_pair (Kd.heap_int .u8) (Kd.heap_pair (Kd.heap_slice 61 k61_heap) (Kd.heap_int .i64)))
theorem k57_open {w : World} {x : S57} {cs : List Value} (h : k57.K w x cs) : ∃ A1 c1, cs = [.int .u8 x.f0, .slice A1 x.f1.length c1, .int .i64 x.f2] ∧ x.f1.length ≤ c1 ∧ k61.C w A1 x.f1.length x.f1 := by
 obtain ⟨_, _, rfl, rfl, ⟨_, _, rfl, ⟨A1, c1, rfl, l1, g1⟩, rfl⟩⟩ := h
 exact ⟨A1, c1, rfl, l1, g1⟩
theorem k57_mk (w : World) (x : S57) {A1 : Option Addr} {c1 : Nat} (l1 : x.f1.length ≤ c1) (g1 : k61.C w A1 x.f1.length x.f1) : k57.K w x [.int .u8 x.f0, .slice A1 x.f1.length c1, .int .i64 x.f2] := ⟨[.int .u8 x.f0], [.slice A1 x.f1.length c1, .int .i64 x.f2], rfl, rfl, ⟨[.slice A1 x.f1.length c1], [.int .i64 x.f2], rfl, ⟨A1, c1, rfl, l1, g1⟩, rfl⟩⟩
theorem k57_mkM (w : World) (base : Nat) (ok : Nat → Prop) (x : S57) {v1 : Value} (g1 : k61.R 61 w base ok v1 x.f1) : k57.M w base ok x [.int .u8 x.f0, v1, .int .i64 x.f2] := ⟨[.int .u8 x.f0], [v1, .int .i64 x.f2], rfl, rfl, ⟨[v1], [.int .i64 x.f2], rfl, ⟨v1, rfl, g1⟩, rfl⟩⟩
theorem k57_openF {W : World} {ok : Nat → Prop} {x : S57} {cs : List Value} (h : Kd.FK k57 W ok x cs) : ∃ A1 c1, cs = [.int .u8 x.f0, .slice A1 x.f1.length c1, .int .i64 x.f2] ∧ x.f1.length ≤ c1 ∧ Kd.F k61 W ok A1 x.f1.length x.f1 := by
 obtain ⟨A1, c1, rfl, l1, _⟩ := k57_open (Kd.FK_now h)
 exact ⟨A1, c1, rfl, l1, (fun W' hW => by obtain ⟨A1_, c1_, he, l1_, g1_⟩ := k57_open (h W' hW); injection (Option.some.inj (show some (Value.slice A1 x.f1.length c1) = some (Value.slice A1_ x.f1.length c1_) from congrArg (fun l => l[1]?) he)) with ha_ _ _; rw [ha_]; exact g1_)⟩
theorem k57_mkF (W : World) (ok : Nat → Prop) (x : S57) {A1 : Option Addr} {c1 : Nat} (l1 : x.f1.length ≤ c1) (g1 : Kd.F k61 W ok A1 x.f1.length x.f1) : Kd.FK k57 W ok x [.int .u8 x.f0, .slice A1 x.f1.length c1, .int .i64 x.f2] := fun W2 hW => k57_mk W2 x l1 (g1 W2 hW)
def rd_T57 (xs : List S57) (i : Int) : S57 := xs.getD i.toNat z57
theorem at_T57 {w : World} {A : Option Addr} {n : Nat} {xs : List S57} (h : Kd.C k57 w A n xs) (i : Int) (h0 : 0 ≤ i) (h1 : i < n) : ∃ ad A1 c1, A = some ad ∧ w.cell? (ad.add (i.toNat * 3)) = some (.int .u8 (rd_T57 xs i).f0) ∧ w.cell? ⟨(ad.add (i.toNat * 3)).block, (ad.add (i.toNat * 3)).off + 1, none⟩ = some (.slice A1 (rd_T57 xs i).f1.length c1) ∧ w.cell? ⟨(ad.add (i.toNat * 3)).block, (ad.add (i.toNat * 3)).off + 2, none⟩ = some (.int .i64 (rd_T57 xs i).f2) ∧ (rd_T57 xs i).f1.length ≤ c1 ∧ k61.C w A1 (rd_T57 xs i).f1.length (rd_T57 xs i).f1 := by
 obtain ⟨ad, c, e, _, hK, hc0⟩ := Kd.C_get h z57 i h0 h1
 have hc : ∀ j u, c[j]? = some u → w.cell? (ad.add (i.toNat * 3 + j)) = some u := hc0
 obtain ⟨A1, c1, rfl, l1, g1⟩ := k57_open hK
 exact ⟨ad, A1, c1, e, hc 0 _ rfl, by rw [← add_field _ _ 1 (by omega)]; exact hc 1 _ rfl, by rw [← add_field _ _ 2 (by omega)]; exact hc 2 _ rfl, l1, g1⟩
structure S67 where
 f0 : ByteArray
 f1 : ByteArray
 f2 : Int
def z67 : S67 := ⟨(⟨#[]⟩ : ByteArray), (⟨#[]⟩ : ByteArray), (0 : Int)⟩
def k67 : Kd S67 := Kd.iso (Kd.pair Kd.string (Kd.pair Kd.string (Kd.int .i64))) (fun x : S67 => (x.f0, x.f1, x.f2))
theorem k67_open {w : World} {x : S67} {cs : List Value} (h : k67.K w x cs) : cs = [.string x.f0, .string x.f1, .int .i64 x.f2] := by
 obtain ⟨_, _, rfl, rfl, ⟨_, _, rfl, rfl, rfl⟩⟩ := h
 exact rfl
theorem k67_mkM (w : World) (base : Nat) (ok : Nat → Prop) (x : S67)  : k67.M w base ok x [.string x.f0, .string x.f1, .int .i64 x.f2] := ⟨[.string x.f0], [.string x.f1, .int .i64 x.f2], rfl, rfl, ⟨[.string x.f1], [.int .i64 x.f2], rfl, rfl, rfl⟩⟩
def rd_T67 (xs : List S67) (i : Int) : S67 := xs.getD i.toNat z67
theorem at_T67 {w : World} {A : Option Addr} {n : Nat} {xs : List S67} (h : Kd.C k67 w A n xs) (i : Int) (h0 : 0 ≤ i) (h1 : i < n) : ∃ ad , A = some ad ∧ w.cell? (ad.add (i.toNat * 3)) = some (.string (rd_T67 xs i).f0) ∧ w.cell? ⟨(ad.add (i.toNat * 3)).block, (ad.add (i.toNat * 3)).off + 1, none⟩ = some (.string (rd_T67 xs i).f1) ∧ w.cell? ⟨(ad.add (i.toNat * 3)).block, (ad.add (i.toNat * 3)).off + 2, none⟩ = some (.int .i64 (rd_T67 xs i).f2) := by
 obtain ⟨ad, c, e, _, hK, hc0⟩ := Kd.C_get h z67 i h0 h1
 have hc : ∀ j u, c[j]? = some u → w.cell? (ad.add (i.toNat * 3 + j)) = some u := hc0
 obtain rfl := k67_open hK
 exact ⟨ad, e, hc 0 _ rfl, by rw [← add_field _ _ 1 (by omega)]; exact hc 1 _ rfl, by rw [← add_field _ _ 2 (by omega)]; exact hc 2 _ rfl⟩
structure S48 where
 f0 : Int
 f1 : Int
 f2 : ByteArray
 f3 : Int
 f4 : Bool
def z48 : S48 := ⟨(0 : Int), (0 : Int), (⟨#[]⟩ : ByteArray), (0 : Int), false⟩
def k48 : Kd S48 := Kd.iso (Kd.pair (Kd.int .i64) (Kd.pair (Kd.int .i64) (Kd.pair Kd.string (Kd.pair (Kd.int .i64) Kd.bool)))) (fun x : S48 => (x.f0, x.f1, x.f2, x.f3, x.f4))
theorem k48_open {w : World} {x : S48} {cs : List Value} (h : k48.K w x cs) : cs = [.int .i64 x.f0, .int .i64 x.f1, .string x.f2, .int .i64 x.f3, .bool x.f4] := by
 obtain ⟨_, _, rfl, rfl, ⟨_, _, rfl, rfl, ⟨_, _, rfl, rfl, ⟨_, _, rfl, rfl, rfl⟩⟩⟩⟩ := h
 exact rfl
theorem k48_mkM (w : World) (base : Nat) (ok : Nat → Prop) (x : S48)  : k48.M w base ok x [.int .i64 x.f0, .int .i64 x.f1, .string x.f2, .int .i64 x.f3, .bool x.f4] := ⟨[.int .i64 x.f0], [.int .i64 x.f1, .string x.f2, .int .i64 x.f3, .bool x.f4], rfl, rfl, ⟨[.int .i64 x.f1], [.string x.f2, .int .i64 x.f3, .bool x.f4], rfl, rfl, ⟨[.string x.f2], [.int .i64 x.f3, .bool x.f4], rfl, rfl, ⟨[.int .i64 x.f3], [.bool x.f4], rfl, rfl, rfl⟩⟩⟩⟩
def rd_T48 (xs : List S48) (i : Int) : S48 := xs.getD i.toNat z48
theorem at_T48 {w : World} {A : Option Addr} {n : Nat} {xs : List S48} (h : Kd.C k48 w A n xs) (i : Int) (h0 : 0 ≤ i) (h1 : i < n) : ∃ ad , A = some ad ∧ w.cell? (ad.add (i.toNat * 5)) = some (.int .i64 (rd_T48 xs i).f0) ∧ w.cell? ⟨(ad.add (i.toNat * 5)).block, (ad.add (i.toNat * 5)).off + 1, none⟩ = some (.int .i64 (rd_T48 xs i).f1) ∧ w.cell? ⟨(ad.add (i.toNat * 5)).block, (ad.add (i.toNat * 5)).off + 2, none⟩ = some (.string (rd_T48 xs i).f2) ∧ w.cell? ⟨(ad.add (i.toNat * 5)).block, (ad.add (i.toNat * 5)).off + 3, none⟩ = some (.int .i64 (rd_T48 xs i).f3) ∧ w.cell? ⟨(ad.add (i.toNat * 5)).block, (ad.add (i.toNat * 5)).off + 4, none⟩ = some (.bool (rd_T48 xs i).f4) := by
 obtain ⟨ad, c, e, _, hK, hc0⟩ := Kd.C_get h z48 i h0 h1
 have hc : ∀ j u, c[j]? = some u → w.cell? (ad.add (i.toNat * 5 + j)) = some u := hc0
 obtain rfl := k48_open hK
 exact ⟨ad, e, hc 0 _ rfl, by rw [← add_field _ _ 1 (by omega)]; exact hc 1 _ rfl, by rw [← add_field _ _ 2 (by omega)]; exact hc 2 _ rfl, by rw [← add_field _ _ 3 (by omega)]; exact hc 3 _ rfl, by rw [← add_field _ _ 4 (by omega)]; exact hc 4 _ rfl⟩
structure S90 where
 f0 : ByteArray
 f1 : ByteArray
def z90 : S90 := ⟨(⟨#[]⟩ : ByteArray), (⟨#[]⟩ : ByteArray)⟩
def k90 : Kd S90 := Kd.iso (Kd.pair Kd.string Kd.string) (fun x : S90 => (x.f0, x.f1))
theorem k90_open {w : World} {x : S90} {cs : List Value} (h : k90.K w x cs) : cs = [.string x.f0, .string x.f1] := by
 obtain ⟨_, _, rfl, rfl, rfl⟩ := h
 exact rfl
theorem k90_mkM (w : World) (base : Nat) (ok : Nat → Prop) (x : S90)  : k90.M w base ok x [.string x.f0, .string x.f1] := ⟨[.string x.f0], [.string x.f1], rfl, rfl, rfl⟩
def rd_T90 (xs : List S90) (i : Int) : S90 := xs.getD i.toNat z90
theorem at_T90 {w : World} {A : Option Addr} {n : Nat} {xs : List S90} (h : Kd.C k90 w A n xs) (i : Int) (h0 : 0 ≤ i) (h1 : i < n) : ∃ ad , A = some ad ∧ w.cell? (ad.add (i.toNat * 2)) = some (.string (rd_T90 xs i).f0) ∧ w.cell? ⟨(ad.add (i.toNat * 2)).block, (ad.add (i.toNat * 2)).off + 1, none⟩ = some (.string (rd_T90 xs i).f1) := by
 obtain ⟨ad, c, e, _, hK, hc0⟩ := Kd.C_get h z90 i h0 h1
 have hc : ∀ j u, c[j]? = some u → w.cell? (ad.add (i.toNat * 2 + j)) = some u := hc0
 obtain rfl := k90_open hK
 exact ⟨ad, e, hc 0 _ rfl, by rw [← add_field _ _ 1 (by omega)]; exact hc 1 _ rfl⟩
structure S54 where
 f0 : ByteArray
 f1 : Int
 f2 : (List S90)
 f3 : Int
 f4 : Int
def z54 : S54 := ⟨(⟨#[]⟩ : ByteArray), (0 : Int), ([] : List S90), (0 : Int), (0 : Int)⟩
def k54 : Kd S54 := Kd.iso (Kd.pair Kd.string (Kd.pair (Kd.int .i64) (Kd.pair (Kd.slice 90 k90) (Kd.pair (Kd.int .i64) (Kd.int .i64))))) (fun x : S54 => (x.f0, x.f1, x.f2, x.f3, x.f4))
theorem k54_open {w : World} {x : S54} {cs : List Value} (h : k54.K w x cs) : ∃ A2 c2, cs = [.string x.f0, .int .i64 x.f1, .slice A2 x.f2.length c2, .int .i64 x.f3, .int .i64 x.f4] ∧ x.f2.length ≤ c2 ∧ k90.C w A2 x.f2.length x.f2 := by
 obtain ⟨_, _, rfl, rfl, ⟨_, _, rfl, rfl, ⟨_, _, rfl, ⟨A2, c2, rfl, l2, g2⟩, ⟨_, _, rfl, rfl, rfl⟩⟩⟩⟩ := h
 exact ⟨A2, c2, rfl, l2, g2⟩
theorem k54_mk (w : World) (x : S54) {A2 : Option Addr} {c2 : Nat} (l2 : x.f2.length ≤ c2) (g2 : k90.C w A2 x.f2.length x.f2) : k54.K w x [.string x.f0, .int .i64 x.f1, .slice A2 x.f2.length c2, .int .i64 x.f3, .int .i64 x.f4] := ⟨[.string x.f0], [.int .i64 x.f1, .slice A2 x.f2.length c2, .int .i64 x.f3, .int .i64 x.f4], rfl, rfl, ⟨[.int .i64 x.f1], [.slice A2 x.f2.length c2, .int .i64 x.f3, .int .i64 x.f4], rfl, rfl, ⟨[.slice A2 x.f2.length c2], [.int .i64 x.f3, .int .i64 x.f4], rfl, ⟨A2, c2, rfl, l2, g2⟩, ⟨[.int .i64 x.f3], [.int .i64 x.f4], rfl, rfl, rfl⟩⟩⟩⟩
theorem k54_mkM (w : World) (base : Nat) (ok : Nat → Prop) (x : S54) {v2 : Value} (g2 : k90.R 90 w base ok v2 x.f2) : k54.M w base ok x [.string x.f0, .int .i64 x.f1, v2, .int .i64 x.f3, .int .i64 x.f4] := ⟨[.string x.f0], [.int .i64 x.f1, v2, .int .i64 x.f3, .int .i64 x.f4], rfl, rfl, ⟨[.int .i64 x.f1], [v2, .int .i64 x.f3, .int .i64 x.f4], rfl, rfl, ⟨[v2], [.int .i64 x.f3, .int .i64 x.f4], rfl, ⟨v2, rfl, g2⟩, ⟨[.int .i64 x.f3], [.int .i64 x.f4], rfl, rfl, rfl⟩⟩⟩⟩
theorem k54_mkF (W : World) (ok : Nat → Prop) (x : S54) {A2 : Option Addr} {c2 : Nat} (l2 : x.f2.length ≤ c2) (g2 : Kd.F k90 W ok A2 x.f2.length x.f2) : Kd.FK k54 W ok x [.string x.f0, .int .i64 x.f1, .slice A2 x.f2.length c2, .int .i64 x.f3, .int .i64 x.f4] := fun W2 hW => k54_mk W2 x l2 (g2 W2 hW)
def rd_T54 (xs : List S54) (i : Int) : S54 := xs.getD i.toNat z54
theorem at_T54 {w : World} {A : Option Addr} {n : Nat} {xs : List S54} (h : Kd.C k54 w A n xs) (i : Int) (h0 : 0 ≤ i) (h1 : i < n) : ∃ ad A2 c2, A = some ad ∧ w.cell? (ad.add (i.toNat * 5)) = some (.string (rd_T54 xs i).f0) ∧ w.cell? ⟨(ad.add (i.toNat * 5)).block, (ad.add (i.toNat * 5)).off + 1, none⟩ = some (.int .i64 (rd_T54 xs i).f1) ∧ w.cell? ⟨(ad.add (i.toNat * 5)).block, (ad.add (i.toNat * 5)).off + 2, none⟩ = some (.slice A2 (rd_T54 xs i).f2.length c2) ∧ w.cell? ⟨(ad.add (i.toNat * 5)).block, (ad.add (i.toNat * 5)).off + 3, none⟩ = some (.int .i64 (rd_T54 xs i).f3) ∧ w.cell? ⟨(ad.add (i.toNat * 5)).block, (ad.add (i.toNat * 5)).off + 4, none⟩ = some (.int .i64 (rd_T54 xs i).f4) ∧ (rd_T54 xs i).f2.length ≤ c2 ∧ k90.C w A2 (rd_T54 xs i).f2.length (rd_T54 xs i).f2 := by
 obtain ⟨ad, c, e, _, hK, hc0⟩ := Kd.C_get h z54 i h0 h1
 have hc : ∀ j u, c[j]? = some u → w.cell? (ad.add (i.toNat * 5 + j)) = some u := hc0
 obtain ⟨A2, c2, rfl, l2, g2⟩ := k54_open hK
 exact ⟨ad, A2, c2, e, hc 0 _ rfl, by rw [← add_field _ _ 1 (by omega)]; exact hc 1 _ rfl, by rw [← add_field _ _ 2 (by omega)]; exact hc 2 _ rfl, by rw [← add_field _ _ 3 (by omega)]; exact hc 3 _ rfl, by rw [← add_field _ _ 4 (by omega)]; exact hc 4 _ rfl, l2, g2⟩
end Go.Proofs.YtfglcfbcdhjcdaaDoor.Q

namespace Go.Proofs.YtfglcfbcdhjcdaaDoor.Q
open Go.RowKit Go.Proofs.YtfglcfbcdhjcdaaDoorW.PrintWords
set_option linter.unusedVariables false
set_option linter.unusedSimpArgs false
theorem bcell {W w1 : World} (hb : Below W.heap.size W w1) : (∀ b o, b < W.heap.size → w1.cell? ⟨b, o, none⟩ = W.cell? ⟨b, o, none⟩) ∧ (∀ b o, b < W.heap.size → w1.frozen? ⟨b, o, none⟩ = W.frozen? ⟨b, o, none⟩) :=
 ⟨fun b o h => hb.cell (p := ⟨b, o, none⟩) h, fun b o h => hb.frozen (p := ⟨b, o, none⟩) h⟩
section
variable {α : Type} {P : Program} {ops : Array Oper} {rest : List Oper} {o : Oper} {a : Act} {Q : Exit → Act → World → Prop}
theorem Kd.R_make0 (d : Kd α) {w0 W : World} (base e : Nat) (hgd : o.guard = none) {N : Tmp} (hd : o.dst = some N) (t : TypeId) (x y : Operand) (ho : o.op = .makeSlice t x y) (n : Int) (hx : a.eval x = .int .i64 0) (hy : a.eval y = .int .i64 n)
  (ht : P.underlying t = some (.slice e)) (z : Value) (bytes : Nat) (hinfo : (P.info? e).map (fun i => (i.zero, i.size, i.bytes)) = some (some z, d.sz, bytes)) (hz : z.cells.size = d.sz) (hs0 : 0 < d.sz) (hb0 : 0 < bytes)
  (z0 : α) {ok okp : Nat → Prop} (hzero : d.M W base okp z0 z.cells.toList) (hok : ∀ k, okp k → ok k) (hfresh : ok W.heap.size) (h0 : 0 ≤ n) (hl : n.toNat * bytes ≤ 281474976710656) (HB : Below base w0 W) (hbase : base ≤ W.heap.size)
  (h : ∀ v1 w1, d.R e w1 base ok v1 ([] : List α) → Below base w0 w1 → W.grownBy w1 none → (∃ b, v1.ownBlock = some b ∧ W.heap.size ≤ b) → wpList P ops Q rest (a.put o.dst v1) w1) : wpList P ops Q (o :: rest) a W := by
 obtain ⟨m, rfl⟩ := Int.eq_ofNat_of_zero_le h0
 simp only [Int.toNat_natCast] at hl
 obtain ⟨i0, hi, hzz⟩ := Option.map_eq_some_iff.1 hinfo
 simp only [Prod.mk.injEq] at hzz
 obtain ⟨hz0, hz1, hz2⟩ := hzz
 have hm : m ≤ 281474976710656 := Nat.le_trans (Nat.le_mul_of_pos_right _ hb0) hl
 have hr := run_make (P := P) W t e i0 z ht hi hz0 .i64 .i64 0 (m : Int) (by omega) (by omega)
  (by
   have h3 : ((i0.bytes * m : Nat) : Int) ≤ 281474976710656 := by rw [hz2, Nat.mul_comm]; omega
   rwa [Int.natCast_mul] at h3) (by omega)
 simp only [Int.toNat_natCast, Int.toNat_zero] at hr
 rw [hz1] at hr
 have hrun : (execOp a.eval o).run P W = .ok (.value (.slice (some ⟨W.heap.size, 0, none⟩) 0 m)) (W.alloc (.cells (madeCells z.cells (m * d.sz)) e)) := by
  simp [execOp, ho, hx, hy, hr]
 refine Kd.event_run hgd hrun (h _ _ ⟨fun k hk => ?_, [], ?_, ?_⟩ (HB.alloc hbase _) (World.grownBy_alloc W _ none) ⟨W.heap.size, by simp [Value.ownBlock], Nat.le_refl _⟩)
 ·have : W.heap.size = k := by simpa [Value.ownBlock] using hk
  subst this
  exact hfresh
 ·refine ⟨by simp, .inr ⟨W.heap.size, m, madeCells z.cells (m * d.sz), rfl, hbase, heap_alloc_new _ _, Nat.zero_le _, by simp only [maxLen]; omega, by rw [size_madeCells], by simp⟩⟩
 ·exact Reps.none _ _
end
end Go.Proofs.YtfglcfbcdhjcdaaDoor.Q

namespace Go.Proofs.YtfglcfbcdhjcdaaDoor.Q
open Go.RowKit Go.Proofs.YtfglcfbcdhjcdaaDoorW.PrintWords Go.Proofs.YtfglcfbcdhjcdaaDoorW.PrintLast Go.Proofs.YtfglcfbcdhjcdaaDoorW.PrintMore
set_option linter.unusedVariables false
set_option linter.unusedSimpArgs false
def cmpS (a b : ByteArray) : Int := if Op.bytesLess a.toList b.toList = true then -1 else if a.toList = b.toList then 0 else 1
theorem cmpS.calls (a b : ByteArray) (w : World) : Calls Tryd.prog 100 #[.string a, .string b] w fun e w' => e = .returned (.int .i64 (cmpS a b)) ∧ w = w' := by
 unfold cmpS
 by_cases h1 : Op.bytesLess a.toList b.toList = true
 ·rw [if_pos h1]
  go_enter Tryd.func100, Tryd.ntmps100
  go_wp2
  go_ret
  exact ⟨rfl, rfl⟩
 ·rw [if_neg h1]
  have h1b : Op.bytesLess a.toList b.toList = false := by simpa using h1
  clear h1
  by_cases h2 : a.toList = b.toList
  ·rw [if_pos h2]
   have h2b : (a.toList == b.toList) = true := by simpa using h2
   clear h2
   go_enter Tryd.func100, Tryd.ntmps100
   go_wp2
   go_ret
   exact ⟨rfl, rfl⟩
  ·rw [if_neg h2]
   have h2b : (a.toList == b.toList) = false := by simpa using h2
   clear h2
   go_enter Tryd.func100, Tryd.ntmps100
   go_wp2
   go_ret
   exact ⟨rfl, rfl⟩
theorem groupFn.calls (x g p : ByteArray) (w : World) :
  Calls Tryd.prog 99 #[.agg #[.string x, .string g], .string p] w fun e w' => e = .returned (.int .i64 (cmpS x p)) ∧ Below w.heap.size w w' := by
 go_enter Tryd.func99, Tryd.ntmps99
 go_wp2_with (go_at_call 100; refine (cmpS.calls _ _ _).mono ?_; rintro e w' ⟨rfl, rfl⟩)
 go_ret
 exact ⟨rfl, (Below.refl _ _).alloc (Nat.le_refl _) _⟩
def bsGo (lt : Nat → Bool) : Nat → Nat → Nat → Nat
 | 0, i, _ => i
 | f + 1, i, j => if i < j then (if lt ((i + j) / 2) then bsGo lt f ((i + j) / 2 + 1) j else bsGo lt f i ((i + j) / 2)) else i
theorem bsGo_rounds (lt : Nat → Bool) : ∀ (f f' i j : Nat), j - i < f → j - i < f' → bsGo lt f i j = bsGo lt f' i j := by
 intro f
 induction f with
 | zero => intro f' i j h; omega
 | succ f ih =>
  intro f' i j h h'
  obtain ⟨f', rfl⟩ : ∃ m, f' = m + 1 := ⟨f' - 1, by omega⟩
  unfold bsGo
  split
  ·split
   ·exact ih _ _ _ (by omega) (by omega)
   ·exact ih _ _ _ (by omega) (by omega)
  ·rfl
theorem bsGo_le (lt : Nat → Bool) : ∀ (f i j : Nat), i ≤ j → i ≤ bsGo lt f i j ∧ bsGo lt f i j ≤ j := by
 intro f
 induction f with
 | zero => intro i j h; unfold bsGo; omega
 | succ f ih =>
  intro i j h
  unfold bsGo
  split
  ·split
   ·have := ih ((i + j) / 2 + 1) j (by omega); omega
   ·have := ih i ((i + j) / 2) (by omega); omega
  ·omega
def labelLt (l : List S90) (p : ByteArray) (h : Nat) : Bool := decide (cmpS (rd_T90 l h).f0 p < 0)
def labelAt (l : List S90) (p : ByteArray) : Nat := bsGo (labelLt l p) (l.length + 1) 0 l.length
def labelIs (l : List S90) (p : ByteArray) : Bool := decide (labelAt l p < l.length) && (cmpS (rd_T90 l (labelAt l p)).f0 p == 0)
def groupOf (l : List S90) (p : ByteArray) : ByteArray := if labelIs l p = true then (rd_T90 l (labelAt l p)).f1 else p
set_option maxHeartbeats 2000000 in
set_option maxRecDepth 100000 in
theorem groupBs.calls (A : Option Addr) (c : Nat) (l : List S90) (p : ByteArray) (w : World) (hr : Kd.C k90 w A l.length l) (hle : l.length ≤ 100000) :
  Calls Tryd.prog 98 #[.slice A l.length c, .string p, .func (.func 99) #[] #[]] w fun e w' => e = .returned (.tuple #[.int .i64 (labelAt l p), .bool (labelIs l p)]) ∧ Below w.heap.size w w' := by
 have HR := Aside0.mk hr
 clear hr
 generalize hn : l.length = n at *
 have HN := Aside0.mk hn
 clear hn
 go_enter Tryd.func98, Tryd.ntmps98
 go_wp2
 go_loopg [9, 10] n (fun gg s9 s10 wr => ∃ i j : Nat, i ≤ j ∧ j ≤ n ∧ j - i ≤ gg ∧ s9 = .int .i64 i ∧ s10 = .int .i64 j ∧ Aside0 (Below w.heap.size w wr) ∧ Aside0 (bsGo (labelLt l p) (j - i + 1) i j = labelAt l p))
 case atStart => exact ⟨0, n, Nat.zero_le _, Nat.le_refl _, by omega, rfl, rfl, ⟨Below.refl _ w⟩, ⟨by unfold labelAt; rw [HN.out]; rfl⟩⟩
 case round =>
  obtain ⟨i, j, hij, hjn, hg, rfl, rfl, BW, HA⟩ := hrel
  by_cases hlt : i < j
  ·have hh : (i + j) / 2 < n := by omega
   obtain ⟨ad, rfl, hc0, hc1⟩ := at_T90 (Kd.C_below HR.out BW.out) (((i + j) / 2 : Nat) : Int) (by omega) (by omega)
   simp only [Int.toNat_natCast] at hc0 hc1
   have b1 : 0 ≤ ((i : Int) + (j : Int)) / 2 := by omega
   have b2 : ((i : Int) + (j : Int)) / 2 < (n : Int) := by omega
   have HL : Aside0 (labelLt l p ((i + j) / 2) = decide (cmpS (rd_T90 l (((i + j) / 2 : Nat) : Int)).f0 p < 0)) := ⟨rfl⟩
   have hcall := groupFn.calls (rd_T90 l (((i + j) / 2 : Nat) : Int)).f0 (rd_T90 l (((i + j) / 2 : Nat) : Int)).f1 p wr
   have HS : Aside0 (bsGo (labelLt l p) (j - i + 1) i j = if labelLt l p ((i + j) / 2) then bsGo (labelLt l p) (j - ((i + j) / 2 + 1) + 1) ((i + j) / 2 + 1) j else bsGo (labelLt l p) ((i + j) / 2 - i + 1) i ((i + j) / 2)) := ⟨by
    rw [bsGo, if_pos hlt]
    split
    ·exact bsGo_rounds _ _ _ _ _ (by omega) (by omega)
    ·exact bsGo_rounds _ _ _ _ _ (by omega) (by omega)⟩
   generalize rd_T90 l (((i + j) / 2 : Nat) : Int) = s at *
   generalize hq : decide (cmpS s.f0 p < 0) = q at *
   generalize cmpS s.f0 p = z at *
   have HQ := Aside0.mk hq
   cases q with
   | true =>
    have hz : z < 0 := by simpa using hq
    clear hq
    go_wp2_with (go_at_call 99; refine hcall.mono ?_; rintro e w' ⟨rfl, hb'⟩)
    go_roundg (j - ((i + j) / 2 + 1))
    case measure => omega
    case rel => exact ⟨(i + j) / 2 + 1, j, by omega, hjn, Nat.le_refl _, by go_num, rfl, ⟨BW.out.trans (hb'.mono BW.out.size)⟩, ⟨by have e := HS.out; rw [HL.out, if_pos rfl] at e; rw [← HA.out, e]⟩⟩
   | false =>
    have hz : ¬ z < 0 := by simpa using hq
    clear hq
    go_wp2_with (go_at_call 99; refine hcall.mono ?_; rintro e w' ⟨rfl, hb'⟩)
    go_roundg ((i + j) / 2 - i)
    case measure => omega
    case rel => exact ⟨i, (i + j) / 2, by omega, by omega, Nat.le_refl _, rfl, by go_num, ⟨BW.out.trans (hb'.mono BW.out.size)⟩, ⟨by have e := HS.out; rw [HL.out] at e; simp only [Bool.false_eq_true, if_false] at e; rw [← HA.out, e]⟩⟩
  ·obtain rfl : i = j := by omega
   have HI : Aside0 (labelAt l p = i) := ⟨by rw [← HA.out]; unfold bsGo; rw [if_neg hlt]⟩
   clear hlt hij
   by_cases hin : i < n
   ·obtain ⟨ad, rfl, hc0, hc1⟩ := at_T90 (Kd.C_below HR.out BW.out) (i : Int) (by omega) (by omega)
    simp only [Int.toNat_natCast] at hc0 hc1
    have hcall := groupFn.calls (rd_T90 l (i : Int)).f0 (rd_T90 l (i : Int)).f1 p wr
    have HF : Aside0 (labelIs l p = (cmpS (rd_T90 l (i : Int)).f0 p == 0)) := ⟨by unfold labelIs; rw [HI.out, HN.out, decide_eq_true hin, Bool.true_and]⟩
    generalize rd_T90 l (i : Int) = s at *
    generalize cmpS s.f0 p = z at *
    have hlt1 : (i : Int) < (n : Int) := by omega
    go_wp2_with (go_at_call 99; refine hcall.mono ?_; rintro e w' ⟨rfl, hb'⟩)
    go_ret2
    refine ⟨?_, BW.out.trans (hb'.mono BW.out.size)⟩
    rw [HI.out, HF.out]
    rfl
   ·have HF : Aside0 (labelIs l p = false) := ⟨by unfold labelIs; rw [HI.out, HN.out, decide_eq_false hin, Bool.false_and]⟩
    have hlt1 : decide ((i : Int) < (n : Int)) = false := by simp; omega
    go_wp2
    go_ret2
    refine ⟨?_, BW.out⟩
    rw [HI.out, HF.out]
    rfl
theorem labelAt_le (l : List S90) (p : ByteArray) : labelAt l p ≤ l.length := (bsGo_le _ _ _ _ (Nat.zero_le _)).2
set_option maxHeartbeats 2000000 in
theorem scheme_group.calls (nm : ByteArray) (pre : Int) (A : Option Addr) (c : Nat) (l : List S90) (mi ce : Int) (p : ByteArray) (w : World) (hr : Kd.C k90 w A l.length l) (hle : l.length ≤ 100000) :
  Calls Tryd.prog 85 #[.agg #[.string nm, .int .i64 pre, .slice A l.length c, .int .i64 mi, .int .i64 ce], .string p] w fun e w' => e = .returned (.string (groupOf l p)) ∧ Below w.heap.size w w' := by
 have hat := labelAt_le l p
 have hcon : ∀ W : World, Below w.heap.size w W → _ := fun W hb => groupBs.calls A c l p W (Kd.C_below hr hb) hle
 have HCON := Aside0.mk hcon
 clear hcon
 have HR := Aside0.mk hr
 clear hr
 unfold groupOf
 by_cases hq : labelIs l p = true
 ·rw [if_pos hq]
  have hlt : labelAt l p < l.length := by
   unfold labelIs at hq
   rw [Bool.and_eq_true] at hq
   simpa using hq.1
  rw [hq] at HCON
  have hcw := fun W (hb : Below w.heap.size w W) => at_T90 (Kd.C_below HR.out hb) (labelAt l p : Int) (by omega) (by omega)
  have HC := Aside0.mk hcw
  clear hcw hq
  generalize rd_T90 l (labelAt l p : Int) = s at *
  generalize labelAt l p = i at *
  go_enter Tryd.func85, Tryd.ntmps85
  go_wp2_with (go_at_call 98; refine (HCON.out _ ((Below.refl _ _).alloc (Nat.le_refl _) _)).mono ?_; rintro e w' ⟨rfl, hb'⟩; have hbw := Aside0.mk (below_then ((Below.refl w.heap.size w).alloc (Nat.le_refl _) _) (by simp) hb'); obtain ⟨hcl, hfr⟩ := bcell hb'; obtain ⟨ad, rfl, hc0, hc1⟩ := HC.out w' hbw.out; simp only [Int.toNat_natCast] at hc0 hc1; clear hb' HCON HC)
  go_ret
  exact ⟨rfl, hbw.out⟩
 ·rw [if_neg hq]
  have hq' : labelIs l p = false := by simpa using hq
  rw [hq'] at HCON
  clear hq hq'
  generalize labelAt l p = i at *
  go_enter Tryd.func85, Tryd.ntmps85
  go_wp2_with (go_at_call 98; refine (HCON.out _ ((Below.refl _ _).alloc (Nat.le_refl _) _)).mono ?_; rintro e w' ⟨rfl, hb'⟩; have hbw := Aside0.mk (below_then ((Below.refl w.heap.size w).alloc (Nat.le_refl _) _) (by simp) hb'); obtain ⟨hcl, hfr⟩ := bcell hb'; clear hb' HCON)
  go_ret
  exact ⟨rfl, hbw.out⟩
end Go.Proofs.YtfglcfbcdhjcdaaDoor.Q

namespace Go.Proofs
open Go.Shelf
def Tryd.lays160_ren : Go.Shelf.Ren := ⟨fun | 160 => 82 | 232 => 92 | 231 => 91 | 227 => 93 | 234 => 95 | 233 => 94 | 236 => 97 | 235 => 96 | 228 => 106 | 271 => 109 | 151 => 108 | 197 => 107 | 120 => 116 | 152 => 115 | 260 => 114 | 137 => 117 | 119 => 118 | 224 => 119 | 225 => 120 | 217 => 121 | 266 => 122 | n => n, fun | 9 => 9 | 4 => 4 | 3 => 3 | 5 => 5 | 117 => 128 | 116 => 127 | 0 => 0 | 124 => 131 | 21 => 21 | 105 => 139 | 46 => 84 | 119 => 144 | 139 => 147 | 138 => 146 | n => n, fun | 3 => 0 | 4 => 1 | n => n⟩
theorem Tryd.lays160 : Go.Proofs.Lays.n160 Tryd.prog Tryd.lays160_ren := {
 mixed := by kernel_rfl
 f119 := Tryd.func118.trans (congrArg some (by kernel_rfl))
 f120 := Tryd.func116.trans (congrArg some (by kernel_rfl))
 f137 := Tryd.func117.trans (congrArg some (by kernel_rfl))
 f151 := Tryd.func108.trans (congrArg some (by kernel_rfl))
 f152 := Tryd.func115.trans (congrArg some (by kernel_rfl))
 f160 := Tryd.func82.trans (congrArg some (by kernel_rfl))
 f197 := Tryd.func107.trans (congrArg some (by kernel_rfl))
 f217 := Tryd.func121.trans (congrArg some (by kernel_rfl))
 f224 := Tryd.func119.trans (congrArg some (by kernel_rfl))
 f225 := Tryd.func120.trans (congrArg some (by kernel_rfl))
 f227 := Tryd.func93.trans (congrArg some (by kernel_rfl))
 f228 := Tryd.func106.trans (congrArg some (by kernel_rfl))
 f231 := Tryd.func91.trans (congrArg some (by kernel_rfl))
 f232 := Tryd.func92.trans (congrArg some (by kernel_rfl))
 f233 := Tryd.func94.trans (congrArg some (by kernel_rfl))
 f234 := Tryd.func95.trans (congrArg some (by kernel_rfl))
 f235 := Tryd.func96.trans (congrArg some (by kernel_rfl))
 f236 := Tryd.func97.trans (congrArg some (by kernel_rfl))
 f260 := Tryd.func114.trans (congrArg some (by kernel_rfl))
 f266 := Tryd.func122.trans (congrArg some (by kernel_rfl))
 f271 := Tryd.func109.trans (congrArg some (by kernel_rfl))
 t0 := Tryd.underlying0
 a0 := Tryd.isAgg0
 z0 := Tryd.sizeOf0
 v0 := Tryd.zeroValue0
 t3 := Tryd.underlying3
 a3 := Tryd.isAgg3
 z3 := Tryd.sizeOf3
 v3 := Tryd.zeroValue3
 t4 := Tryd.underlying4
 a4 := Tryd.isAgg4
 z4 := Tryd.sizeOf4
 v4 := Tryd.zeroValue4
 t5 := Tryd.underlying5
 a5 := Tryd.isAgg5
 z5 := Tryd.sizeOf5
 v5 := Tryd.zeroValue5
 t9 := Tryd.underlying9
 a9 := Tryd.isAgg9
 z9 := Tryd.sizeOf9
 v9 := Tryd.zeroValue9
 t21 := Tryd.underlying21
 a21 := Tryd.isAgg21
 z21 := Tryd.sizeOf21
 v21 := Tryd.zeroValue21
 t46 := Tryd.underlying84
 a46 := Tryd.isAgg84
 z46 := Tryd.sizeOf84
 v46 := Tryd.zeroValue84
 t105 := Tryd.underlying139
 a105 := Tryd.isAgg139
 z105 := Tryd.sizeOf139
 v105 := Tryd.zeroValue139
 t116 := Tryd.underlying127
 a116 := Tryd.isAgg127
 z116 := Tryd.sizeOf127
 t117 := Tryd.underlying128
 a117 := Tryd.isAgg128
 z117 := Tryd.sizeOf128
 v117 := Tryd.zeroValue128
 t119 := Tryd.underlying144
 a119 := Tryd.isAgg144
 z119 := Tryd.sizeOf144
 t124 := Tryd.underlying131
 a124 := Tryd.isAgg131
 z124 := Tryd.sizeOf131
 v124 := Tryd.zeroValue131
 t138 := Tryd.underlying146
 a138 := Tryd.isAgg146
 z138 := Tryd.sizeOf146
 v138 := Tryd.zeroValue146
 t139 := Tryd.underlying147
 a139 := Tryd.isAgg147
 z139 := Tryd.sizeOf147
 v139 := Tryd.zeroValue147
 g3 := by kernel_rfl
 g4 := by kernel_rfl }
end Go.Proofs

namespace Go.Proofs.YtfglcfbcdhjcdaaDoor.Q
open Go.RowKit Go.Proofs.YtfglcfbcdhjcdaaDoorW.PrintWords Go.Proofs.YtfglcfbcdhjcdaaDoorW.PrintLast Go.Proofs.YtfglcfbcdhjcdaaDoorW.PrintMore
set_option linter.unusedVariables false
set_option linter.unusedSimpArgs false
def plainByte (c : UInt8) : Bool := (decide (65 ≤ c.toNat) && decide (c.toNat ≤ 90)) || (decide (48 ≤ c.toNat) && decide (c.toNat ≤ 57))
def plainB (s : ByteArray) : Bool := s.data.toList.all plainByte
def plainSet : List UInt8 := [65, 66, 67, 68, 69, 70, 71, 72, 73, 74, 75, 76, 77, 78, 79, 80, 81, 82, 83, 84, 85, 86, 87, 88, 89, 90, 48, 49, 50, 51, 52, 53, 54, 55, 56, 57]
theorem plainSet_is (c : UInt8) : plainSet.contains c = plainByte c := by
 have h : ∀ n : Fin 256, plainSet.contains (UInt8.ofNat n.val) = plainByte (UInt8.ofNat n.val) := by decide +kernel
 have := h ⟨c.toNat, c.toNat_lt⟩
 simpa using this
theorem dropWhile_nil {α : Type} (p : α → Bool) : ∀ l : List α, (l.dropWhile p = []) ↔ l.all p = true
 | [] => by simp
 | x :: xs => by
  rw [List.dropWhile_cons, List.all_cons]
  cases hx : p x
  ·simp
  ·simpa using dropWhile_nil p xs
theorem trim_plain (s : ByteArray) : (Lib.trimS s.data.toList plainSet = []) ↔ plainB s = true := by
 have hf : (fun c => plainSet.contains c) = plainByte := funext plainSet_is
 unfold Lib.trimS Lib.trimLeftS Lib.trimRightS plainB
 rw [hf, dropWhile_nil]
 generalize s.data.toList = l
 rw [List.all_reverse]
 constructor
 ·intro h
  have h2 : l.reverse.dropWhile plainByte = [] := by
   rcases hd : l.reverse.dropWhile plainByte with _ | ⟨x, xs⟩
   ·rfl
   ·exfalso
    have h3 := List.head_dropWhile_not (p := plainByte) (w := by rw [hd]; simp)
    rw [hd, List.all_cons, Bool.and_eq_true] at h
    simp [hd] at h3
    rw [h.1] at h3
    cases h3
  rw [dropWhile_nil, List.all_reverse] at h2
  exact h2
 ·intro h
  have h2 : l.reverse.dropWhile plainByte = [] := by rw [dropWhile_nil, List.all_reverse]; exact h
  rw [h2]
  rfl
def scheme_plain.f (a0 : ByteArray) : Option (Bool) := if a0.size ≤ 9223372036854775807 then some (plainB a0) else none
theorem scheme_plain.calls (a0 : ByteArray) (r : Bool) (w : World) (h : scheme_plain.f a0 = some r) :
  Calls Tryd.prog 68 #[.string a0] w fun e w' => e = .returned (.bool r) ∧ Below w.heap.size w w' := by
 unfold scheme_plain.f at h
 split at h
 case isFalse => cases h
 rename_i hs
 obtain rfl := Option.some.inj h
 clear h
 have hcon := Any.strings_Trim_laid Tryd.lays160 (by kernel_rfl) a0 ⟨#[65, 66, 67, 68, 69, 70, 71, 72, 73, 74, 75, 76, 77, 78, 79, 80, 81, 82, 83, 84, 85, 86, 87, 88, 89, 90, 48, 49, 50, 51, 52, 53, 54, 55, 56, 57]⟩ w hs (by decide) (Go.Proofs.ascii_of_all (by decide))
 change Calls Tryd.prog 82 _ _ (fun e w' => e = .returned (.string ⟨(Lib.trimS a0.data.toList plainSet).toArray⟩) ∧ Below w.heap.size w w') at hcon
 have ht := trim_plain a0
 generalize Lib.trimS a0.data.toList plainSet = r at hcon ht
 have ht2 : (⟨r.toArray⟩ : ByteArray).toList.isEmpty = plainB a0 := by
  rw [Lib.toList_data, Bool.eq_iff_iff, ← ht]
  simp
 generalize plainB a0 = q at ht2 ⊢
 generalize (⟨r.toArray⟩ : ByteArray) = s at hcon ht2
 clear ht
 have HT := Aside0.mk ht2
 clear ht2
 go_enter Tryd.func68, Tryd.ntmps68
 go_wp2_with (go_at_call 82; refine hcon.mono ?_; rintro e w' ⟨rfl, hB⟩)
 go_ret
 exact ⟨by rw [← HT.out]; rfl, hB⟩
end Go.Proofs.YtfglcfbcdhjcdaaDoor.Q

namespace Go.Proofs.YtfglcfbcdhjcdaaDoor.Q
open Go.RowKit Go.Proofs.YtfglcfbcdhjcdaaDoorW.PrintWords Go.Proofs.YtfglcfbcdhjcdaaDoorW.PrintLast Go.Proofs.YtfglcfbcdhjcdaaDoorW.PrintMore
set_option linter.unusedVariables false
set_option linter.unusedSimpArgs false
abbrev Lv := S54
abbrev Lb := S90
def headOf (s : ByteArray) (n : Int) : ByteArray := s.extract 0 n.toNat
def metAt (l : Lv) (all : List ByteArray) (g : ByteArray) : Option Nat := all.findIdx? (fun q => decide (groupOf l.f2 q = g))
def nestFits (l nx : Lv) (all : List ByteArray) (p : ByteArray) : Bool :=
 match metAt l all (groupOf l.f2 p) with
 | none => true
 | some i => (groupOf nx.f2 (headOf p nx.f1)).toList == (groupOf nx.f2 (headOf (all.getD i ByteArray.empty) nx.f1)).toList
def nestMet (l : Lv) (all : List ByteArray) (p : ByteArray) : List ByteArray :=
 match metAt l all (groupOf l.f2 p) with
 | none => all ++ [p]
 | some _ => all
def nestGo (l nx : Lv) : List Lb → List ByteArray → Bool
 | [], _ => true
 | x :: xs, all =>
  if nestFits l nx all x.f0 then
   if ((x.f1.size : Int) == l.f1) && plainB x.f1 then
    if nestFits l nx (nestMet l all x.f0) x.f1 then nestGo l nx xs (nestMet l (nestMet l all x.f0) x.f1) else false
   else nestGo l nx xs (nestMet l all x.f0)
  else false
def nestedB (l nx : Lv) : Bool := nestGo l nx l.f2 []
structure NestOk (l nx : Lv) : Prop where
 n0 : 0 ≤ nx.f1
 n1 : nx.f1 ≤ l.f1
 l1 : l.f1 ≤ 100
 ll : l.f2.length ≤ 200
 nl : nx.f2.length ≤ 200
 pre : ∀ x ∈ l.f2, (x.f0.size : Int) = l.f1
 grp : ∀ x ∈ l.f2, x.f1.size ≤ 100
def MetOk (l : Lv) (all : List ByteArray) : Prop := ∀ p ∈ all, (p.size : Int) = l.f1
theorem MetOk.met {l : Lv} {all : List ByteArray} {p : ByteArray} (h : MetOk l all) (hp : (p.size : Int) = l.f1) : MetOk l (nestMet l all p) := by
 unfold nestMet
 split
 ·intro q hq
  rcases List.mem_append.1 hq with hq | hq
  ·exact h q hq
  ·obtain rfl := List.mem_singleton.1 hq
   exact hp
 ·exact h
theorem groupOf_size {l nx : Lv} (h : NestOk l nx) {p : ByteArray} (hp : p.size ≤ 100) : (groupOf l.f2 p).size ≤ 100 := by
 unfold groupOf
 split
 ·rename_i hq
  have hlt : labelAt l.f2 p < l.f2.length := by
   unfold labelIs at hq
   rw [Bool.and_eq_true] at hq
   simpa using hq.1
  have : rd_T90 l.f2 (labelAt l.f2 p : Int) ∈ l.f2 := by
   unfold rd_T90
   rw [Int.toNat_natCast, List.getD_eq_getElem?_getD, List.getElem?_eq_getElem hlt]
   exact List.getElem_mem hlt
  exact h.grp _ this
 ·exact hp
theorem nestMet_len {l : Lv} {all : List ByteArray} {p : ByteArray} : (nestMet l all p).length ≤ all.length + 1 := by
 unfold nestMet
 split
 ·simp
 ·omega
theorem metAt_lt {l : Lv} {all : List ByteArray} {g : ByteArray} {i : Nat} (h : metAt l all g = some i) : i < all.length := by
 unfold metAt at h
 obtain ⟨h, _⟩ := List.findIdx?_eq_some_iff_getElem.1 h
 exact h
theorem metAt_snoc {l : Lv} {all : List ByteArray} {p g : ByteArray} (h : metAt l all (groupOf l.f2 p) = none) :
  metAt l (all ++ [p]) g = if g = groupOf l.f2 p then some all.length else metAt l all g := by
 unfold metAt at *
 rw [List.findIdx?_append]
 by_cases e : g = groupOf l.f2 p
 ·subst e
  rw [if_pos rfl, h]
  simp
 ·rw [if_neg e]
  have : ([p].findIdx? fun q => decide (groupOf l.f2 q = g)) = none := by
   simp
   exact fun h => e h.symm
  rw [this]
  simp
end Go.Proofs.YtfglcfbcdhjcdaaDoor.Q

namespace Go.Proofs.YtfglcfbcdhjcdaaDoor.Q
open Go Go.RowKit Go.Maps Go.WideMaps
set_option linter.unusedVariables false
set_option linter.unusedSimpArgs false
structure MapKey (P : Program) (K : TypeId) (α : Type) where
 keyed : Keyed P K
 enc : α → Value
 lit : α → Lit
 ok : α → Prop
 key : ∀ a, ok a → keyOf P K (enc a) = some (lit a)
 inj : ∀ a b, ok a → ok b → lit a = lit b → a = b
def MapInt {P : Program} {K : TypeId} {α : Type} (M : MapKey P K α) (E : TypeId) (w : World) (b n : Nat) (f : α → Option Int) : Prop :=
 ∃ D : DataW Unit, w.ownsMap P K (plainElem P E) b n D ∧ IsMap D ∧ ∀ a, M.ok a → Maps.has D (M.lit a) = (f a).isSome ∧ ∀ v, f a = some v → ∀ z, D.atKey (M.lit a) z = .lit (.int .i64 v)
section
variable {P : Program} {K E : TypeId} {α : Type} {M : MapKey P K α} {w w1 : World} {b n : Nat} {f : α → Option Int}
theorem MapInt.made (M : MapKey P K α) (E : TypeId) (w : World) : MapInt M E (w.alloc (.map #[] 0)) w.heap.size 0 (fun _ => none) :=
 ⟨.map [], World.ownsMap_made w P K _, isMap_empty, fun a _ => ⟨rfl, fun v h => by cases h⟩⟩
theorem MapInt.kept {row : Option Nat} (h : MapInt M E w b n f) (hg : w.grownBy w1 row) (hne : some b ≠ row) : MapInt M E w1 b n f := by
 obtain ⟨D, h1, h2, h3⟩ := h
 exact ⟨D, h1.kept hg hne, h2, h3⟩
theorem MapInt.below (h : MapInt M E w b n f) (hb : Below w.heap.size w w1) : MapInt M E w1 b n f :=
 h.kept (row := none) ⟨hb.os, hb.tape, hb.output, hb.size, fun i hi _ => hb.block i hi⟩ (by simp)
theorem MapInt.lt (h : MapInt M E w b n f) : b < w.heap.size := by
 obtain ⟨D, h1, _⟩ := h
 exact h1.lt
theorem MapInt.setCell (h : MapInt M E w b n f) {a : Addr} (ha : b ≠ a.block) (u : Value) : MapInt M E (w.setCell a u) b n f := by
 obtain ⟨D, h1, h2, h3⟩ := h
 exact ⟨D, h1.setCell ha u, h2, h3⟩
theorem atKey_default {D : DataW Unit} {k : Lit} (h : Maps.has D k = false) (z : DataW Unit) : D.atKey k z = z := Maps.atKey_of_not_has h z
theorem wpList_unguard {P : Program} {ops : Array Oper} {rest : List Oper} {o : Oper} {a : Act} {w : World} {Q : Exit → Act → World → Prop} (hw : Region.wanted o (yielded ops a.tmps) = true) (h : wpList P ops Q ({ o with guard := none } :: rest) a w) : wpList P ops Q (o :: rest) a w := by
 obtain ⟨d, op, ty, pos, af, g⟩ := o
 unfold wpList at h ⊢
 rw [if_pos hw]
 rw [if_pos (show Region.wanted { dst := d, op := op, type := ty, pos := pos, after := af, guard := none } (yielded ops a.tmps) = true from rfl)] at h
 exact h
theorem wpList_lookup_int {ops : Array Oper} {rest : List Oper} {o : Oper} {a : Act} {Q : Exit → Act → World → Prop} (hg : o.guard = none) (m x : Operand) (t : TypeId) (hop : o.op = Op.lookup t m x false)
  (ht : P.underlying t = some (.map K E)) (he : P.underlying E = some (.int .i64)) (hz : ∀ w, (zeroValue E).run P w = .ok (.int .i64 0) w) (b n : Nat) (f : α → Option Int)
  (hm : a.eval m = .map (some b)) (hown : MapInt M E w b n f) (y : α) (hy : M.ok y) (hx : a.eval x = M.enc y) (hK : wpList P ops Q rest (a.put o.dst (.int .i64 ((f y).getD 0))) w) : wpList P ops Q (o :: rest) a w := by
 obtain ⟨D, h1, h2, h3⟩ := hown
 refine wpList_lookup_own_int w hg m x t hop K E .i64 M.keyed ht he (hz w) b n D hm h1 (M.enc y) (M.lit y) hx (M.key y hy) ?_
 intro c hat _
 obtain ⟨h4, h5⟩ := h3 y hy
 have : c = (f y).getD 0 := by
  cases hf : f y with
  | none =>
   rw [hf] at h4
   rw [atKey_default h4] at hat
   injection hat with hat
   injection hat with _ hat
   exact hat.symm
  | some v =>
   rw [h5 v hf] at hat
   injection hat with hat
   injection hat with _ hat
   exact hat.symm
 rw [this]
 exact hK
theorem wpList_lookup_ok {ops : Array Oper} {rest : List Oper} {o : Oper} {a : Act} {Q : Exit → Act → World → Prop} (hg : o.guard = none) (m x : Operand) (t : TypeId) (hop : o.op = Op.lookup t m x true)
  (ht : P.underlying t = some (.map K E)) (he : P.underlying E = some (.int .i64)) (hz : ∀ w, (zeroValue E).run P w = .ok (.int .i64 0) w) (b n : Nat) (f : α → Option Int)
  (hm : a.eval m = .map (some b)) (hown : MapInt M E w b n f) (y : α) (hy : M.ok y) (hx : a.eval x = M.enc y) (hK : wpList P ops Q rest (a.put o.dst (.tuple #[.int .i64 ((f y).getD 0), .bool (f y).isSome])) w) : wpList P ops Q (o :: rest) a w := by
 obtain ⟨D, h1, h2, h3⟩ := hown
 refine wpList_lookup_own_ok_int w hg m x t hop K E .i64 M.keyed ht he (hz w) b n D hm h1 (M.enc y) (M.lit y) hx (M.key y hy) ?_
 intro c hat _
 obtain ⟨h4, h5⟩ := h3 y hy
 have : c = (f y).getD 0 := by
  cases hf : f y with
  | none =>
   rw [hf] at h4
   rw [atKey_default h4] at hat
   injection hat with hat
   injection hat with _ hat
   exact hat.symm
  | some v =>
   rw [h5 v hf] at hat
   injection hat with hat
   injection hat with _ hat
   exact hat.symm
 rw [this, h4]
 exact hK
theorem wpList_update_int {ops : Array Oper} {rest : List Oper} {o : Oper} {a : Act} {Q : Exit → Act → World → Prop} [DecidableEq α] (hg : o.guard = none) (m x v : Operand) (t : TypeId) (hop : o.op = Op.mapUpdate t m x v)
  (ht : P.underlying t = some (.map K E)) (he : P.underlying E = some (.int .i64)) (b n : Nat) (f : α → Option Int)
  (hm : a.eval m = .map (some b)) (hown : MapInt M E w b n f) (hn : n < 9223372036854775807) (y : α) (hy : M.ok y) (z : Int) (hz0 : -9223372036854775808 ≤ z) (hz1 : z ≤ 9223372036854775807) (hx : a.eval x = M.enc y) (hv : a.eval v = .int .i64 z)
  (hK : ∀ w', MapInt M E w' b (n + 1) (fun s => if s = y then some z else f s) → w.grownBy w' (some b) → wpList P ops Q rest (a.put o.dst undef) w') : wpList P ops Q (o :: rest) a w := by
 obtain ⟨D, h1, h2, h3⟩ := hown
 refine wpList_mapUpdate_own w hg m x v t hop K E M.keyed ht (plainElem P E) b n D hm h1 (by simpa [maxLen] using hn) (M.enc y) (.int .i64 z) (M.lit y) hx hv (M.key y hy) (.lit (.int .i64 z)) [] (plainElem_int he (WalkArith.wf_i64 ⟨hz0, hz1⟩)) ?_
 intro w' hown hg
 refine hK w' ⟨_, hown, h2.put _ _, fun s hs => ?_⟩ hg
 by_cases e : s = y
 ·subst e
  simp only [if_pos]
  refine ⟨Maps.has_put_same h2 (M.keyed.key (M.key s hs)) _, fun v hv z' => ?_⟩
  injection hv with hv
  subst hv
  exact Maps.atKey_put_same h2 (M.keyed.key (M.key s hs)) _ _
 ·simp only [if_neg e]
  have hne : M.lit s ≠ M.lit y := fun h => e (M.inj s y hs hy h)
  obtain ⟨h4, h5⟩ := h3 s hs
  refine ⟨?_, fun v hv z' => ?_⟩
  ·rw [Maps.has_put_other hne]; exact h4
  ·rw [Maps.atKey_put_other hne]; exact h5 v hv z'
end
def strKey {P : Program} {K : TypeId} (hk : P.underlying K = some .string) : MapKey P K ByteArray where
 keyed := string_keyed hk
 enc := .string
 lit s := .string s.data.toList
 ok s := s.size ≤ 9223372036854775807
 key s hs := keyOf_string_mk hk (by simpa [maxLen] using hs)
 inj a b _ _ h := by
  injection h with h
  rcases a with ⟨⟨a⟩⟩
  rcases b with ⟨⟨b⟩⟩
  simp at h
  subst h
  rfl
end Go.Proofs.YtfglcfbcdhjcdaaDoor.Q

namespace Go.Proofs.YtfglcfbcdhjcdaaDoor.Q
open Go.RowKit Go.Proofs.YtfglcfbcdhjcdaaDoorW.PrintWords Go.Proofs.YtfglcfbcdhjcdaaDoorW.PrintLast Go.Proofs.YtfglcfbcdhjcdaaDoorW.PrintMore
set_option linter.unusedVariables false
set_option linter.unusedSimpArgs false
theorem zeroInt (w : World) : (zeroValue 3).run Tryd.prog w = .ok (.int .i64 0) w := by kernel_rfl
noncomputable abbrev keyS : MapKey Tryd.prog 9 ByteArray := strKey Tryd.underlying9
theorem infoStr : (Tryd.prog.info? 9).map (fun i => (i.zero, i.size, i.bytes)) = some (some (.string ⟨#[]⟩), 1, 16) := by kernel_rfl
def levelCells (l : Lv) (A : Option Addr) (c : Nat) : Array Value := #[.string l.f0, .int .i64 l.f1, .slice A l.f2.length c, .int .i64 l.f3, .int .i64 l.f4]
def metMap (l : Lv) (all : List ByteArray) (g : ByteArray) : Option Int := (metAt l all g).map Int.ofNat
structure NestInv (w : World) (l nx : Lv) (A : Option Addr) (c : Nat) (An : Option Addr) (cn : Nat) (all : List ByteArray) (W : World) : Prop where
 bel : Below w.heap.size w W
 size : w.heap.size + 5 ≤ W.heap.size
 bl : W.heap[w.heap.size]? = some (.cells (levelCells l A c) 54 (0, 0))
 bn : W.heap[w.heap.size + 1]? = some (.cells (levelCells nx An cn) 54 (0, 0))
 bm : W.heap[w.heap.size + 3]? = some (.cells #[.map (some (w.heap.size + 2))] 113 (0, 0))
 ba : ∃ v, W.heap[w.heap.size + 4]? = some (.cells #[v] 63 (0, 0)) ∧ Kd.R Kd.string 9 W (w.heap.size + 5) (fun _ => True) v all
 mp : MapInt keyS 3 W (w.heap.size + 2) all.length (metMap l all)
theorem NestInv.below {w : World} {l nx : Lv} {A : Option Addr} {c : Nat} {An : Option Addr} {cn : Nat} {all : List ByteArray} {W W1 : World} (h : NestInv w l nx A c An cn all W) (hb : Below W.heap.size W W1) : NestInv w l nx A c An cn all W1 := by
 obtain ⟨h1, h2, h3, h4, h5, ⟨v, h6, h7⟩, h8⟩ := h
 exact ⟨h1.trans (hb.mono (by omega)), by have := hb.size; omega, (hb.block _ (by omega)).trans h3, (hb.block _ (by omega)).trans h4, (hb.block _ (by omega)).trans h5, ⟨v, (hb.block _ (by omega)).trans h6, Kd.R_below h7 hb⟩, h8.below hb⟩
theorem NestInv.push {w : World} {l nx : Lv} {A : Option Addr} {c : Nat} {An : Option Addr} {cn : Nat} {all : List ByteArray} {p : ByteArray} {w1 w2 w3 : World} {v3 : Value} {f : ByteArray → Option Int} (h : NestInv w l nx A c An cn all w1)
  (hm : MapInt keyS 3 w2 (w.heap.size + 2) (all.length + 1) f) (hf : f = metMap l (all ++ [p])) (hg : w1.grownBy w2 (some (w.heap.size + 2))) (hR : Kd.R Kd.string 9 w3 (w.heap.size + 5) (fun _ => True) v3 (all ++ [p])) (hB : Below (w.heap.size + 5) w2 w3) :
  NestInv w l nx A c An cn (all ++ [p]) (w3.setCell ⟨w.heap.size + 4, 0, none⟩ v3) := by
 subst hf
 obtain ⟨h1, h2, h3, h4, h5, ⟨v, h6, h7⟩, h8⟩ := h
 have s2 : w1.heap.size ≤ w2.heap.size := hg.size
 have s3 : w2.heap.size ≤ w3.heap.size := hB.size
 have b2 : ∀ k, k < w.heap.size + 5 → k ≠ w.heap.size + 2 → w3.heap[k]? = w1.heap[k]? := fun k hk hne => (hB.block k hk).trans (hg.block k (by omega) (fun e => hne (by injection e)))
 have hb4 : w3.heap[w.heap.size + 4]? = some (.cells #[v] 63 (0, 0)) := (b2 _ (by omega) (by omega)).trans h6
 have far : ∀ k, k ≠ w.heap.size + 4 → (w3.setCell ⟨w.heap.size + 4, 0, none⟩ v3).heap[k]? = w3.heap[k]? := fun k hk => Below.heap_setCell _ _ _ _ hk
 refine ⟨?_, ?_, ?_, ?_, ?_, ⟨v3, ?_, ?_⟩, ?_⟩
 ·exact ((h1.grown hg (by omega) (fun k hk => by injection hk with hk; omega)).trans (hB.mono (by omega))).setCell (by show w.heap.size ≤ w.heap.size + 4; omega) _
 ·simp only [World.setCell, Array.size_modify]; omega
 ·exact (far _ (by omega)).trans ((b2 _ (by omega) (by omega)).trans h3)
 ·exact (far _ (by omega)).trans ((b2 _ (by omega) (by omega)).trans h4)
 ·exact (far _ (by omega)).trans ((b2 _ (by omega) (by omega)).trans h5)
 ·exact blk_put hb4 0 v3 rfl
 ·exact Kd.R_set hR hb4 (by decide) 0 v3
 ·have : MapInt keyS 3 w3 (w.heap.size + 2) (all.length + 1) (metMap l (all ++ [p])) := by
   obtain ⟨D, ⟨es, clock, hb, r⟩, hr⟩ := hm
   exact ⟨D, ⟨es, clock, (hB.block _ (by omega)).trans hb, r⟩, hr⟩
  rw [List.length_append, List.length_singleton]
  exact this.setCell (by show w.heap.size + 2 ≠ w.heap.size + 4; omega) _
def KeptLabels (w W W' : World) : Prop := ∀ k cs, w.heap.size + 5 ≤ k → W.heap[k]? = some (.cells cs 90 (0, 0)) → W'.heap[k]? = some (.cells cs 90 (0, 0))
theorem KeptLabels.below {w W W' : World} (h : Below W.heap.size W W') : KeptLabels w W W' := fun k cs _ hk => (h.block k (blk_lt hk)).trans hk
theorem KeptLabels.push {w W w1 w2 w3 : World} {A1 : Option Addr} {n k1 : Nat} {all : List ByteArray} {v : Value} (h : Below W.heap.size W w1) (hg : w1.grownBy w2 (some (w.heap.size + 2))) (hR : Kd.R Kd.string 9 w2 (w.heap.size + 5) (fun _ => True) (.slice A1 n k1) all) (hg3 : w2.grownBy w3 (Value.slice A1 n k1).ownBlock) :
  KeptLabels w W (w3.setCell ⟨w.heap.size + 4, 0, none⟩ v) := by
 intro k cs hk hb
 have h1 := (h.block k (blk_lt hb)).trans hb
 have h2 := (hg.block k (blk_lt h1) (by intro e; injection e with e; omega)).trans h1
 have h3 := (hg3.block k (blk_lt h2) (by
  intro e
  obtain ⟨cells, hc⟩ := own_typed (Kd.own_of_R hR) k e.symm
  rw [hc] at h2
  injection h2 with h2
  injection h2 with _ h2
  exact absurd h2 (by decide))).trans h2
 exact (Below.heap_setCell _ _ _ _ (by show k ≠ w.heap.size + 4; omega)).trans h3
set_option maxHeartbeats 4000000 in
set_option maxRecDepth 100000 in
theorem nestFn.calls (w : World) (l nx : Lv) (A : Option Addr) (c : Nat) (An : Option Addr) (cn : Nat) (all : List ByteArray) (p : ByteArray) (W : World) (hr : Kd.C k90 w A l.f2.length l.f2) (hrn : Kd.C k90 w An nx.f2.length nx.f2)
  (ho : NestOk l nx) (hm : MetOk l all) (hal : all.length ≤ 1000) (hp : (p.size : Int) = l.f1) (hi : NestInv w l nx A c An cn all W) :
  Calls Tryd.prog 84 #[.string p, .pointer (some ⟨w.heap.size, 0, none⟩), .pointer (some ⟨w.heap.size + 3, 0, none⟩), .pointer (some ⟨w.heap.size + 4, 0, none⟩), .pointer (some ⟨w.heap.size + 1, 0, none⟩)] W
   fun e W' => e = .returned (.bool (nestFits l nx all p)) ∧ NestInv w l nx A c An cn (nestMet l all p) W' ∧ KeptLabels w W W' := by
 have hps : p.size ≤ 100 := by have := ho.l1; omega
 have hgs := groupOf_size ho hps
 have hcon : ∀ W1 : World, Below W.heap.size W W1 → _ := fun W1 hb => scheme_group.calls l.f0 l.f1 A c l.f2 l.f3 l.f4 p W1 (Kd.C_below hr (hi.bel.trans (hb.mono (by have := hi.size; omega)))) (by have := ho.ll; omega)
 have HC := Aside0.mk hcon
 clear hcon
 have HI := Aside0.mk hi
 obtain ⟨-, hsz, hbl, -, hbm, -, -⟩ := hi
 have c0 : W.cell? ⟨w.heap.size, 0, none⟩ = some (.string l.f0) := (blk_cell hbl 0).trans rfl
 have c1 : W.cell? ⟨w.heap.size, 1, none⟩ = some (.int .i64 l.f1) := (blk_cell hbl 1).trans rfl
 have c2 : W.cell? ⟨w.heap.size, 2, none⟩ = some (.slice A l.f2.length c) := (blk_cell hbl 2).trans rfl
 have c3 : W.cell? ⟨w.heap.size, 3, none⟩ = some (.int .i64 l.f3) := (blk_cell hbl 3).trans rfl
 have c4 : W.cell? ⟨w.heap.size, 4, none⟩ = some (.int .i64 l.f4) := (blk_cell hbl 4).trans rfl
 have cm := cell_of_one hbm
 clear hbl hbm
 unfold nestFits nestMet
 cases hq : metAt l all (groupOf l.f2 p) with
 | none =>
  have hmm : metMap l all (groupOf l.f2 p) = none := by unfold metMap; rw [hq]; rfl
  have HS := Aside0.mk (fun g => metAt_snoc (g := g) hq)
  clear hq
  generalize hg : groupOf l.f2 p = g at *
  have HG := Aside0.mk hg
  clear hg
  go_enter Tryd.func84, Tryd.ntmps84
  go_wp2_with fail
  refine (HC.out _ (Below.refl _ _)).mono ?_
  rintro e w1 ⟨rfl, hb1⟩
  have HI1 := Aside0.mk (HI.out.below hb1)
  obtain ⟨-, hsz1, -, -, hbm1, ⟨v1, hba1, hR1⟩, hmp1⟩ := HI1.out
  have cm1 := cell_of_one hbm1
  have ca1 := cell_of_one hba1
  have fa1 := free_of_one hba1
  obtain ⟨A1, k1, rfl, hk1, -⟩ := Kd.R_reads hR1
  have HM1 := Aside0.mk hmp1
  have HR1 := Aside0.mk hR1
  have HB1 := Aside0.mk hb1
  have HBA := Aside0.mk hba1
  clear hbm1 hba1 hmp1 hR1 hb1 c0 c1 c2 c3 c4 cm HC HI
  have HN := Aside0.mk (show all.length < 9223372036854775807 from by omega)
  go_wp2_with (first | (at_lookup; refine wpList_lookup_ok rfl _ _ 113 rfl Tryd.underlying113 Tryd.underlying3 zeroInt _ _ _ rfl HM1.out g (by show g.size ≤ 9223372036854775807; omega) rfl ?_; simp only [hmm, Option.getD_none, Option.isSome_none]) | (at_mapUpdate; go_loud (refine wpList_update_int rfl _ _ _ 113 rfl Tryd.underlying113 Tryd.underlying3 _ _ _ rfl HM1.out HN.out g (by show g.size ≤ 9223372036854775807; omega) (all.length : Int) (by omega) (by omega) rfl rfl ?_); go_loud (intro w2 hmp2 hg2); have HM2 := Aside0.mk hmp2; have HG2 := Aside0.mk hg2; go_loud (have ca2 := hg2.cell ca1 (by simp)); go_loud (have hR2 := Aside0.mk (Kd.R_grown1 HR1.out rfl hg2 (fun e => absurd (Kd.R_base HR1.out _ e.symm) (by omega)))); go_loud (have hz2 : w.heap.size + 5 ≤ w2.heap.size := Nat.le_trans hsz1 hg2.size); have fa2 : w2.frozen? ⟨w.heap.size + 4, 0, none⟩ = false := free_of_one (hg2.block (w.heap.size + 4) (by omega) (by simp) |>.trans HBA.out); clear hmp2 hg2 ca1) | (at_builtin; go_loud (refine Kd.R_append Kd.string (w0 := w2) (w.heap.size + 5) rfl (.tmp 25) (.tmp 27) 63 9 (.string ⟨#[]⟩) 16 rfl Tryd.underlying63 infoStr rfl (by decide) (by omega) (.slice A1 all.length k1) all p [.string p] (fun _ => True) (fun _ => False) rfl rfl rfl (fun _ h => h.elim) (fun _ _ => trivial) hR2.out (Below.refl _ _) hz2 (by omega) ?_); intro v3 w3 hR3 hB3 hG3 hat3; obtain ⟨A3, k3, rfl, hk3, -⟩ := Kd.R_reads hR3; have HG3 := Aside0.mk hG3; have HR3 := Aside0.mk hR3; have HB3 := Aside0.mk hB3; go_loud (have ca3 := (hB3.cell (p := ⟨w.heap.size + 4, 0, none⟩) (by show w.heap.size + 4 < w.heap.size + 5; omega)).trans ca2); go_loud (have fa3 := (hB3.frozen (p := ⟨w.heap.size + 4, 0, none⟩) (by show w.heap.size + 4 < w.heap.size + 5; omega)).trans fa2); clear hR3 hB3 hG3 hat3 ca2 fa2))
  go_ret
  refine ⟨rfl, NestInv.push HI1.out HM2.out ?_ HG2.out (by have h_ := HR3.out; rw [List.length_append, List.length_singleton] at h_; exact h_) HB3.out, KeptLabels.push HB1.out HG2.out hR2.out HG3.out⟩
  funext s
  unfold metMap
  rw [HS.out s]
  split <;> rfl
 | some i =>
  have hmm : metMap l all (groupOf l.f2 p) = some (i : Int) := by unfold metMap; rw [hq]; rfl
  have hil := metAt_lt hq
  clear hq
  generalize hg : groupOf l.f2 p = g at *
  clear hg
  go_enter Tryd.func84, Tryd.ntmps84
  go_wp2_with fail
  refine (HC.out _ (Below.refl _ _)).mono ?_
  rintro e w1 ⟨rfl, hb1⟩
  have HI1 := Aside0.mk (HI.out.below hb1)
  obtain ⟨hbel1, hsz1, -, hbn1, hbm1, ⟨v1, hba1, hR1⟩, hmp1⟩ := HI1.out
  have cm1 := cell_of_one hbm1
  have ca1 := cell_of_one hba1
  have n0 : w1.cell? ⟨w.heap.size + 1, 0, none⟩ = some (.string nx.f0) := (blk_cell hbn1 0).trans rfl
  have n1 : w1.cell? ⟨w.heap.size + 1, 1, none⟩ = some (.int .i64 nx.f1) := (blk_cell hbn1 1).trans rfl
  have n2 : w1.cell? ⟨w.heap.size + 1, 2, none⟩ = some (.slice An nx.f2.length cn) := (blk_cell hbn1 2).trans rfl
  have n3 : w1.cell? ⟨w.heap.size + 1, 3, none⟩ = some (.int .i64 nx.f3) := (blk_cell hbn1 3).trans rfl
  have n4 : w1.cell? ⟨w.heap.size + 1, 4, none⟩ = some (.int .i64 nx.f4) := (blk_cell hbn1 4).trans rfl
  obtain ⟨A1, k1, rfl, hk1, hC1⟩ := Kd.R_reads hR1
  obtain ⟨ad, rfl, hq1⟩ := Kd.at_string hC1 (i : Int) (by omega) (by omega)
  rw [Int.toNat_natCast] at hq1
  have hqs : ((rdOf ByteArray.empty all (i : Int)).size : Int) = l.f1 := hm _ (by unfold rdOf; rw [Int.toNat_natCast, List.getD_eq_getElem?_getD, List.getElem?_eq_getElem hil]; exact List.getElem_mem hil)
  have HQ := Aside0.mk (show rdOf ByteArray.empty all (i : Int) = all.getD i ByteArray.empty by unfold rdOf; rw [Int.toNat_natCast])
  generalize rdOf ByteArray.empty all (i : Int) = q at *
  have HM1 := Aside0.mk hmp1
  have HB1 := Aside0.mk hb1
  have HCN := Aside0.mk (fun (W1 : World) (s : ByteArray) (hb : Below w1.heap.size w1 W1) => scheme_group.calls nx.f0 nx.f1 An cn nx.f2 nx.f3 nx.f4 s W1 (Kd.C_below hrn (hbel1.trans (hb.mono (by omega)))) (by have := ho.nl; omega))
  have m0 := ho.n0
  have m1 := ho.n1
  have m2 := ho.l1
  have HO := Aside0.mk ho
  clear hbm1 hba1 hmp1 hR1 hb1 c0 c1 c2 c3 c4 cm HC HI hbn1 hC1 ho
  go_wp2_with (first | (at_lookup; refine wpList_lookup_ok rfl _ _ 113 rfl Tryd.underlying113 Tryd.underlying3 zeroInt _ _ _ rfl HM1.out g (by show g.size ≤ 9223372036854775807; omega) rfl ?_; simp only [hmm, Option.getD_some, Option.isSome_some]) | fail)
  clear hr hrn hm HM1 cm1 hmm hgs
  have e1 : nx.f1 ≤ (p.size : Int) := by omega
  have e2 : nx.f1 ≤ (q.size : Int) := by omega
  have i0 : (0 : Int) ≤ (i : Int) := by omega
  have i1 : (i : Int) < (all.length : Int) := by omega
  have l4 : w.heap.size + 4 < w1.heap.size := by omega
  have l1 : w.heap.size + 1 < w1.heap.size := by omega
  have la : (ad.add i).block < w1.heap.size := World.block_lt_of_cell? w1 _ hq1
  go_region_held3 (fun w' => w'.cell? ⟨w.heap.size + 1, 0, none⟩ = some (.string nx.f0) ∧ w'.cell? ⟨w.heap.size + 1, 1, none⟩ = some (.int .i64 nx.f1) ∧ w'.cell? ⟨w.heap.size + 1, 2, none⟩ = some (.slice An nx.f2.length cn) ∧ w'.cell? ⟨w.heap.size + 1, 3, none⟩ = some (.int .i64 nx.f3) ∧ w'.cell? ⟨w.heap.size + 1, 4, none⟩ = some (.int .i64 nx.f4) ∧ w'.cell? ⟨w.heap.size + 4, 0, none⟩ = some (.slice (some ad) all.length k1) ∧ w'.cell? (ad.add i) = some (.string q))
   (first | go_keep | exact ⟨(hbA.cell (p := ⟨w.heap.size + 1, 0, none⟩) l1).trans n0, (hbA.cell (p := ⟨w.heap.size + 1, 1, none⟩) l1).trans n1, (hbA.cell (p := ⟨w.heap.size + 1, 2, none⟩) l1).trans n2, (hbA.cell (p := ⟨w.heap.size + 1, 3, none⟩) l1).trans n3, (hbA.cell (p := ⟨w.heap.size + 1, 4, none⟩) l1).trans n4, (hbA.cell (p := ⟨w.heap.size + 4, 0, none⟩) l4).trans ca1, (hbA.cell la).trans hq1⟩ | exact ⟨(hbB.out.cell (p := ⟨w.heap.size + 1, 0, none⟩) l1).trans n0, (hbB.out.cell (p := ⟨w.heap.size + 1, 1, none⟩) l1).trans n1, (hbB.out.cell (p := ⟨w.heap.size + 1, 2, none⟩) l1).trans n2, (hbB.out.cell (p := ⟨w.heap.size + 1, 3, none⟩) l1).trans n3, (hbB.out.cell (p := ⟨w.heap.size + 1, 4, none⟩) l1).trans n4, (hbB.out.cell (p := ⟨w.heap.size + 4, 0, none⟩) l4).trans ca1, (hbB.out.cell la).trans hq1⟩)
   (first | (go_at_call 85; refine (HCN.out w1.drew _ (below_drew (Below.refl _ _))).mono ?_; rintro e wA ⟨rfl, hbA'⟩; have hbA := (below_drew (Below.refl w1.heap.size w1)).trans hbA'; clear hbA') | (go_at_call 85; refine (HCN.out wA _ hbA).mono ?_; rintro e wB ⟨rfl, hbB'⟩; have hbB := Aside0.mk (below_then hbA hbA.size hbB'); clear hbB' hbA))
  go_wp2
  go_ret
  refine ⟨?_, HI1.out.below hbB.out, KeptLabels.below (HB1.out.trans (hbB.out.mono HB1.out.size))⟩
  rw [HQ.out]
  rfl
end Go.Proofs.YtfglcfbcdhjcdaaDoor.Q

namespace Go.Proofs.YtfglcfbcdhjcdaaDoor.Q
open Go Go.RowKit Go.Maps Go.WideMaps Go.MapKept
set_option linter.unusedVariables false
set_option linter.unusedSimpArgs false
theorem laidOutP : laidOutB Tryd.prog = true := by kernel_rfl
theorem pairLaw : KeyLaw Tryd.prog 86 :=
 deep_law_laid laidOutP (m := 2) (by decide) (of_decide_eq_true (by kernel_rfl)) (by kernel_rfl) (by rw [Tryd.underlying86])
def pairVal (p : ByteArray × ByteArray) : Value := .agg #[.string p.1, .string p.2]
def pairLit (p : ByteArray × ByteArray) : Lit := .string (keyBytes [.string p.1.data.toList, .string p.2.data.toList])
theorem cellsOfStr : Tryd.prog.cellsOf 9 = 1 := by kernel_rfl
theorem cellsOfPair : Tryd.prog.cellsOf 86 = 2 := by kernel_rfl
theorem typesSome : (Tryd.prog.types.size == 0) = false := by kernel_rfl
theorem typesMany : ∃ n, Tryd.prog.types.size = n + 1 := ⟨Tryd.prog.types.size - 1, by have h := typesSome; simp only [beq_eq_false_iff_ne, ne_eq] at h; omega⟩
theorem keyLits_str (d : Nat) (s : ByteArray) (h : s.size ≤ maxLen) : Tryd.prog.keyLits (d + 1) 9 [.string s] = some [.string s.data.toList] := by
 unfold Program.keyLits
 rw [Tryd.underlying9]
 simp [h]
theorem keyOf_pair (p : ByteArray × ByteArray) (h1 : p.1.size ≤ maxLen) (h2 : p.2.size ≤ maxLen) : keyOf Tryd.prog 86 (pairVal p) = some (pairLit p) := by
 obtain ⟨n, hn⟩ := typesMany
 have hk : Tryd.prog.keyType 86 = true := by kernel_rfl
 have hf : (pairVal p).formed Tryd.prog 86 = true := by
  unfold pairVal Value.formed
  simp only [Tryd.underlying86, cellsOfPair]
  rfl
 have hl : Tryd.prog.keyLits (Tryd.prog.types.size + 1) 86 [.string p.1, .string p.2] = some [.string p.1.data.toList, .string p.2.data.toList] := by
  rw [hn]
  unfold Program.keyLits
  rw [Tryd.underlying86]
  simp only [cellsOfPair, cellsOfStr]
  rw [if_pos (by rfl)]
  simp [List.range_succ, keyLits_str _ _ h1, keyLits_str _ _ h2]
 unfold keyOf
 rw [Tryd.underlying86]
 simp only [hk, hf, Bool.and_self, if_true]
 show (Program.keyLits Tryd.prog (Tryd.prog.types.size + 1) 86 [.string p.1, .string p.2]).map _ = _
 rw [hl]
 rfl
noncomputable def keyP : MapKey Tryd.prog 86 (ByteArray × ByteArray) where
 keyed := Keyed.of_law pairLaw
 enc := pairVal
 lit := pairLit
 ok p := p.1.size ≤ 9223372036854775807 ∧ p.2.size ≤ 9223372036854775807
 key p h := keyOf_pair p (by simpa [maxLen] using h.1) (by simpa [maxLen] using h.2)
 inj a b ha hb h := by
  have k1 := keyOf_pair a (by simpa [maxLen] using ha.1) (by simpa [maxLen] using ha.2)
  have k2 := keyOf_pair b (by simpa [maxLen] using hb.1) (by simpa [maxLen] using hb.2)
  have e := pairLaw.inj k1 (h ▸ k2)
  unfold pairVal at e
  rcases a with ⟨a1, a2⟩
  rcases b with ⟨b1, b2⟩
  simp at e
  obtain ⟨rfl, rfl⟩ := e
  rfl
noncomputable def keyU8 : MapKey Tryd.prog 5 Int where
 keyed := int_keyed Tryd.underlying5
 enc n := .int .u8 n
 lit n := .int .u8 n
 ok n := 0 ≤ n ∧ n ≤ 255
 key n h := keyOf_int_mk Tryd.underlying5 (by simp [Lit.wf, IntKind.min, IntKind.max, IntKind.bits, IntKind.signed]; omega)
 inj a b _ _ h := by injection h
theorem entry_forms {K E t : TypeId} {P : Program} {R : Value → Option (DataW Unit × List MemPlace)} {w : World} {b : Nat} {es : Array MapEntry} {clock : Nat} (L : KeyLaw P K) (ht : P.underlying t = some (.map K E)) {z : Value} (hz : ∀ u : World, (zeroValue E).run P u = .ok z u) (hb : w.heap[b]? = some (.map es clock))
  (F : WideElems.Fit P K R es clock) {key : Value} {kl : Lit} (hkey : keyOf P K key = some kl) :
  (∃ (v : Value) (st : Nat), (Instr.mapEntry t (.map (some b)) key).run P w = .ok (.tuple #[v, goInt st]) (ChangeMaps.setBlock w b (.map es clock))) ∨
  ∃ (es2 : Array MapEntry) (clock2 : Nat), (Instr.mapEntry t (.map (some b)) key).run P w = .ok (.tuple #[z, goInt clock]) (ChangeMaps.setBlock w b (.map es2 clock2)) ∧ (Instr.mapUpdate t (.map (some b)) key z).run P w = .ok () (ChangeMaps.setBlock w b (.map es2 clock2)) ∧
   (Instr.lookup t (.map (some b)) key false).run P w = .ok z w := by
 rcases L.find w hkey es.toList F.keys with ⟨h1, h2⟩ | ⟨j, e0, h1, h2, h3⟩
 ·refine Or.inr ⟨es.push ⟨key, z, clock⟩, clock + 1, ?_, ?_, ?_⟩
  ·simp [Instr.mapEntry, run_underlying ht, MapKept.run_getObj_map hb, L.check w false hkey, h1, hz, MapKept.run_setObj_map _ hb, Result.andThen, ChangeMaps.setBlock]
  ·simp [Instr.mapUpdate, run_underlying ht, MapKept.run_getObj_map hb, L.check w false hkey, h1, MapKept.run_setObj_map _ hb, Result.andThen, ChangeMaps.setBlock]
  ·simp [Instr.lookup, run_underlying ht, MapKept.run_getObj_map hb, L.check w _ hkey, h1, hz, Result.andThen]
 ·have hj : es[j]? = some e0 := by simpa using h2
  have hsame : es.modify j (fun e => { e with key := key }) = es := by
   apply Array.ext'
   rw [Array.toList_modify, ChangeMaps.modify_eq_set _ _ _ _ h2]
   have : ({ e0 with key := key } : MapEntry) = e0 := by rw [← h3]
   rw [this]
   exact WideElems.set_self _ _ _ h2
  exact Or.inl ⟨e0.val, e0.born, by simp [Instr.mapEntry, run_underlying ht, MapKept.run_getObj_map hb, L.check w false hkey, h1, hj, h3, L.stays w hkey, hsame, MapKept.run_setObj_map _ hb, Result.andThen, ChangeMaps.setBlock]⟩
section
variable {P : Program} {K E : TypeId} {α : Type} {M : MapKey P K α} {w : World} {b n : Nat} {f : α → Option Int}
theorem MapInt.look {t : TypeId} (h : MapInt M E w b n f) (ht : P.underlying t = some (.map K E)) (he : P.underlying E = some (.int .i64)) (hz : ∀ w, (zeroValue E).run P w = .ok (.int .i64 0) w) (y : α) (hy : M.ok y) :
  (Instr.lookup t (.map (some b)) (M.enc y) false).run P w = .ok (.int .i64 ((f y).getD 0)) w := by
 obtain ⟨D, h1, h2, h3⟩ := h
 obtain ⟨c, hrun, hat, _⟩ := h1.lookup_int M.keyed ht he (hz w) (M.key y hy)
 obtain ⟨h4, h5⟩ := h3 y hy
 have : c = (f y).getD 0 := by
  cases hf : f y with
  | none =>
   rw [hf] at h4
   rw [atKey_default h4] at hat
   injection hat with hat
   injection hat with _ hat
   exact hat.symm
  | some v =>
   rw [h5 v hf] at hat
   injection hat with hat
   injection hat with _ hat
   exact hat.symm
 rw [← this]
 exact hrun
theorem MapInt.updated [DecidableEq α] {t : TypeId} (h : MapInt M E w b n f) (ht : P.underlying t = some (.map K E)) (he : P.underlying E = some (.int .i64)) (hn : n < 9223372036854775807) (y : α) (hy : M.ok y) (z : Int) (hz0 : -9223372036854775808 ≤ z) (hz1 : z ≤ 9223372036854775807) :
  ∃ w2, (Instr.mapUpdate t (.map (some b)) (M.enc y) (.int .i64 z)).run P w = .ok () w2 ∧ MapInt M E w2 b (n + 1) (fun s => if s = y then some z else f s) ∧ w.grownBy w2 (some b) := by
 obtain ⟨D, hown, h2, h3⟩ := h
 obtain ⟨w', q1, q2, q3⟩ := hown.update M.keyed ht (by simpa [maxLen] using hn) (M.key y hy) (plainElem_int he (WalkArith.wf_i64 ⟨hz0, hz1⟩))
 refine ⟨w', q1, ⟨_, q2, h2.put _ _, fun s hs => ?_⟩, q3⟩
 by_cases e : s = y
 ·subst e
  simp only [if_pos]
  refine ⟨Maps.has_put_same h2 (M.keyed.key (M.key s hs)) _, fun v hv z' => ?_⟩
  injection hv with hv
  subst hv
  exact Maps.atKey_put_same h2 (M.keyed.key (M.key s hs)) _ _
 ·simp only [if_neg e]
  have hne : M.lit s ≠ M.lit y := fun h => e (M.inj s y hs hy h)
  obtain ⟨h4, h5⟩ := h3 s hs
  refine ⟨?_, fun v hv z' => ?_⟩
  ·rw [Maps.has_put_other hne]; exact h4
  ·rw [Maps.atKey_put_other hne]; exact h5 v hv z'
theorem MapInt.entry [DecidableEq α] {t : TypeId} (L : KeyLaw P K) (h : MapInt M E w b n f) (ht : P.underlying t = some (.map K E)) (he : P.underlying E = some (.int .i64)) (hz : ∀ w, (zeroValue E).run P w = .ok (.int .i64 0) w)
  (hn : n < 9223372036854775807) (y : α) (hy : M.ok y) : ∃ (v0 : Value) (st : Nat) (w1 : World), (Instr.mapEntry t (.map (some b)) (M.enc y)).run P w = .ok (.tuple #[v0, goInt st]) w1 ∧ (Instr.lookup t (.map (some b)) (M.enc y) false).run P w1 = .ok (.int .i64 ((f y).getD 0)) w1 ∧ w.grownBy w1 (some b) ∧
   ∀ z : Int, -9223372036854775808 ≤ z → z ≤ 9223372036854775807 → ∃ w2, (Instr.entryStore t (.map (some b)) (goInt st) (.int .i64 z)).run P w1 = .ok () w2 ∧ MapInt M E w2 b (n + 1) (fun s => if s = y then some z else f s) ∧ w.grownBy w2 (some b) := by
 have hM := h
 obtain ⟨D, ⟨es, clock, hb, F, hs, hD⟩, h2, h3⟩ := h
 obtain ⟨v0, st, es1, clock1, r1, _, r2⟩ := WideElems.entry_then_store L ht hz hb F (M.key y hy)
 have hlk : (Instr.lookup t (.map (some b)) (M.enc y) false).run P (ChangeMaps.setBlock w b (.map es1 clock1)) = .ok (.int .i64 ((f y).getD 0)) (ChangeMaps.setBlock w b (.map es1 clock1)) := by
  rcases entry_forms L ht hz hb F (M.key y hy) with ⟨v, st', r⟩ | ⟨es2, clock2, r, ru, rl⟩
  ·rw [r1] at r
   rw [(Result.ok.inj r).2]
   exact MapInt.look (M := M) (n := n) ⟨D, ⟨es, clock, ChangeMaps.heap_setBlock_same hb _, F, hs, hD⟩, h2, h3⟩ ht he hz y hy
  ·rw [r1] at r
   rw [(Result.ok.inj r).2]
   obtain ⟨w', q1, q2, _⟩ := hM.updated ht he hn y hy 0 (by decide) (by decide)
   rw [ru] at q1
   rw [(Result.ok.inj q1).2]
   have e := hM.look ht he hz y hy
   rw [rl] at e
   have e := (Result.ok.inj e).1
   have e := (Value.int.inj e).2
   have l := q2.look ht he hz y hy
   rw [if_pos rfl] at l
   rw [← e]
   exact l
 refine ⟨v0, st, _, r1, hlk, ⟨rfl, rfl, rfl, by simp [ChangeMaps.setBlock], fun i _ hi => ChangeMaps.heap_setBlock_other hb _ (fun e => hi (by rw [e]))⟩, fun z hz0 hz1 => ?_⟩
 obtain ⟨es', clock', r3, r4⟩ := r2 (ChangeMaps.setBlock w b (.map es1 clock1)) (.int .i64 z) (ChangeMaps.heap_setBlock_same hb _)
 obtain ⟨w', q1, q2, q3⟩ := hM.updated ht he hn y hy z hz0 hz1
 rw [r4] at q1
 injection q1 with _ q1
 have e : ChangeMaps.setBlock (ChangeMaps.setBlock w b (.map es1 clock1)) b (.map es' clock') = w' := by
  rw [← q1]
  simp [ChangeMaps.setBlock]
 rw [← e] at q2 q3
 exact ⟨_, r3, q2, q3⟩
end
end Go.Proofs.YtfglcfbcdhjcdaaDoor.Q

namespace Go.Proofs.YtfglcfbcdhjcdaaDoor.Q
open Go.RowKit Go.Proofs.YtfglcfbcdhjcdaaDoorW.PrintWords Go.Proofs.YtfglcfbcdhjcdaaDoorW.PrintLast Go.Proofs.YtfglcfbcdhjcdaaDoorW.PrintMore
attribute [local go_sem] max2_int min2_int max_two min_two max_three min_three max_four min_four
set_option linter.unusedVariables false
set_option linter.unusedSimpArgs false
def tariff_priced.f (a0 : Int) : Option (Bool) := if a0 ≥ 0 then (some (decide (a0 ≤ 1000000))) else (some false)
set_option maxHeartbeats 8000000 in
set_option maxRecDepth 100000 in
theorem tariff_priced.calls (a0 : Int) (r : Bool) (w : World) (h : tariff_priced.f a0 = some r) :
  Calls Tryd.prog 67 #[.int .i64 a0] w fun e w' => e = .returned (.bool r) ∧ Drawn0 w w' := by
 have H : (if a0 ≥ 0 then (some (decide (a0 ≤ 1000000))) else (some false)) = some r := h
 clear h
 by_cases c2 : a0 ≥ 0
 ·rw [if_pos c2] at H
  have c2b0 : decide (0 ≤ a0) = true := decide_eq_true c2
  clear c2
  obtain rfl := Option.some.inj H
  go_enter Tryd.func67, Tryd.ntmps67
  go_wp2
  go_ret
  exact ⟨by first | rfl | (simp; done) | (simp [*]; done), by repeat (first | exact Drawn0.refl _ | apply Drawn0.step)⟩
 ·rw [if_neg c2] at H
  have c2b0 : decide (0 ≤ a0) = false := decide_eq_false c2
  clear c2
  obtain rfl := Option.some.inj H
  go_enter Tryd.func67, Tryd.ntmps67
  go_wp2
  go_ret
  exact ⟨by first | rfl | (simp; done) | (simp [*]; done), by repeat (first | exact Drawn0.refl _ | apply Drawn0.step)⟩
end Go.Proofs.YtfglcfbcdhjcdaaDoor.Q

namespace Go.Proofs.YtfglcfbcdhjcdaaDoor.Q
open Go.RowKit Go.Proofs.YtfglcfbcdhjcdaaDoorW.PrintWords Go.Proofs.YtfglcfbcdhjcdaaDoorW.PrintLast Go.Proofs.YtfglcfbcdhjcdaaDoorW.PrintMore
attribute [local go_sem] max2_int min2_int max_two min_two max_three min_three max_four min_four
set_option linter.unusedVariables false
set_option linter.unusedSimpArgs false
mutual
def tariff_rated.j0 : Nat → Int → Bool → Int → List (S61) → Int → Option (Bool)
 | 0, _, _, _, _, _ => none
 | k + 1, x1, x30, x102000, x102001, x102002 => if x30 = true then (some false) else (tariff_rated.l0 k x1 0 x102001 (x102001.length : Int) 0)
def tariff_rated.l0 : Nat → Int → Int → List (S61) → Int → Int → Option (Bool)
 | 0, _, _, _, _, _ => none
 | k + 1, x1, x5, x32, x33, x34 => if x34 < x33 then (if 0 ≤ x34 then (if x34 < (x32.length : Int) then (if ((rd_T61 x32 x34).f0) ≤ x5 then (tariff_rated.j2 k x1 x32 x33 x34 true ((rd_T61 x32 x34).f0) ((rd_T61 x32 x34).f1)) else (if ((rd_T61 x32 x34).f0) > 50000 then (tariff_rated.j2 k x1 x32 x33 x34 true ((rd_T61 x32 x34).f0) ((rd_T61 x32 x34).f1)) else (tariff_rated.j2 k x1 x32 x33 x34 ((((rd_T61 x32 x34).f1).length : Int) != x1) ((rd_T61 x32 x34).f0) ((rd_T61 x32 x34).f1)))) else (none)) else (none)) else (some true)
def tariff_rated.j2 : Nat → Int → List (S61) → Int → Int → Bool → Int → List Int → Option (Bool)
 | 0, _, _, _, _, _, _, _ => none
 | k + 1, x1, x32, x33, x34, x53, x105000, x105001 => if x53 = true then (some false) else (tariff_rated.l1 k x1 x105000 x32 x33 x34 x105001 (x105001.length : Int) 0)
def tariff_rated.l1 : Nat → Int → Int → List (S61) → Int → Int → List Int → Int → Int → Option (Bool)
 | 0, _, _, _, _, _, _, _, _ => none
 | k + 1, x1, x5, x32, x33, x34, x57, x58, x59 => if x59 < x58 then (if 0 ≤ x59 then (if x59 < (x57.length : Int) then ((tariff_priced.f (rd x57 x59)).bind fun t106 => (if t106 = true then (tariff_rated.l1 k x1 x5 x32 x33 x34 x57 x58 (wrap64 (x59 + 1))) else (some false))) else (none)) else (none)) else (tariff_rated.l0 k x1 x5 x32 x33 (wrap64 (x34 + 1)))
end
def tariff_rated.f (k : Nat) (a0_0 : Int) (l0_1 : List (S61)) (a0_2 : Int) (a1 : Int) : Option (Bool) := if a0_0 = 0 then (tariff_rated.j0 k a1 true a0_0 l0_1 a0_2) else ((tariff_priced.f a0_2).bind fun t102 => (if t102 = true then (if (l0_1.length : Int) = 0 then (tariff_rated.j0 k a1 true a0_0 l0_1 a0_2) else (tariff_rated.j0 k a1 (decide ((l0_1.length : Int) > 20)) a0_0 l0_1 a0_2)) else (tariff_rated.j0 k a1 true a0_0 l0_1 a0_2)))
set_option maxHeartbeats 8000000 in
set_option maxRecDepth 100000 in
theorem tariff_rated.calls (k : Nat) (a0_0 : Int) (A0_1 : Option Addr) (c0_1 : Nat) (l0_1 : List (S61)) (a0_2 : Int) (a1 : Int) (r : Bool) (w : World) (hr0_1 : Kd.C k61 w A0_1 l0_1.length l0_1) (hc0_1 : l0_1.length ≤ c0_1) (h : tariff_rated.f k a0_0 l0_1 a0_2 a1 = some r) :
  Calls Tryd.prog 45 #[.agg #[.int .u8 a0_0, .slice A0_1 l0_1.length c0_1, .int .i64 a0_2], .int .i64 a1] w fun e w' => e = .returned (.bool r) ∧ Below w.heap.size w w' := by
 have hu57 := Tryd.underlying57
 have hu61 := Tryd.underlying61
 have HR0_1 := Aside0.mk hr0_1
 have HC0_1 := Aside0.mk hc0_1
 clear hr0_1 hc0_1
 have HB := Aside0.mk (Below.refl w.heap.size w)
 have H : (if a0_0 = 0 then (tariff_rated.j0 k a1 true a0_0 l0_1 a0_2) else ((tariff_priced.f a0_2).bind fun t102 => (if t102 = true then (if (l0_1.length : Int) = 0 then (tariff_rated.j0 k a1 true a0_0 l0_1 a0_2) else (tariff_rated.j0 k a1 (decide ((l0_1.length : Int) > 20)) a0_0 l0_1 a0_2)) else (tariff_rated.j0 k a1 true a0_0 l0_1 a0_2)))) = some r := h
 clear h
 have HC3 := Aside0.mk H
 clear H
 go_enter Tryd.func45, Tryd.ntmps45
 go_upto_region 1 with (first | ((with_reducible refine gate_dst (N := 2) rfl ?_); (try (refine gate_guard (by rfl) ?_; dsimp only)); refine box_event ?hg (N := 2) ?hd (cs := #[.int .u8 a0_0, .slice A0_1 l0_1.length c0_1, .int .i64 a0_2]) (t := 57) ?hr ?_; (case hd => rfl); (case hg => rfl); (case hr => first | (go_simp; done) | (go_simp; rfl)); intro gb101 hg w4 hbox hb; have n0_ := Aside0.mk (below_step (by repeat (first | (with_reducible first | exact HB.out | apply below_alloc | apply pw_below_drewN | apply below_drew1) | exact HB.out)) hb); have n1_ := Aside0.mk (hbox); have n2_ := Aside0.mk ((by rw [hg]; exact (below_size (by repeat (first | (with_reducible first | exact HB.out | apply below_alloc | apply pw_below_drewN | apply below_drew1) | exact HB.out))) : w.heap.size ≤ gb101)); have n3_ := Aside0.mk ((by rw [hg]; exact (below_size (by repeat (first | (with_reducible first | exact HB.out | apply below_alloc | apply pw_below_drewN | apply below_drew1) | exact HB.out))) : w.heap.size ≤ gb101)); clear HB; have HB := n0_; have BK101 := n1_; have GW101 := n2_; have GE101 := n3_; clear n0_ n1_ n2_ n3_; clear hb hbox hg))
 (try simp only [Act.put, sl1, sl2, sl3])
 go_cut [30] (fun v30 wc => ∃ (kq : Nat) (x30_2 : Bool), v30 = .bool x30_2 ∧ Aside0 (tariff_rated.j0 kq a1 x30_2 a0_0 l0_1 a0_2 = some r) ∧ Aside0 (kq ≤ k) ∧ Aside0 (wc.heap[gb101]? = some (.cells #[.int .u8 a0_0, (.slice A0_1 l0_1.length c0_1), .int .i64 a0_2] 57 (0, 0))) ∧ Aside0 (Below w.heap.size w wc))
 case first =>
  have H := HC3.out
  clear HC3
  by_cases c5 : a0_0 = 0
  ·rw [if_pos c5] at H
   have c5b0 : (a0_0 == 0) = true := beq_iff_eq.mpr c5
   have c5b1 : (a0_0 != 0) = false := bne_eq_false_iff_eq.mpr c5
   clear c5
   (first | rw [c5b0] | (simp only [i64_w, i32_w]; rw [c5b0]) | skip)
   have H' := Aside0.mk H
   clear H
   have hcz6_0 : w4.cell? ⟨gb101, 0, none⟩ = some (.int .u8 a0_0) := (blk_cell BK101.out 0).trans rfl
   have hcz6_1 : w4.cell? ⟨gb101, 1, none⟩ = some (.slice A0_1 l0_1.length c0_1) := (blk_cell BK101.out 1).trans rfl
   have hcz6_2 : w4.cell? ⟨gb101, 2, none⟩ = some (.int .i64 a0_2) := (blk_cell BK101.out 2).trans rfl
   have hfz6_0 := blk_frozen BK101.out 0
   have hfz6_1 := blk_frozen BK101.out 1
   have hfz6_2 := blk_frozen BK101.out 2
   go_wp2
   go_meet
   case rel => exact ⟨_, (true), (by first | rfl | (simp; done) | (simp [*]; done)), H', ⟨by first | omega | exact Nat.le_refl _⟩, ⟨by (with_reducible repeat (first | refine blk_drewN ?_ _ | refine blk_drew ?_ | refine blk_alloc ?_ _)); exact BK101.out⟩, ⟨by repeat (first | (with_reducible first | exact HB.out | apply below_alloc | apply pw_below_drewN | apply below_drew1 | refine below_set ?_ GE101.out) | exact HB.out)⟩⟩
  ·rw [if_neg c5] at H
   have c5b0 : (a0_0 == 0) = false := beq_eq_false_iff_ne.mpr c5
   have c5b1 : (a0_0 != 0) = true := bne_iff_ne.mpr c5
   (first | rw [c5b0] | (simp only [i64_w, i32_w]; rw [c5b0]) | skip)
   replace H := Option.bind_eq_some_iff.mp H
   obtain ⟨t102, A70, H⟩ := H
   replace H : (if t102 = true then (if (l0_1.length : Int) = 0 then (tariff_rated.j0 k a1 true a0_0 l0_1 a0_2) else (tariff_rated.j0 k a1 (decide ((l0_1.length : Int) > 20)) a0_0 l0_1 a0_2)) else (tariff_rated.j0 k a1 true a0_0 l0_1 a0_2)) = some r := H
   have A7 := Aside0.mk A70
   clear A70
   by_cases c8 : t102 = true
   ·subst c8
    have H1 : (if (l0_1.length : Int) = 0 then (tariff_rated.j0 k a1 true a0_0 l0_1 a0_2) else (tariff_rated.j0 k a1 (decide ((l0_1.length : Int) > 20)) a0_0 l0_1 a0_2)) = some r := by rw [if_pos rfl] at H; exact H
    clear H
    have H := H1
    clear H1
    by_cases c9 : (l0_1.length : Int) = 0
    ·rw [if_pos c9] at H
     have c9b0 : ((l0_1.length : Int) == 0) = true := beq_iff_eq.mpr c9
     have c9b1 : ((l0_1.length : Int) != 0) = false := bne_eq_false_iff_eq.mpr c9
     clear c9
     have H' := Aside0.mk H
     clear H
     have hcz10_0 : w4.cell? ⟨gb101, 0, none⟩ = some (.int .u8 a0_0) := (blk_cell BK101.out 0).trans rfl
     have hcz10_1 : w4.cell? ⟨gb101, 1, none⟩ = some (.slice A0_1 l0_1.length c0_1) := (blk_cell BK101.out 1).trans rfl
     have hcz10_2 : w4.cell? ⟨gb101, 2, none⟩ = some (.int .i64 a0_2) := (blk_cell BK101.out 2).trans rfl
     have hfz10_0 := blk_frozen BK101.out 0
     have hfz10_1 := blk_frozen BK101.out 1
     have hfz10_2 := blk_frozen BK101.out 2
     go_wp2_with (first | (go_at_call 67; (with_reducible refine (tariff_priced.calls a0_2 true _ A7.out).mono ?_); rintro e w' ⟨rfl, ⟨nd, rfl⟩⟩))
     go_meet
     case rel => exact ⟨_, (true), (by first | rfl | (simp; done) | (simp [*]; done)), H', ⟨by first | omega | exact Nat.le_refl _⟩, ⟨by (with_reducible repeat (first | refine blk_drewN ?_ _ | refine blk_drew ?_ | refine blk_alloc ?_ _)); exact BK101.out⟩, ⟨by repeat (first | (with_reducible first | exact HB.out | apply below_alloc | apply pw_below_drewN | apply below_drew1 | refine below_set ?_ GE101.out) | exact HB.out)⟩⟩
    ·rw [if_neg c9] at H
     have c9b0 : ((l0_1.length : Int) == 0) = false := beq_eq_false_iff_ne.mpr c9
     have c9b1 : ((l0_1.length : Int) != 0) = true := bne_iff_ne.mpr c9
     have c9b2 : ¬ (l0_1 = []) := fun h_ => c9 (by rw [h_]; rfl)
     have H' := Aside0.mk H
     clear H
     have hcz11_0 : w4.cell? ⟨gb101, 0, none⟩ = some (.int .u8 a0_0) := (blk_cell BK101.out 0).trans rfl
     have hcz11_1 : w4.cell? ⟨gb101, 1, none⟩ = some (.slice A0_1 l0_1.length c0_1) := (blk_cell BK101.out 1).trans rfl
     have hcz11_2 : w4.cell? ⟨gb101, 2, none⟩ = some (.int .i64 a0_2) := (blk_cell BK101.out 2).trans rfl
     have hfz11_0 := blk_frozen BK101.out 0
     have hfz11_1 := blk_frozen BK101.out 1
     have hfz11_2 := blk_frozen BK101.out 2
     go_wp2_with (first | (go_at_call 67; (with_reducible refine (tariff_priced.calls a0_2 true _ A7.out).mono ?_); rintro e w' ⟨rfl, ⟨nd, rfl⟩⟩))
     go_meet
     case rel => exact ⟨_, (decide ((l0_1.length : Int) > 20)), (by first | rfl | (simp; done) | (simp [*]; done)), H', ⟨by first | omega | exact Nat.le_refl _⟩, ⟨by (with_reducible repeat (first | refine blk_drewN ?_ _ | refine blk_drew ?_ | refine blk_alloc ?_ _)); exact BK101.out⟩, ⟨by repeat (first | (with_reducible first | exact HB.out | apply below_alloc | apply pw_below_drewN | apply below_drew1 | refine below_set ?_ GE101.out) | exact HB.out)⟩⟩
   ·replace c8 := Bool.eq_false_iff.mpr c8
    subst c8
    have H1 : (tariff_rated.j0 k a1 true a0_0 l0_1 a0_2) = some r := by rw [if_neg (show ¬ (false = true) by decide)] at H; exact H
    clear H
    have H := H1
    clear H1
    have H' := Aside0.mk H
    clear H
    have hcz12_0 : w4.cell? ⟨gb101, 0, none⟩ = some (.int .u8 a0_0) := (blk_cell BK101.out 0).trans rfl
    have hcz12_1 : w4.cell? ⟨gb101, 1, none⟩ = some (.slice A0_1 l0_1.length c0_1) := (blk_cell BK101.out 1).trans rfl
    have hcz12_2 : w4.cell? ⟨gb101, 2, none⟩ = some (.int .i64 a0_2) := (blk_cell BK101.out 2).trans rfl
    have hfz12_0 := blk_frozen BK101.out 0
    have hfz12_1 := blk_frozen BK101.out 1
    have hfz12_2 := blk_frozen BK101.out 2
    go_wp2_with (first | (go_at_call 67; (with_reducible refine (tariff_priced.calls a0_2 false _ A7.out).mono ?_); rintro e w' ⟨rfl, ⟨nd, rfl⟩⟩))
    go_meet
    case rel => exact ⟨_, (true), (by first | rfl | (simp; done) | (simp [*]; done)), H', ⟨by first | omega | exact Nat.le_refl _⟩, ⟨by (with_reducible repeat (first | refine blk_drewN ?_ _ | refine blk_drew ?_ | refine blk_alloc ?_ _)); exact BK101.out⟩, ⟨by repeat (first | (with_reducible first | exact HB.out | apply below_alloc | apply pw_below_drewN | apply below_drew1 | refine below_set ?_ GE101.out) | exact HB.out)⟩⟩
 case rest =>
  clear HC3
  try clear p2
  try clear c4
  try clear c5
  try clear c5b0
  try clear c5b1
  try clear c8
  try clear c9
  try clear c9b0
  try clear c9b1
  try clear c9b2
  try clear hcz10_0
  try clear hcz10_1
  try clear hcz10_2
  try clear hcz11_0
  try clear hcz11_1
  try clear hcz11_2
  try clear hcz12_0
  try clear hcz12_1
  try clear hcz12_2
  try clear hcz6_0
  try clear hcz6_1
  try clear hcz6_2
  try clear hfz10_0
  try clear hfz10_1
  try clear hfz10_2
  try clear hfz11_0
  try clear hfz11_1
  try clear hfz11_2
  try clear hfz12_0
  try clear hfz12_1
  try clear hfz12_2
  try clear hfz6_0
  try clear hfz6_1
  try clear hfz6_2
  obtain ⟨kq, x30_2, rfl, HA, HJ2, BK101, HB⟩ := hcut
  cases kq with
  | zero => exact absurd HA.out (by simp [tariff_rated.j0])
  | succ kj2 =>
   have H := HA.out
   clear HA
   simp only [tariff_rated.j0] at H
   by_cases c13 : x30_2 = true
   ·subst c13
    have H1 : (some false) = some r := by rw [if_pos rfl] at H; exact H
    clear H
    have H := H1
    clear H1
    obtain rfl := Option.some.inj H
    go_wp2
    go_ret
    exact ⟨by first | rfl | (simp [errW_none, errW_some] <;> rfl) | (simp [*, errW_none, errW_some] <;> rfl), by repeat (first | (with_reducible first | exact HB.out | apply below_alloc | apply pw_below_drewN | apply below_drew1 | refine below_set ?_ GE101.out) | exact HB.out)⟩
   ·replace c13 := Bool.eq_false_iff.mpr c13
    subst c13
    have H1 : (tariff_rated.l0 kj2 a1 0 l0_1 (l0_1.length : Int) 0) = some r := by rw [if_neg (show ¬ (false = true) by decide)] at H; exact H
    clear H
    have H := H1
    clear H1
    have H' := Aside0.mk H
    clear H
    have hcz14_0 : wc.cell? ⟨gb101, 0, none⟩ = some (.int .u8 a0_0) := (blk_cell BK101.out 0).trans rfl
    have hcz14_1 : wc.cell? ⟨gb101, 1, none⟩ = some (.slice A0_1 l0_1.length c0_1) := (blk_cell BK101.out 1).trans rfl
    have hcz14_2 : wc.cell? ⟨gb101, 2, none⟩ = some (.int .i64 a0_2) := (blk_cell BK101.out 2).trans rfl
    have hfz14_0 := blk_frozen BK101.out 0
    have hfz14_1 := blk_frozen BK101.out 1
    have hfz14_2 := blk_frozen BK101.out 2
    go_wp2
    go_loopg [5, 34] kj2 (fun kq v5 v34 w' => ∃ (x5_2 : Int) (x34_2 : Int), v5 = .int .i64 x5_2 ∧ v34 = .int .i64 x34_2 ∧ Aside0 (tariff_rated.l0 kq a1 x5_2 l0_1 (l0_1.length : Int) x34_2 = some r) ∧ Aside0 (kq ≤ kj2) ∧ Aside0 (w'.heap[gb101]? = some (.cells #[.int .u8 a0_0, (.slice A0_1 l0_1.length c0_1), .int .i64 a0_2] 57 (0, 0))) ∧ Aside0 (Below w.heap.size w w'))
    case atStart => exact ⟨(0), (0), (by first | rfl | (simp; done) | (simp [*]; done)), (by first | rfl | (simp; done) | (simp [*]; done)), H', ⟨Nat.le_refl _⟩, ⟨by (with_reducible repeat (first | refine blk_drewN ?_ _ | refine blk_drew ?_ | refine blk_alloc ?_ _)); exact BK101.out⟩, ⟨by repeat (first | (with_reducible first | exact HB.out | apply below_alloc | apply pw_below_drewN | apply below_drew1 | refine below_set ?_ GE101.out) | exact HB.out)⟩⟩
    case round =>
     clear H'
     try clear c1
     try clear p2
     try clear c4
     try clear c5
     try clear c5b0
     try clear c5b1
     try clear c8
     try clear c9
     try clear c9b0
     try clear c9b1
     try clear c9b2
     try clear c13
     try clear hcz10_0
     try clear hcz10_1
     try clear hcz10_2
     try clear hcz11_0
     try clear hcz11_1
     try clear hcz11_2
     try clear hcz12_0
     try clear hcz12_1
     try clear hcz12_2
     try clear hcz14_0
     try clear hcz14_1
     try clear hcz14_2
     try clear hcz6_0
     try clear hcz6_1
     try clear hcz6_2
     try clear hfz10_0
     try clear hfz10_1
     try clear hfz10_2
     try clear hfz11_0
     try clear hfz11_1
     try clear hfz11_2
     try clear hfz12_0
     try clear hfz12_1
     try clear hfz12_2
     try clear hfz14_0
     try clear hfz14_1
     try clear hfz14_2
     try clear hfz6_0
     try clear hfz6_1
     try clear hfz6_2
     try clear p2
     obtain ⟨x5_2, x34_2, rfl, rfl, HA, HK2, BK101, HB⟩ := hrel
     cases gk with
     | zero => exact absurd HA.out (by simp [tariff_rated.l0])
     | succ k2 =>
      have H := HA.out
      clear HA
      simp only [tariff_rated.l0] at H
      by_cases c15 : x34_2 < (l0_1.length : Int)
      ·rw [if_pos c15] at H
       have c15b0 : decide (x34_2 < (l0_1.length : Int)) = true := decide_eq_true c15
       clear c15
       by_cases c16 : 0 ≤ x34_2
       ·rw [if_pos c16] at H
        have c16b0 : decide (0 ≤ x34_2) = true := decide_eq_true c16
        clear c16
        by_cases c17 : x34_2 < (l0_1.length : Int)
        ·rw [if_pos c17] at H
         have c17b0 : decide (x34_2 < (l0_1.length : Int)) = true := decide_eq_true c17
         clear c17
         have HC18 := Aside0.mk H
         clear H
         have p103 : 0 ≤ (x34_2 : Int) := of_decide_eq_true (by first | (with_reducible assumption) | assumption)
         have q103 : x34_2 < (l0_1.length : Int) := of_decide_eq_true (by first | (with_reducible assumption) | assumption)
         obtain ⟨ad103, A103_1, c103_1, e103, hx103_0, hx103_1, hl103_1, hi103_1⟩ := at_T61 HR0_1.out x34_2 p103 q103
         cases e103
         replace hx103_0 := (HB.out.cell (World.block_lt_of_cell? w _ hx103_0)).trans hx103_0
         replace hx103_1 := (HB.out.cell (World.block_lt_of_cell? w _ hx103_1)).trans hx103_1
         have HR103_1 := Aside0.mk hi103_1
         have HC103_1 := Aside0.mk hl103_1
         clear hi103_1 hl103_1
         replace p103 := eq_true p103
         replace q103 := eq_true q103
         go_upto_region 7 with (first | ((with_reducible refine gate_dst (N := 7) rfl ?_); (try (refine gate_guard (by rfl) ?_; dsimp only)); refine box_event ?hg (N := 7) ?hd (cs := #[.int .i64 0, .slice none 0 0]) (t := 61) ?hr ?_; (case hd => rfl); (case hg => rfl); (case hr => first | (go_simp; done) | (go_simp; rfl)); intro gb104 hg w19 hbox hb; have n0_ := Aside0.mk (blk_below (g := gb101) (o := .cells #[.int .u8 a0_0, .slice (some ad103) l0_1.length c0_1, .int .i64 a0_2] 57 (0, 0)) (by (with_reducible repeat (first | refine blk_drewN ?_ _ | refine blk_drew ?_ | refine blk_alloc ?_ _)); exact BK101.out) hb); have n1_ := Aside0.mk (below_step (by repeat (first | (with_reducible first | exact HB.out | apply below_alloc | apply pw_below_drewN | apply below_drew1 | refine below_set ?_ GE101.out) | exact HB.out)) hb); have n2_ := Aside0.mk (hbox); have n3_ := Aside0.mk ((by rw [hg]; exact (below_size (by repeat (first | (with_reducible first | exact HB.out | apply below_alloc | apply pw_below_drewN | apply below_drew1 | refine below_set ?_ GE101.out) | exact HB.out))) : w.heap.size ≤ gb104)); have n4_ := Aside0.mk ((by rw [hg]; exact (below_size (by repeat (first | (with_reducible first | exact HB.out | apply below_alloc | apply pw_below_drewN | apply below_drew1 | refine below_set ?_ GE101.out) | exact HB.out))) : w.heap.size ≤ gb104)); have n5_ := Aside0.mk ((by rw [hg]; exact Nat.ne_of_lt (blk_lt (g := gb101) (o := .cells #[.int .u8 a0_0, .slice (some ad103) l0_1.length c0_1, .int .i64 a0_2] 57 (0, 0)) (by (with_reducible repeat (first | refine blk_drewN ?_ _ | refine blk_drew ?_ | refine blk_alloc ?_ _)); exact BK101.out)) : gb101 ≠ gb104)); have n6_ := Aside0.mk ((by rw [hg]; exact Nat.ne_of_gt (blk_lt (g := gb101) (o := .cells #[.int .u8 a0_0, .slice (some ad103) l0_1.length c0_1, .int .i64 a0_2] 57 (0, 0)) (by (with_reducible repeat (first | refine blk_drewN ?_ _ | refine blk_drew ?_ | refine blk_alloc ?_ _)); exact BK101.out)) : gb104 ≠ gb101)); clear BK101; clear HB; have BK101 := n0_; have HB := n1_; have BK104 := n2_; have GW104 := n3_; have GE104 := n4_; have NB101_104 := n5_; have NB104_101 := n6_; clear n0_ n1_ n2_ n3_ n4_ n5_ n6_; clear hb hbox hg; have hnb20 := NB104_101.out; have hnc20 := NB101_104.out; have hcz21_0 : w19.cell? ⟨gb104, 0, none⟩ = some (.int .i64 0) := (blk_cell BK104.out 0).trans rfl; have hcz21_1 : w19.cell? ⟨gb104, 1, none⟩ = some (.slice none 0 0) := (blk_cell BK104.out 1).trans rfl; have hfz21_0 := blk_frozen BK104.out 0; have hfz21_1 := blk_frozen BK104.out 1))
         (try simp only [Act.put, sl1, sl2, sl3])
         go_cut [53] (fun v53 wc => ∃ (kq : Nat) (x53_17 : Bool), v53 = .bool x53_17 ∧ Aside0 (tariff_rated.j2 kq a1 l0_1 (l0_1.length : Int) x34_2 x53_17 ((rd_T61 l0_1 x34_2).f0) ((rd_T61 l0_1 x34_2).f1) = some r) ∧ Aside0 (kq ≤ k2) ∧ Aside0 (wc.heap[gb101]? = some (.cells #[.int .u8 a0_0, (.slice (some ad103) l0_1.length c0_1), .int .i64 a0_2] 57 (0, 0))) ∧ Aside0 (wc.heap[gb104]? = some (.cells #[.int .i64 ((rd_T61 l0_1 x34_2).f0), (.slice A103_1 ((rd_T61 l0_1 x34_2).f1).length c103_1)] 61 (0, 0))) ∧ Aside0 (Below w.heap.size w wc))
         case first =>
          have H := HC18.out
          clear HC18
          by_cases c22 : ((rd_T61 l0_1 x34_2).f0) ≤ x5_2
          ·rw [if_pos c22] at H
           have c22b0 : decide (((rd_T61 l0_1 x34_2).f0) ≤ x5_2) = true := decide_eq_true c22
           clear c22
           (first | rw [c22b0] | (simp only [i64_w, i32_w]; rw [c22b0]) | skip)
           have H' := Aside0.mk H
           clear H
           have hnb23 := NB104_101.out
           have hnc23 := NB101_104.out
           have hcz24_0 : w19.cell? ⟨gb104, 0, none⟩ = some (.int .i64 0) := (blk_cell BK104.out 0).trans rfl
           have hcz24_1 : w19.cell? ⟨gb104, 1, none⟩ = some (.slice none 0 0) := (blk_cell BK104.out 1).trans rfl
           have hfz24_0 := blk_frozen BK104.out 0
           have hfz24_1 := blk_frozen BK104.out 1
           go_wp2
           go_meet
           case rel => exact ⟨_, (true), (by first | rfl | (simp; done) | (simp [*]; done)), H', ⟨by have := HJ2.out; have := HK2.out; first | omega | exact Nat.le_refl _⟩, ⟨by (with_reducible repeat (first | refine blk_drewN ?_ _ | refine blk_drew ?_ | refine blk_alloc ?_ _)); refine blk_far ?_ NB101_104.out _; (with_reducible repeat (first | refine blk_drewN ?_ _ | refine blk_drew ?_ | refine blk_alloc ?_ _)); refine blk_far ?_ NB101_104.out _; (with_reducible repeat (first | refine blk_drewN ?_ _ | refine blk_drew ?_ | refine blk_alloc ?_ _)); exact BK101.out⟩, ⟨by (with_reducible repeat (first | refine blk_drewN ?_ _ | refine blk_drew ?_ | refine blk_alloc ?_ _)); refine blk_put (cs := #[.int .i64 ((rd_T61 l0_1 x34_2).f0), .slice none 0 0]) ?_ 1 _ rfl; (with_reducible repeat (first | refine blk_drewN ?_ _ | refine blk_drew ?_ | refine blk_alloc ?_ _)); refine blk_put (cs := #[.int .i64 0, .slice none 0 0]) ?_ 0 _ rfl; (with_reducible repeat (first | refine blk_drewN ?_ _ | refine blk_drew ?_ | refine blk_alloc ?_ _)); exact BK104.out⟩, ⟨by repeat (first | (with_reducible first | exact HB.out | apply below_alloc | apply pw_below_drewN | apply below_drew1 | refine below_set ?_ GE101.out | refine below_set ?_ GE104.out) | exact HB.out)⟩⟩
          ·rw [if_neg c22] at H
           have c22b0 : decide (((rd_T61 l0_1 x34_2).f0) ≤ x5_2) = false := decide_eq_false c22
           clear c22
           (first | rw [c22b0] | (simp only [i64_w, i32_w]; rw [c22b0]) | skip)
           by_cases c25 : ((rd_T61 l0_1 x34_2).f0) > 50000
           ·rw [if_pos c25] at H
            have c25b0 : decide (50000 < ((rd_T61 l0_1 x34_2).f0)) = true := decide_eq_true c25
            clear c25
            have H' := Aside0.mk H
            clear H
            have hnb26 := NB104_101.out
            have hnc26 := NB101_104.out
            have hcz27_0 : w19.cell? ⟨gb104, 0, none⟩ = some (.int .i64 0) := (blk_cell BK104.out 0).trans rfl
            have hcz27_1 : w19.cell? ⟨gb104, 1, none⟩ = some (.slice none 0 0) := (blk_cell BK104.out 1).trans rfl
            have hfz27_0 := blk_frozen BK104.out 0
            have hfz27_1 := blk_frozen BK104.out 1
            go_wp2
            go_meet
            case rel => exact ⟨_, (true), (by first | rfl | (simp; done) | (simp [*]; done)), H', ⟨by have := HJ2.out; have := HK2.out; first | omega | exact Nat.le_refl _⟩, ⟨by (with_reducible repeat (first | refine blk_drewN ?_ _ | refine blk_drew ?_ | refine blk_alloc ?_ _)); refine blk_far ?_ NB101_104.out _; (with_reducible repeat (first | refine blk_drewN ?_ _ | refine blk_drew ?_ | refine blk_alloc ?_ _)); refine blk_far ?_ NB101_104.out _; (with_reducible repeat (first | refine blk_drewN ?_ _ | refine blk_drew ?_ | refine blk_alloc ?_ _)); exact BK101.out⟩, ⟨by (with_reducible repeat (first | refine blk_drewN ?_ _ | refine blk_drew ?_ | refine blk_alloc ?_ _)); refine blk_put (cs := #[.int .i64 ((rd_T61 l0_1 x34_2).f0), .slice none 0 0]) ?_ 1 _ rfl; (with_reducible repeat (first | refine blk_drewN ?_ _ | refine blk_drew ?_ | refine blk_alloc ?_ _)); refine blk_put (cs := #[.int .i64 0, .slice none 0 0]) ?_ 0 _ rfl; (with_reducible repeat (first | refine blk_drewN ?_ _ | refine blk_drew ?_ | refine blk_alloc ?_ _)); exact BK104.out⟩, ⟨by repeat (first | (with_reducible first | exact HB.out | apply below_alloc | apply pw_below_drewN | apply below_drew1 | refine below_set ?_ GE101.out | refine below_set ?_ GE104.out) | exact HB.out)⟩⟩
           ·rw [if_neg c25] at H
            have c25b0 : decide (50000 < ((rd_T61 l0_1 x34_2).f0)) = false := decide_eq_false c25
            clear c25
            have H' := Aside0.mk H
            clear H
            have hnb28 := NB104_101.out
            have hnc28 := NB101_104.out
            have hcz29_0 : w19.cell? ⟨gb104, 0, none⟩ = some (.int .i64 0) := (blk_cell BK104.out 0).trans rfl
            have hcz29_1 : w19.cell? ⟨gb104, 1, none⟩ = some (.slice none 0 0) := (blk_cell BK104.out 1).trans rfl
            have hfz29_0 := blk_frozen BK104.out 0
            have hfz29_1 := blk_frozen BK104.out 1
            go_wp2
            go_meet
            case rel => exact ⟨_, (((((rd_T61 l0_1 x34_2).f1).length : Int) != a1)), (by first | rfl | (simp; done) | (simp [*]; done)), H', ⟨by have := HJ2.out; have := HK2.out; first | omega | exact Nat.le_refl _⟩, ⟨by (with_reducible repeat (first | refine blk_drewN ?_ _ | refine blk_drew ?_ | refine blk_alloc ?_ _)); refine blk_far ?_ NB101_104.out _; (with_reducible repeat (first | refine blk_drewN ?_ _ | refine blk_drew ?_ | refine blk_alloc ?_ _)); refine blk_far ?_ NB101_104.out _; (with_reducible repeat (first | refine blk_drewN ?_ _ | refine blk_drew ?_ | refine blk_alloc ?_ _)); exact BK101.out⟩, ⟨by (with_reducible repeat (first | refine blk_drewN ?_ _ | refine blk_drew ?_ | refine blk_alloc ?_ _)); refine blk_put (cs := #[.int .i64 ((rd_T61 l0_1 x34_2).f0), .slice none 0 0]) ?_ 1 _ rfl; (with_reducible repeat (first | refine blk_drewN ?_ _ | refine blk_drew ?_ | refine blk_alloc ?_ _)); refine blk_put (cs := #[.int .i64 0, .slice none 0 0]) ?_ 0 _ rfl; (with_reducible repeat (first | refine blk_drewN ?_ _ | refine blk_drew ?_ | refine blk_alloc ?_ _)); exact BK104.out⟩, ⟨by repeat (first | (with_reducible first | exact HB.out | apply below_alloc | apply pw_below_drewN | apply below_drew1 | refine below_set ?_ GE101.out | refine below_set ?_ GE104.out) | exact HB.out)⟩⟩
         case rest =>
          clear HC18
          try clear c1
          try clear p1
          try clear q1
          try clear hx1
          try clear c2
          try clear p2
          try clear c4
          try clear c5
          try clear c5b0
          try clear c5b1
          try clear c8
          try clear c9
          try clear c9b0
          try clear c9b1
          try clear c9b2
          try clear c10
          try clear p10
          try clear q10
          try clear hx10
          try clear c13
          try clear c15
          try clear c15b0
          try clear c16
          try clear c16b0
          try clear c17
          try clear c17b0
          try clear c20
          try clear c22
          try clear c22b0
          try clear c23
          try clear c25
          try clear c25b0
          try clear c26
          try clear c28
          try clear hcz10_0
          try clear hcz10_1
          try clear hcz10_2
          try clear hcz11_0
          try clear hcz11_1
          try clear hcz11_2
          try clear hcz12_0
          try clear hcz12_1
          try clear hcz12_2
          try clear hcz14_0
          try clear hcz14_1
          try clear hcz14_2
          try clear hcz21_0
          try clear hcz21_1
          try clear hcz24_0
          try clear hcz24_1
          try clear hcz27_0
          try clear hcz27_1
          try clear hcz29_0
          try clear hcz29_1
          try clear hcz6_0
          try clear hcz6_1
          try clear hcz6_2
          try clear hfz10_0
          try clear hfz10_1
          try clear hfz10_2
          try clear hfz11_0
          try clear hfz11_1
          try clear hfz11_2
          try clear hfz12_0
          try clear hfz12_1
          try clear hfz12_2
          try clear hfz14_0
          try clear hfz14_1
          try clear hfz14_2
          try clear hfz21_0
          try clear hfz21_1
          try clear hfz24_0
          try clear hfz24_1
          try clear hfz27_0
          try clear hfz27_1
          try clear hfz29_0
          try clear hfz29_1
          try clear hfz6_0
          try clear hfz6_1
          try clear hfz6_2
          try clear hx103_0
          try clear hx103_1
          try clear p103
          try clear p2
          try clear q103
          obtain ⟨kq, x53_17, rfl, HA, HJ17, BK101, BK104, HB⟩ := hcut
          cases kq with
          | zero => exact absurd HA.out (by simp [tariff_rated.j2])
          | succ kj17 =>
           have H := HA.out
           clear HA
           simp only [tariff_rated.j2] at H
           by_cases c30 : x53_17 = true
           ·subst c30
            have H1 : (some false) = some r := by rw [if_pos rfl] at H; exact H
            clear H
            have H := H1
            clear H1
            obtain rfl := Option.some.inj H
            go_wp2
            go_ret
            exact ⟨by first | rfl | (simp [errW_none, errW_some] <;> rfl) | (simp [*, errW_none, errW_some] <;> rfl), by repeat (first | (with_reducible first | exact HB.out | apply below_alloc | apply pw_below_drewN | apply below_drew1 | refine below_set ?_ GE101.out | refine below_set ?_ GE104.out) | exact HB.out)⟩
           ·replace c30 := Bool.eq_false_iff.mpr c30
            subst c30
            have H1 : (tariff_rated.l1 kj17 a1 ((rd_T61 l0_1 x34_2).f0) l0_1 (l0_1.length : Int) x34_2 ((rd_T61 l0_1 x34_2).f1) (((rd_T61 l0_1 x34_2).f1).length : Int) 0) = some r := by rw [if_neg (show ¬ (false = true) by decide)] at H; exact H
            clear H
            have H := H1
            clear H1
            have H' := Aside0.mk H
            clear H
            have hnb31 := NB104_101.out
            have hnc31 := NB101_104.out
            have hcz32_0 : wc.cell? ⟨gb104, 0, none⟩ = some (.int .i64 ((rd_T61 l0_1 x34_2).f0)) := (blk_cell BK104.out 0).trans rfl
            have hcz32_1 : wc.cell? ⟨gb104, 1, none⟩ = some (.slice A103_1 ((rd_T61 l0_1 x34_2).f1).length c103_1) := (blk_cell BK104.out 1).trans rfl
            have hfz32_0 := blk_frozen BK104.out 0
            have hfz32_1 := blk_frozen BK104.out 1
            go_wp2
            go_loopg [59] kj17 (fun kq v59 w' => ∃ (x59_4 : Int), v59 = .int .i64 x59_4 ∧ Aside0 (tariff_rated.l1 kq a1 ((rd_T61 l0_1 x34_2).f0) l0_1 (l0_1.length : Int) x34_2 ((rd_T61 l0_1 x34_2).f1) (((rd_T61 l0_1 x34_2).f1).length : Int) x59_4 = some r) ∧ Aside0 (kq ≤ kj17) ∧ Aside0 (w'.heap[gb101]? = some (.cells #[.int .u8 a0_0, (.slice (some ad103) l0_1.length c0_1), .int .i64 a0_2] 57 (0, 0))) ∧ Aside0 (w'.heap[gb104]? = some (.cells #[.int .i64 ((rd_T61 l0_1 x34_2).f0), (.slice A103_1 ((rd_T61 l0_1 x34_2).f1).length c103_1)] 61 (0, 0))) ∧ Aside0 (Below w.heap.size w w'))
            case atStart => exact ⟨(0), (by first | rfl | (simp; done) | (simp [*]; done)), H', ⟨Nat.le_refl _⟩, ⟨by (with_reducible repeat (first | refine blk_drewN ?_ _ | refine blk_drew ?_ | refine blk_alloc ?_ _)); exact BK101.out⟩, ⟨by (with_reducible repeat (first | refine blk_drewN ?_ _ | refine blk_drew ?_ | refine blk_alloc ?_ _)); exact BK104.out⟩, ⟨by repeat (first | (with_reducible first | exact HB.out | apply below_alloc | apply pw_below_drewN | apply below_drew1 | refine below_set ?_ GE101.out | refine below_set ?_ GE104.out) | exact HB.out)⟩⟩
            case round =>
             clear H'
             try clear c1
             try clear p1
             try clear q1
             try clear hx1
             try clear c2
             try clear p2
             try clear c3
             try clear c4
             try clear c5
             try clear c5b0
             try clear c5b1
             try clear c8
             try clear c9
             try clear c9b0
             try clear c9b1
             try clear c9b2
             try clear c10
             try clear p10
             try clear q10
             try clear hx10
             try clear c13
             try clear c15
             try clear c15b0
             try clear c16
             try clear c16b0
             try clear c17
             try clear c17b0
             try clear c20
             try clear c22
             try clear c22b0
             try clear c23
             try clear c25
             try clear c25b0
             try clear c26
             try clear c28
             try clear c30
             try clear c31
             try clear hcz10_0
             try clear hcz10_1
             try clear hcz10_2
             try clear hcz11_0
             try clear hcz11_1
             try clear hcz11_2
             try clear hcz12_0
             try clear hcz12_1
             try clear hcz12_2
             try clear hcz14_0
             try clear hcz14_1
             try clear hcz14_2
             try clear hcz21_0
             try clear hcz21_1
             try clear hcz24_0
             try clear hcz24_1
             try clear hcz27_0
             try clear hcz27_1
             try clear hcz29_0
             try clear hcz29_1
             try clear hcz32_0
             try clear hcz32_1
             try clear hcz6_0
             try clear hcz6_1
             try clear hcz6_2
             try clear hfz10_0
             try clear hfz10_1
             try clear hfz10_2
             try clear hfz11_0
             try clear hfz11_1
             try clear hfz11_2
             try clear hfz12_0
             try clear hfz12_1
             try clear hfz12_2
             try clear hfz14_0
             try clear hfz14_1
             try clear hfz14_2
             try clear hfz21_0
             try clear hfz21_1
             try clear hfz24_0
             try clear hfz24_1
             try clear hfz27_0
             try clear hfz27_1
             try clear hfz29_0
             try clear hfz29_1
             try clear hfz32_0
             try clear hfz32_1
             try clear hfz6_0
             try clear hfz6_1
             try clear hfz6_2
             try clear hx103_0
             try clear hx103_1
             try clear p1
             try clear p10
             try clear p103
             try clear p2
             try clear q1
             try clear q10
             try clear q103
             obtain ⟨x59_4, rfl, HA, HK4, BK101, BK104, HB⟩ := hrel
             cases gk with
             | zero => exact absurd HA.out (by simp [tariff_rated.l1])
             | succ k4 =>
              have H := HA.out
              clear HA
              simp only [tariff_rated.l1] at H
              by_cases c33 : x59_4 < (((rd_T61 l0_1 x34_2).f1).length : Int)
              ·rw [if_pos c33] at H
               have c33b0 : decide (x59_4 < (((rd_T61 l0_1 x34_2).f1).length : Int)) = true := decide_eq_true c33
               clear c33
               by_cases c34 : 0 ≤ x59_4
               ·rw [if_pos c34] at H
                have c34b0 : decide (0 ≤ x59_4) = true := decide_eq_true c34
                clear c34
                by_cases c35 : x59_4 < (((rd_T61 l0_1 x34_2).f1).length : Int)
                ·rw [if_pos c35] at H
                 have c35b0 : decide (x59_4 < (((rd_T61 l0_1 x34_2).f1).length : Int)) = true := decide_eq_true c35
                 clear c35
                 replace H := Option.bind_eq_some_iff.mp H
                 obtain ⟨t106, A360, H⟩ := H
                 replace H : (if t106 = true then (tariff_rated.l1 k4 a1 ((rd_T61 l0_1 x34_2).f0) l0_1 (l0_1.length : Int) x34_2 ((rd_T61 l0_1 x34_2).f1) (((rd_T61 l0_1 x34_2).f1).length : Int) (wrap64 (x59_4 + 1))) else (some false)) = some r := H
                 have A36 := Aside0.mk A360
                 clear A360
                 by_cases c37 : t106 = true
                 ·subst c37
                  have H1 : (tariff_rated.l1 k4 a1 ((rd_T61 l0_1 x34_2).f0) l0_1 (l0_1.length : Int) x34_2 ((rd_T61 l0_1 x34_2).f1) (((rd_T61 l0_1 x34_2).f1).length : Int) (wrap64 (x59_4 + 1))) = some r := by rw [if_pos rfl] at H; exact H
                  clear H
                  have H := H1
                  clear H1
                  have H' := Aside0.mk H
                  clear H
                  have p105 : 0 ≤ (x59_4 : Int) := of_decide_eq_true (by first | (with_reducible assumption) | assumption)
                  have q105 : x59_4 < (((rd_T61 l0_1 x34_2).f1).length : Int) := of_decide_eq_true (by first | (with_reducible assumption) | assumption)
                  obtain ⟨ad105, e105, hx105_0⟩ := Kd.at_int HR103_1.out x59_4 p105 q105
                  cases e105
                  replace hx105_0 := (HB.out.cell (World.block_lt_of_cell? w _ hx105_0)).trans hx105_0
                  replace p105 := eq_true p105
                  replace q105 := eq_true q105
                  go_wp2_with (first | ((with_reducible refine gate_callee (f := 67) rfl ?_); refine goesL_ (some 64) rfl rfl Tryd.func67 (by kernel_rfl) rfl #[.int .i64 (rd ((rd_T61 l0_1 x34_2).f1) x59_4)] rfl (by (try simp only [List.map_toArray, List.map_cons, List.map_nil]); first | done | rfl | (simp only [List.length_drop, List.length_take]; rfl)) ?_; (with_reducible refine (tariff_priced.calls (rd ((rd_T61 l0_1 x34_2).f1) x59_4) true _ A36.out).mono ?_); rintro e w' ⟨rfl, ⟨nd, rfl⟩⟩; refine ⟨_, rfl, ?_⟩))
                  go_roundg k4
                  case measure => have := HJ2.out; have := HK2.out; have := HJ17.out; have := HK4.out; omega
                  case rel => exact ⟨(wrap64 (x59_4 + 1)), (by first | rfl | (simp; done) | (simp [*]; done)), H', ⟨by have := HJ2.out; have := HK2.out; have := HJ17.out; have := HK4.out; omega⟩, ⟨by (with_reducible repeat (first | refine blk_drewN ?_ _ | refine blk_drew ?_ | refine blk_alloc ?_ _)); exact BK101.out⟩, ⟨by (with_reducible repeat (first | refine blk_drewN ?_ _ | refine blk_drew ?_ | refine blk_alloc ?_ _)); exact BK104.out⟩, ⟨by repeat (first | (with_reducible first | exact HB.out | apply below_alloc | apply pw_below_drewN | apply below_drew1 | refine below_set ?_ GE101.out | refine below_set ?_ GE104.out) | exact HB.out)⟩⟩
                 ·replace c37 := Bool.eq_false_iff.mpr c37
                  subst c37
                  have H1 : (some false) = some r := by rw [if_neg (show ¬ (false = true) by decide)] at H; exact H
                  clear H
                  have H := H1
                  clear H1
                  obtain rfl := Option.some.inj H
                  have p105 : 0 ≤ (x59_4 : Int) := of_decide_eq_true (by first | (with_reducible assumption) | assumption)
                  have q105 : x59_4 < (((rd_T61 l0_1 x34_2).f1).length : Int) := of_decide_eq_true (by first | (with_reducible assumption) | assumption)
                  obtain ⟨ad105, e105, hx105_0⟩ := Kd.at_int HR103_1.out x59_4 p105 q105
                  cases e105
                  replace hx105_0 := (HB.out.cell (World.block_lt_of_cell? w _ hx105_0)).trans hx105_0
                  replace p105 := eq_true p105
                  replace q105 := eq_true q105
                  go_wp2_with (first | ((with_reducible refine gate_callee (f := 67) rfl ?_); refine goesL_ (some 64) rfl rfl Tryd.func67 (by kernel_rfl) rfl #[.int .i64 (rd ((rd_T61 l0_1 x34_2).f1) x59_4)] rfl (by (try simp only [List.map_toArray, List.map_cons, List.map_nil]); first | done | rfl | (simp only [List.length_drop, List.length_take]; rfl)) ?_; (with_reducible refine (tariff_priced.calls (rd ((rd_T61 l0_1 x34_2).f1) x59_4) false _ A36.out).mono ?_); rintro e w' ⟨rfl, ⟨nd, rfl⟩⟩; refine ⟨_, rfl, ?_⟩))
                  go_ret
                  exact ⟨by first | rfl | (simp [errW_none, errW_some] <;> rfl) | (simp [*, errW_none, errW_some] <;> rfl), by repeat (first | (with_reducible first | exact HB.out | apply below_alloc | apply pw_below_drewN | apply below_drew1 | refine below_set ?_ GE101.out | refine below_set ?_ GE104.out) | exact HB.out)⟩
                ·rw [if_neg c35] at H
                 exact absurd H (by simp)
               ·rw [if_neg c34] at H
                exact absurd H (by simp)
              ·rw [if_neg c33] at H
               have c33b0 : decide (x59_4 < (((rd_T61 l0_1 x34_2).f1).length : Int)) = false := decide_eq_false c33
               clear c33
               have H' := Aside0.mk H
               clear H
               go_wp2
               go_roundg k4
               case measure => have := HJ2.out; have := HK2.out; have := HJ17.out; have := HK4.out; omega
               case rel => exact ⟨(((rd_T61 l0_1 x34_2).f0)), (wrap64 (x34_2 + 1)), (by first | rfl | (simp; done) | (simp [*]; done)), (by first | rfl | (simp; done) | (simp [*]; done)), H', ⟨by have := HJ2.out; have := HK2.out; have := HJ17.out; have := HK4.out; omega⟩, ⟨by (with_reducible repeat (first | refine blk_drewN ?_ _ | refine blk_drew ?_ | refine blk_alloc ?_ _)); exact BK101.out⟩, ⟨by repeat (first | (with_reducible first | exact HB.out | apply below_alloc | apply pw_below_drewN | apply below_drew1 | refine below_set ?_ GE101.out | refine below_set ?_ GE104.out) | exact HB.out)⟩⟩
        ·rw [if_neg c17] at H
         exact absurd H (by simp)
       ·rw [if_neg c16] at H
        exact absurd H (by simp)
      ·rw [if_neg c15] at H
       have c15b0 : decide (x34_2 < (l0_1.length : Int)) = false := decide_eq_false c15
       clear c15
       obtain rfl := Option.some.inj H
       go_wp2
       go_ret
       exact ⟨by first | rfl | (simp [errW_none, errW_some] <;> rfl) | (simp [*, errW_none, errW_some] <;> rfl), by repeat (first | (with_reducible first | exact HB.out | apply below_alloc | apply pw_below_drewN | apply below_drew1 | refine below_set ?_ GE101.out) | exact HB.out)⟩
end Go.Proofs.YtfglcfbcdhjcdaaDoor.Q

namespace Go.Proofs.YtfglcfbcdhjcdaaDoor.Q
open Go.RowKit Go.Proofs.YtfglcfbcdhjcdaaDoorW.PrintWords Go.Proofs.YtfglcfbcdhjcdaaDoorW.PrintLast Go.Proofs.YtfglcfbcdhjcdaaDoorW.PrintMore
attribute [local go_sem] max2_int min2_int max_two min_two max_three min_three max_four min_four
set_option linter.unusedVariables false
set_option linter.unusedSimpArgs false
def tariff_zones.f (l0_0 : List (S57)) (l0_1 : List (S67)) : Option (Int) := if (l0_0.length : Int) = 0 then (some 0) else (if 0 < (l0_0.length : Int) then (if (((rd_T57 l0_0 0).f1).length : Int) = 0 then (some 0) else (if 0 < (((rd_T57 l0_0 0).f1).length : Int) then (some (((rd_T61 ((rd_T57 l0_0 0).f1) 0).f1).length : Int)) else (none))) else (none))
set_option maxHeartbeats 8000000 in
set_option maxRecDepth 100000 in
theorem tariff_zones.calls (A0_0 : Option Addr) (c0_0 : Nat) (l0_0 : List (S57)) (A0_1 : Option Addr) (c0_1 : Nat) (l0_1 : List (S67)) (r : Int) (w : World) (hr0_0 : Kd.C k57 w A0_0 l0_0.length l0_0) (hc0_0 : l0_0.length ≤ c0_0) (hr0_1 : Kd.C k67 w A0_1 l0_1.length l0_1) (hc0_1 : l0_1.length ≤ c0_1) (h : tariff_zones.f l0_0 l0_1 = some r) :
  Calls Tryd.prog 44 #[.agg #[.slice A0_0 l0_0.length c0_0, .slice A0_1 l0_1.length c0_1]] w fun e w' => e = .returned (.int .i64 r) ∧ Below w.heap.size w w' := by
 have hu25 := Tryd.underlying25
 have HR0_0 := Aside0.mk hr0_0
 have HC0_0 := Aside0.mk hc0_0
 clear hr0_0 hc0_0
 have HR0_1 := Aside0.mk hr0_1
 have HC0_1 := Aside0.mk hc0_1
 clear hr0_1 hc0_1
 have HB := Aside0.mk (Below.refl w.heap.size w)
 have H : (if (l0_0.length : Int) = 0 then (some 0) else (if 0 < (l0_0.length : Int) then (if (((rd_T57 l0_0 0).f1).length : Int) = 0 then (some 0) else (if 0 < (((rd_T57 l0_0 0).f1).length : Int) then (some (((rd_T61 ((rd_T57 l0_0 0).f1) 0).f1).length : Int)) else (none))) else (none))) = some r := h
 clear h
 by_cases c2 : (l0_0.length : Int) = 0
 ·rw [if_pos c2] at H
  have c2b0 : ((l0_0.length : Int) == 0) = true := beq_iff_eq.mpr c2
  have c2b1 : ((l0_0.length : Int) != 0) = false := bne_eq_false_iff_eq.mpr c2
  clear c2
  obtain rfl := Option.some.inj H
  go_enter Tryd.func44, Tryd.ntmps44
  go_wp2_with (first | ((with_reducible refine gate_dst (N := 1) rfl ?_); (try (refine gate_guard (by rfl) ?_; dsimp only)); refine box_event ?hg (N := 1) ?hd (cs := #[.slice A0_0 l0_0.length c0_0, .slice A0_1 l0_1.length c0_1]) (t := 25) ?hr ?_; (case hd => rfl); (case hg => rfl); (case hr => first | (go_simp; done) | (go_simp; rfl)); intro gb107 hg w3 hbox hb; have n0_ := Aside0.mk (below_step (by repeat (first | (with_reducible first | exact HB.out | apply below_alloc | apply pw_below_drewN | apply below_drew1) | exact HB.out)) hb); have n1_ := Aside0.mk (hbox); have n2_ := Aside0.mk ((by rw [hg]; exact (below_size (by repeat (first | (with_reducible first | exact HB.out | apply below_alloc | apply pw_below_drewN | apply below_drew1) | exact HB.out))) : w.heap.size ≤ gb107)); have n3_ := Aside0.mk ((by rw [hg]; exact (below_size (by repeat (first | (with_reducible first | exact HB.out | apply below_alloc | apply pw_below_drewN | apply below_drew1) | exact HB.out))) : w.heap.size ≤ gb107)); clear HB; have HB := n0_; have BK107 := n1_; have GW107 := n2_; have GE107 := n3_; clear n0_ n1_ n2_ n3_; clear hb hbox hg; have hcz4_0 : w3.cell? ⟨gb107, 0, none⟩ = some (.slice A0_0 l0_0.length c0_0) := (blk_cell BK107.out 0).trans rfl; have hcz4_1 : w3.cell? ⟨gb107, 1, none⟩ = some (.slice A0_1 l0_1.length c0_1) := (blk_cell BK107.out 1).trans rfl; have hfz4_0 := blk_frozen BK107.out 0; have hfz4_1 := blk_frozen BK107.out 1))
  go_ret
  exact ⟨by first | rfl | (simp [errW_none, errW_some] <;> rfl) | (simp [*, errW_none, errW_some] <;> rfl), by repeat (first | (with_reducible first | exact HB.out | apply below_alloc | apply pw_below_drewN | apply below_drew1 | refine below_set ?_ GE107.out) | exact HB.out)⟩
 ·rw [if_neg c2] at H
  have c2b0 : ((l0_0.length : Int) == 0) = false := beq_eq_false_iff_ne.mpr c2
  have c2b1 : ((l0_0.length : Int) != 0) = true := bne_iff_ne.mpr c2
  have c2b2 : ¬ (l0_0 = []) := fun h_ => c2 (by rw [h_]; rfl)
  by_cases c5 : 0 < (l0_0.length : Int)
  ·rw [if_pos c5] at H
   have c5b0 : decide (0 < (l0_0.length : Int)) = true := decide_eq_true c5
   have c5b1 : decide (0 < l0_0.length) = true := decide_eq_true (by omega)
   clear c5
   by_cases c6 : (((rd_T57 l0_0 0).f1).length : Int) = 0
   ·rw [if_pos c6] at H
    have c6b0 : ((((rd_T57 l0_0 0).f1).length : Int) == 0) = true := beq_iff_eq.mpr c6
    have c6b1 : ((((rd_T57 l0_0 0).f1).length : Int) != 0) = false := bne_eq_false_iff_eq.mpr c6
    clear c6
    obtain rfl := Option.some.inj H
    go_enter Tryd.func44, Tryd.ntmps44
    go_wp2_with (first | ((with_reducible refine gate_dst (N := 1) rfl ?_); (try (refine gate_guard (by rfl) ?_; dsimp only)); refine box_event ?hg (N := 1) ?hd (cs := #[.slice A0_0 l0_0.length c0_0, .slice A0_1 l0_1.length c0_1]) (t := 25) ?hr ?_; (case hd => rfl); (case hg => rfl); (case hr => first | (go_simp; done) | (go_simp; rfl)); intro gb107 hg w7 hbox hb; have n0_ := Aside0.mk (below_step (by repeat (first | (with_reducible first | exact HB.out | apply below_alloc | apply pw_below_drewN | apply below_drew1) | exact HB.out)) hb); have n1_ := Aside0.mk (hbox); have n2_ := Aside0.mk ((by rw [hg]; exact (below_size (by repeat (first | (with_reducible first | exact HB.out | apply below_alloc | apply pw_below_drewN | apply below_drew1) | exact HB.out))) : w.heap.size ≤ gb107)); have n3_ := Aside0.mk ((by rw [hg]; exact (below_size (by repeat (first | (with_reducible first | exact HB.out | apply below_alloc | apply pw_below_drewN | apply below_drew1) | exact HB.out))) : w.heap.size ≤ gb107)); clear HB; have HB := n0_; have BK107 := n1_; have GW107 := n2_; have GE107 := n3_; clear n0_ n1_ n2_ n3_; clear hb hbox hg; have hcz8_0 : w7.cell? ⟨gb107, 0, none⟩ = some (.slice A0_0 l0_0.length c0_0) := (blk_cell BK107.out 0).trans rfl; have hcz8_1 : w7.cell? ⟨gb107, 1, none⟩ = some (.slice A0_1 l0_1.length c0_1) := (blk_cell BK107.out 1).trans rfl; have hfz8_0 := blk_frozen BK107.out 0; have hfz8_1 := blk_frozen BK107.out 1; have p108 : 0 ≤ (0 : Int) := (by omega); have q108 : 0 < (l0_0.length : Int) := of_decide_eq_true (by first | (with_reducible assumption) | assumption); obtain ⟨ad108, A108_1, c108_1, e108, hx108_0, hx108_1, hx108_2, hl108_1, hi108_1⟩ := at_T57 HR0_0.out 0 p108 q108; cases e108; have qi108 : (0 < l0_0.length) = True := eq_true (by omega); (try rw [show ((0 : Int)).toNat = 0 from rfl] at hx108_0); (try rw [show 0 * 3 = 0 from rfl] at hx108_0); (try rw [Addr.add_zero'] at hx108_0); (try rw [show ((0 : Int)).toNat = 0 from rfl] at hx108_1); (try rw [show 0 * 3 = 0 from rfl] at hx108_1); (try rw [Addr.add_zero'] at hx108_1); (try rw [show ((0 : Int)).toNat = 0 from rfl] at hx108_2); (try rw [show 0 * 3 = 0 from rfl] at hx108_2); (try rw [Addr.add_zero'] at hx108_2); replace hx108_0 := (HB.out.cell (World.block_lt_of_cell? w _ hx108_0)).trans hx108_0; replace hx108_1 := (HB.out.cell (World.block_lt_of_cell? w _ hx108_1)).trans hx108_1; replace hx108_2 := (HB.out.cell (World.block_lt_of_cell? w _ hx108_2)).trans hx108_2; have HR108_1 := Aside0.mk hi108_1; have HC108_1 := Aside0.mk hl108_1; clear hi108_1 hl108_1; replace p108 := eq_true p108; replace q108 := eq_true q108))
    go_ret
    exact ⟨by first | rfl | (simp [errW_none, errW_some] <;> rfl) | (simp [*, errW_none, errW_some] <;> rfl), by repeat (first | (with_reducible first | exact HB.out | apply below_alloc | apply pw_below_drewN | apply below_drew1 | refine below_set ?_ GE107.out) | exact HB.out)⟩
   ·rw [if_neg c6] at H
    have c6b0 : ((((rd_T57 l0_0 0).f1).length : Int) == 0) = false := beq_eq_false_iff_ne.mpr c6
    have c6b1 : ((((rd_T57 l0_0 0).f1).length : Int) != 0) = true := bne_iff_ne.mpr c6
    have c6b2 : ¬ (((rd_T57 l0_0 0).f1) = []) := fun h_ => c6 (by rw [h_]; rfl)
    by_cases c9 : 0 < (((rd_T57 l0_0 0).f1).length : Int)
    ·rw [if_pos c9] at H
     have c9b0 : decide (0 < (((rd_T57 l0_0 0).f1).length : Int)) = true := decide_eq_true c9
     have c9b1 : decide (0 < ((rd_T57 l0_0 0).f1).length) = true := decide_eq_true (by omega)
     clear c9
     obtain rfl := Option.some.inj H
     go_enter Tryd.func44, Tryd.ntmps44
     go_wp2_with (first | ((with_reducible refine gate_dst (N := 1) rfl ?_); (try (refine gate_guard (by rfl) ?_; dsimp only)); refine box_event ?hg (N := 1) ?hd (cs := #[.slice A0_0 l0_0.length c0_0, .slice A0_1 l0_1.length c0_1]) (t := 25) ?hr ?_; (case hd => rfl); (case hg => rfl); (case hr => first | (go_simp; done) | (go_simp; rfl)); intro gb107 hg w10 hbox hb; have n0_ := Aside0.mk (below_step (by repeat (first | (with_reducible first | exact HB.out | apply below_alloc | apply pw_below_drewN | apply below_drew1) | exact HB.out)) hb); have n1_ := Aside0.mk (hbox); have n2_ := Aside0.mk ((by rw [hg]; exact (below_size (by repeat (first | (with_reducible first | exact HB.out | apply below_alloc | apply pw_below_drewN | apply below_drew1) | exact HB.out))) : w.heap.size ≤ gb107)); have n3_ := Aside0.mk ((by rw [hg]; exact (below_size (by repeat (first | (with_reducible first | exact HB.out | apply below_alloc | apply pw_below_drewN | apply below_drew1) | exact HB.out))) : w.heap.size ≤ gb107)); clear HB; have HB := n0_; have BK107 := n1_; have GW107 := n2_; have GE107 := n3_; clear n0_ n1_ n2_ n3_; clear hb hbox hg; have hcz11_0 : w10.cell? ⟨gb107, 0, none⟩ = some (.slice A0_0 l0_0.length c0_0) := (blk_cell BK107.out 0).trans rfl; have hcz11_1 : w10.cell? ⟨gb107, 1, none⟩ = some (.slice A0_1 l0_1.length c0_1) := (blk_cell BK107.out 1).trans rfl; have hfz11_0 := blk_frozen BK107.out 0; have hfz11_1 := blk_frozen BK107.out 1; have p108 : 0 ≤ (0 : Int) := (by omega); have q108 : 0 < (l0_0.length : Int) := of_decide_eq_true (by first | (with_reducible assumption) | assumption); obtain ⟨ad108, A108_1, c108_1, e108, hx108_0, hx108_1, hx108_2, hl108_1, hi108_1⟩ := at_T57 HR0_0.out 0 p108 q108; cases e108; have qi108 : (0 < l0_0.length) = True := eq_true (by omega); (try rw [show ((0 : Int)).toNat = 0 from rfl] at hx108_0); (try rw [show 0 * 3 = 0 from rfl] at hx108_0); (try rw [Addr.add_zero'] at hx108_0); (try rw [show ((0 : Int)).toNat = 0 from rfl] at hx108_1); (try rw [show 0 * 3 = 0 from rfl] at hx108_1); (try rw [Addr.add_zero'] at hx108_1); (try rw [show ((0 : Int)).toNat = 0 from rfl] at hx108_2); (try rw [show 0 * 3 = 0 from rfl] at hx108_2); (try rw [Addr.add_zero'] at hx108_2); replace hx108_0 := (HB.out.cell (World.block_lt_of_cell? w _ hx108_0)).trans hx108_0; replace hx108_1 := (HB.out.cell (World.block_lt_of_cell? w _ hx108_1)).trans hx108_1; replace hx108_2 := (HB.out.cell (World.block_lt_of_cell? w _ hx108_2)).trans hx108_2; have HR108_1 := Aside0.mk hi108_1; have HC108_1 := Aside0.mk hl108_1; clear hi108_1 hl108_1; replace p108 := eq_true p108; replace q108 := eq_true q108; have p109 : 0 ≤ (0 : Int) := (by omega); have q109 : 0 < (l0_0.length : Int) := of_decide_eq_true (by first | (with_reducible assumption) | assumption); obtain ⟨ad109, A109_1, c109_1, e109, hx109_0, hx109_1, hx109_2, hl109_1, hi109_1⟩ := at_T57 HR0_0.out 0 p109 q109; obtain rfl : ad108 = ad109 := (by injection e109); have qi109 : (0 < l0_0.length) = True := eq_true (by omega); (try rw [show ((0 : Int)).toNat = 0 from rfl] at hx109_0); (try rw [show 0 * 3 = 0 from rfl] at hx109_0); (try rw [Addr.add_zero'] at hx109_0); (try rw [show ((0 : Int)).toNat = 0 from rfl] at hx109_1); (try rw [show 0 * 3 = 0 from rfl] at hx109_1); (try rw [Addr.add_zero'] at hx109_1); (try rw [show ((0 : Int)).toNat = 0 from rfl] at hx109_2); (try rw [show 0 * 3 = 0 from rfl] at hx109_2); (try rw [Addr.add_zero'] at hx109_2); replace hx109_0 := (HB.out.cell (World.block_lt_of_cell? w _ hx109_0)).trans hx109_0; replace hx109_1 := (HB.out.cell (World.block_lt_of_cell? w _ hx109_1)).trans hx109_1; replace hx109_2 := (HB.out.cell (World.block_lt_of_cell? w _ hx109_2)).trans hx109_2; have HR109_1 := Aside0.mk hi109_1; have HC109_1 := Aside0.mk hl109_1; clear hi109_1 hl109_1; replace p109 := eq_true p109; replace q109 := eq_true q109; have ea_ := Option.some.inj (hx108_1.symm.trans hx109_1); injection ea_ with ea_ en_ ec_; subst ea_; subst ec_; clear en_; have p110 : 0 ≤ (0 : Int) := (by omega); have q110 : 0 < (((rd_T57 l0_0 0).f1).length : Int) := of_decide_eq_true (by first | (with_reducible assumption) | assumption); obtain ⟨ad110, A110_1, c110_1, e110, hx110_0, hx110_1, hl110_1, hi110_1⟩ := at_T61 HR109_1.out 0 p110 q110; cases e110; have qi110 : (0 < ((rd_T57 l0_0 0).f1).length) = True := eq_true (by omega); (try rw [show ((0 : Int)).toNat = 0 from rfl] at hx110_0); (try rw [show 0 * 2 = 0 from rfl] at hx110_0); (try rw [Addr.add_zero'] at hx110_0); (try rw [show ((0 : Int)).toNat = 0 from rfl] at hx110_1); (try rw [show 0 * 2 = 0 from rfl] at hx110_1); (try rw [Addr.add_zero'] at hx110_1); replace hx110_0 := (HB.out.cell (World.block_lt_of_cell? w _ hx110_0)).trans hx110_0; replace hx110_1 := (HB.out.cell (World.block_lt_of_cell? w _ hx110_1)).trans hx110_1; have HR110_1 := Aside0.mk hi110_1; have HC110_1 := Aside0.mk hl110_1; clear hi110_1 hl110_1; replace p110 := eq_true p110; replace q110 := eq_true q110))
     go_ret
     exact ⟨by first | rfl | (simp [errW_none, errW_some] <;> rfl) | (simp [*, errW_none, errW_some] <;> rfl), by repeat (first | (with_reducible first | exact HB.out | apply below_alloc | apply pw_below_drewN | apply below_drew1 | refine below_set ?_ GE107.out) | exact HB.out)⟩
    ·rw [if_neg c9] at H
     exact absurd H (by simp)
  ·rw [if_neg c5] at H
   exact absurd H (by simp)
end Go.Proofs.YtfglcfbcdhjcdaaDoor.Q

namespace Go.Proofs.YtfglcfbcdhjcdaaDoor.Q
open Go.RowKit Go.Proofs.YtfglcfbcdhjcdaaDoorW.PrintWords Go.Proofs.YtfglcfbcdhjcdaaDoorW.PrintLast Go.Proofs.YtfglcfbcdhjcdaaDoorW.PrintMore
attribute [local go_sem] max2_int min2_int max_two min_two max_three min_three max_four min_four
set_option linter.unusedVariables false
set_option linter.unusedSimpArgs false
def scheme_Code.f (a0 : ByteArray) : Option (Bool) := if (a0.size : Int) ≥ 1 then (if (a0.size : Int) ≤ 10 then ((scheme_plain.f a0).bind fun t117 => (some t117)) else (some false)) else (some false)
set_option maxHeartbeats 8000000 in
set_option maxRecDepth 100000 in
theorem scheme_Code.calls (a0 : ByteArray) (r : Bool) (w : World) (h : scheme_Code.f a0 = some r) :
  Calls Tryd.prog 46 #[.string a0] w fun e w' => e = .returned (.bool r) ∧ Below w.heap.size w w' := by
 have HB := Aside0.mk (Below.refl w.heap.size w)
 have H : (if (a0.size : Int) ≥ 1 then (if (a0.size : Int) ≤ 10 then ((scheme_plain.f a0).bind fun t117 => (some t117)) else (some false)) else (some false)) = some r := h
 clear h
 by_cases c2 : (a0.size : Int) ≥ 1
 ·rw [if_pos c2] at H
  have c2b0 : decide (1 ≤ (a0.size : Int)) = true := decide_eq_true c2
  have c2b1 : decide (1 ≤ a0.size) = true := decide_eq_true (by omega)
  clear c2
  by_cases c3 : (a0.size : Int) ≤ 10
  ·rw [if_pos c3] at H
   have c3b0 : decide ((a0.size : Int) ≤ 10) = true := decide_eq_true c3
   have c3b1 : decide (a0.size ≤ 10) = true := decide_eq_true (by omega)
   clear c3
   replace H := Option.bind_eq_some_iff.mp H
   obtain ⟨t117, A40, H⟩ := H
   replace H : (some t117) = some r := H
   have A4 := Aside0.mk A40
   clear A40
   obtain rfl := Option.some.inj H
   go_enter Tryd.func46, Tryd.ntmps46
   go_wp2_with (first | (go_at_call 68; (with_reducible refine (scheme_plain.calls a0 t117 _ A4.out).mono ?_); rintro e w5 ⟨rfl, hb⟩; have n0_ := Aside0.mk (below_step (by repeat (first | (with_reducible first | exact HB.out | apply below_alloc | apply pw_below_drewN | apply below_drew1) | exact HB.out)) hb); clear HB; have HB := n0_; clear n0_; (try clear hb); (try clear hb2); (try clear hk); (try clear hi)))
   go_ret
   exact ⟨by first | rfl | (simp [errW_none, errW_some] <;> rfl) | (simp [*, errW_none, errW_some] <;> rfl), by repeat (first | (with_reducible first | exact HB.out | apply below_alloc | apply pw_below_drewN | apply below_drew1) | exact HB.out)⟩
  ·rw [if_neg c3] at H
   have c3b0 : decide ((a0.size : Int) ≤ 10) = false := decide_eq_false c3
   have c3b1 : decide (a0.size ≤ 10) = false := decide_eq_false (by omega)
   clear c3
   obtain rfl := Option.some.inj H
   go_enter Tryd.func46, Tryd.ntmps46
   go_wp2
   go_ret
   exact ⟨by first | rfl | (simp [errW_none, errW_some] <;> rfl) | (simp [*, errW_none, errW_some] <;> rfl), by repeat (first | (with_reducible first | exact HB.out | apply below_alloc | apply pw_below_drewN | apply below_drew1) | exact HB.out)⟩
 ·rw [if_neg c2] at H
  have c2b0 : decide (1 ≤ (a0.size : Int)) = false := decide_eq_false c2
  have c2b1 : decide (1 ≤ a0.size) = false := decide_eq_false (by omega)
  clear c2
  obtain rfl := Option.some.inj H
  go_enter Tryd.func46, Tryd.ntmps46
  go_wp2
  go_ret
  exact ⟨by first | rfl | (simp [errW_none, errW_some] <;> rfl) | (simp [*, errW_none, errW_some] <;> rfl), by repeat (first | (with_reducible first | exact HB.out | apply below_alloc | apply pw_below_drewN | apply below_drew1) | exact HB.out)⟩
end Go.Proofs.YtfglcfbcdhjcdaaDoor.Q

namespace Go.Proofs.YtfglcfbcdhjcdaaDoor.Q
open Go.RowKit Go.Proofs.YtfglcfbcdhjcdaaDoorW.PrintWords Go.Proofs.YtfglcfbcdhjcdaaDoorW.PrintLast Go.Proofs.YtfglcfbcdhjcdaaDoorW.PrintMore
attribute [local go_sem] max2_int min2_int max_two min_two max_three min_three max_four min_four
set_option linter.unusedVariables false
set_option linter.unusedSimpArgs false
def scheme_named.l0 : Nat → ByteArray → Int → Int → Option (Bool)
 | 0, _, _, _ => none
 | k + 1, x0, x5, x6 => if x6 < x5 then (if 0 ≤ x6 then (if x6 < (x0.size : Int) then (if (bt x0 x6) < 33 then (some false) else (if (bt x0 x6) > 126 then (some false) else (scheme_named.l0 k x0 x5 (wrap64 (x6 + 1))))) else (none)) else (none)) else (if (x0.size : Int) ≥ 1 then (some (decide ((x0.size : Int) ≤ 20))) else (some false))
def scheme_named.f (k : Nat) (a0 : ByteArray) : Option (Bool) := scheme_named.l0 k a0 (a0.size : Int) 0
set_option maxHeartbeats 8000000 in
set_option maxRecDepth 100000 in
theorem scheme_named.calls (k : Nat) (a0 : ByteArray) (r : Bool) (w : World) (h : scheme_named.f k a0 = some r) :
  Calls Tryd.prog 83 #[.string a0] w fun e w' => e = .returned (.bool r) ∧ Drawn0 w w' := by
 have H : (scheme_named.l0 k a0 (a0.size : Int) 0) = some r := h
 clear h
 have H' := Aside0.mk H
 clear H
 go_enter Tryd.func83, Tryd.ntmps83
 go_wp2
 go_loopg [6] k (fun kq v6 w' => ∃ (x6_1 : Int), v6 = .int .i64 x6_1 ∧ Aside0 (scheme_named.l0 kq a0 (a0.size : Int) x6_1 = some r) ∧ Aside0 (kq ≤ k) ∧ Drawn0 w w')
 case atStart => exact ⟨(0), (by first | rfl | (simp; done) | (simp [*]; done)), H', ⟨Nat.le_refl _⟩, by repeat (first | exact Drawn0.refl _ | apply Drawn0.step)⟩
 case round =>
  clear H'
  obtain ⟨x6_1, rfl, HA, HK1, ⟨m1, rfl⟩⟩ := hrel
  cases gk with
  | zero => exact absurd HA.out (by simp [scheme_named.l0])
  | succ k1 =>
   have H := HA.out
   clear HA
   simp only [scheme_named.l0] at H
   by_cases c2 : x6_1 < (a0.size : Int)
   ·rw [if_pos c2] at H
    have c2b0 : decide (x6_1 < (a0.size : Int)) = true := decide_eq_true c2
    clear c2
    by_cases c3 : 0 ≤ x6_1
    ·rw [if_pos c3] at H
     have c3b0 : decide (0 ≤ x6_1) = true := decide_eq_true c3
     clear c3
     by_cases c4 : x6_1 < (a0.size : Int)
     ·rw [if_pos c4] at H
      have c4b0 : decide (x6_1 < (a0.size : Int)) = true := decide_eq_true c4
      clear c4
      by_cases c6 : (bt a0 x6_1) < 33
      ·rw [if_pos c6] at H
       have c6b0 : decide ((bt a0 x6_1) < 33) = true := decide_eq_true c6
       clear c6
       obtain rfl := Option.some.inj H
       have p5 : 0 ≤ (x6_1 : Int) := of_decide_eq_true (by first | (with_reducible assumption) | assumption)
       have q5 : x6_1 < (a0.size : Int) := of_decide_eq_true (by first | (with_reducible assumption) | assumption)
       have hx5 := bt_at a0 x6_1
       replace p5 := eq_true p5
       replace q5 := eq_true q5
       go_wp2
       go_ret
       exact ⟨by first | rfl | (simp; done) | (simp [*]; done), by repeat (first | exact Drawn0.refl _ | apply Drawn0.step)⟩
      ·rw [if_neg c6] at H
       have c6b0 : decide ((bt a0 x6_1) < 33) = false := decide_eq_false c6
       clear c6
       by_cases c8 : (bt a0 x6_1) > 126
       ·rw [if_pos c8] at H
        have c8b0 : decide (126 < (bt a0 x6_1)) = true := decide_eq_true c8
        clear c8
        obtain rfl := Option.some.inj H
        have p5 : 0 ≤ (x6_1 : Int) := of_decide_eq_true (by first | (with_reducible assumption) | assumption)
        have q5 : x6_1 < (a0.size : Int) := of_decide_eq_true (by first | (with_reducible assumption) | assumption)
        have hx5 := bt_at a0 x6_1
        replace p5 := eq_true p5
        replace q5 := eq_true q5
        have p7 : 0 ≤ (x6_1 : Int) := of_decide_eq_true (by first | (with_reducible assumption) | assumption)
        have q7 : x6_1 < (a0.size : Int) := of_decide_eq_true (by first | (with_reducible assumption) | assumption)
        have hx7 := bt_at a0 x6_1
        replace p7 := eq_true p7
        replace q7 := eq_true q7
        go_wp2
        go_ret
        exact ⟨by first | rfl | (simp; done) | (simp [*]; done), by repeat (first | exact Drawn0.refl _ | apply Drawn0.step)⟩
       ·rw [if_neg c8] at H
        have c8b0 : decide (126 < (bt a0 x6_1)) = false := decide_eq_false c8
        clear c8
        have H' := Aside0.mk H
        clear H
        have p5 : 0 ≤ (x6_1 : Int) := of_decide_eq_true (by first | (with_reducible assumption) | assumption)
        have q5 : x6_1 < (a0.size : Int) := of_decide_eq_true (by first | (with_reducible assumption) | assumption)
        have hx5 := bt_at a0 x6_1
        replace p5 := eq_true p5
        replace q5 := eq_true q5
        have p7 : 0 ≤ (x6_1 : Int) := of_decide_eq_true (by first | (with_reducible assumption) | assumption)
        have q7 : x6_1 < (a0.size : Int) := of_decide_eq_true (by first | (with_reducible assumption) | assumption)
        have hx7 := bt_at a0 x6_1
        replace p7 := eq_true p7
        replace q7 := eq_true q7
        go_wp2
        go_roundg k1
        case measure => have := HK1.out; omega
        case rel => exact ⟨(wrap64 (x6_1 + 1)), (by first | rfl | (simp; done) | (simp [*]; done)), H', ⟨by have := HK1.out; omega⟩, by repeat (first | exact Drawn0.refl _ | apply Drawn0.step)⟩
     ·rw [if_neg c4] at H
      exact absurd H (by simp)
    ·rw [if_neg c3] at H
     exact absurd H (by simp)
   ·rw [if_neg c2] at H
    have c2b0 : decide (x6_1 < (a0.size : Int)) = false := decide_eq_false c2
    clear c2
    by_cases c9 : (a0.size : Int) ≥ 1
    ·rw [if_pos c9] at H
     have c9b0 : decide (1 ≤ (a0.size : Int)) = true := decide_eq_true c9
     have c9b1 : decide (1 ≤ a0.size) = true := decide_eq_true (by omega)
     clear c9
     obtain rfl := Option.some.inj H
     go_wp2
     go_ret
     exact ⟨by first | rfl | (simp; done) | (simp [*]; done), by repeat (first | exact Drawn0.refl _ | apply Drawn0.step)⟩
    ·rw [if_neg c9] at H
     have c9b0 : decide (1 ≤ (a0.size : Int)) = false := decide_eq_false c9
     have c9b1 : decide (1 ≤ a0.size) = false := decide_eq_false (by omega)
     clear c9
     obtain rfl := Option.some.inj H
     go_wp2
     go_ret
     exact ⟨by first | rfl | (simp; done) | (simp [*]; done), by repeat (first | exact Drawn0.refl _ | apply Drawn0.step)⟩
end Go.Proofs.YtfglcfbcdhjcdaaDoor.Q

namespace Go.Proofs.YtfglcfbcdhjcdaaDoor.Q
open Go.RowKit Go.Proofs.YtfglcfbcdhjcdaaDoorW.PrintWords Go.Proofs.YtfglcfbcdhjcdaaDoorW.PrintLast Go.Proofs.YtfglcfbcdhjcdaaDoorW.PrintMore
set_option linter.unusedVariables false
set_option linter.unusedSimpArgs false
def Fits (s : ByteArray) : Prop := s.size ≤ 9223372036854775807
def nameByte (c : UInt8) : Bool := decide (33 ≤ c.toNat) && decide (c.toNat ≤ 126)
def namedB (s : ByteArray) : Bool := s.data.toList.all nameByte && (decide (1 ≤ s.size) && decide (s.size ≤ 20))
theorem wrap_next {i : Int} {n : Nat} (h0 : 0 ≤ i) (h : i < (n : Int)) (hn : n ≤ 9223372036854775807) : wrap64 (i + 1) = i + 1 := by
 unfold wrap64
 omega
theorem bt_data (s : ByteArray) (i : Nat) (h : i < s.data.toList.length) : bt s (i : Int) = (s.data.toList[i].toNat : Int) := by
 have hs : i < s.size := by rw [← data_length]; exact h
 unfold bt
 rw [Int.toNat_natCast, dif_pos hs]
 rfl
theorem named_loop (s : ByteArray) (hn : Fits s) (d : Nat) : ∀ (k i : Nat), i + d = s.size → d < k → scheme_named.l0 k s (s.size : Int) (i : Int) = some ((s.data.toList.drop i).all nameByte && (decide (1 ≤ s.size) && decide (s.size ≤ 20))) := by
 unfold Fits at hn
 induction d with
 | zero =>
  intro k i hi hk
  obtain ⟨k, rfl⟩ : ∃ m, k = m + 1 := ⟨k - 1, by omega⟩
  simp only [scheme_named.l0]
  rw [if_neg (by omega), List.drop_of_length_le (by rw [data_length]; omega)]
  simp only [List.all_nil, Bool.true_and]
  by_cases h1 : (s.size : Int) ≥ 1
  ·rw [if_pos h1, decide_eq_true (show 1 ≤ s.size by omega), Bool.true_and]
   congr 1
   rw [decide_eq_decide]
   omega
  ·rw [if_neg h1, decide_eq_false (show ¬ 1 ≤ s.size by omega), Bool.false_and]
 | succ d ih =>
  intro k i hi hk
  obtain ⟨k, rfl⟩ : ∃ m, k = m + 1 := ⟨k - 1, by omega⟩
  have hl : i < s.data.toList.length := by rw [data_length]; omega
  simp only [scheme_named.l0]
  rw [if_pos (by omega), if_pos (by omega), if_pos (by omega), bt_data s i hl, List.drop_eq_getElem_cons hl, List.all_cons]
  generalize s.data.toList[i] = c
  unfold nameByte
  by_cases h1 : (c.toNat : Int) < 33
  ·rw [if_pos h1, decide_eq_false (show ¬ 33 ≤ c.toNat by omega)]
   simp
  ·rw [if_neg h1, decide_eq_true (show 33 ≤ c.toNat by omega)]
   by_cases h2 : (c.toNat : Int) > 126
   ·rw [if_pos h2, decide_eq_false (show ¬ c.toNat ≤ 126 by omega)]
    simp
   ·rw [if_neg h2, decide_eq_true (show c.toNat ≤ 126 by omega), wrap_next (n := s.size) (by omega) (by omega) hn]
    have := ih k (i + 1) (by omega) (by omega)
    rw [show ((i + 1 : Nat) : Int) = (i : Int) + 1 by omega] at this
    rw [this]
    simp
    rfl
theorem named_is (s : ByteArray) (hn : Fits s) : scheme_named.f (s.size + 1) s = some (namedB s) := by
 unfold scheme_named.f
 have := named_loop s hn s.size (s.size + 1) 0 (by omega) (by omega)
 rw [List.drop_zero] at this
 exact this
theorem named.calls (s : ByteArray) (hn : Fits s) (w : World) : Calls Tryd.prog 83 #[.string s] w fun e w' => e = .returned (.bool (namedB s)) ∧ Drawn0 w w' :=
 scheme_named.calls _ s _ w (named_is s hn)
end Go.Proofs.YtfglcfbcdhjcdaaDoor.Q

namespace Go.Proofs.YtfglcfbcdhjcdaaDoor.Q
open Go.RowKit Go.Proofs.YtfglcfbcdhjcdaaDoorW.PrintWords Go.Proofs.YtfglcfbcdhjcdaaDoorW.PrintLast Go.Proofs.YtfglcfbcdhjcdaaDoorW.PrintMore
set_option linter.unusedVariables false
set_option linter.unusedSimpArgs false
abbrev Rt := S57
abbrev Zn := S67
abbrev Sp := S61
def pricedB (n : Int) : Bool := decide (0 ≤ n) && decide (n ≤ 1000000)
def stepsGo (n : Int) : Int → List Sp → Bool
 | _, [] => true
 | last, s :: ss => decide (last < s.f0) && (decide (s.f0 ≤ 50000) && (((s.f1.length : Int) == n) && (s.f1.all pricedB && stepsGo n s.f0 ss)))
def ratedB (r : Rt) (n : Int) : Bool :=
 decide (r.f0 ≠ 0) && (pricedB r.f2 && (decide (1 ≤ r.f1.length) && (decide (r.f1.length ≤ 20) && stepsGo n 0 r.f1)))
def zonesN : List Rt → Int
 | [] => 0
 | r :: _ => match r.f1 with | [] => 0 | s :: _ => (s.f1.length : Int)
def codeB (s : ByteArray) : Bool := decide (1 ≤ s.size) && (decide (s.size ≤ 10) && plainB s)
def clsCnt (R : List Rt) (k : Nat) (c : Int) : Nat := ((R.take k).filter (fun x => decide (x.f0 = c))).length
def clsMap (R : List Rt) (k : Nat) (c : Int) : Option Int := if clsCnt R k c = 0 then none else some (clsCnt R k c : Int)
def rowCnt (Z : List Zn) (k : Nat) (p : ByteArray × ByteArray) : Nat := ((Z.take k).filter (fun x => decide ((x.f0, x.f1) = p))).length
def rowMap (Z : List Zn) (k : Nat) (p : ByteArray × ByteArray) : Option Int := if rowCnt Z k p = 0 then none else some (rowCnt Z k p : Int)
def ratesGo (n : Int) (R : List Rt) : Nat → List Rt → Bool
 | _, [] => true
 | k, r :: rs => decide (clsCnt R k r.f0 = 0) && (ratedB r n && ratesGo n R (k + 1) rs)
def endOk (s : ByteArray) : Bool := s.toList.isEmpty || codeB s
def rowsGo (n : Int) (Z : List Zn) : Nat → List Zn → Bool
 | _, [] => true
 | k, z :: zs => decide (rowCnt Z k (z.f0, z.f1) = 0) && (decide (1 ≤ z.f2) && (decide (z.f2 ≤ n) && (endOk z.f0 && (endOk z.f1 && rowsGo n Z (k + 1) zs))))
def noText : ByteArray := ⟨#[]⟩
def tariffB (R : List Rt) (Z : List Zn) : Bool :=
 decide (1 ≤ zonesN R) && (decide (zonesN R ≤ 20) && (decide (R.length ≤ 20) && (decide (Z.length ≤ 500) && (ratesGo (zonesN R) R 0 R && (rowsGo (zonesN R) Z 0 Z && decide (rowCnt Z Z.length (noText, noText) = 1))))))
theorem zones_is (R : List Rt) (Z : List Zn) : tariff_zones.f R Z = some (zonesN R) := by
 unfold tariff_zones.f
 cases R with
 | nil => rfl
 | cons r rs =>
  rw [if_neg (by rw [List.length_cons]; omega), if_pos (by rw [List.length_cons]; omega)]
  show (if ((r.f1).length : Int) = 0 then some 0 else if 0 < ((r.f1).length : Int) then some (((rd_T61 r.f1 0).f1).length : Int) else none) = _
  cases hs : r.f1 with
  | nil => simp [zonesN, hs]
  | cons s ss =>
   rw [if_neg (by rw [List.length_cons]; omega), if_pos (by rw [List.length_cons]; omega)]
   simp [zonesN, hs, rd_T61]
theorem priced_is (n : Int) : tariff_priced.f n = some (pricedB n) := by
 unfold tariff_priced.f pricedB
 split
 ·rename_i h; rw [decide_eq_true (show 0 ≤ n from h), Bool.true_and]
 ·rename_i h; rw [decide_eq_false (show ¬ 0 ≤ n from h), Bool.false_and]
theorem code_is (s : ByteArray) (h : s.size ≤ 9223372036854775807) : scheme_Code.f s = some (codeB s) := by
 unfold scheme_Code.f codeB scheme_plain.f
 by_cases h1 : (s.size : Int) ≥ 1
 ·rw [if_pos h1, decide_eq_true (show 1 ≤ s.size by omega), Bool.true_and]
  by_cases h2 : (s.size : Int) ≤ 10
  ·rw [if_pos h2, if_pos h, decide_eq_true (show s.size ≤ 10 by omega)]; rfl
  ·rw [if_neg h2, decide_eq_false (show ¬ s.size ≤ 10 by omega)]; rfl
 ·rw [if_neg h1, decide_eq_false (show ¬ 1 ≤ s.size by omega)]; rfl
theorem rated_l1 (x1 x5 : Int) (x32 : List Sp) (x33 x34 : Int) (xs : List Int) (hx : xs.length ≤ 1000) (d : Nat) : ∀ (k i : Nat), i + d = xs.length →
  tariff_rated.l1 (k + d + 1) x1 x5 x32 x33 x34 xs (xs.length : Int) (i : Int) = if (xs.drop i).all pricedB then tariff_rated.l0 k x1 x5 x32 x33 (wrap64 (x34 + 1)) else some false := by
 induction d with
 | zero =>
  intro k i hi
  simp only [Nat.add_zero, tariff_rated.l1]
  rw [if_neg (by omega), List.drop_of_length_le (by omega)]
  rfl
 | succ d ih =>
  intro k i hi
  rw [show k + (d + 1) + 1 = (k + d + 1) + 1 by omega, tariff_rated.l1, if_pos (by omega), if_pos (by omega), if_pos (by omega), priced_is, Option.bind_some]
  have hd : xs.drop i = rd xs (i : Int) :: xs.drop (i + 1) := by
   unfold rd
   rw [Int.toNat_natCast, List.getD_eq_getElem?_getD, List.getElem?_eq_getElem (show i < xs.length by omega)]
   exact List.drop_eq_getElem_cons _
  rw [hd, List.all_cons]
  generalize pricedB (rd xs (i : Int)) = b
  cases b with
  | false => simp only [Bool.false_eq_true, if_false, Bool.false_and]
  | true =>
   simp only [if_true, Bool.true_and]
   rw [wrap_next (n := xs.length) (by omega) (by omega) (by omega)]
   exact ih k (i + 1) (by omega)
theorem rated_l0 (n : Nat) (hn : n ≤ 20) (x32 : List Sp) (hx : x32.length ≤ 20) (d : Nat) : ∀ (k i : Nat) (last : Int), i + d = x32.length → d * 24 < k →
  tariff_rated.l0 k (n : Int) last x32 (x32.length : Int) (i : Int) = some (stepsGo (n : Int) last (x32.drop i)) := by
 induction d with
 | zero =>
  intro k i last hi hk
  obtain ⟨k, rfl⟩ : ∃ m, k = m + 1 := ⟨k - 1, by omega⟩
  rw [tariff_rated.l0, if_neg (by omega), List.drop_of_length_le (by omega)]
  rfl
 | succ d ih =>
  intro k i last hi hk
  obtain ⟨k, rfl⟩ : ∃ m, k = m + n + 1 + 1 + 1 := ⟨k - n - 3, by omega⟩
  have hd : x32.drop i = rd_T61 x32 (i : Int) :: x32.drop (i + 1) := by
   unfold rd_T61
   rw [Int.toNat_natCast, List.getD_eq_getElem?_getD, List.getElem?_eq_getElem (show i < x32.length by omega)]
   exact List.drop_eq_getElem_cons _
  rw [tariff_rated.l0, if_pos (by omega), if_pos (by omega), if_pos (by omega), hd]
  generalize rd_T61 x32 (i : Int) = s
  unfold stepsGo
  by_cases h1 : s.f0 ≤ last
  ·rw [if_pos h1, decide_eq_false (show ¬ last < s.f0 by omega), tariff_rated.j2, if_pos rfl]; simp only [Bool.false_and, Bool.true_and]
  ·rw [if_neg h1, decide_eq_true (show last < s.f0 by omega)]
   by_cases h2 : s.f0 > 50000
   ·rw [if_pos h2, decide_eq_false (show ¬ s.f0 ≤ 50000 by omega), tariff_rated.j2, if_pos rfl]; simp only [Bool.false_and, Bool.true_and]
   ·rw [if_neg h2, decide_eq_true (show s.f0 ≤ 50000 by omega), tariff_rated.j2]
    by_cases h3 : s.f1.length = n
    ·have e1 : ((s.f1.length : Int) != (n : Int)) = false := bne_eq_false_iff_eq.2 (by omega)
     have e2 : ((s.f1.length : Int) == (n : Int)) = true := beq_iff_eq.2 (by omega)
     rw [e1, e2, if_neg (by simp)]
     have := rated_l1 (n : Int) s.f0 x32 (x32.length : Int) (i : Int) s.f1 (by omega) s.f1.length k 0 (by omega)
     rw [h3] at this
     rw [h3, show ((0 : Int)) = ((0 : Nat) : Int) from rfl, this, List.drop_zero, wrap_next (n := x32.length) (by omega) (by omega) (by omega)]
     simp only [Bool.true_and]
     generalize s.f1.all pricedB = b
     cases b with
     | false => simp only [Bool.false_eq_true, if_false, Bool.false_and]
     | true =>
      simp only [if_true, Bool.true_and]
      exact ih k (i + 1) s.f0 (by omega) (by omega)
    ·have e1 : ((s.f1.length : Int) != (n : Int)) = true := bne_iff_ne.2 (by omega)
     have e2 : ((s.f1.length : Int) == (n : Int)) = false := beq_eq_false_iff_ne.2 (by omega)
     rw [e1, e2, if_pos rfl]; simp only [Bool.false_and, Bool.true_and]
theorem rated_is (r : Rt) (n : Nat) (hn : n ≤ 20) : tariff_rated.f 1000 r.f0 r.f1 r.f2 (n : Int) = some (ratedB r (n : Int)) := by
 unfold tariff_rated.f ratedB
 rw [priced_is]
 by_cases h1 : r.f0 = 0
 ·rw [if_pos h1, tariff_rated.j0, if_pos rfl, decide_eq_false (by simpa using h1), Bool.false_and]
 ·rw [if_neg h1, decide_eq_true h1, Bool.true_and]
  rw [Option.bind_some]
  generalize pricedB r.f2 = b
  cases b with
  | false => simp only [Bool.false_eq_true, if_false, Bool.false_and]; rw [tariff_rated.j0, if_pos rfl]
  | true =>
   simp only [if_true, Bool.true_and]
   by_cases h2 : (r.f1.length : Int) = 0
   ·rw [if_pos h2, decide_eq_false (show ¬ 1 ≤ r.f1.length by omega), tariff_rated.j0, if_pos rfl, Bool.false_and]
   ·rw [if_neg h2, decide_eq_true (show 1 ≤ r.f1.length by omega), Bool.true_and, tariff_rated.j0]
    by_cases h3 : r.f1.length ≤ 20
    ·rw [decide_eq_false (show ¬ (r.f1.length : Int) > 20 by omega), decide_eq_true h3, if_neg (by simp), Bool.true_and]
     exact rated_l0 n hn r.f1 h3 r.f1.length _ 0 0 (by omega) (by omega)
    ·rw [decide_eq_true (show (r.f1.length : Int) > 20 by omega), decide_eq_false h3, if_pos rfl, Bool.false_and]
theorem rt_drop (L : List Rt) (k : Nat) (h : k < L.length) : L.drop k = rd_T57 L (k : Int) :: L.drop (k + 1) ∧ rd_T57 L (k : Int) ∈ L := by
 unfold rd_T57
 rw [Int.toNat_natCast, List.getD_eq_getElem?_getD, List.getElem?_eq_getElem h]
 exact ⟨List.drop_eq_getElem_cons h, List.getElem_mem h⟩
theorem zn_drop (L : List Zn) (k : Nat) (h : k < L.length) : L.drop k = rd_T67 L (k : Int) :: L.drop (k + 1) ∧ rd_T67 L (k : Int) ∈ L := by
 unfold rd_T67
 rw [Int.toNat_natCast, List.getD_eq_getElem?_getD, List.getElem?_eq_getElem h]
 exact ⟨List.drop_eq_getElem_cons h, List.getElem_mem h⟩
theorem cnt_next {α : Type} (L : List α) (k : Nat) (h : k < L.length) (p : α → Bool) (x : α) (hx : L[k]? = some x) : ((L.take (k + 1)).filter p).length = ((L.take k).filter p).length + (if p x then 1 else 0) := by
 rw [List.take_add_one, hx, List.filter_append, List.length_append]
 cases hp : p x <;> simp [hp]
theorem cnt_le {α : Type} (L : List α) (k : Nat) (p : α → Bool) : ((L.take k).filter p).length ≤ k := Nat.le_trans (List.length_filter_le _ _) (by rw [List.length_take]; omega)
theorem clsMap_getD (L : List Rt) (k : Nat) (s : Int) : (clsMap L k s).getD 0 = (clsCnt L k s : Int) := by
 unfold clsMap
 split
 ·rename_i h; rw [h]; rfl
 ·rfl
theorem rowMap_getD (L : List Zn) (k : Nat) (s : ByteArray × ByteArray) : (rowMap L k s).getD 0 = (rowCnt L k s : Int) := by
 unfold rowMap
 split
 ·rename_i h; rw [h]; rfl
 ·rfl
theorem clsMap_next (L : List Rt) (k : Nat) (h : k < L.length) (x : Int) (hx : (rd_T57 L (k : Int)).f0 = x) :
  (fun s => if s = x then some ((clsCnt L k x : Int) + 1) else clsMap L k s) = clsMap L (k + 1) := by
 subst hx
 funext s
 have hn := cnt_next L k h (fun x => decide (x.f0 = s)) (rd_T57 L (k : Int)) (by unfold rd_T57; rw [Int.toNat_natCast, List.getD_eq_getElem?_getD, List.getElem?_eq_getElem h]; rfl)
 change clsCnt L (k + 1) s = clsCnt L k s + _ at hn
 by_cases e : s = (rd_T57 L (k : Int)).f0
 ·rw [if_pos (by simpa using e.symm)] at hn
  rw [if_pos e]
  unfold clsMap
  rw [if_neg (by omega), hn, ← e]
  simp
 ·rw [if_neg (by simpa using fun h => e h.symm)] at hn
  rw [if_neg e]
  unfold clsMap
  rw [hn, Nat.add_zero]
theorem rowMap_next (L : List Zn) (k : Nat) (h : k < L.length) (x : ByteArray × ByteArray) (hx : ((rd_T67 L (k : Int)).f0, (rd_T67 L (k : Int)).f1) = x) :
  (fun s => if s = x then some ((rowCnt L k x : Int) + 1) else rowMap L k s) = rowMap L (k + 1) := by
 subst hx
 funext s
 have hn := cnt_next L k h (fun x => decide ((x.f0, x.f1) = s)) (rd_T67 L (k : Int)) (by unfold rd_T67; rw [Int.toNat_natCast, List.getD_eq_getElem?_getD, List.getElem?_eq_getElem h]; rfl)
 change rowCnt L (k + 1) s = rowCnt L k s + _ at hn
 by_cases e : s = ((rd_T67 L (k : Int)).f0, (rd_T67 L (k : Int)).f1)
 ·rw [if_pos (by simpa using e.symm)] at hn
  rw [if_pos e]
  unfold rowMap
  rw [if_neg (by omega), hn, ← e]
  simp
 ·rw [if_neg (by simpa using fun h => e h.symm)] at hn
  rw [if_neg e]
  unfold rowMap
  rw [hn, Nat.add_zero]
end Go.Proofs.YtfglcfbcdhjcdaaDoor.Q

namespace Go.Proofs.YtfglcfbcdhjcdaaDoor.Q
open Go.RowKit Go.Proofs.YtfglcfbcdhjcdaaDoorW.PrintWords Go.Proofs.YtfglcfbcdhjcdaaDoorW.PrintLast Go.Proofs.YtfglcfbcdhjcdaaDoorW.PrintMore
set_option linter.unusedVariables false
set_option linter.unusedSimpArgs false
def mdPrice (l : List Int) (i : Nat) : Int := if l.length = 0 then 300 else 300 + l.getD (i % l.length) 0
def mdStep (l : List Int) (nz c s : Nat) : Sp := ⟨20 + 30 * (s : Int), (List.range nz).map (fun z => mdPrice l (17 * c + 5 * s + z))⟩
def mdRate (l : List Int) (nz ns : Nat) (bar : Int) (c : Nat) : Rt := ⟨(c : Int) + 1, (List.range ns).map (mdStep l nz c), bar⟩
def mdRates (l : List Int) (nz ns : Nat) (bar : Int) (nc : Nat) : List Rt := (List.range nc).map (mdRate l nz ns bar)
def mdText (l : List UInt8) : ByteArray := ⟨l.toArray⟩
def mdPair : Nat → ByteArray × ByteArray
 | 0 => (mdText [49], mdText [])
 | 1 => (mdText [], mdText [50])
 | 2 => (mdText [49], mdText [50])
 | 3 => (mdText [49, 48], mdText [])
 | 4 => (mdText [49], mdText [50, 49])
 | 5 => (mdText [49, 48], mdText [50])
 | 6 => (mdText [49, 48, 48], mdText [49, 48])
 | 7 => (mdText [], mdText [49, 48, 48, 48])
 | _ => (mdText [50], mdText [49])
def mdRow (nz i : Nat) : Zn := ⟨(mdPair i).1, (mdPair i).2, 1 + ((i % nz : Nat) : Int)⟩
def mdRows (nz x : Nat) : Nat → List Zn
 | 0 => [⟨mdText [], mdText [], 1⟩]
 | k + 1 => mdRows nz x k ++ (if x.testBit k then [mdRow nz k] else [])
def mdC (n : Nat) : Nat := 1 + (n % 4) % 3
def mdS (n : Nat) : Nat := 1 + (n / 4 % 4) % 3
def mdZ (n : Nat) : Nat := 1 + (n / 16 % 4) % 3
def mdBar (n : Nat) : Nat := n / 64 % 32
def mdX (n : Nat) : Nat := n / 2048 % 512
def mdFits (l : List Int) : Bool := l.all fun x => decide (0 ≤ x) && decide (x ≤ 255)
theorem mdPrice_range {l : List Int} (h : mdFits l = true) (i : Nat) : 300 ≤ mdPrice l i ∧ mdPrice l i ≤ 555 := by
 unfold mdPrice
 split
 ·omega
 ·rename_i hl
  unfold mdFits at h
  simp only [List.all_eq_true, Bool.and_eq_true, decide_eq_true_eq] at h
  have hi : i % l.length < l.length := Nat.mod_lt _ (by omega)
  have := h (l.getD (i % l.length) 0) (by rw [List.getD_eq_getElem?_getD, List.getElem?_eq_getElem hi]; exact List.getElem_mem _)
  omega
theorem mdStep_priced {l : List Int} (h : mdFits l = true) (nz c s : Nat) : (mdStep l nz c s).f1.all pricedB = true := by
 unfold mdStep
 simp only [List.all_map, List.all_eq_true, Function.comp]
 intro z _
 have := mdPrice_range h (17 * c + 5 * s + z)
 unfold pricedB
 simp only [Bool.and_eq_true, decide_eq_true_eq]
 omega
theorem mdStep_len (l : List Int) (nz c s : Nat) : (mdStep l nz c s).f1.length = nz := by simp [mdStep]
theorem mdRate_rated {l : List Int} (h : mdFits l = true) (nz ns : Nat) (hs : 1 ≤ ns) (hs3 : ns ≤ 3) (bar : Int) (hb : 0 ≤ bar) (hb2 : bar ≤ 31) (c : Nat) : ratedB (mdRate l nz ns bar c) (nz : Int) = true := by
 have hp := fun s => mdStep_priced h nz c s
 have hl := fun s => mdStep_len l nz c s
 have hf : ∀ s, (mdStep l nz c s).f0 = 20 + 30 * (s : Int) := fun _ => rfl
 have hbar : pricedB bar = true := by unfold pricedB; simp only [Bool.and_eq_true, decide_eq_true_eq]; omega
 unfold ratedB mdRate
 simp only [hbar, List.length_map, List.length_range, Bool.true_and, Bool.and_eq_true, decide_eq_true_eq]
 refine ⟨by omega, hs, by omega, ?_⟩
 obtain rfl | rfl | rfl : ns = 1 ∨ ns = 2 ∨ ns = 3 := by omega
 all_goals simp [List.range_succ, stepsGo, hp, hl, hf]
theorem mdRates_go {l : List Int} (h : mdFits l = true) (nz ns nc : Nat) (hs : 1 ≤ ns) (hs3 : ns ≤ 3) (hc3 : nc ≤ 3) (bar : Int) (hb : 0 ≤ bar) (hb2 : bar ≤ 31) : ratesGo (nz : Int) (mdRates l nz ns bar nc) 0 (mdRates l nz ns bar nc) = true := by
 have hr := fun c => mdRate_rated h nz ns hs hs3 bar hb hb2 c
 have hf : ∀ c, (mdRate l nz ns bar c).f0 = (c : Int) + 1 := fun _ => rfl
 obtain rfl | rfl | rfl | rfl : nc = 0 ∨ nc = 1 ∨ nc = 2 ∨ nc = 3 := by omega
 all_goals simp [mdRates, List.range_succ, ratesGo, clsCnt, hr, hf]
theorem mdRates_zones (l : List Int) (nz ns nc : Nat) (hs : 1 ≤ ns) (hc : 1 ≤ nc) (bar : Int) : zonesN (mdRates l nz ns bar nc) = nz := by
 obtain ⟨k, rfl⟩ : ∃ k, nc = k + 1 := ⟨nc - 1, by omega⟩
 obtain ⟨j, rfl⟩ : ∃ j, ns = j + 1 := ⟨ns - 1, by omega⟩
 simp [mdRates, List.range_succ_eq_map, zonesN, mdRate, mdStep]
set_option maxRecDepth 100000 in
theorem mdRows_all : ∀ nz ∈ [1, 2, 3], ∀ x ∈ List.range 512, (rowsGo (nz : Nat) (mdRows nz x 9) 0 (mdRows nz x 9) && decide (rowCnt (mdRows nz x 9) (mdRows nz x 9).length (noText, noText) = 1) && decide ((mdRows nz x 9).length ≤ 10) && (mdRows nz x 9).all (fun z => decide (z.f0.size ≤ 10) && decide (z.f1.size ≤ 10))) = true := by decide +kernel
theorem mdC_range (n : Nat) : 1 ≤ mdC n ∧ mdC n ≤ 3 := by unfold mdC; omega
theorem mdS_range (n : Nat) : 1 ≤ mdS n ∧ mdS n ≤ 3 := by unfold mdS; omega
theorem mdZ_range (n : Nat) : 1 ≤ mdZ n ∧ mdZ n ≤ 3 := by unfold mdZ; omega
theorem mdBar_range (n : Nat) : mdBar n ≤ 31 := by unfold mdBar; omega
theorem mdX_range (n : Nat) : mdX n < 512 := by unfold mdX; omega
def madeR (n : Nat) (l : List Int) : List Rt := mdRates l (mdZ n) (mdS n) (mdBar n) (mdC n)
def madeZ (n : Nat) : List Zn := mdRows (mdZ n) (mdX n) 9
theorem madeR_length (n : Nat) (l : List Int) : (madeR n l).length = mdC n := by simp [madeR, mdRates]
theorem made_rows (n : Nat) : rowsGo (mdZ n : Nat) (madeZ n) 0 (madeZ n) = true ∧ rowCnt (madeZ n) (madeZ n).length (noText, noText) = 1 ∧ (madeZ n).length ≤ 10 ∧ ∀ z ∈ madeZ n, z.f0.size ≤ 10 ∧ z.f1.size ≤ 10 := by
 have h := mdRows_all (mdZ n) (by have := mdZ_range n; simp; omega) (mdX n) (List.mem_range.2 (mdX_range n))
 simp only [Bool.and_eq_true, decide_eq_true_eq, List.all_eq_true] at h
 exact ⟨h.1.1.1, h.1.1.2, h.1.2, h.2⟩
theorem made_right (n : Nat) (l : List Int) (h : mdFits l = true) : tariffB (madeR n l) (madeZ n) = true := by
 obtain ⟨h1, h2, h3, _⟩ := made_rows n
 have hz : zonesN (madeR n l) = (mdZ n : Nat) := mdRates_zones _ _ _ _ (mdS_range n).1 (mdC_range n).1 _
 have hr : ratesGo (mdZ n : Nat) (madeR n l) 0 (madeR n l) = true := mdRates_go h _ _ _ (mdS_range n).1 (mdS_range n).2 (mdC_range n).2 _ (by omega) (by have := mdBar_range n; omega)
 have z1 := mdZ_range n
 have c1 := mdC_range n
 unfold tariffB
 rw [hz, hr, h1, h2, madeR_length]
 simp only [Bool.and_eq_true, decide_eq_true_eq, Bool.true_and, Bool.and_true, and_true, true_and]
 refine ⟨?_, ?_, ?_, ?_⟩ <;> omega
end Go.Proofs.YtfglcfbcdhjcdaaDoor.Q

namespace Go.Proofs.YtfglcfbcdhjcdaaDoor.Q
open Go.RowKit Go.Proofs.YtfglcfbcdhjcdaaDoorW.PrintWords
set_option linter.unusedVariables false
theorem wrap_i64_int {i : Int} (h0 : -9223372036854775808 ≤ i) (h : i < 9223372036854775808) : IntKind.i64.wrap i = i := by
 simp [IntKind.wrap, IntKind.bits, IntKind.signed]
 omega
section
variable {P : Program} {ops : Array Oper} {Q : Exit → Act → World → Prop} {md : Region.Mode} {S : World → Prop}
theorem takeF (i : Nat) {oi : Oper} {fuel : Nat} {listed : Array Bool} {a : Act} {w : World} (hi : ops.toList[i]? = some oi)
  (hs : Region.noSelect ops = true) (hf : Region.free md ops listed i = true) (hr : (Region.ready md ops listed).contains i = true)
  (hQ : ∀ c a w, Q (.panic c) (a.put oi.dst undef) w → Q (.panic c) a w) (hw : Region.wanted oi (yielded ops a.tmps) = false) (hS : S w)
  (h : wpAnyH P md ops Q S fuel (listed.setIfInBounds i true) (a.put oi.dst undef) w) : wpAnyH P md ops Q S (fuel + 1) listed a w :=
 wpAnyH_take (i := i) (oi := oi) (by rw [← Array.getElem?_toList]; exact hi) hs hf hr hQ (Or.inr ⟨hw, rfl⟩) hS h
theorem takeT (i : Nat) (v : Value) {oi : Oper} {fuel : Nat} {listed : Array Bool} {a : Act} {w : World} (hi : ops.toList[i]? = some oi)
  (hs : Region.noSelect ops = true) (hf : Region.free md ops listed i = true) (hr : (Region.ready md ops listed).contains i = true)
  (hQ : ∀ c a w, Q (.panic c) (a.put oi.dst v) w → Q (.panic c) a w) (hw : Region.wanted oi (yielded ops a.tmps) = true)
  (hy : ∀ w, S w → (execOp a.eval oi).run P w = .ok (.value v) w) (hS : S w)
  (h : wpAnyH P md ops Q S fuel (listed.setIfInBounds i true) (a.put oi.dst v) w) : wpAnyH P md ops Q S (fuel + 1) listed a w :=
 wpAnyH_take (i := i) (oi := oi) (by rw [← Array.getElem?_toList]; exact hi) hs hf hr hQ (Or.inl ⟨hw, hy⟩) hS h
theorem takeC (i : Nat) {oi : Oper} {fuel : Nat} {listed : Array Bool} {a : Act} {w : World} (hi : ops.toList[i]? = some oi)
  (hr : Region.ready md ops listed = [i]) (hw : Region.wanted oi (yielded ops a.tmps) = true)
  (h : ∀ K' : Act → World → Prop, Shut (∀ a w, S w → (S w → wpAnyH P md ops Q S fuel (listed.setIfInBounds i true) a w) → K' a w) → Oper.wp P oi a w K' Q) : wpAnyH P md ops Q S (fuel + 1) listed a w :=
 wpAnyH_ready hr (by simp) (AllReadyH.cons (o := oi) (by rw [← Array.getElem?_toList]; exact hi) (fun K hK => by rw [if_pos hw]; exact h K hK) AllReadyH.nil)
theorem takeC2 (i j : Nat) {oi oj : Oper} {fuel : Nat} {listed : Array Bool} {a : Act} {w : World} (hi : ops.toList[i]? = some oi) (hj : ops.toList[j]? = some oj)
  (hr : Region.ready md ops listed = [i, j]) (hwi : Region.wanted oi (yielded ops a.tmps) = true) (hwj : Region.wanted oj (yielded ops a.tmps) = true)
  (h1 : ∀ K' : Act → World → Prop, Shut (∀ a w, S w → (S w → wpAnyH P md ops Q S fuel (listed.setIfInBounds i true) a w) → K' a w) → Oper.wp P oi a w K' Q)
  (h2 : ∀ K' : Act → World → Prop, Shut (∀ a w, S w → (S w → wpAnyH P md ops Q S fuel (listed.setIfInBounds j true) a w) → K' a w) → Oper.wp P oj a w K' Q) : wpAnyH P md ops Q S (fuel + 1) listed a w :=
 wpAnyH_ready hr (by simp) (AllReadyH.cons (o := oi) (by rw [← Array.getElem?_toList]; exact hi) (fun K hK => by rw [if_pos hwi]; exact h1 K hK)
  (AllReadyH.cons (o := oj) (by rw [← Array.getElem?_toList]; exact hj) (fun K hK => by rw [if_pos hwj]; exact h2 K hK) AllReadyH.nil))
theorem bothWays {G P : Prop} (h : Aside0 P → G) (hp : P) : G := h ⟨hp⟩
end
end Go.Proofs.YtfglcfbcdhjcdaaDoor.Q

namespace Go.Proofs.YtfglcfbcdhjcdaaDoor.Q
open Go.RowKit Go.Proofs.YtfglcfbcdhjcdaaDoorW.PrintWords Go.Proofs.YtfglcfbcdhjcdaaDoorW.PrintLast Go.Proofs.YtfglcfbcdhjcdaaDoorW.PrintMore
set_option linter.unusedVariables false
theorem u32_mask (i : Nat) (hi : i ≤ 32) (x : Int) (h0 : 0 ≤ x) (h1 : x < 4294967296) : bits .and .u32 x (2 ^ i - 1) = x % 2 ^ i :=
 bits_mask .u32 32 (by decide) (fun n h0 h1 => by rw [IntKind.wrap_u32]; omega) i hi x h0 h1
theorem u32_and3 (x : Int) (h0 : 0 ≤ x) (h1 : x < 4294967296) : bits .and .u32 x 3 = x % 4 := u32_mask 2 (by decide) x h0 h1
theorem u32_and31 (x : Int) (h0 : 0 ≤ x) (h1 : x < 4294967296) : bits .and .u32 x 31 = x % 32 := u32_mask 5 (by decide) x h0 h1
theorem u32_and1 (x : Int) (h0 : 0 ≤ x) (h1 : x < 4294967296) : bits .and .u32 x 1 = x % 2 := u32_mask 1 (by decide) x h0 h1
theorem wrap64_id (n : Int) (h0 : -9223372036854775808 ≤ n) (h1 : n ≤ 9223372036854775807) : wrap64 n = n := by unfold wrap64; omega
def Holds {α : Type} (d : Kd α) (e t vb : Nat) (f : Value → Array Value) (xs : List α) (W : World) : Prop :=
 ∃ v, W.heap[vb]? = some (.cells (f v) t (0, 0)) ∧ Kd.R d e W (vb + 1) (fun _ => True) v xs
section
variable {α : Type} {d : Kd α} {e t vb : Nat} {f : Value → Array Value} {xs : List α} {W W1 : World}
theorem Holds.below (h : Holds d e t vb f xs W) (hb : Below W.heap.size W W1) : Holds d e t vb f xs W1 := by
 obtain ⟨v, h1, h2⟩ := h
 exact ⟨v, (hb.block _ (blk_lt h1)).trans h1, Kd.R_below h2 hb⟩
theorem R_setLow {base : Nat} {v : Value} (h : Kd.R d e W base (fun _ => True) v xs) {p : Addr} (hp : p.block < base) (u : Value) : Kd.R d e (W.setCell p u) base (fun _ => True) v xs :=
 Kd.R_mono (Kd.R_far (Kd.R_bound h) (fun k hk => by have := hk.2.1; omega) u) (fun _ _ => trivial)
theorem Holds.put {v0 v1 : Value} (hb : W.heap[vb]? = some (.cells (f v0) t (0, 0))) (hR : Kd.R d e W (vb + 1) (fun _ => True) v1 xs) (i : Nat) (hf : (f v0).setIfInBounds i v1 = f v1) : Holds d e t vb f xs (W.setCell ⟨vb, i, none⟩ v1) := by
 refine ⟨v1, ?_, R_setLow hR (by simp) v1⟩
 rw [← hf]
 exact blk_put hb i v1 rfl
end
theorem R_one {α : Type} {d : Kd α} {W : World} {g base e : Nat} {cs : List Value} {p : α} {ok okp : Nat → Prop} (hb : W.heap[g]? = some (.cells cs.toArray e (0, 0))) (hg : base ≤ g) (hp : d.M W base okp p cs) (hk : ∀ k, okp k → ok k ∧ k ≠ g) (hok : ok g) :
  Kd.R d e W base ok (.slice (some ⟨g, 0, none⟩) 1 1) [p] := by
 have hl : cs.length = d.sz := d.K_len (d.K_of_M hp)
 refine ⟨fun k hk => ?_, cs, ⟨by simpa using hl, .inr ⟨g, 1, cs.toArray, rfl, hg, hb, Nat.le_refl _, by decide, by simpa using hl, ?_⟩⟩, ?_⟩
 ·have : g = k := by simpa [Value.ownBlock] using hk
  subst this
  exact hok
 ·have : cs.length = [p].length * d.sz := by simpa using hl
  rw [← this]
  simp
 ·have h := Reps.snoc (Reps.none (d.M W base okp) d.sz) hp hl
  simp only [List.nil_append] at h
  exact h.imp_ (fun q c hq => d.M_mono (fun k hk' => ⟨(hk k hk').1, fun e => (hk k hk').2 (by simpa [Value.ownBlock] using e)⟩) hq)
section
variable {P : Program} {ops : Array Oper} {Q : Exit → Act → World → Prop} {md : Region.Mode} {S : World → Prop} {α : Type}
theorem takeApp (d : Kd α) (i : Nat) {oi : Oper} {fuel : Nat} {listed : Array Bool} {a : Act} {w0 W : World} (base : Nat) (hi : ops.toList[i]? = some oi)
  (hr : Region.ready md ops listed = [i]) (hw : Region.wanted oi (yielded ops a.tmps) = true) (s x : Operand) (t e : TypeId) (z : Value) (bytes : Nat)
  (ho : oi.op = .call { callee := .builtin .append, args := #[s, x], argTypes := #[t, t] })
  (ht : P.underlying t = some (.slice e)) (hinfo : (P.info? e).map (fun i => (i.zero, i.size, i.bytes)) = some (some z, d.sz, bytes)) (hz : z.cells.size = d.sz) (hs0 : 0 < d.sz) (hb0 : 0 < bytes)
  (v : Value) (xs : List α) (p : α) (cs : List Value) (ok okp : Nat → Prop) (hs : a.eval s = v) (hx : a.eval x = .slice (some ⟨W.heap.size, 0, none⟩) 1 1) (hp : d.M W base okp p cs) (hokp : ∀ k, okp k → ok k ∧ some k ≠ v.ownBlock) (hfresh : ∀ k, W.heap.size ≤ k → ok k)
  (HO : d.R e W base ok v xs) (HB : Below base w0 W) (hbase : base ≤ W.heap.size) (hl : (xs.length + 1) * bytes ≤ 140737488355328)
  (h : ∀ v1 w1, d.R e w1 base ok v1 (xs ++ [p]) → Below base w0 w1 → W.grownBy w1 v.ownBlock → (v1.ownBlock = v.ownBlock ∨ ∃ b, v1.ownBlock = some b ∧ W.heap.size ≤ b) → S w1 ∧ (S w1 → wpAnyH P md ops Q S fuel (listed.setIfInBounds i true) (a.put oi.dst v1) w1)) :
  wpAnyH P md ops Q S (fuel + 1) listed a (W.alloc (.cells cs.toArray e)) := by
 refine takeC i hi hr hw (fun K hK => ?_)
 have H := Kd.R_append_step (Kc := K) (Q := Q) (ops := ops) (a := a) (P := P) d base hw s x t e z bytes ho ht hinfo hz hs0 hb0 v xs p cs ok okp hs hx hp hokp hfresh HO HB hbase hl
  (fun v1 w1 h1 h2 h3 h4 => hK.out _ _ (h v1 w1 h1 h2 h3 h4).1 (h v1 w1 h1 h2 h3 h4).2)
 rwa [if_pos hw] at H
end
end Go.Proofs.YtfglcfbcdhjcdaaDoor.Q

namespace Go.Proofs.YtfglcfbcdhjcdaaDoor.Q
open Go.RowKit Go.Proofs.YtfglcfbcdhjcdaaDoorW.PrintWords Go.Proofs.YtfglcfbcdhjcdaaDoorW.PrintLast Go.Proofs.YtfglcfbcdhjcdaaDoorW.PrintMore
set_option linter.unusedVariables false
set_option linter.unusedSimpArgs false
set_option maxHeartbeats 4000000 in
set_option maxRecDepth 100000 in
theorem mdPrice.calls (A : Option Addr) (c : Nat) (l : List Int) (hf : mdFits l = true) (i : Nat) (hi : i ≤ 1000) (b : Nat) (W : World) (hb : W.heap[b]? = some (.cells #[.slice A l.length c] 29 (0, 0))) (hC : Kd.C (Kd.int .u8) W A l.length l) :
  Calls Tryd.prog 39 #[.int .i64 i, .pointer (some ⟨b, 0, none⟩)] W fun e W' => e = .returned (.int .i64 (mdPrice l i)) ∧ Below W.heap.size W W' := by
 have hcl : W.cell? ⟨b, 0, none⟩ = some (.slice A l.length c) := (blk_cell hb 0).trans rfl
 have HP := mdPrice_range hf i
 by_cases hl : l.length = 0
 ·have HE : mdPrice l i = 300 := by unfold mdPrice; rw [if_pos hl]
  rw [HE]
  rw [hl] at hcl
  clear HE HP hC hb
  go_enter Tryd.func39, Tryd.ntmps39
  go_wp2_with fail
  go_ret
  exact ⟨rfl, Below.refl _ _⟩
 ·have HE : mdPrice l i = 300 + l.getD (i % l.length) 0 := by unfold mdPrice; rw [if_neg hl]
  have hlt : i % l.length < l.length := Nat.mod_lt _ (by omega)
  have hmax := Kd.C_max hC
  obtain ⟨ad, cs, rfl, hcs, hk, hcell⟩ := Kd.C_get hC 0 ((i % l.length : Nat) : Int) (by omega) (by exact_mod_cast hlt)
  rw [Int.toNat_natCast] at hk hcell
  have hcs2 : cs = [.int .u8 (l.getD (i % l.length) 0)] := hk
  subst hcs2
  have hc0 := hcell 0 _ rfl
  have hsz : (Kd.int .u8).sz = 1 := rfl
  rw [hsz, Nat.mul_one, Nat.add_zero] at hc0
  rw [HE] at HP ⊢
  have hne : ¬ (l.length : Int) = 0 := by omega
  have hrem : Int.tmod (i : Int) (l.length : Int) = ((i % l.length : Nat) : Int) := (Int.ofNat_tmod _ _).symm
  generalize hx : l.getD (i % l.length) 0 = x at *
  generalize hj : i % l.length = j at *
  generalize hn : l.length = n at *
  have hw1 : IntKind.i64.wrap x = x := wrap_i64_int (by omega) (by omega)
  have hw2 : IntKind.i64.wrap (300 + x) = 300 + x := wrap_i64_int (by omega) (by omega)
  have hj0 : (0 : Int) ≤ (j : Int) := by omega
  have hj1 : (j : Int) < (n : Int) := by omega
  have hw3 : IntKind.i64.wrap (j : Int) = (j : Int) := wrap_i64_int (by omega) (by omega)
  have hcd : W.drew.cell? ⟨b, 0, none⟩ = some (.slice (some ad) n c) := hcl
  have hc0d : W.drew.cell? (ad.add j) = some (.int .u8 x) := hc0
  clear hb hcell hC hk HE hx hj hn hcs
  go_enter Tryd.func39, Tryd.ntmps39
  go_wp2_with fail
  refine wp_region_held_drew (S := (fun w' => w'.cell? ⟨b, 0, none⟩ = some (.slice (some ad) n c) ∧ w'.cell? (ad.add j) = some (.int .u8 x))) (by kernel_rfl) ?_ (fun hHeld => ?_)
  ·((try dsimp only); exact ⟨hcd, hc0d⟩)
  refine takeT 0 ?_ rfl (by kernel_rfl) (by kernel_rfl) (by kernel_rfl) (fun _ _ _ h => h) (by rfl) ?_ (by assumption) ?_
  rotate_left
  ·(intro w hSw; (try dsimp only at hSw); go_simp; (try with_reducible rfl))
  try simp only [Act.put, sl1, sl2, sl3]
  refine takeT 1 ?_ rfl (by kernel_rfl) (by kernel_rfl) (by kernel_rfl) (fun _ _ _ h => h) (by rfl) ?_ (by assumption) ?_
  rotate_left
  ·(intro w hSw; (try dsimp only at hSw); go_simp; (try with_reducible rfl))
  try simp only [Act.put, sl1, sl2, sl3]
  refine takeT 2 ?_ rfl (by kernel_rfl) (by kernel_rfl) (by kernel_rfl) (fun _ _ _ h => h) (by rfl) ?_ (by assumption) ?_
  rotate_left
  ·(intro w hSw; (try dsimp only at hSw); go_simp; (try with_reducible rfl))
  try simp only [Act.put, sl1, sl2, sl3]
  refine takeT 3 ?_ rfl (by kernel_rfl) (by kernel_rfl) (by kernel_rfl) (fun _ _ _ h => h) (by rfl) ?_ (by assumption) ?_
  rotate_left
  ·(intro w hSw; (try dsimp only at hSw); go_simp; (try with_reducible rfl))
  try simp only [Act.put, sl1, sl2, sl3]
  refine takeT 4 ?_ rfl (by kernel_rfl) (by kernel_rfl) (by kernel_rfl) (fun _ _ _ h => h) (by rfl) ?_ (by assumption) ?_
  rotate_left
  ·(intro w hSw; (try dsimp only at hSw); go_simp; (try with_reducible rfl))
  try simp only [Act.put, sl1, sl2, sl3]
  refine takeT 5 ?_ rfl (by kernel_rfl) (by kernel_rfl) (by kernel_rfl) (fun _ _ _ h => h) (by rfl) ?_ (by assumption) ?_
  rotate_left
  ·(intro w hSw; (try dsimp only at hSw); go_simp; (try with_reducible rfl))
  try simp only [Act.put, sl1, sl2, sl3]
  refine takeT 6 ?_ rfl (by kernel_rfl) (by kernel_rfl) (by kernel_rfl) (fun _ _ _ h => h) (by rfl) ?_ (by assumption) ?_
  rotate_left
  ·(intro w hSw; (try dsimp only at hSw); go_simp; (try with_reducible rfl))
  try simp only [Act.put, sl1, sl2, sl3]
  refine takeT 7 ?_ rfl (by kernel_rfl) (by kernel_rfl) (by kernel_rfl) (fun _ _ _ h => h) (by rfl) ?_ (by assumption) ?_
  rotate_left
  ·(intro w hSw; (try dsimp only at hSw); go_simp; (try with_reducible rfl))
  try simp only [Act.put, sl1, sl2, sl3]
  refine takeT 8 ?_ rfl (by kernel_rfl) (by kernel_rfl) (by kernel_rfl) (fun _ _ _ h => h) (by rfl) ?_ (by assumption) ?_
  rotate_left
  ·(intro w hSw; (try dsimp only at hSw); go_simp; (try with_reducible rfl))
  try simp only [Act.put, sl1, sl2, sl3]
  refine takeT 9 ?_ rfl (by kernel_rfl) (by kernel_rfl) (by kernel_rfl) (fun _ _ _ h => h) (by rfl) ?_ (by assumption) ?_
  rotate_left
  ·(intro w hSw; (try dsimp only at hSw); go_simp; (try with_reducible rfl))
  try simp only [Act.put, sl1, sl2, sl3]
  refine wpAnyH_done (by kernel_rfl) ?_ _
  go_wp2_with fail
  go_ret
  exact ⟨rfl, below_drew (Below.refl _ _)⟩
structure MdNum (N : Nat) (nz ns nc bar qz qz3 qs qs3 qc qc3 : Nat) : Prop where
 z1 : bits .and .u32 ((N : Int) / 16) 3 = (qz : Int)
 z2 : wrap64 (qz : Int) = (qz : Int)
 z3 : Int.tmod (qz : Int) 3 = (qz3 : Int)
 z4 : wrap64 (1 + (qz3 : Int)) = (nz : Int)
 s1 : bits .and .u32 ((N : Int) / 4) 3 = (qs : Int)
 s2 : wrap64 (qs : Int) = (qs : Int)
 s3 : Int.tmod (qs : Int) 3 = (qs3 : Int)
 c1 : bits .and .u32 (N : Int) 3 = (qc : Int)
 c2 : wrap64 (qc : Int) = (qc : Int)
 c3 : Int.tmod (qc : Int) 3 = (qc3 : Int)
 b1 : bits .and .u32 ((N : Int) / 64) 31 = (bar : Int)
 b2 : wrap64 (bar : Int) = (bar : Int)
 hs : ns = 1 + qs3
 hc : nc = 1 + qc3
 rz : 1 ≤ nz ∧ nz ≤ 3
 rs : 1 ≤ ns ∧ ns ≤ 3
 rc : 1 ≤ nc ∧ nc ≤ 3
theorem wrap64_small (q : Nat) (h : q ≤ 1000000) : wrap64 (q : Int) = (q : Int) := wrap64_id _ (by omega) (by omega)
theorem four_alloc (w : World) (o0 o1 o2 o3 : Obj) : Below w.heap.size w ((((w.alloc o0).alloc o1).alloc o2).alloc o3) ∧ ((((w.alloc o0).alloc o1).alloc o2).alloc o3).heap.size = w.heap.size + 4 ∧ ((((w.alloc o0).alloc o1).alloc o2).alloc o3).heap[w.heap.size]? = some o0 ∧
  ((((w.alloc o0).alloc o1).alloc o2).alloc o3).heap[w.heap.size + 1]? = some o1 ∧ ((((w.alloc o0).alloc o1).alloc o2).alloc o3).heap[w.heap.size + 2]? = some o2 ∧ ((((w.alloc o0).alloc o1).alloc o2).alloc o3).heap[w.heap.size + 3]? = some o3 := by
 refine ⟨(((Below.refl _ _).alloc (Nat.le_refl _) _).alloc (by simp) _).alloc (by simp only [World.size_alloc]; omega) _ |>.alloc (by simp only [World.size_alloc]; omega) _, by simp only [World.size_alloc], ?_, ?_, ?_, ?_⟩
 ·exact (Below.heap_alloc _ _ _ (by simp only [World.size_alloc]; omega)).trans ((Below.heap_alloc _ _ _ (by simp only [World.size_alloc]; omega)).trans ((Below.heap_alloc _ _ _ (by simp)).trans (heap_alloc_new _ _)))
 ·exact (Below.heap_alloc _ _ _ (by simp only [World.size_alloc]; omega)).trans ((Below.heap_alloc _ _ _ (by simp)).trans (by simpa using heap_alloc_new (w.alloc o0) o1))
 ·exact (Below.heap_alloc _ _ _ (by simp)).trans (by simpa using heap_alloc_new ((w.alloc o0).alloc o1) o2)
 ·simpa using heap_alloc_new (((w.alloc o0).alloc o1).alloc o2) o3
def mdTab : Array Value := #[.string ⟨#[49]⟩, .string ⟨#[]⟩, .string ⟨#[]⟩, .string ⟨#[50]⟩, .string ⟨#[49]⟩, .string ⟨#[50]⟩, .string ⟨#[49, 48]⟩, .string ⟨#[]⟩, .string ⟨#[49]⟩, .string ⟨#[50, 49]⟩, .string ⟨#[49, 48]⟩, .string ⟨#[50]⟩, .string ⟨#[49, 48, 48]⟩, .string ⟨#[49, 48]⟩, .string ⟨#[]⟩, .string ⟨#[49, 48, 48, 48]⟩, .string ⟨#[50]⟩, .string ⟨#[49]⟩]
theorem mdTab_at (i : Nat) (h : i < 9) : mdTab[i * 2]? = some (.string (mdPair i).1) ∧ mdTab[i * 2 + 1]? = some (.string (mdPair i).2) := by
 obtain rfl | rfl | rfl | rfl | rfl | rfl | rfl | rfl | rfl : i = 0 ∨ i = 1 ∨ i = 2 ∨ i = 3 ∨ i = 4 ∨ i = 5 ∨ i = 6 ∨ i = 7 ∨ i = 8 := by omega
 all_goals exact ⟨rfl, rfl⟩
structure MdZon (l : List Int) (nz ns nc bar X lt : Nat) (At : Option Addr) (ct tb : Nat) (w : World) (i : Nat) (W : World) : Prop where
 bel : Below w.heap.size w W
 far : w.heap.size + 3 < tb
 rv : W.heap[w.heap.size + 1]? = some (.cells #[.slice none 0 0, .slice none 0 0] 25 (0, 0))
 tab : W.heap[tb]? = some (.cells mdTab 86 (0, 0))
 rt : Kd.R k57 57 W (w.heap.size + 4) (fun _ => True) (.slice At lt ct) (mdRates l nz ns bar nc)
 zn : ∃ vZ, W.heap[w.heap.size + 3]? = some (.cells #[.slice At lt ct, vZ] 25 (0, 0)) ∧ Kd.R k67 67 W w.heap.size (fun k => k ≠ w.heap.size + 3) vZ (mdRows nz X i)
theorem mdRows_len (nz X : Nat) : ∀ i, (mdRows nz X i).length ≤ i + 1
 | 0 => by simp [mdRows]
 | i + 1 => by
  have := mdRows_len nz X i
  unfold mdRows
  rw [List.length_append]
  split <;> simp <;> omega
section
variable {l : List Int} {nz ns nc bar X lt : Nat} {At : Option Addr} {ct tb : Nat} {w : World} {i : Nat} {W W1 : World}
theorem MdZon.below (h : MdZon l nz ns nc bar X lt At ct tb w i W) (hb : Below W.heap.size W W1) : MdZon l nz ns nc bar X lt At ct tb w i W1 := by
 obtain ⟨h1, h2, h3, h4, h5, v, h6, h7⟩ := h
 exact ⟨h1.trans (hb.mono h1.size), h2, (hb.block _ (blk_lt h3)).trans h3, (hb.block _ (blk_lt h4)).trans h4, Kd.R_below h5 hb, v, (hb.block _ (blk_lt h6)).trans h6, Kd.R_below h7 hb⟩
theorem MdZon.skip (h : MdZon l nz ns nc bar X lt At ct tb w i W) (hx : X.testBit i = false) : MdZon l nz ns nc bar X lt At ct tb w (i + 1) W := by
 obtain ⟨h1, h2, h3, h4, h5, v, h6, h7⟩ := h
 exact ⟨h1, h2, h3, h4, h5, v, h6, by unfold mdRows; rw [hx]; simpa using h7⟩
theorem MdZon.put {v v1 : Value} (h : MdZon l nz ns nc bar X lt At ct tb w i W) (hx : X.testBit i = true) (h6 : W.heap[w.heap.size + 3]? = some (.cells #[.slice At lt ct, v] 25 (0, 0))) (h7 : Kd.R k67 67 W w.heap.size (fun k => k ≠ w.heap.size + 3) v (mdRows nz X i))
  (ho : Kd.R k67 67 W1 w.heap.size (fun k => k ≠ w.heap.size + 3) v1 (mdRows nz X i ++ [mdRow nz i])) (hb : Below w.heap.size w W1) (hg : W.grownBy W1 v.ownBlock) : MdZon l nz ns nc bar X lt At ct tb w (i + 1) (W1.setCell ⟨w.heap.size + 3, 1, none⟩ v1) := by
 obtain ⟨h1, h2, h3, h4, h5, -⟩ := h
 have far : ∀ q, q ≠ w.heap.size + 3 → (W1.setCell ⟨w.heap.size + 3, 1, none⟩ v1).heap[q]? = W1.heap[q]? := fun q hq => Below.heap_setCell _ _ _ _ hq
 refine ⟨hb.setCell (p := ⟨w.heap.size + 3, 1, none⟩) (by show w.heap.size ≤ w.heap.size + 3; omega) _, h2, ?_, ?_, ?_, v1, ?_, ?_⟩
 ·exact (far _ (by omega)).trans ((hg.block _ (blk_lt h3) (Kd.R_ne h7 h3 (by decide))).trans h3)
 ·exact (far _ (by omega)).trans ((hg.block _ (blk_lt h4) (Kd.R_ne h7 h4 (by decide))).trans h4)
 ·exact R_setLow (Kd.R_over h5 h7 (by decide) hg) (by show w.heap.size + 3 < w.heap.size + 4; omega) _
 ·exact blk_put ((hg.block _ (blk_lt h6) (fun e => h7.1 _ e.symm rfl)).trans h6) 1 v1 rfl
 ·unfold mdRows
  rw [hx, if_pos rfl]
  exact Kd.R_far ho (fun _ hk => hk) v1
end
theorem mdBit_nat (N i : Nat) (hi : i < 9) : N / 2048 % 512 / 2 ^ i % 2 = N / 2 ^ (11 + i) % 2 := by
 obtain rfl | rfl | rfl | rfl | rfl | rfl | rfl | rfl | rfl : i = 0 ∨ i = 1 ∨ i = 2 ∨ i = 3 ∨ i = 4 ∨ i = 5 ∨ i = 6 ∨ i = 7 ∨ i = 8 := by omega
 all_goals (simp only [Nat.reduceAdd, Nat.reducePow]; omega)
theorem mdBit (N i : Nat) (hN : N < 4294967296) (hi : i < 9) : bits .and .u32 ((N : Int) / 2 ^ (11 + i)) 1 = if (mdX N).testBit i then 1 else 0 := by
 have hp : ((2 : Int) ^ (11 + i)) = ((2 ^ (11 + i) : Nat) : Int) := by simp
 rw [hp, ← Int.natCast_ediv]
 have hle : N / 2 ^ (11 + i) ≤ N := Nat.div_le_self _ _
 have e := mdBit_nat N i hi
 rw [Nat.testBit_eq_decide_div_mod_eq]
 unfold mdX
 rw [e]
 generalize N / 2 ^ (11 + i) = q at *
 rw [u32_and1 _ (by omega) (by omega)]
 by_cases h : q % 2 = 1
 ·simp [h]
  omega
 ·have h0 : q % 2 = 0 := by omega
  simp [h0]
  omega
theorem idx_wrap (k s z : Nat) (hk : k ≤ 3) (hs : s ≤ 3) (hz : z ≤ 3) : IntKind.i64.wrap (IntKind.i64.wrap (IntKind.i64.wrap (17 * (k : Int)) + IntKind.i64.wrap (5 * (s : Int))) + (z : Int)) = ((17 * k + 5 * s + z : Nat) : Int) := by
 rw [wrap_i64_int (i := 17 * (k : Int)) (by omega) (by omega), wrap_i64_int (i := 5 * (s : Int)) (by omega) (by omega), wrap_i64_int (i := 17 * (k : Int) + 5 * (s : Int)) (by omega) (by omega), wrap_i64_int (by omega) (by omega)]
 omega
theorem mdNum (N : Nat) (hN : N < 4294967296) : MdNum N (mdZ N) (mdS N) (mdC N) (mdBar N) (N / 16 % 4) (N / 16 % 4 % 3) (N / 4 % 4) (N / 4 % 4 % 3) (N % 4) (N % 4 % 3) where
 z1 := (u32_and3 _ (by omega) (by omega)).trans (by omega)
 z2 := wrap64_small _ (by omega)
 z3 := (Int.ofNat_tmod _ 3).symm
 z4 := (wrap64_small (1 + N / 16 % 4 % 3) (by omega)).trans rfl
 s1 := (u32_and3 _ (by omega) (by omega)).trans (by omega)
 s2 := wrap64_small _ (by omega)
 s3 := (Int.ofNat_tmod _ 3).symm
 c1 := (u32_and3 _ (by omega) (by omega)).trans (by omega)
 c2 := wrap64_small _ (by omega)
 c3 := (Int.ofNat_tmod _ 3).symm
 b1 := (u32_and31 _ (by omega) (by omega)).trans (by unfold mdBar; omega)
 b2 := wrap64_small _ (by have := mdBar_range N; omega)
 hs := rfl
 hc := rfl
 rz := mdZ_range N
 rs := mdS_range N
 rc := mdC_range N
structure MdOut (l : List Int) (A : Option Addr) (c nz ns : Nat) (bar : Int) (w : World) (k : Nat) (W : World) : Prop where
 bel : Below w.heap.size w W
 size : w.heap.size + 4 ≤ W.heap.size
 pr : W.heap[w.heap.size]? = some (.cells #[.slice A l.length c] 29 (0, 0))
 rv : W.heap[w.heap.size + 1]? = some (.cells #[.slice none 0 0, .slice none 0 0] 25 (0, 0))
 zv : W.heap[w.heap.size + 2]? = some (.cells #[.string ⟨#[]⟩, .string ⟨#[]⟩, .int .i64 1] 67 (0, 0))
 tv : Holds k57 57 25 (w.heap.size + 3) (fun v => #[v, .slice (some ⟨w.heap.size + 2, 0, none⟩) 1 1]) (mdRates l nz ns bar k) W
set_option maxHeartbeats 8000000 in
set_option maxRecDepth 100000 in
theorem made.calls0 (N : Nat) (hN : N < 4294967296) (A : Option Addr) (c : Nat) (l : List Int) (hf : mdFits l = true) (w : World) (hr : Kd.C (Kd.int .u8) w A l.length l) (hc : l.length ≤ c) :
  Calls Tryd.prog 12 #[.int .u32 (N : Int), .slice A l.length c] w fun e w' => ∃ v0_ v1_ : Value, e = .returned (.agg #[v0_, v1_]) ∧ Kd.R k57 57 w' w.heap.size (fun _ => True) v0_ (madeR N l) ∧ Kd.R k67 67 w' w.heap.size (fun _ => True) v1_ (madeZ N) ∧ Below w.heap.size w w' := by
 have HR := Aside0.mk hr
 clear hr
 have HM := Aside0.mk (mdNum N hN)
 have HX := Aside0.mk (mdX_range N)
 unfold madeR madeZ
 generalize N / 16 % 4 = qz at *
 generalize qz % 3 = qz3 at *
 generalize N / 4 % 4 = qs at *
 generalize qs % 3 = qs3 at *
 generalize N % 4 = qc at *
 generalize qc % 3 = qc3 at *
 generalize mdZ N = nz at *
 generalize mdS N = ns at *
 generalize mdC N = nc at *
 generalize mdBar N = bar at *
 have HPR : Aside0 (∀ (i : Nat) (j : Int), j = (i : Int) → i ≤ 1000 → ∀ (b : Nat) (W : World), W.heap[b]? = some (.cells #[.slice A l.length c] 29 (0, 0)) → Kd.C (Kd.int .u8) W A l.length l → Calls Tryd.prog 39 #[.int .i64 j, .pointer (some ⟨b, 0, none⟩)] W fun e W' => e = .returned (.int .i64 (mdPrice l i)) ∧ Below W.heap.size W W') := ⟨fun i j hj hi b W h1 h2 => by subst hj; exact mdPrice.calls A c l hf i hi b W h1 h2⟩
 clear hf
 generalize hn : l.length = n at *
 have HN := Aside0.mk hn
 clear hn
 go_enter Tryd.func12, Tryd.ntmps12
 have z1 := HM.out.z1
 have z2 := HM.out.z2
 have z3 := HM.out.z3
 have z4 := HM.out.z4
 go_wp2_with fail
 clear z1 z2 z3 z4
 rw [HM.out.z4]
 go_loopg [8] nc (fun gg s8 W => ∃ k : Nat, k ≤ nc ∧ nc - k ≤ gg ∧ s8 = .int .i64 k ∧ Aside0 (MdOut l A c nz ns bar w k W))
 case atStart =>
  obtain ⟨b0, b1, b2, b3, b4, b5⟩ := four_alloc w (.cells #[.slice A n c] 29 (0, 0)) (.cells #[.slice none 0 0, .slice none 0 0] 25 (0, 0)) (.cells #[.string ⟨#[]⟩, .string ⟨#[]⟩, .int .i64 1] 67 (0, 0)) (.cells #[.slice none 0 0, .slice (some ⟨w.heap.size + 2, 0, none⟩) 1 1] 25 (0, 0))
  exact ⟨0, Nat.zero_le _, by omega, rfl, ⟨⟨b0, Nat.le_of_eq b1.symm, by rw [HN.out]; exact b2, b3, b4, ⟨.slice none 0 0, b5, Kd.R_nil _ _ _ _ _⟩⟩⟩⟩
 case round =>
  obtain ⟨k, hk, hg, rfl, HI⟩ := hrel
  have rc := HM.out.rc
  by_cases hlt : k < nc
  ·have hkc : (k : Int) ≤ (qc3 : Int) := by have := HM.out.hc; omega
   have hk8 : ((k : Int) + 1) % 256 = (k : Int) + 1 := by omega
   have z1 := HM.out.c1
   have z2 := HM.out.c2
   have z3 := HM.out.c3
   have z4 := HM.out.b1
   have z5 := HM.out.b2
   go_wp2_with fail
   clear z1 z2 z3 z4 z5
   rename World => Wc
   have rs := HM.out.rs
   go_loopg [10] ns (fun gg s10 W => ∃ s : Nat, s ≤ ns ∧ ns - s ≤ gg ∧ s10 = .int .i64 s ∧ Aside0 (Below Wc.heap.size Wc W) ∧ Aside0 (Holds k61 61 57 Wc.heap.size (fun v => #[.int .u8 ((k : Int) + 1), v, .int .i64 bar]) ((List.range s).map (mdStep l nz k)) W))
   case atStart => exact ⟨0, Nat.zero_le _, by omega, rfl, ⟨below_alloc (Below.refl _ _) _⟩, ⟨⟨.slice none 0 0, heap_alloc_new _ _, Kd.R_nil _ _ _ _ _⟩⟩⟩
   case round =>
    obtain ⟨s, hs, hgs, rfl, HBs, HSs⟩ := hrel
    by_cases hlts : s < ns
    ·have hks : (s : Int) ≤ (qs3 : Int) := by have := HM.out.hs; omega
     have z1 := HM.out.s1
     have z2 := HM.out.s2
     have z3 := HM.out.s3
     go_wp2_with fail
     clear z1 z2 z3
     rename World => Ws
     have rz := HM.out.rz
     go_loopg [12] nz (fun gg s12 W => ∃ z : Nat, z ≤ nz ∧ nz - z ≤ gg ∧ s12 = .int .i64 z ∧ Aside0 (Below Ws.heap.size Ws W) ∧ Aside0 (Holds (Kd.int .i64) 3 61 Ws.heap.size (fun v => #[.int .i64 (20 + 30 * (s : Int)), v]) ((List.range z).map (fun z => mdPrice l (17 * k + 5 * s + z))) W))
     case atStart => exact ⟨0, Nat.zero_le _, by omega, rfl, ⟨below_alloc (Below.refl _ _) _⟩, ⟨⟨.slice none 0 0, heap_alloc_new _ _, Kd.R_nil _ _ _ _ _⟩⟩⟩
     case round =>
      obtain ⟨z, hz, hgz, rfl, HBz, HSz⟩ := hrel
      by_cases hltz : z < nz
      ·have hkz : (z : Int) < (nz : Int) := by omega
       go_wp2_with fail
       obtain ⟨vC, hxb, hxR⟩ := HSz.out
       have hlx : Ws.heap.size < wr.heap.size := blk_lt hxb
       have xD : wr.drew.cell? ⟨Ws.heap.size, 1, none⟩ = some vC := (blk_cell (w := wr.drew) hxb 1).trans rfl
       obtain ⟨ibel, isz, ipr, -, -, -⟩ := HI.out
       rw [HN.out] at ipr
       have hszs := HBs.out.size
       have hpb : wr.drew.heap[w.heap.size]? = some (.cells #[.slice A n c] 29 (0, 0)) := (HBz.out.block _ (by omega)).trans ((HBs.out.block _ (by omega)).trans ipr)
       have hpC : Kd.C (Kd.int .u8) wr.drew A n l := Kd.C_below HR.out ((ibel.trans (HBs.out.mono (by omega))).trans (HBz.out.mono (by omega))).drew
       have hcal := HPR.out (17 * k + 5 * s + z) _ (idx_wrap k s z (by omega) (by omega) (by omega)) (by omega) _ _ hpb hpC
       have HXB := Aside0.mk hxb
       have HXR := Aside0.mk hxR
       clear hxb hxR hpb hpC ibel isz ipr hszs
       have HPQ := Aside0.mk (show ((List.range z).map (fun z => mdPrice l (17 * k + 5 * s + z))) ++ [mdPrice l (17 * k + 5 * s + z)] = (List.range (z + 1)).map (fun z => mdPrice l (17 * k + 5 * s + z)) by rw [List.range_succ, List.map_append]; rfl)
       have HLQ : ((List.range z).map (fun z => mdPrice l (17 * k + 5 * s + z))).length ≤ 3 := by rw [List.length_map, List.length_range]; omega
       generalize (List.range z).map (fun z => mdPrice l (17 * k + 5 * s + z)) = xs at *
       generalize mdPrice l (17 * k + 5 * s + z) = pr at *
       refine wp_region_held_drew (S := (fun _ => True)) (by kernel_rfl) ?_ (fun hHeld => ?_)
       ·((try dsimp only); (try trivial))
       refine takeT 0 ?_ rfl (by kernel_rfl) (by kernel_rfl) (by kernel_rfl) (fun _ _ _ h => h) (by rfl) ?_ (by assumption) ?_
       rotate_left
       ·(intro w hSw; (try dsimp only at hSw); go_simp; (try with_reducible rfl))
       try simp only [Act.put, sl1, sl2, sl3]
       refine takeT 2 ?_ rfl (by kernel_rfl) (by kernel_rfl) (by kernel_rfl) (fun _ _ _ h => h) (by rfl) ?_ (by assumption) ?_
       rotate_left
       ·(intro w hSw; (try dsimp only at hSw); go_simp; (try with_reducible rfl))
       try simp only [Act.put, sl1, sl2, sl3]
       refine takeT 3 ?_ rfl (by kernel_rfl) (by kernel_rfl) (by kernel_rfl) (fun _ _ _ h => h) (by rfl) ?_ (by assumption) ?_
       rotate_left
       ·(intro w hSw; (try dsimp only at hSw); go_simp; (try with_reducible rfl))
       try simp only [Act.put, sl1, sl2, sl3]
       refine takeT 4 ?_ rfl (by kernel_rfl) (by kernel_rfl) (by kernel_rfl) (fun _ _ _ h => h) (by rfl) ?_ (by assumption) ?_
       rotate_left
       ·(intro w hSw; (try dsimp only at hSw); go_simp; (try with_reducible rfl))
       try simp only [Act.put, sl1, sl2, sl3]
       refine takeT 5 ?_ rfl (by kernel_rfl) (by kernel_rfl) (by kernel_rfl) (fun _ _ _ h => h) (by rfl) ?_ (by assumption) ?_
       rotate_left
       ·(intro w hSw; (try dsimp only at hSw); go_simp; (try with_reducible rfl))
       try simp only [Act.put, sl1, sl2, sl3]
       refine takeT 6 ?_ rfl (by kernel_rfl) (by kernel_rfl) (by kernel_rfl) (fun _ _ _ h => h) (by rfl) ?_ (by assumption) ?_
       rotate_left
       ·(intro w hSw; (try dsimp only at hSw); go_simp; (try with_reducible rfl))
       try simp only [Act.put, sl1, sl2, sl3]
       refine takeT 7 ?_ rfl (by kernel_rfl) (by kernel_rfl) (by kernel_rfl) (fun _ _ _ h => h) (by rfl) ?_ (by assumption) ?_
       rotate_left
       ·(intro w hSw; (try dsimp only at hSw); go_simp; (try with_reducible rfl))
       try simp only [Act.put, sl1, sl2, sl3]
       refine takeT 8 ?_ rfl (by kernel_rfl) (by kernel_rfl) (by kernel_rfl) (fun _ _ _ h => h) (by rfl) ?_ (by assumption) ?_
       rotate_left
       ·(intro w hSw; (try dsimp only at hSw); go_simp; (try with_reducible rfl))
       try simp only [Act.put, sl1, sl2, sl3]
       refine takeT 9 ?_ rfl (by kernel_rfl) (by kernel_rfl) (by kernel_rfl) (fun _ _ _ h => h) (by rfl) ?_ (by assumption) ?_
       rotate_left
       ·(intro w hSw; (try dsimp only at hSw); go_simp; (try with_reducible rfl))
       try simp only [Act.put, sl1, sl2, sl3]
       apply bothWays
       intro hrest
       refine takeC2 1 10 rfl rfl (by kernel_rfl) (by rfl) (by rfl) (fun K hK => ?_) (fun K hK => ?_)
       ·go_simp
        skip
        (try go_wp2_with fail)
        refine hK.out _ _ ?_ (fun hHeld => ?_)
        ·((try dsimp only); (try trivial))
        clear hK K
        try simp only [Act.put, sl1, sl2, sl3]
        refine takeC 10 rfl (by kernel_rfl) (by rfl) (fun K hK => ?_)
        go_simp
        (refine hcal.mono ?_; rintro e wA ⟨rfl, hbA⟩; have xbA := (hbA.block Ws.heap.size hlx).trans HXB.out; have xA : wA.cell? ⟨Ws.heap.size, 1, none⟩ = some vC := (blk_cell xbA 1).trans rfl; have xA2 : (wA.alloc (.cells #[.int .i64 pr] 3)).cell? ⟨Ws.heap.size, 1, none⟩ = some vC := ((below_alloc (Below.refl wA.heap.size wA) (.cells #[.int .i64 pr] 3)).cell (p := ⟨Ws.heap.size, 1, none⟩) (blk_lt xbA)).trans xA)
        (try go_wp2_with fail)
        refine hK.out _ _ ?_ (fun hHeld => ?_)
        ·((try dsimp only); (try trivial))
        clear hK K
        try simp only [Act.put, sl1, sl2, sl3]
        refine takeC 11 rfl (by kernel_rfl) (by rfl) (fun K hK => ?_)
        go_simp
        skip
        (try go_wp2_with fail)
        refine hK.out _ _ ?_ (fun hHeld => ?_)
        ·((try dsimp only); (try trivial))
        clear hK K
        try simp only [Act.put, sl1, sl2, sl3]
        refine takeApp (Kd.int .i64) 12 (w0 := wA) (Ws.heap.size + 1) rfl (by kernel_rfl) (by rfl) (.tmp 60) (.tmp 70) 38 3 (.int .i64 0) 8 rfl Tryd.underlying38 info3 rfl (by decide) (by omega) vC _ pr [.int .i64 pr] (fun _ => True) (fun _ => False) rfl rfl rfl (fun _ hk => hk.elim) (fun _ _ => trivial) (Kd.R_below HXR.out (below_step (below_drew (Below.refl _ _)) hbA)) (Below.refl _ _) (by have := blk_lt xbA; omega) (by omega) ?_
        intro v1 w1 ho hb hg hat
        obtain ⟨Av, cv, ev⟩ := Kd.R_slice ho
        generalize hlen : (xs ++ [pr]).length = len at ev
        subst ev
        clear hlen
        refine ⟨trivial, fun hHeld => ?_⟩
        have xb1 := (hb.block Ws.heap.size (by omega)).trans xbA
        have x1 : w1.cell? ⟨Ws.heap.size, 1, none⟩ = some vC := (blk_cell xb1 1).trans rfl
        have f1 := blk_frozen xb1 1
        try simp only [Act.put, sl1, sl2, sl3]
        refine takeT 13 ?_ rfl (by kernel_rfl) (by kernel_rfl) (by kernel_rfl) (fun _ _ _ h => h) (by rfl) ?_ (by assumption) ?_
        rotate_left
        ·(intro w hSw; (try dsimp only at hSw); go_simp; (try with_reducible rfl))
        try simp only [Act.put, sl1, sl2, sl3]
        refine takeC 14 rfl (by kernel_rfl) (by rfl) (fun K hK => ?_)
        go_simp
        skip
        (try go_wp2_with fail)
        refine hK.out _ _ ?_ (fun hHeld => ?_)
        ·((try dsimp only); (try trivial))
        clear hK K
        try simp only [Act.put, sl1, sl2, sl3]
        refine wpAnyH_done (by kernel_rfl) ?_ _
        have HF := Aside0.mk (Holds.put (f := fun v => #[.int .i64 (20 + 30 * (s : Int)), v]) xb1 ho 1 rfl); have HG := Aside0.mk (((Below.refl Ws.heap.size wA).trans (hb.mono (Nat.le_succ _))).setCell (p := ⟨Ws.heap.size, 1, none⟩) (Nat.le_refl _) (.slice Av len cv)); clear ho hb hg hat xb1 x1 f1; clear xA2 xA xbA; generalize w1.setCell ⟨Ws.heap.size, 1, none⟩ (.slice Av len cv) = W2 at HF HG ⊢; clear w1; revert HF HG hbA W2 cv len Av wA
        exact hrest.out
       ·go_simp
        (refine hcal.mono ?_; rintro e wA ⟨rfl, hbA⟩; have xbA := (hbA.block Ws.heap.size hlx).trans HXB.out; have xA : wA.cell? ⟨Ws.heap.size, 1, none⟩ = some vC := (blk_cell xbA 1).trans rfl; have xA2 : (wA.alloc (.cells #[.int .i64 pr] 3)).cell? ⟨Ws.heap.size, 1, none⟩ = some vC := ((below_alloc (Below.refl wA.heap.size wA) (.cells #[.int .i64 pr] 3)).cell (p := ⟨Ws.heap.size, 1, none⟩) (blk_lt xbA)).trans xA)
        (try go_wp2_with fail)
        refine hK.out _ _ ?_ (fun hHeld => ?_)
        ·((try dsimp only); (try trivial))
        clear hK K
        try simp only [Act.put, sl1, sl2, sl3]
        refine takeC2 1 11 rfl rfl (by kernel_rfl) (by rfl) (by rfl) (fun K hK => ?_) (fun K hK => ?_)
        ·go_simp
         skip
         (try go_wp2_with fail)
         refine hK.out _ _ ?_ (fun hHeld => ?_)
         ·((try dsimp only); (try trivial))
         clear hK K
         try simp only [Act.put, sl1, sl2, sl3]
         refine takeC 11 rfl (by kernel_rfl) (by rfl) (fun K hK => ?_)
         go_simp
         skip
         (try go_wp2_with fail)
         refine hK.out _ _ ?_ (fun hHeld => ?_)
         ·((try dsimp only); (try trivial))
         clear hK K
         try simp only [Act.put, sl1, sl2, sl3]
         refine takeApp (Kd.int .i64) 12 (w0 := wA) (Ws.heap.size + 1) rfl (by kernel_rfl) (by rfl) (.tmp 60) (.tmp 70) 38 3 (.int .i64 0) 8 rfl Tryd.underlying38 info3 rfl (by decide) (by omega) vC _ pr [.int .i64 pr] (fun _ => True) (fun _ => False) rfl rfl rfl (fun _ hk => hk.elim) (fun _ _ => trivial) (Kd.R_below HXR.out (below_step (below_drew (Below.refl _ _)) hbA)) (Below.refl _ _) (by have := blk_lt xbA; omega) (by omega) ?_
         intro v1 w1 ho hb hg hat
         obtain ⟨Av, cv, ev⟩ := Kd.R_slice ho
         generalize hlen : (xs ++ [pr]).length = len at ev
         subst ev
         clear hlen
         refine ⟨trivial, fun hHeld => ?_⟩
         have xb1 := (hb.block Ws.heap.size (by omega)).trans xbA
         have x1 : w1.cell? ⟨Ws.heap.size, 1, none⟩ = some vC := (blk_cell xb1 1).trans rfl
         have f1 := blk_frozen xb1 1
         try simp only [Act.put, sl1, sl2, sl3]
         refine takeT 13 ?_ rfl (by kernel_rfl) (by kernel_rfl) (by kernel_rfl) (fun _ _ _ h => h) (by rfl) ?_ (by assumption) ?_
         rotate_left
         ·(intro w hSw; (try dsimp only at hSw); go_simp; (try with_reducible rfl))
         try simp only [Act.put, sl1, sl2, sl3]
         refine takeC 14 rfl (by kernel_rfl) (by rfl) (fun K hK => ?_)
         go_simp
         skip
         (try go_wp2_with fail)
         refine hK.out _ _ ?_ (fun hHeld => ?_)
         ·((try dsimp only); (try trivial))
         clear hK K
         try simp only [Act.put, sl1, sl2, sl3]
         refine wpAnyH_done (by kernel_rfl) ?_ _
         have HF := Aside0.mk (Holds.put (f := fun v => #[.int .i64 (20 + 30 * (s : Int)), v]) xb1 ho 1 rfl); have HG := Aside0.mk (((Below.refl Ws.heap.size wA).trans (hb.mono (Nat.le_succ _))).setCell (p := ⟨Ws.heap.size, 1, none⟩) (Nat.le_refl _) (.slice Av len cv)); clear ho hb hg hat xb1 x1 f1; clear xA2 xA xbA; generalize w1.setCell ⟨Ws.heap.size, 1, none⟩ (.slice Av len cv) = W2 at HF HG ⊢; clear w1; revert HF HG hbA W2 cv len Av wA
         exact hrest.out
        ·go_simp
         skip
         (try go_wp2_with fail)
         refine hK.out _ _ ?_ (fun hHeld => ?_)
         ·((try dsimp only); (try trivial))
         clear hK K
         try simp only [Act.put, sl1, sl2, sl3]
         refine takeC 1 rfl (by kernel_rfl) (by rfl) (fun K hK => ?_)
         go_simp
         skip
         (try go_wp2_with fail)
         refine hK.out _ _ ?_ (fun hHeld => ?_)
         ·((try dsimp only); (try trivial))
         clear hK K
         try simp only [Act.put, sl1, sl2, sl3]
         refine takeApp (Kd.int .i64) 12 (w0 := wA) (Ws.heap.size + 1) rfl (by kernel_rfl) (by rfl) (.tmp 60) (.tmp 70) 38 3 (.int .i64 0) 8 rfl Tryd.underlying38 info3 rfl (by decide) (by omega) vC _ pr [.int .i64 pr] (fun _ => True) (fun _ => False) rfl rfl rfl (fun _ hk => hk.elim) (fun _ _ => trivial) (Kd.R_below HXR.out (below_step (below_drew (Below.refl _ _)) hbA)) (Below.refl _ _) (by have := blk_lt xbA; omega) (by omega) ?_
         intro v1 w1 ho hb hg hat
         obtain ⟨Av, cv, ev⟩ := Kd.R_slice ho
         generalize hlen : (xs ++ [pr]).length = len at ev
         subst ev
         clear hlen
         refine ⟨trivial, fun hHeld => ?_⟩
         have xb1 := (hb.block Ws.heap.size (by omega)).trans xbA
         have x1 : w1.cell? ⟨Ws.heap.size, 1, none⟩ = some vC := (blk_cell xb1 1).trans rfl
         have f1 := blk_frozen xb1 1
         try simp only [Act.put, sl1, sl2, sl3]
         refine takeT 13 ?_ rfl (by kernel_rfl) (by kernel_rfl) (by kernel_rfl) (fun _ _ _ h => h) (by rfl) ?_ (by assumption) ?_
         rotate_left
         ·(intro w hSw; (try dsimp only at hSw); go_simp; (try with_reducible rfl))
         try simp only [Act.put, sl1, sl2, sl3]
         refine takeC 14 rfl (by kernel_rfl) (by rfl) (fun K hK => ?_)
         go_simp
         skip
         (try go_wp2_with fail)
         refine hK.out _ _ ?_ (fun hHeld => ?_)
         ·((try dsimp only); (try trivial))
         clear hK K
         try simp only [Act.put, sl1, sl2, sl3]
         refine wpAnyH_done (by kernel_rfl) ?_ _
         have HF := Aside0.mk (Holds.put (f := fun v => #[.int .i64 (20 + 30 * (s : Int)), v]) xb1 ho 1 rfl); have HG := Aside0.mk (((Below.refl Ws.heap.size wA).trans (hb.mono (Nat.le_succ _))).setCell (p := ⟨Ws.heap.size, 1, none⟩) (Nat.le_refl _) (.slice Av len cv)); clear ho hb hg hat xb1 x1 f1; clear xA2 xA xbA; generalize w1.setCell ⟨Ws.heap.size, 1, none⟩ (.slice Av len cv) = W2 at HF HG ⊢; clear w1; revert HF HG hbA W2 cv len Av wA
         exact hrest.out
       intro wA hbA Av cv len W2 HF HG
       go_wp2_with fail
       go_roundg (nz - (z + 1))
       case measure => omega
       case rel => exact ⟨z + 1, by omega, Nat.le_refl _, by go_num, ⟨(HBz.out.drew.trans (hbA.mono HBz.out.size)).trans HG.out⟩, ⟨by rw [← HPQ.out]; exact HF.out⟩⟩
      ·have hkz : ¬ (z : Int) < (nz : Int) := by omega
       have ez : z = nz := by omega
       rw [ez] at HSz
       obtain ⟨vC, hxb, hxR⟩ := HSz.out
       obtain ⟨vS, hsb0, hsR0⟩ := HSs.out
       have hlt0 := Kd.R_lt hsR0
       have hsb := (HBz.out.block _ (blk_lt hsb0)).trans hsb0
       have hlsz : Wc.heap.size < Ws.heap.size := blk_lt hsb0
       have hlz : Ws.heap.size < wr.heap.size := blk_lt hxb
       have HSR := Aside0.mk (Kd.R_below hsR0 HBz.out)
       obtain ⟨Ac, cc, ec⟩ := Kd.R_slice hxR
       generalize hlc : ((List.range nz).map (fun z => mdPrice l (17 * k + 5 * s + z))).length = lc at ec
       subst ec
       obtain ⟨As, cs, es⟩ := Kd.R_slice HSR.out
       generalize hls : ((List.range s).map (mdStep l nz k)).length = ls at es
       have hls3 : ls ≤ 3 := by rw [← hls, List.length_map, List.length_range]; omega
       subst es
       have x0 : wr.cell? ⟨Ws.heap.size, 0, none⟩ = some (.int .i64 (20 + 30 * (s : Int))) := (blk_cell hxb 0).trans rfl
       have x1 : wr.cell? ⟨Ws.heap.size, 1, none⟩ = some (.slice Ac lc cc) := (blk_cell hxb 1).trans rfl
       have r1 : wr.cell? ⟨Wc.heap.size, 1, none⟩ = some (.slice As ls cs) := (blk_cell hsb 1).trans rfl
       have HXR := Aside0.mk (Kd.R_lower (Kd.R_mono (ok' := fun k => some k ≠ (Value.slice As ls cs).ownBlock) (Kd.R_bound hxR) (fun q hq e => by have := hlt0 q e.symm; have := hq.2.1; omega)) (show Wc.heap.size + 1 ≤ Ws.heap.size + 1 by omega))
       have HSB := Aside0.mk hsb
       have HLS := Aside0.mk hls
       have HPQ := Aside0.mk (show ((List.range s).map (mdStep l nz k)) ++ [mdStep l nz k s] = (List.range (s + 1)).map (mdStep l nz k) by rw [List.range_succ, List.map_append]; rfl)
       clear hxb hxR hsb0 hsR0 hlt0 hsb hlc hls
       go_wp2_with (first | ((with_reducible refine gate_builtin (b := .append) (xs := #[.tmp 74, .tmp 76]) rfl ?_); at_builtin; refine Kd.R_append k61 (w0 := wr) (Wc.heap.size + 1) rfl (.tmp 74) (.tmp 76) 55 61 (.agg #[(.int .i64 0), (.slice none 0 0)]) 32 rfl Tryd.underlying55 info61 rfl (by decide) (by omega) (.slice As ls cs) _ (mdStep l nz k s) [.int .i64 (20 + 30 * (s : Int)), .slice Ac lc cc] (fun _ => True) (fun k => some k ≠ (Value.slice As ls cs).ownBlock) rfl rfl (k61_mkM _ _ _ (mdStep l nz k s) HXR.out) (fun _ hk => ⟨trivial, hk⟩) (fun _ _ => trivial) HSR.out (Below.refl _ _) (by omega) (by rw [HLS.out]; omega) ?_; intro v1 w1 ho hb hg hat; obtain ⟨Av, cv, ev⟩ := Kd.R_slice ho; generalize hlv : (List.map (mdStep l nz k) (List.range s) ++ [mdStep l nz k s]).length = lv at ev; subst ev; clear hlv; have hrb1 := (hb.block Wc.heap.size (by omega)).trans HSB.out; have r2 : w1.cell? ⟨Wc.heap.size, 1, none⟩ = some (.slice As ls cs) := (blk_cell hrb1 1).trans rfl; have f2 := blk_frozen hrb1 1; have HRB := Aside0.mk hrb1; have HO := Aside0.mk ho; have HBB := Aside0.mk hb; clear ho hb hg hat hrb1))
       go_roundg (ns - (s + 1))
       case measure => omega
       case rel => exact ⟨s + 1, by omega, Nat.le_refl _, by go_num, ⟨((HBs.out.trans (HBz.out.mono (by omega))).trans (HBB.out.mono (Nat.le_succ _))).setCell (p := ⟨Wc.heap.size, 1, none⟩) (Nat.le_refl _) _⟩, ⟨by rw [← HPQ.out]; exact Holds.put (f := fun v => #[.int .u8 ((k : Int) + 1), v, .int .i64 bar]) HRB.out HO.out 1 rfl⟩⟩
    ·have hks : ¬ (s : Int) ≤ (qs3 : Int) := by have := HM.out.hs; omega
     have es : s = ns := by omega
     rw [es] at HSs
     obtain ⟨ibel, isz, ipr, irv, izv, itv⟩ := HI.out
     obtain ⟨vR, htb0, htR0⟩ := itv
     obtain ⟨vS, hsb, hsR⟩ := HSs.out
     have hlt0 := Kd.R_lt htR0
     have htb := (HBs.out.block _ (blk_lt htb0)).trans htb0
     have hlw : w.heap.size + 3 < Wc.heap.size := blk_lt htb0
     have hls : Wc.heap.size < wr.heap.size := blk_lt hsb
     have HTR := Aside0.mk (Kd.R_below htR0 HBs.out)
     obtain ⟨Ac, cc, ec⟩ := Kd.R_slice hsR
     generalize hlc : ((List.range ns).map (mdStep l nz k)).length = lc at ec
     subst ec
     obtain ⟨At, ct, et⟩ := Kd.R_slice HTR.out
     generalize hlt : (mdRates l nz ns bar k).length = lt at et
     have hlt3 : lt ≤ 3 := by rw [← hlt]; unfold mdRates; rw [List.length_map, List.length_range]; omega
     subst et
     have x0 : wr.cell? ⟨Wc.heap.size, 0, none⟩ = some (.int .u8 ((k : Int) + 1)) := (blk_cell hsb 0).trans rfl
     have x1 : wr.cell? ⟨Wc.heap.size, 1, none⟩ = some (.slice Ac lc cc) := (blk_cell hsb 1).trans rfl
     have x2 : wr.cell? ⟨Wc.heap.size, 2, none⟩ = some (.int .i64 bar) := (blk_cell hsb 2).trans rfl
     have r1 : wr.cell? ⟨w.heap.size + 3, 0, none⟩ = some (.slice At lt ct) := (blk_cell htb 0).trans rfl
     have HXR := Aside0.mk (Kd.R_lower (Kd.R_mono (ok' := fun k => some k ≠ (Value.slice At lt ct).ownBlock) (Kd.R_bound hsR) (fun q hq e => by have := hlt0 q e.symm; have := hq.2.1; omega)) (show w.heap.size + 4 ≤ Wc.heap.size + 1 by omega))
     have HTB := Aside0.mk htb
     have HLT := Aside0.mk hlt
     have HPQ := Aside0.mk (show mdRates l nz ns bar k ++ [mdRate l nz ns bar k] = mdRates l nz ns bar (k + 1) by unfold mdRates; rw [List.range_succ, List.map_append]; rfl)
     have z1 := HM.out.s1
     have z2 := HM.out.s2
     have z3 := HM.out.s3
     clear hsb hsR htb0 htR0 hlt0 htb hlc hlt
     go_wp2_with (first | ((with_reducible refine gate_builtin (b := .append) (xs := #[.tmp 80, .tmp 82]) rfl ?_); at_builtin; refine Kd.R_append k57 (w0 := wr) (w.heap.size + 4) rfl (.tmp 80) (.tmp 82) 22 57 (.agg #[(.int .u8 0), (.slice none 0 0), (.int .i64 0)]) 40 rfl Tryd.underlying22 info57 rfl (by decide) (by omega) (.slice At lt ct) _ (mdRate l nz ns bar k) [.int .u8 ((k : Int) + 1), .slice Ac lc cc, .int .i64 bar] (fun _ => True) (fun k => some k ≠ (Value.slice At lt ct).ownBlock) rfl rfl (k57_mkM _ _ _ (mdRate l nz ns bar k) HXR.out) (fun _ hk => ⟨trivial, hk⟩) (fun _ _ => trivial) HTR.out (Below.refl _ _) (by omega) (by rw [HLT.out]; omega) ?_; intro v1 w1 ho hb hg hat; obtain ⟨Av, cv, ev⟩ := Kd.R_slice ho; generalize hlv : (mdRates l nz ns bar k ++ [mdRate l nz ns bar k]).length = lv at ev; subst ev; clear hlv; have hrb1 := (hb.block (w.heap.size + 3) (by omega)).trans HTB.out; have r2 : w1.cell? ⟨w.heap.size + 3, 0, none⟩ = some (.slice At lt ct) := (blk_cell hrb1 0).trans rfl; have f2 := blk_frozen hrb1 0; have HRB := Aside0.mk hrb1; have HO := Aside0.mk ho; have HBB := Aside0.mk hb; clear ho hb hg hat hrb1))
     go_roundg (nc - (k + 1))
     case measure => omega
     case rel =>
      have hbb := HBB.out.mono (show w.heap.size + 3 ≤ w.heap.size + 4 by omega)
      have hfar : ∀ q, q ≠ w.heap.size + 3 → (w1.setCell ⟨w.heap.size + 3, 0, none⟩ (.slice Av lv cv)).heap[q]? = w1.heap[q]? := fun q hq => Below.heap_setCell _ _ _ _ hq
      have hlow : ∀ q, q < w.heap.size + 3 → (w1.setCell ⟨w.heap.size + 3, 0, none⟩ (.slice Av lv cv)).heap[q]? = Wc.heap[q]? := fun q hq => (hfar q (by omega)).trans ((hbb.block q hq).trans (HBs.out.block q (by omega)))
      refine ⟨k + 1, by omega, Nat.le_refl _, by go_num, ⟨⟨?_, ?_, (hlow _ (by omega)).trans ipr, (hlow _ (by omega)).trans irv, (hlow _ (by omega)).trans izv, ?_⟩⟩⟩
      ·exact ((ibel.trans (HBs.out.mono (by omega))).trans (HBB.out.mono (by omega))).setCell (p := ⟨w.heap.size + 3, 0, none⟩) (by show w.heap.size ≤ w.heap.size + 3; omega) _
      ·show w.heap.size + 4 ≤ _
       have := HBB.out.size
       simp only [World.setCell, Array.size_modify]
       omega
      ·rw [← HPQ.out]
       exact Holds.put (f := fun v => #[v, .slice (some ⟨w.heap.size + 2, 0, none⟩) 1 1]) HRB.out HO.out 0 rfl
  ·have hkc : ¬ (k : Int) ≤ (qc3 : Int) := by have := HM.out.hc; omega
   have ek : k = nc := by omega
   rw [ek] at HI
   obtain ⟨ibel, isz, -, irv, izv, itv⟩ := HI.out
   obtain ⟨vR, htb, htR⟩ := itv
   obtain ⟨At, ct, et⟩ := Kd.R_slice htR
   generalize hlt : (mdRates l nz ns bar nc).length = lt at et
   subst et
   have z1 := HM.out.c1
   have z2 := HM.out.c2
   have z3 := HM.out.c3
   go_wp2_with fail
   clear z1 z2 z3
   have HWR := Aside0.mk (Nat.lt_of_lt_of_le (show w.heap.size + 3 < w.heap.size + 4 by omega) isz)
   rename World => Wr
   obtain ⟨X, HXE⟩ : ∃ X, Aside0 (mdX N = X) := ⟨_, ⟨rfl⟩⟩
   have HBT : Aside0 (∀ i : Nat, i < 9 → bits .and .u32 ((N : Int) / 2 ^ (11 + i)) 1 = if X.testBit i then 1 else 0) := ⟨fun i hi => by have h := mdBit N i hN hi; rw [HXE.out] at h; exact h⟩
   go_loopg [96] 9 (fun gg s96 W => ∃ i : Nat, i ≤ 9 ∧ 9 - i ≤ gg ∧ s96 = .int .i64 i ∧ Aside0 (MdZon l nz ns nc bar X lt At ct Wr.heap.size w i W))
   case atStart =>
    have hb := below_alloc (Below.refl Wr.heap.size Wr) (.cells mdTab 86 (0, 0))
    refine ⟨0, by omega, by omega, rfl, ⟨⟨ibel.trans (hb.mono ibel.size), blk_lt htb, (hb.block _ (blk_lt irv)).trans irv, heap_alloc_new _ _, Kd.R_below htR hb, _, (hb.block _ (blk_lt htb)).trans htb, ?_⟩⟩⟩
    exact R_one (cs := [.string ⟨#[]⟩, .string ⟨#[]⟩, .int .i64 1]) (okp := fun _ => False) (p := (⟨mdText [], mdText [], 1⟩ : Zn)) ((hb.block _ (blk_lt izv)).trans izv) (show w.heap.size ≤ w.heap.size + 2 by omega) (k67_mkM _ _ _ ⟨mdText [], mdText [], 1⟩) (fun _ hk => hk.elim) (show w.heap.size + 2 ≠ w.heap.size + 3 by omega)
   case round =>
    obtain ⟨i, hi, hgi, rfl, HZ⟩ := hrel
    by_cases hlti : i < 9
    ·have hki : (i : Int) < 9 := by omega
     obtain ⟨q1, q2⟩ := mdTab_at i hlti
     have c1 := (blk_cell HZ.out.tab (i * 2)).trans q1
     have c2 := (blk_cell HZ.out.tab (i * 2 + 1)).trans q2
     have HRO := Aside0.mk (show mdRow nz i = ⟨(mdPair i).1, (mdPair i).2, 1 + ((i % nz : Nat) : Int)⟩ from rfl)
     have hbit := HBT.out i hlti
     generalize (mdPair i).1 = p1 at *
     generalize (mdPair i).2 = p2 at *
     clear q1 q2
     cases hxb : X.testBit i with
     | false =>
      rw [hxb] at hbit
      simp only [Bool.false_eq_true, if_false] at hbit
      go_wp2_with fail
      go_roundg (9 - (i + 1))
      case measure => omega
      case rel => exact ⟨i + 1, by omega, Nat.le_refl _, by go_num, ⟨(HZ.out.skip hxb).below (below_alloc (Below.refl _ _) _)⟩⟩
     | true =>
      rw [hxb] at hbit
      simp only [if_true] at hbit
      have HZ2 := Aside0.mk (HZ.out.below (below_alloc (Below.refl wr.heap.size wr) (.cells #[.string p1, .string p2] 86 (0, 0))))
      have d1 : (wr.alloc (.cells #[.string p1, .string p2] 86 (0, 0))).cell? ⟨wr.heap.size, 0, none⟩ = some (.string p1) := (blk_cell (heap_alloc_new _ _) 0).trans rfl
      have d2 : (wr.alloc (.cells #[.string p1, .string p2] 86 (0, 0))).cell? ⟨wr.heap.size, 1, none⟩ = some (.string p2) := (blk_cell (heap_alloc_new _ _) 1).trans rfl
      have hzb : (wr.alloc (.cells #[.string p1, .string p2] 86 (0, 0))).heap[wr.heap.size]? = some (.cells #[.string p1, .string p2] 86 (0, 0)) := heap_alloc_new _ _
      go_wp2_with fail
      clear c1 c2 hbit HZ
      generalize wr.alloc (.cells #[.string p1, .string p2] 86 (0, 0)) = Wz at *
      generalize wr.heap.size = zb at *
      have HZD := Aside0.mk (HZ2.out.below (below_drew (Below.refl _ _)))
      obtain ⟨jbel, -, -, -, -, vZ, hz3, hzR⟩ := HZD.out
      obtain ⟨Az, cz, ez⟩ := Kd.R_slice hzR
      have hlz9 : (mdRows nz X i).length ≤ 9 := by have := mdRows_len nz X i; omega
      generalize hlz : (mdRows nz X i).length = lz at ez hlz9
      subst ez
      have hltz : w.heap.size + 3 < Wz.drew.heap.size := blk_lt hz3
      have hjs := jbel.size
      have m1 : Wz.drew.cell? ⟨w.heap.size + 3, 1, none⟩ = some (.slice Az lz cz) := (blk_cell hz3 1).trans rfl
      have hrem : Int.tmod (i : Int) (nz : Int) = ((i % nz : Nat) : Int) := (Int.ofNat_tmod _ _).symm
      have hnz0 : ¬ nz = 0 := by have := HM.out.rz; omega
      have hmlt : i % nz < 3 := Nat.lt_of_lt_of_le (Nat.mod_lt _ (by have := HM.out.rz; omega)) (by have := HM.out.rz; omega)
      generalize i % nz = mm at *
      have hw1 : IntKind.i64.wrap (1 + (mm : Int)) = 1 + (mm : Int) := wrap_i64_int (by omega) (by omega)
      have m2 : (Wz.alloc (.cells #[.string p1, .string p2, .int .i64 (1 + (mm : Int))] 67 (0, 0))).drew.cell? ⟨w.heap.size + 3, 1, none⟩ = some (.slice Az lz cz) := ((below_alloc (Below.refl Wz.drew.heap.size Wz.drew) (.cells #[.string p1, .string p2, .int .i64 (1 + (mm : Int))] 67 (0, 0))).cell (p := ⟨w.heap.size + 3, 1, none⟩) hltz).trans m1
      have d1d : Wz.drew.cell? ⟨zb, 0, none⟩ = some (.string p1) := d1
      have d2d : Wz.drew.cell? ⟨zb, 1, none⟩ = some (.string p2) := d2
      have e1 : (Wz.drew.alloc (.cells #[.string p1, .string p2, .int .i64 (1 + (mm : Int))] 67 (0, 0))).cell? ⟨zb, 0, none⟩ = some (.string p1) := ((below_alloc (Below.refl Wz.drew.heap.size Wz.drew) (.cells #[.string p1, .string p2, .int .i64 (1 + (mm : Int))] 67 (0, 0))).cell (p := ⟨zb, 0, none⟩) (blk_lt (w := Wz) hzb)).trans d1d
      have e2 : (Wz.drew.alloc (.cells #[.string p1, .string p2, .int .i64 (1 + (mm : Int))] 67 (0, 0))).cell? ⟨zb, 1, none⟩ = some (.string p2) := ((below_alloc (Below.refl Wz.drew.heap.size Wz.drew) (.cells #[.string p1, .string p2, .int .i64 (1 + (mm : Int))] 67 (0, 0))).cell (p := ⟨zb, 1, none⟩) (blk_lt (w := Wz) hzb)).trans d2d
      have HZBK : Aside0 (Wz.drew.heap[zb]? = some (.cells #[.string p1, .string p2] 86 (0, 0))) := ⟨hzb⟩
      have HZR := Aside0.mk hzR
      have HZ3 := Aside0.mk hz3
      have HJB := Aside0.mk jbel
      have HLZ := Aside0.mk hlz
      clear hzR hz3 jbel hlz d1 d2 hzb
      refine wp_region_held_drew (S := (fun w' => w'.cell? ⟨zb, 0, none⟩ = some (.string p1) ∧ w'.cell? ⟨zb, 1, none⟩ = some (.string p2))) (by kernel_rfl) ?_ (fun hHeld => ?_)
      ·((try dsimp only); first | exact ⟨d1d, d2d⟩ | exact ⟨e1, e2⟩ | exact ⟨z1, z2⟩ | exact ⟨g1, g2⟩ | go_keep)
      refine takeT 0 ?_ rfl (by kernel_rfl) (by kernel_rfl) (by kernel_rfl) (fun _ _ _ h => h) (by rfl) ?_ (by assumption) ?_
      rotate_left
      ·(intro w hSw; (try dsimp only at hSw); go_simp; (try with_reducible rfl))
      try simp only [Act.put, sl1, sl2, sl3]
      refine takeT 2 ?_ rfl (by kernel_rfl) (by kernel_rfl) (by kernel_rfl) (fun _ _ _ h => h) (by rfl) ?_ (by assumption) ?_
      rotate_left
      ·(intro w hSw; (try dsimp only at hSw); go_simp; (try with_reducible rfl))
      try simp only [Act.put, sl1, sl2, sl3]
      refine takeT 3 ?_ rfl (by kernel_rfl) (by kernel_rfl) (by kernel_rfl) (fun _ _ _ h => h) (by rfl) ?_ (by assumption) ?_
      rotate_left
      ·(intro w hSw; (try dsimp only at hSw); go_simp; (try with_reducible rfl))
      try simp only [Act.put, sl1, sl2, sl3]
      refine takeT 4 ?_ rfl (by kernel_rfl) (by kernel_rfl) (by kernel_rfl) (fun _ _ _ h => h) (by rfl) ?_ (by assumption) ?_
      rotate_left
      ·(intro w hSw; (try dsimp only at hSw); go_simp; (try with_reducible rfl))
      try simp only [Act.put, sl1, sl2, sl3]
      refine takeT 5 ?_ rfl (by kernel_rfl) (by kernel_rfl) (by kernel_rfl) (fun _ _ _ h => h) (by rfl) ?_ (by assumption) ?_
      rotate_left
      ·(intro w hSw; (try dsimp only at hSw); go_simp; (try with_reducible rfl))
      try simp only [Act.put, sl1, sl2, sl3]
      refine takeT 6 ?_ rfl (by kernel_rfl) (by kernel_rfl) (by kernel_rfl) (fun _ _ _ h => h) (by rfl) ?_ (by assumption) ?_
      rotate_left
      ·(intro w hSw; (try dsimp only at hSw); go_simp; (try with_reducible rfl))
      try simp only [Act.put, sl1, sl2, sl3]
      refine takeT 7 ?_ rfl (by kernel_rfl) (by kernel_rfl) (by kernel_rfl) (fun _ _ _ h => h) (by rfl) ?_ (by assumption) ?_
      rotate_left
      ·(intro w hSw; (try dsimp only at hSw); go_simp; (try with_reducible rfl))
      try simp only [Act.put, sl1, sl2, sl3]
      refine takeT 8 ?_ rfl (by kernel_rfl) (by kernel_rfl) (by kernel_rfl) (fun _ _ _ h => h) (by rfl) ?_ (by assumption) ?_
      rotate_left
      ·(intro w hSw; (try dsimp only at hSw); go_simp; (try with_reducible rfl))
      try simp only [Act.put, sl1, sl2, sl3]
      refine takeT 9 ?_ rfl (by kernel_rfl) (by kernel_rfl) (by kernel_rfl) (fun _ _ _ h => h) (by rfl) ?_ (by assumption) ?_
      rotate_left
      ·(intro w hSw; (try dsimp only at hSw); go_simp; (try with_reducible rfl))
      try simp only [Act.put, sl1, sl2, sl3]
      refine takeT 10 ?_ rfl (by kernel_rfl) (by kernel_rfl) (by kernel_rfl) (fun _ _ _ h => h) (by rfl) ?_ (by assumption) ?_
      rotate_left
      ·(intro w hSw; (try dsimp only at hSw); go_simp; (try with_reducible rfl))
      try simp only [Act.put, sl1, sl2, sl3]
      apply bothWays
      intro hrest
      refine takeC2 1 11 rfl rfl (by kernel_rfl) (by rfl) (by rfl) (fun K hK => ?_) (fun K hK => ?_)
      ·go_simp
       skip
       (try go_wp2_with fail)
       refine hK.out _ _ ?_ (fun hHeld => ?_)
       ·((try dsimp only); first | exact ⟨d1d, d2d⟩ | exact ⟨e1, e2⟩ | exact ⟨z1, z2⟩ | exact ⟨g1, g2⟩ | go_keep)
       clear hK K
       try simp only [Act.put, sl1, sl2, sl3]
       refine takeC 11 rfl (by kernel_rfl) (by rfl) (fun K hK => ?_)
       go_simp
       skip
       (try go_wp2_with fail)
       refine hK.out _ _ ?_ (fun hHeld => ?_)
       ·((try dsimp only); first | exact ⟨d1d, d2d⟩ | exact ⟨e1, e2⟩ | exact ⟨z1, z2⟩ | exact ⟨g1, g2⟩ | go_keep)
       clear hK K
       try simp only [Act.put, sl1, sl2, sl3]
       refine takeApp k67 12 (w0 := w) w.heap.size rfl (by kernel_rfl) (by rfl) (.tmp 108) (.tmp 118) 23 67 (.agg #[(.string ⟨#[]⟩), (.string ⟨#[]⟩), (.int .i64 0)]) 40 rfl Tryd.underlying23 info67 rfl (by decide) (by omega) (.slice Az lz cz) _ (mdRow nz i) [.string p1, .string p2, .int .i64 (1 + (mm : Int))] (fun k => k ≠ w.heap.size + 3) (fun _ => False) rfl rfl (by rw [HRO.out]; exact k67_mkM _ _ _ ⟨p1, p2, 1 + (mm : Int)⟩) (fun _ hk => hk.elim) (fun k hk => by omega) HZR.out HJB.out hjs (by rw [HLZ.out]; omega) ?_
       intro v1 w1 ho hb hg hat
       obtain ⟨Av, cv, ev⟩ := Kd.R_slice ho
       generalize hlen : (mdRows nz X i ++ [mdRow nz i]).length = len at ev
       subst ev
       clear hlen
       have xb1 := (hg.block _ (blk_lt HZ3.out) (fun e => HZR.out.1 _ e.symm rfl)).trans HZ3.out
       have x1 : w1.cell? ⟨w.heap.size + 3, 1, none⟩ = some (.slice Az lz cz) := (blk_cell xb1 1).trans rfl
       have f1 := blk_frozen xb1 1
       have zb1 := (hg.block zb (blk_lt HZBK.out) (Kd.R_ne HZR.out HZBK.out (by decide))).trans HZBK.out
       have z1 : w1.cell? ⟨zb, 0, none⟩ = some (.string p1) := (blk_cell zb1 0).trans rfl
       have z2 : w1.cell? ⟨zb, 1, none⟩ = some (.string p2) := (blk_cell zb1 1).trans rfl
       have hzn : zb ≠ w.heap.size + 3 := (fun e => by rw [e] at zb1; rw [xb1] at zb1; injection zb1 with zb1; injection zb1 with _ zb1; exact absurd zb1 (by decide))
       have g1 : (w1.setCell ⟨w.heap.size + 3, 1, none⟩ (.slice Av len cv)).cell? ⟨zb, 0, none⟩ = some (.string p1) := (blk_cell (blk_far zb1 hzn _) 0).trans rfl
       have g2 : (w1.setCell ⟨w.heap.size + 3, 1, none⟩ (.slice Av len cv)).cell? ⟨zb, 1, none⟩ = some (.string p2) := (blk_cell (blk_far zb1 hzn _) 1).trans rfl
       refine ⟨⟨z1, z2⟩, fun hH12 => ?_⟩
       try simp only [Act.put, sl1, sl2, sl3]
       refine takeT 13 ?_ rfl (by kernel_rfl) (by kernel_rfl) (by kernel_rfl) (fun _ _ _ h => h) (by rfl) ?_ (by assumption) ?_
       rotate_left
       ·(intro w hSw; (try dsimp only at hSw); go_simp; (try with_reducible rfl))
       try simp only [Act.put, sl1, sl2, sl3]
       refine takeC 14 rfl (by kernel_rfl) (by rfl) (fun K hK => ?_)
       go_simp
       skip
       (try go_wp2_with fail)
       refine hK.out _ _ ?_ (fun hHeld => ?_)
       ·((try dsimp only); first | exact ⟨d1d, d2d⟩ | exact ⟨e1, e2⟩ | exact ⟨z1, z2⟩ | exact ⟨g1, g2⟩ | go_keep)
       clear hK K
       try simp only [Act.put, sl1, sl2, sl3]
       refine wpAnyH_done (by kernel_rfl) ?_ _
       have HF := Aside0.mk (HZD.out.put hxb HZ3.out HZR.out ho hb hg); clear ho hb hg hat xb1 x1 f1 zb1 z1 z2 hzn g1 g2 hHeld hH12; generalize w1.setCell ⟨w.heap.size + 3, 1, none⟩ (.slice Av len cv) = W2 at HF ⊢; clear w1; revert HF W2 cv len Av
       exact hrest.out
      ·go_simp
       skip
       (try go_wp2_with fail)
       refine hK.out _ _ ?_ (fun hHeld => ?_)
       ·((try dsimp only); first | exact ⟨d1d, d2d⟩ | exact ⟨e1, e2⟩ | exact ⟨z1, z2⟩ | exact ⟨g1, g2⟩ | go_keep)
       clear hK K
       try simp only [Act.put, sl1, sl2, sl3]
       refine takeC 1 rfl (by kernel_rfl) (by rfl) (fun K hK => ?_)
       go_simp
       skip
       (try go_wp2_with fail)
       refine hK.out _ _ ?_ (fun hHeld => ?_)
       ·((try dsimp only); first | exact ⟨d1d, d2d⟩ | exact ⟨e1, e2⟩ | exact ⟨z1, z2⟩ | exact ⟨g1, g2⟩ | go_keep)
       clear hK K
       try simp only [Act.put, sl1, sl2, sl3]
       refine takeApp k67 12 (w0 := w) w.heap.size rfl (by kernel_rfl) (by rfl) (.tmp 108) (.tmp 118) 23 67 (.agg #[(.string ⟨#[]⟩), (.string ⟨#[]⟩), (.int .i64 0)]) 40 rfl Tryd.underlying23 info67 rfl (by decide) (by omega) (.slice Az lz cz) _ (mdRow nz i) [.string p1, .string p2, .int .i64 (1 + (mm : Int))] (fun k => k ≠ w.heap.size + 3) (fun _ => False) rfl rfl (by rw [HRO.out]; exact k67_mkM _ _ _ ⟨p1, p2, 1 + (mm : Int)⟩) (fun _ hk => hk.elim) (fun k hk => by omega) HZR.out HJB.out hjs (by rw [HLZ.out]; omega) ?_
       intro v1 w1 ho hb hg hat
       obtain ⟨Av, cv, ev⟩ := Kd.R_slice ho
       generalize hlen : (mdRows nz X i ++ [mdRow nz i]).length = len at ev
       subst ev
       clear hlen
       have xb1 := (hg.block _ (blk_lt HZ3.out) (fun e => HZR.out.1 _ e.symm rfl)).trans HZ3.out
       have x1 : w1.cell? ⟨w.heap.size + 3, 1, none⟩ = some (.slice Az lz cz) := (blk_cell xb1 1).trans rfl
       have f1 := blk_frozen xb1 1
       have zb1 := (hg.block zb (blk_lt HZBK.out) (Kd.R_ne HZR.out HZBK.out (by decide))).trans HZBK.out
       have z1 : w1.cell? ⟨zb, 0, none⟩ = some (.string p1) := (blk_cell zb1 0).trans rfl
       have z2 : w1.cell? ⟨zb, 1, none⟩ = some (.string p2) := (blk_cell zb1 1).trans rfl
       have hzn : zb ≠ w.heap.size + 3 := (fun e => by rw [e] at zb1; rw [xb1] at zb1; injection zb1 with zb1; injection zb1 with _ zb1; exact absurd zb1 (by decide))
       have g1 : (w1.setCell ⟨w.heap.size + 3, 1, none⟩ (.slice Av len cv)).cell? ⟨zb, 0, none⟩ = some (.string p1) := (blk_cell (blk_far zb1 hzn _) 0).trans rfl
       have g2 : (w1.setCell ⟨w.heap.size + 3, 1, none⟩ (.slice Av len cv)).cell? ⟨zb, 1, none⟩ = some (.string p2) := (blk_cell (blk_far zb1 hzn _) 1).trans rfl
       refine ⟨⟨z1, z2⟩, fun hH12 => ?_⟩
       try simp only [Act.put, sl1, sl2, sl3]
       refine takeT 13 ?_ rfl (by kernel_rfl) (by kernel_rfl) (by kernel_rfl) (fun _ _ _ h => h) (by rfl) ?_ (by assumption) ?_
       rotate_left
       ·(intro w hSw; (try dsimp only at hSw); go_simp; (try with_reducible rfl))
       try simp only [Act.put, sl1, sl2, sl3]
       refine takeC 14 rfl (by kernel_rfl) (by rfl) (fun K hK => ?_)
       go_simp
       skip
       (try go_wp2_with fail)
       refine hK.out _ _ ?_ (fun hHeld => ?_)
       ·((try dsimp only); first | exact ⟨d1d, d2d⟩ | exact ⟨e1, e2⟩ | exact ⟨z1, z2⟩ | exact ⟨g1, g2⟩ | go_keep)
       clear hK K
       try simp only [Act.put, sl1, sl2, sl3]
       refine wpAnyH_done (by kernel_rfl) ?_ _
       have HF := Aside0.mk (HZD.out.put hxb HZ3.out HZR.out ho hb hg); clear ho hb hg hat xb1 x1 f1 zb1 z1 z2 hzn g1 g2 hHeld hH12; generalize w1.setCell ⟨w.heap.size + 3, 1, none⟩ (.slice Av len cv) = W2 at HF ⊢; clear w1; revert HF W2 cv len Av
       exact hrest.out
      intro Av cv len W2 HF
      go_wp2_with fail
      go_roundg (9 - (i + 1))
      case measure => omega
      case rel => exact ⟨i + 1, by omega, Nat.le_refl _, by go_num, HF⟩
    ·have hki : ¬ (i : Int) < 9 := by omega
     have ei : i = 9 := by omega
     rw [ei] at HZ
     obtain ⟨jbel, -, jrv, -, jrt, vZ, hz3, hzR⟩ := HZ.out
     obtain ⟨Az, cz, ez⟩ := Kd.R_slice hzR
     generalize hlz : (mdRows nz X 9).length = lz at ez
     subst ez
     have m0 : wr.cell? ⟨w.heap.size + 3, 0, none⟩ = some (.slice At lt ct) := (blk_cell hz3 0).trans rfl
     have m1 : wr.cell? ⟨w.heap.size + 3, 1, none⟩ = some (.slice Az lz cz) := (blk_cell hz3 1).trans rfl
     have n0 : wr.cell? ⟨w.heap.size + 1, 0, none⟩ = some (.slice none 0 0) := (blk_cell jrv 0).trans rfl
     have n1 : wr.cell? ⟨w.heap.size + 1, 1, none⟩ = some (.slice none 0 0) := (blk_cell jrv 1).trans rfl
     have g0 := blk_frozen jrv 0
     have g1 := blk_frozen jrv 1
     go_wp2_with fail
     have hJ1 := blk_put jrv 0 (.slice At lt ct) rfl
     have hJ2 := blk_put hJ1 1 (.slice Az lz cz) rfl
     refine bodyPost_ret (results_cell_row rfl _ _ (w.heap.size + 1) 25 #[.slice At lt ct, .slice Az lz cz] (0, 0) _ rfl (by exact hJ2) Tryd.underlying25 rfl (by kernel_rfl)) rfl ?_
     refine ⟨_, _, rfl, ?_, ?_, ?_⟩
     ·exact Kd.R_lower (R_setLow (R_setLow jrt (by show w.heap.size + 1 < w.heap.size + 4; omega) _) (by show w.heap.size + 1 < w.heap.size + 4; omega) _) (by omega)
     ·have hz := Kd.R_types hzR jrv (by decide)
      rw [HXE.out]
      exact Kd.R_mono (Kd.R_far (p := ⟨w.heap.size + 1, 1, none⟩) (Kd.R_far (p := ⟨w.heap.size + 1, 0, none⟩) hz (fun _ hk => hk.2) _) (fun _ hk => hk.2) _) (fun _ _ => trivial)
     ·exact (jbel.setCell (p := ⟨w.heap.size + 1, 0, none⟩) (by show w.heap.size ≤ w.heap.size + 1; omega) _).setCell (p := ⟨w.heap.size + 1, 1, none⟩) (by show w.heap.size ≤ w.heap.size + 1; omega) _
def letterbaglaw24_Made.f (a0 : Int) (l1 : List Int) : Option (List Rt × List Zn) := if (decide (0 ≤ a0) && (decide (a0 < 4294967296) && mdFits l1)) then some (madeR a0.toNat l1, madeZ a0.toNat) else none
theorem letterbaglaw24_Made.calls (a0 : Int) (A1 : Option Addr) (c1 : Nat) (l1 : List Int) (r1 : List (S57)) (r2 : List (S67)) (w : World) (hr1 : Kd.C (Kd.int .u8) w A1 l1.length l1) (hc1 : l1.length ≤ c1) (h : letterbaglaw24_Made.f a0 l1 = some (r1, r2)) :
  Calls Tryd.prog 12 #[.int .u32 a0, .slice A1 l1.length c1] w fun e w' => ∃ v0_ v1_ : Value, e = .returned (.agg #[v0_, v1_]) ∧ Kd.R k57 57 w' w.heap.size (fun _ => True) v0_ r1 ∧ Kd.R k67 67 w' w.heap.size (fun _ => True) v1_ r2 ∧ Below w.heap.size w w' := by
 unfold letterbaglaw24_Made.f at h
 split at h
 ·rename_i hf
  simp only [Bool.and_eq_true, decide_eq_true_eq] at hf
  obtain ⟨h0, h1, h2⟩ := hf
  injection h with h
  injection h with e1 e2
  subst e1 e2
  have hN : (a0.toNat : Int) = a0 := by omega
  have hh := made.calls0 a0.toNat (by omega) A1 c1 l1 h2 w hr1 hc1
  rw [hN] at hh
  exact hh
 ·cases h
end Go.Proofs.YtfglcfbcdhjcdaaDoor.Q

namespace Go.Proofs.YtfglcfbcdhjcdaaDoor.Q
open Go.RowKit Go.Proofs.YtfglcfbcdhjcdaaDoorW.PrintWords Go.Proofs.YtfglcfbcdhjcdaaDoorW.PrintLast Go.Proofs.YtfglcfbcdhjcdaaDoorW.PrintMore
set_option linter.unusedVariables false
set_option linter.unusedSimpArgs false
theorem intOne (q : Nat) : ((q : Int) == 1) = decide (q = 1) := by
 by_cases e : q = 1
 ·subst e; rfl
 ·rw [decide_eq_false e, beq_eq_false_iff_ne]
  omega
structure TariffFits (R : List Rt) (Z : List Zn) : Prop where
 cls : ∀ r ∈ R, 0 ≤ r.f0 ∧ r.f0 ≤ 255
 row : ∀ z ∈ Z, z.f0.size ≤ 9223372036854775807 ∧ z.f1.size ≤ 9223372036854775807
set_option maxHeartbeats 8000000 in
set_option maxRecDepth 100000 in
theorem tariff_right.calls0 (A0 : Option Addr) (c0 : Nat) (R : List Rt) (A1 : Option Addr) (c1 : Nat) (Z : List Zn) (w : World) (hr0 : Kd.C k57 w A0 R.length R) (hc0 : R.length ≤ c0) (hr1 : Kd.C k67 w A1 Z.length Z) (hc1 : Z.length ≤ c1) (hf : TariffFits R Z) :
  Calls Tryd.prog 18 #[.agg #[.slice A0 R.length c0, .slice A1 Z.length c1]] w fun e w' => e = .returned (.bool (tariffB R Z)) ∧ Below w.heap.size w w' := by
 have hmm := @run_makeMap Tryd.prog
 have HR0 := Aside0.mk hr0
 have HR1 := Aside0.mk hr1
 have HF := Aside0.mk hf
 have hzn := fun W (hC : Kd.C k57 W A0 R.length R) (hD : Kd.C k67 W A1 Z.length Z) => tariff_zones.calls A0 c0 R A1 c1 Z (zonesN R) W hC hc0 hD hc1 (zones_is R Z)
 have hrat := fun (r : Rt) (n : Nat) (hn : n ≤ 20) => rated_is r n hn
 clear hr0 hr1 hf hrat
 generalize hn0 : R.length = n0 at *
 generalize hn1 : Z.length = n1 at *
 have HN0 := Aside0.mk hn0
 have HN1 := Aside0.mk hn1
 clear hn0 hn1
 generalize hz : zonesN R = zn at *
 have HX : Aside0 (tariffB R Z = (decide (1 ≤ zn) && (decide (zn ≤ 20) && (decide (n0 ≤ 20) && (decide (n1 ≤ 500) && (ratesGo zn R 0 R && (rowsGo zn Z 0 Z && decide (rowCnt Z n1 (noText, noText) = 1)))))))) := ⟨by unfold tariffB; rw [hz, HN0.out, HN1.out]⟩
 have HZ := Aside0.mk hz
 clear hz
 have HB0 := Aside0.mk (below_alloc (Below.refl w.heap.size w) (.cells #[.slice A0 n0 c0, .slice A1 n1 c1] 25))
 have HK0 : Aside0 ((w.alloc (.cells #[.slice A0 n0 c0, .slice A1 n1 c1] 25)).heap[w.heap.size]? = some (.cells #[.slice A0 n0 c0, .slice A1 n1 c1] 25 (0, 0))) := ⟨heap_alloc_new _ _⟩
 by_cases q1 : zn < 1
 ·have HE : Aside0 (tariffB R Z = false) := ⟨by rw [HX.out, decide_eq_false (by omega)]; rfl⟩
  go_enter Tryd.func18, Tryd.ntmps18
  go_wp2_with (go_at_call 44; refine (hzn _ (Kd.C_below HR0.out HB0.out) (Kd.C_below HR1.out HB0.out)).mono ?_; rintro e wA ⟨rfl, hbA⟩)
  go_ret
  exact ⟨by rw [HE.out]; rfl, HB0.out.trans (hbA.mono HB0.out.size)⟩
 by_cases q2 : 20 < zn
 ·have HE : Aside0 (tariffB R Z = false) := ⟨by rw [HX.out, decide_eq_false (show ¬ zn ≤ 20 by omega), Bool.false_and, Bool.and_false]⟩
  go_enter Tryd.func18, Tryd.ntmps18
  go_wp2_with (go_at_call 44; refine (hzn _ (Kd.C_below HR0.out HB0.out) (Kd.C_below HR1.out HB0.out)).mono ?_; rintro e wA ⟨rfl, hbA⟩)
  go_ret
  exact ⟨by rw [HE.out]; rfl, HB0.out.trans (hbA.mono HB0.out.size)⟩
 by_cases q3 : 20 < n0
 ·have HE : Aside0 (tariffB R Z = false) := ⟨by rw [HX.out, decide_eq_false (show ¬ n0 ≤ 20 by omega), Bool.false_and, Bool.and_false, Bool.and_false]⟩
  have q3i : (20 : Int) < (n0 : Int) := by omega
  go_enter Tryd.func18, Tryd.ntmps18
  go_wp2_with (go_at_call 44; refine (hzn _ (Kd.C_below HR0.out HB0.out) (Kd.C_below HR1.out HB0.out)).mono ?_; rintro e wA ⟨rfl, hbA⟩; have tA0 : wA.cell? ⟨w.heap.size, 0, none⟩ = some (.slice A0 n0 c0) := (blk_cell ((hbA.block _ (by simp)).trans HK0.out) 0).trans rfl)
  go_ret
  exact ⟨by rw [HE.out]; rfl, HB0.out.trans (hbA.mono HB0.out.size)⟩
 have q3i : ¬ (20 : Int) < (n0 : Int) := by omega
 by_cases q4 : 500 < n1
 ·have HE : Aside0 (tariffB R Z = false) := ⟨by rw [HX.out, decide_eq_false (show ¬ n1 ≤ 500 by omega), Bool.false_and, Bool.and_false, Bool.and_false, Bool.and_false]⟩
  have q4i : (500 : Int) < (n1 : Int) := by omega
  go_enter Tryd.func18, Tryd.ntmps18
  go_wp2_with (go_at_call 44; refine (hzn _ (Kd.C_below HR0.out HB0.out) (Kd.C_below HR1.out HB0.out)).mono ?_; rintro e wA ⟨rfl, hbA⟩; have tA0 : wA.cell? ⟨w.heap.size, 0, none⟩ = some (.slice A0 n0 c0) := (blk_cell ((hbA.block _ (by simp)).trans HK0.out) 0).trans rfl; have tA1 : wA.cell? ⟨w.heap.size, 1, none⟩ = some (.slice A1 n1 c1) := (blk_cell ((hbA.block _ (by simp)).trans HK0.out) 1).trans rfl)
  go_ret
  exact ⟨by rw [HE.out]; rfl, HB0.out.trans (hbA.mono HB0.out.size)⟩
 have q4i : ¬ (500 : Int) < (n1 : Int) := by omega
 obtain ⟨m, rfl⟩ : ∃ m : Nat, zn = (m : Int) := ⟨zn.toNat, by omega⟩
 have HX2 : Aside0 (tariffB R Z = (ratesGo (m : Int) R 0 R && (rowsGo (m : Int) Z 0 Z && decide (rowCnt Z n1 (noText, noText) = 1)))) := ⟨by rw [HX.out, decide_eq_true (show (1 : Int) ≤ m by omega), decide_eq_true (show (m : Int) ≤ 20 by omega), decide_eq_true (show n0 ≤ 20 by omega), decide_eq_true (show n1 ≤ 500 by omega)]; rfl⟩
 have hm20 : m ≤ 20 := by omega
 have hn20 : n0 ≤ 20 := by omega
 have hn500 : n1 ≤ 500 := by omega
 go_enter Tryd.func18, Tryd.ntmps18
 go_wp2_with (go_at_call 44; refine (hzn _ (Kd.C_below HR0.out HB0.out) (Kd.C_below HR1.out HB0.out)).mono ?_; rintro e wA ⟨rfl, hbA⟩; have HKA := Aside0.mk ((hbA.block w.heap.size (by simp)).trans HK0.out); have HBA := Aside0.mk (HB0.out.trans (hbA.mono HB0.out.size)); have tA0 : wA.cell? ⟨w.heap.size, 0, none⟩ = some (.slice A0 n0 c0) := (blk_cell HKA.out 0).trans rfl; have tA1 : wA.cell? ⟨w.heap.size, 1, none⟩ = some (.slice A1 n1 c1) := (blk_cell HKA.out 1).trans rfl; have lA := World.block_lt_of_cell? wA _ tA0; have tB0 := ((below_alloc (Below.refl wA.heap.size wA) (.map #[] 0)).cell (p := ⟨w.heap.size, 0, none⟩) lA).trans tA0; have HKB := Aside0.mk (((below_alloc (Below.refl wA.heap.size wA) (.map #[] 0)).block w.heap.size lA).trans HKA.out); clear hbA)
 clear tA0 tA1 tB0 q1 q2 q3 q4 q3i q4i
 have lwA : w.heap.size < wA.heap.size := lA
 go_loopg [35] n0 (fun gg s35 wr => ∃ k : Nat, k ≤ n0 ∧ n0 - k ≤ gg ∧ s35 = .int .i64 k ∧ Aside0 (Below w.heap.size w wr) ∧ Aside0 (wr.heap[w.heap.size]? = some (.cells #[.slice A0 n0 c0, .slice A1 n1 c1] 25 (0, 0))) ∧ Aside0 (MapInt keyU8 3 wr wA.heap.size k (clsMap R k)) ∧ Aside0 (ratesGo (m : Int) R k (R.drop k) = ratesGo (m : Int) R 0 R))
 case atStart => exact ⟨0, Nat.zero_le _, by omega, rfl, ⟨HBA.out.alloc (by omega) _⟩, HKB, ⟨MapInt.made keyU8 3 wA⟩, ⟨rfl⟩⟩
 case round =>
  obtain ⟨k, hk, hg, rfl, BW, HT, HM, HA⟩ := hrel
  by_cases hlt : k < n0
  ·obtain ⟨hd, hx⟩ := rt_drop R k (by have := HN0.out; omega)
   have hc8 := HF.out.cls _ hx
   have HNX := Aside0.mk (fun y (hy : (rd_T57 R (k : Int)).f0 = y) => clsMap_next R k (by have := HN0.out; omega) y hy)
   have HS : Aside0 (ratesGo (m : Int) R k (R.drop k) = ratesGo (m : Int) R k (rd_T57 R (k : Int) :: R.drop (k + 1))) := ⟨by rw [← hd]⟩
   obtain ⟨ad, A2, c2, rfl, e0, e1, e2, l2, g2⟩ := at_T57 HR0.out (k : Int) (by omega) (by omega)
   simp only [Int.toNat_natCast] at e0 e1 e2
   have lp := World.block_lt_of_cell? w _ e0
   have e0 := (BW.out.cell lp).trans e0
   have e1 := (BW.out.cell (p := ⟨(ad.add (k * 3)).block, (ad.add (k * 3)).off + 1, none⟩) lp).trans e1
   have e2 := (BW.out.cell (p := ⟨(ad.add (k * 3)).block, (ad.add (k * 3)).off + 2, none⟩) lp).trans e2
   clear hd hx lp
   generalize hxe : rd_T57 R (k : Int) = x at *
   have HNX2 := Aside0.mk (HNX.out x.f0 rfl)
   have HC8 := Aside0.mk hc8
   clear hxe HNX hc8
   have hrt := fun W (hC : Kd.C k61 W A2 x.f1.length x.f1) => tariff_rated.calls 1000 x.f0 A2 c2 x.f1 x.f2 (m : Int) (ratedB x (m : Int)) W hC l2 (rated_is x m hm20)
   have HG := Aside0.mk g2
   clear g2 l2
   generalize hn2 : x.f1.length = n2 at *
   clear hn2
   have hcl := cnt_le R k (fun y => decide (y.f0 = x.f0))
   change clsCnt R k x.f0 ≤ k at hcl
   generalize hm : clsCnt R k x.f0 = q at *
   have HMC : Aside0 ((clsMap R k x.f0).getD 0 = (q : Int)) := ⟨by rw [clsMap_getD, hm]⟩
   have HMC2 : Aside0 ((clsMap R (k + 1) x.f0).getD 0 = (q : Int) + 1) := ⟨by rw [← HNX2.out]; simp⟩
   have HA2 : Aside0 (ratesGo (m : Int) R 0 R = (decide (q = 0) && (ratedB x (m : Int) && ratesGo (m : Int) R (k + 1) (R.drop (k + 1))))) := ⟨by rw [← HA.out, HS.out]; show (decide (clsCnt R k x.f0 = 0) && (ratedB x (m : Int) && ratesGo (m : Int) R (k + 1) (R.drop (k + 1)))) = _; rw [hm]⟩
   clear hm HS HA
   have y0 : (wr.alloc (.cells #[.int .u8 x.f0, .slice A2 n2 c2, .int .i64 x.f2] 57)).cell? ⟨wr.heap.size, 0, none⟩ = some (.int .u8 x.f0) := (blk_cell (heap_alloc_new _ _) 0).trans rfl
   have y1 : (wr.alloc (.cells #[.int .u8 x.f0, .slice A2 n2 c2, .int .i64 x.f2] 57)).cell? ⟨wr.heap.size, 1, none⟩ = some (.slice A2 n2 c2) := (blk_cell (heap_alloc_new _ _) 1).trans rfl
   have y2 : (wr.alloc (.cells #[.int .u8 x.f0, .slice A2 n2 c2, .int .i64 x.f2] 57)).cell? ⟨wr.heap.size, 2, none⟩ = some (.int .i64 x.f2) := (blk_cell (heap_alloc_new _ _) 2).trans rfl
   have HY := Aside0.mk (below_alloc (Below.refl wr.heap.size wr) (.cells #[.int .u8 x.f0, .slice A2 n2 c2, .int .i64 x.f2] 57))
   have lm := HM.out.lt
   have HMW := Aside0.mk (HM.out.below HY.out)
   have HBW := Aside0.mk (BW.out.trans (HY.out.mono BW.out.size))
   have HTW := Aside0.mk ((HY.out.block w.heap.size (by omega)).trans HT.out)
   by_cases q2 : q = 0
   case neg =>
    have HE : Aside0 (tariffB R Z = false) := ⟨by rw [HX2.out, HA2.out, decide_eq_false q2]; rfl⟩
    have q2i : (1 : Int) < (q : Int) + 1 := by omega
    go_wp2_with (first | (at_lookup; refine wpList_lookup_int rfl _ _ 95 rfl Tryd.underlying95 Tryd.underlying3 zeroInt _ _ _ rfl HM2.out x.f0 HC8.out rfl ?_; simp only [HMC2.out]) | (at_lookup; refine wpList_lookup_int rfl _ _ 95 rfl Tryd.underlying95 Tryd.underlying3 zeroInt _ _ _ rfl HMW.out x.f0 HC8.out rfl ?_; simp only [HMC.out]) | (at_mapUpdate; go_loud (refine wpList_update_int rfl _ _ _ 95 rfl Tryd.underlying95 Tryd.underlying3 _ _ _ rfl HMW.out (by omega) x.f0 HC8.out ((q : Int) + 1) (by omega) (by omega) rfl rfl ?_); go_loud (intro w2 hmp2 hg2); go_loud (have z0 := hg2.cell y0 (by simp; omega)); go_loud (have z1 := hg2.cell y1 (by simp; omega)); go_loud (have z2 := hg2.cell y2 (by simp; omega)); go_loud (rw [HNX2.out] at hmp2); have HM2 := Aside0.mk hmp2; have HB2 := Aside0.mk (pw_below_grown HBW.out (some wA.heap.size) (by have := HY.out.size; have := BW.out.size; omega) hg2 (fun k h => by injection h with h; have := HBA.out.size; omega)); have HT2 := Aside0.mk ((hg2.block w.heap.size (by have := HY.out.size; omega) (by simp; omega)).trans HTW.out); clear hmp2 hg2))
    go_ret
    exact ⟨by rw [HE.out]; rfl, HB2.out⟩
   case pos =>
    have q2i : ¬ (1 : Int) < (q : Int) + 1 := by omega
    have HE2 : Aside0 (ratesGo (m : Int) R 0 R = (ratedB x (m : Int) && ratesGo (m : Int) R (k + 1) (R.drop (k + 1)))) := ⟨by rw [HA2.out, decide_eq_true q2]; rfl⟩
    clear q2
    generalize ratedB x (m : Int) = b at *
    cases b with
    | false =>
     have HE : Aside0 (tariffB R Z = false) := ⟨by rw [HX2.out, HE2.out]; rfl⟩
     go_wp2_with (first | (go_at_call 45; go_loud (refine (hrt w2 (Kd.C_below HG.out HB2.out)).mono ?_); rintro e w3 ⟨rfl, hb3⟩; have HB3 := Aside0.mk hb3; clear hb3) | (at_lookup; refine wpList_lookup_int rfl _ _ 95 rfl Tryd.underlying95 Tryd.underlying3 zeroInt _ _ _ rfl HM2.out x.f0 HC8.out rfl ?_; simp only [HMC2.out]) | (at_lookup; refine wpList_lookup_int rfl _ _ 95 rfl Tryd.underlying95 Tryd.underlying3 zeroInt _ _ _ rfl HMW.out x.f0 HC8.out rfl ?_; simp only [HMC.out]) | (at_mapUpdate; go_loud (refine wpList_update_int rfl _ _ _ 95 rfl Tryd.underlying95 Tryd.underlying3 _ _ _ rfl HMW.out (by omega) x.f0 HC8.out ((q : Int) + 1) (by omega) (by omega) rfl rfl ?_); go_loud (intro w2 hmp2 hg2); go_loud (have z0 := hg2.cell y0 (by simp; omega)); go_loud (have z1 := hg2.cell y1 (by simp; omega)); go_loud (have z2 := hg2.cell y2 (by simp; omega)); go_loud (rw [HNX2.out] at hmp2); have HM2 := Aside0.mk hmp2; have HB2 := Aside0.mk (pw_below_grown HBW.out (some wA.heap.size) (by have := HY.out.size; have := BW.out.size; omega) hg2 (fun k h => by injection h with h; have := HBA.out.size; omega)); have HT2 := Aside0.mk ((hg2.block w.heap.size (by have := HY.out.size; omega) (by simp; omega)).trans HTW.out); clear hmp2 hg2))
     go_ret
     exact ⟨by rw [HE.out]; rfl, HB2.out.trans (HB3.out.mono HB2.out.size)⟩
    | true =>
     go_wp2_with (first | (go_at_call 45; go_loud (refine (hrt w2 (Kd.C_below HG.out HB2.out)).mono ?_); rintro e w3 ⟨rfl, hb3⟩; have HB3 := Aside0.mk hb3; clear hb3) | (at_lookup; refine wpList_lookup_int rfl _ _ 95 rfl Tryd.underlying95 Tryd.underlying3 zeroInt _ _ _ rfl HM2.out x.f0 HC8.out rfl ?_; simp only [HMC2.out]) | (at_lookup; refine wpList_lookup_int rfl _ _ 95 rfl Tryd.underlying95 Tryd.underlying3 zeroInt _ _ _ rfl HMW.out x.f0 HC8.out rfl ?_; simp only [HMC.out]) | (at_mapUpdate; go_loud (refine wpList_update_int rfl _ _ _ 95 rfl Tryd.underlying95 Tryd.underlying3 _ _ _ rfl HMW.out (by omega) x.f0 HC8.out ((q : Int) + 1) (by omega) (by omega) rfl rfl ?_); go_loud (intro w2 hmp2 hg2); go_loud (have z0 := hg2.cell y0 (by simp; omega)); go_loud (have z1 := hg2.cell y1 (by simp; omega)); go_loud (have z2 := hg2.cell y2 (by simp; omega)); go_loud (rw [HNX2.out] at hmp2); have HM2 := Aside0.mk hmp2; have HB2 := Aside0.mk (pw_below_grown HBW.out (some wA.heap.size) (by have := HY.out.size; have := BW.out.size; omega) hg2 (fun k h => by injection h with h; have := HBA.out.size; omega)); have HT2 := Aside0.mk ((hg2.block w.heap.size (by have := HY.out.size; omega) (by simp; omega)).trans HTW.out); clear hmp2 hg2))
     go_roundg (n0 - (k + 1))
     case measure => omega
     case rel => exact ⟨k + 1, by omega, Nat.le_refl _, by go_num, ⟨HB2.out.trans (HB3.out.mono HB2.out.size)⟩, ⟨(HB3.out.block w.heap.size (by have := blk_lt HT2.out; omega)).trans HT2.out⟩, ⟨HM2.out.below HB3.out⟩, ⟨HE2.out.symm⟩⟩
  ·obtain rfl : n0 = k := by omega
   have HRT : Aside0 (ratesGo (m : Int) R 0 R = true) := ⟨by rw [← HA.out, List.drop_of_length_le (by have := HN0.out; omega)]; rfl⟩
   have t1 : (wr.alloc (.map #[] 0)).cell? ⟨w.heap.size, 1, none⟩ = some (.slice A1 n1 c1) := ((below_alloc (Below.refl wr.heap.size wr) (.map #[] 0)).cell (p := ⟨w.heap.size, 1, none⟩) (blk_lt HT.out)).trans ((blk_cell HT.out 1).trans rfl)
   clear HA HM
   go_wp2_with fail
   generalize hb2 : wr.heap.size = b2 at *
   have HBR := Aside0.mk (BW.out.trans ((below_alloc (Below.refl wr.heap.size wr) (.map #[] 0)).mono BW.out.size))
   have HTR := Aside0.mk (((below_alloc (Below.refl wr.heap.size wr) (.map #[] 0)).block w.heap.size (blk_lt HT.out)).trans HT.out)
   have HMR := Aside0.mk (MapInt.made keyP 3 wr)
   have hb20 : w.heap.size ≤ b2 := by rw [← hb2]; exact BW.out.size
   rw [hb2] at HMR
   clear hb2 t1 BW HT
   go_loopg [60] n1 (fun gg s60 wr => ∃ k : Nat, k ≤ n1 ∧ n1 - k ≤ gg ∧ s60 = .int .i64 k ∧ Aside0 (Below w.heap.size w wr) ∧ Aside0 (MapInt keyP 3 wr b2 k (rowMap Z k)) ∧ Aside0 (rowsGo (m : Int) Z k (Z.drop k) = rowsGo (m : Int) Z 0 Z))
   case atStart => exact ⟨0, Nat.zero_le _, by omega, rfl, HBR, HMR, ⟨rfl⟩⟩
   case round =>
    obtain ⟨k, hk, hg, rfl, BW, HM, HA⟩ := hrel
    by_cases hlt : k < n1
    ·obtain ⟨hd, hx⟩ := zn_drop Z k (by have := HN1.out; omega)
     have hc8 := HF.out.row _ hx
     have HNX := Aside0.mk (fun y (hy : ((rd_T67 Z (k : Int)).f0, (rd_T67 Z (k : Int)).f1) = y) => rowMap_next Z k (by have := HN1.out; omega) y hy)
     have HS : Aside0 (rowsGo (m : Int) Z k (Z.drop k) = rowsGo (m : Int) Z k (rd_T67 Z (k : Int) :: Z.drop (k + 1))) := ⟨by rw [← hd]⟩
     obtain ⟨ad, rfl, e0, e1, e2⟩ := at_T67 HR1.out (k : Int) (by omega) (by omega)
     simp only [Int.toNat_natCast] at e0 e1 e2
     have lp := World.block_lt_of_cell? w _ e0
     have e0 := (BW.out.cell lp).trans e0
     have e1 := (BW.out.cell (p := ⟨(ad.add (k * 3)).block, (ad.add (k * 3)).off + 1, none⟩) lp).trans e1
     have e2 := (BW.out.cell (p := ⟨(ad.add (k * 3)).block, (ad.add (k * 3)).off + 2, none⟩) lp).trans e2
     clear hd hx lp
     generalize hxe : rd_T67 Z (k : Int) = x at *
     have HNX2 := Aside0.mk (HNX.out (x.f0, x.f1) rfl)
     have HC8 := Aside0.mk hc8
     clear hxe HNX
     have hcd0 := fun W => scheme_Code.calls x.f0 (codeB x.f0) W (code_is x.f0 hc8.1)
     have hcd1 := fun W => scheme_Code.calls x.f1 (codeB x.f1) W (code_is x.f1 hc8.2)
     clear hc8
     have hcl := cnt_le Z k (fun y => decide ((y.f0, y.f1) = (x.f0, x.f1)))
     change rowCnt Z k (x.f0, x.f1) ≤ k at hcl
     have HA2 : Aside0 (rowsGo (m : Int) Z 0 Z = (decide (rowCnt Z k (x.f0, x.f1) = 0) && (decide (1 ≤ x.f2) && (decide (x.f2 ≤ (m : Int)) && (endOk x.f0 && (endOk x.f1 && rowsGo (m : Int) Z (k + 1) (Z.drop (k + 1)))))))) := ⟨by rw [← HA.out, HS.out]; rfl⟩
     have HMC : Aside0 ((rowMap Z k (x.f0, x.f1)).getD 0 = (rowCnt Z k (x.f0, x.f1) : Int)) := ⟨rowMap_getD _ _ _⟩
     generalize rowCnt Z k (x.f0, x.f1) = q at *
     have HMC2 : Aside0 ((rowMap Z (k + 1) (x.f0, x.f1)).getD 0 = (q : Int) + 1) := ⟨by rw [← HNX2.out]; simp⟩
     clear HS HA
     have HY := Aside0.mk ((below_alloc (Below.refl wr.heap.size wr) (.cells #[.string x.f0, .string x.f1, .int .i64 x.f2] 67)).trans ((below_alloc (Below.refl _ (wr.alloc (.cells #[.string x.f0, .string x.f1, .int .i64 x.f2] 67))) (.cells #[.string x.f0, .string x.f1] 86)).mono (by simp)))
     have a0 : (wr.alloc (.cells #[.string x.f0, .string x.f1, .int .i64 x.f2] 67)).cell? ⟨wr.heap.size, 0, none⟩ = some (.string x.f0) := (blk_cell (heap_alloc_new _ _) 0).trans rfl
     have a1 : (wr.alloc (.cells #[.string x.f0, .string x.f1, .int .i64 x.f2] 67)).cell? ⟨wr.heap.size, 1, none⟩ = some (.string x.f1) := (blk_cell (heap_alloc_new _ _) 1).trans rfl
     have HZ3 : Aside0 (((wr.alloc (.cells #[.string x.f0, .string x.f1, .int .i64 x.f2] 67)).alloc (.cells #[.string x.f0, .string x.f1] 86)).heap[wr.heap.size]? = some (.cells #[.string x.f0, .string x.f1, .int .i64 x.f2] 67 (0, 0))) := ⟨(Below.heap_alloc _ _ _ (by simp)).trans (heap_alloc_new _ _)⟩
     have HP2 : Aside0 (((wr.alloc (.cells #[.string x.f0, .string x.f1, .int .i64 x.f2] 67)).alloc (.cells #[.string x.f0, .string x.f1] 86)).heap[wr.heap.size + 1]? = some (.cells #[.string x.f0, .string x.f1] 86 (0, 0))) := ⟨by simpa using heap_alloc_new (wr.alloc (.cells #[.string x.f0, .string x.f1, .int .i64 x.f2] 67)) (.cells #[.string x.f0, .string x.f1] 86)⟩
     have lm := HM.out.lt
     have HMW := Aside0.mk (HM.out.below HY.out)
     have HBW := Aside0.mk (BW.out.trans (HY.out.mono BW.out.size))
     go_wp2_with fail
     generalize hW : (wr.alloc (.cells #[.string x.f0, .string x.f1, .int .i64 x.f2] 67)).alloc (.cells #[.string x.f0, .string x.f1] 86) = W at *
     have lx : wr.heap.size + 1 < W.heap.size := by rw [← hW]; simp
     clear hW a0 a1 e0 e1 e2
     have MD := Aside0.mk (HMW.out.below (below_drew (Below.refl W.heap.size W)))
     have hl1 := MapInt.look MD.out (t := 97) Tryd.underlying97 Tryd.underlying3 zeroInt (x.f0, x.f1) HC8.out
     rw [HMC.out] at hl1
     change Sem.run Tryd.prog (Instr.lookup 97 (.map (some b2)) (.agg #[.string x.f0, .string x.f1]) false) W.drew = _ at hl1
     obtain ⟨v0, st, w1, hen, hl1b, hg1, hst⟩ := MapInt.entry pairLaw MD.out (t := 97) Tryd.underlying97 Tryd.underlying3 zeroInt (by omega) (x.f0, x.f1) HC8.out
     change Sem.run Tryd.prog (Instr.mapEntry 97 (.map (some b2)) (.agg #[.string x.f0, .string x.f1])) W.drew = _ at hen
     rw [HMC.out] at hl1b
     change Sem.run Tryd.prog (Instr.lookup 97 (.map (some b2)) (.agg #[.string x.f0, .string x.f1]) false) w1 = _ at hl1b
     obtain ⟨w2, hst, HM2', hg2⟩ := hst ((q : Int) + 1) (by omega) (by omega)
     rw [HNX2.out] at HM2'
     have HM2 := Aside0.mk HM2'
     clear HM2'
     have hl2 := MapInt.look HM2.out (t := 97) Tryd.underlying97 Tryd.underlying3 zeroInt (x.f0, x.f1) HC8.out
     rw [HMC2.out] at hl2
     change Sem.run Tryd.prog (Instr.lookup 97 (.map (some b2)) (.agg #[.string x.f0, .string x.f1]) false) w2 = _ at hl2
     have hB2 := pw_below_grown (below_drew (Below.refl w.heap.size W)) (some b2) (by have := HBW.out.size; exact this) hg2 (fun k h => by injection h with h; omega)
     have HB2 := Aside0.mk (HBW.out.trans hB2)
     have p0 : W.drew.cell? ⟨wr.heap.size + 1, 0, none⟩ = some (.string x.f0) := (blk_cell (w := W.drew) HP2.out 0).trans rfl
     have p1 : W.drew.cell? ⟨wr.heap.size + 1, 1, none⟩ = some (.string x.f1) := (blk_cell (w := W.drew) HP2.out 1).trans rfl
     have x0 : W.drew.cell? ⟨wr.heap.size, 0, none⟩ = some (.string x.f0) := (blk_cell (w := W.drew) HZ3.out 0).trans rfl
     have x1 : W.drew.cell? ⟨wr.heap.size, 1, none⟩ = some (.string x.f1) := (blk_cell (w := W.drew) HZ3.out 1).trans rfl
     have x2 : W.drew.cell? ⟨wr.heap.size, 2, none⟩ = some (.int .i64 x.f2) := (blk_cell (w := W.drew) HZ3.out 2).trans rfl
     have r0 := hg1.cell p0 (by simp; omega)
     have r1 := hg1.cell p1 (by simp; omega)
     have s0 := hg2.cell p0 (by simp; omega)
     have s1 := hg2.cell p1 (by simp; omega)
     have z0 := hg2.cell x0 (by simp; omega)
     have z1 := hg2.cell x1 (by simp; omega)
     have z2 := hg2.cell x2 (by simp; omega)
     have HS2 := Aside0.mk hg2.size
     clear hg1 hg2 hB2 x0 x1 x2
     generalize goInt st = sv at *
     have hwq : IntKind.i64.wrap ((q : Int) + 1) = (q : Int) + 1 := wrap_i64_int (by omega) (by omega)
     refine wp_region_held_drew (S := (fun w' => w'.cell? ⟨wr.heap.size + 1, 0, none⟩ = some (.string x.f0) ∧ w'.cell? ⟨wr.heap.size + 1, 1, none⟩ = some (.string x.f1))) (by kernel_rfl) ?_ (fun hHeld => ?_)
     ·((try dsimp only); go_keep)
     refine takeT 0 ?_ rfl (by kernel_rfl) (by kernel_rfl) (by kernel_rfl) (fun _ _ _ h => h) (by rfl) ?_ (by assumption) ?_
     rotate_left
     ·(intro w hSw; (try dsimp only at hSw); go_simp; (try with_reducible rfl))
     try simp only [Act.put, sl1, sl2, sl3]
     refine takeT 1 ?_ rfl (by kernel_rfl) (by kernel_rfl) (by kernel_rfl) (fun _ _ _ h => h) (by rfl) ?_ (by assumption) ?_
     rotate_left
     ·(intro w hSw; (try dsimp only at hSw); go_simp; (try with_reducible rfl))
     try simp only [Act.put, sl1, sl2, sl3]
     apply bothWays
     intro hrest
     refine takeC2 2 4 rfl rfl (by kernel_rfl) (by rfl) (by rfl) (fun K hK => ?_) (fun K hK => ?_)
     ·go_simp
      skip
      (try go_wp2_with fail)
      refine hK.out _ _ ?_ (fun hHeld => ?_)
      ·((try dsimp only); go_keep)
      clear hK K
      try simp only [Act.put, sl1, sl2, sl3]
      refine takeT 3 ?_ rfl (by kernel_rfl) (by kernel_rfl) (by kernel_rfl) (fun _ _ _ h => h) (by rfl) ?_ (by assumption) ?_
      rotate_left
      ·(intro w hSw; (try dsimp only at hSw); go_simp; (try with_reducible rfl))
      try simp only [Act.put, sl1, sl2, sl3]
      refine takeC 4 rfl (by kernel_rfl) (by rfl) (fun K hK => ?_)
      go_simp
      skip
      (try go_wp2_with fail)
      refine hK.out _ _ ?_ (fun hHeld => ?_)
      ·((try dsimp only); go_keep)
      clear hK K
      try simp only [Act.put, sl1, sl2, sl3]
      refine takeT 5 ?_ rfl (by kernel_rfl) (by kernel_rfl) (by kernel_rfl) (fun _ _ _ h => h) (by rfl) ?_ (by assumption) ?_
      rotate_left
      ·(intro w hSw; (try dsimp only at hSw); go_simp; (try with_reducible rfl))
      try simp only [Act.put, sl1, sl2, sl3]
      refine takeC 6 rfl (by kernel_rfl) (by rfl) (fun K hK => ?_)
      go_simp
      skip
      (try go_wp2_with fail)
      refine hK.out _ _ ?_ (fun hHeld => ?_)
      ·((try dsimp only); go_keep)
      clear hK K
      try simp only [Act.put, sl1, sl2, sl3]
      refine wpAnyH_done (by kernel_rfl) ?_ _
      exact hrest.out
     ·go_simp
      skip
      (try go_wp2_with fail)
      refine hK.out _ _ ?_ (fun hHeld => ?_)
      ·((try dsimp only); go_keep)
      clear hK K
      try simp only [Act.put, sl1, sl2, sl3]
      refine takeT 5 ?_ rfl (by kernel_rfl) (by kernel_rfl) (by kernel_rfl) (fun _ _ _ h => h) (by rfl) ?_ (by assumption) ?_
      rotate_left
      ·(intro w hSw; (try dsimp only at hSw); go_simp; (try with_reducible rfl))
      try simp only [Act.put, sl1, sl2, sl3]
      refine takeC 2 rfl (by kernel_rfl) (by rfl) (fun K hK => ?_)
      go_simp
      skip
      (try go_wp2_with fail)
      refine hK.out _ _ ?_ (fun hHeld => ?_)
      ·((try dsimp only); go_keep)
      clear hK K
      try simp only [Act.put, sl1, sl2, sl3]
      refine takeT 3 ?_ rfl (by kernel_rfl) (by kernel_rfl) (by kernel_rfl) (fun _ _ _ h => h) (by rfl) ?_ (by assumption) ?_
      rotate_left
      ·(intro w hSw; (try dsimp only at hSw); go_simp; (try with_reducible rfl))
      try simp only [Act.put, sl1, sl2, sl3]
      refine takeC 6 rfl (by kernel_rfl) (by rfl) (fun K hK => ?_)
      go_simp
      skip
      (try go_wp2_with fail)
      refine hK.out _ _ ?_ (fun hHeld => ?_)
      ·((try dsimp only); go_keep)
      clear hK K
      try simp only [Act.put, sl1, sl2, sl3]
      refine wpAnyH_done (by kernel_rfl) ?_ _
      exact hrest.out
     clear hl1 hl1b hen hst p0 p1 r0 r1
     by_cases q0 : q = 0
     case neg =>
      have q0i : (1 : Int) < (q : Int) + 1 := by omega
      have HE : Aside0 (tariffB R Z = false) := ⟨by rw [HX2.out, HRT.out, HA2.out, decide_eq_false q0]; simp⟩
      go_wp2_with fail
      go_ret
      exact ⟨by rw [HE.out]; rfl, HB2.out⟩
     case pos =>
      have q0i : ¬ (1 : Int) < (q : Int) + 1 := by omega
      have HA3 : Aside0 (rowsGo (m : Int) Z 0 Z = (decide (1 ≤ x.f2) && (decide (x.f2 ≤ (m : Int)) && (endOk x.f0 && (endOk x.f1 && rowsGo (m : Int) Z (k + 1) (Z.drop (k + 1))))))) := ⟨by rw [HA2.out, decide_eq_true q0]; rfl⟩
      clear q0
      by_cases u1 : x.f2 < 1
      case pos =>
       have HE : Aside0 (tariffB R Z = false) := ⟨by rw [HX2.out, HRT.out, HA3.out, decide_eq_false (show ¬ 1 ≤ x.f2 by omega)]; simp⟩
       go_wp2_with fail
       go_ret
       exact ⟨by rw [HE.out]; rfl, HB2.out⟩
      case neg =>
       by_cases u2 : (m : Int) < x.f2
       case pos =>
        have HE : Aside0 (tariffB R Z = false) := ⟨by rw [HX2.out, HRT.out, HA3.out, decide_eq_false (show ¬ x.f2 ≤ (m : Int) by omega)]; simp⟩
        go_wp2_with fail
        go_ret
        exact ⟨by rw [HE.out]; rfl, HB2.out⟩
       case neg =>
        have HA4 : Aside0 (rowsGo (m : Int) Z 0 Z = ((x.f0.toList.isEmpty || codeB x.f0) && ((x.f1.toList.isEmpty || codeB x.f1) && rowsGo (m : Int) Z (k + 1) (Z.drop (k + 1))))) := ⟨by rw [HA3.out, decide_eq_true (show 1 ≤ x.f2 by omega), decide_eq_true (show x.f2 ≤ (m : Int) by omega)]; rfl⟩
        cases hb0 : x.f0.toList.isEmpty with
        | true =>
         cases hb1 : x.f1.toList.isEmpty with
         | true =>
          have HE : Aside0 (rowsGo (m : Int) Z (k + 1) (Z.drop (k + 1)) = rowsGo (m : Int) Z 0 Z) := ⟨by rw [HA4.out, hb0, hb1]; simp⟩
          go_wp2_with fail
          go_roundg (n1 - (k + 1))
          case measure => omega
          case rel => exact ⟨k + 1, by omega, Nat.le_refl _, by go_num, ⟨HB2.out⟩, ⟨HM2.out⟩, HE⟩
         | false =>
          cases hd1 : codeB x.f1 with
          | false =>
           rw [hd1] at hcd1
           have HD1 := Aside0.mk hd1
           clear hd1
           have HE : Aside0 (tariffB R Z = false) := ⟨by rw [HX2.out, HRT.out, HA4.out, hb0, hb1, HD1.out]; simp⟩
           go_wp2_with (first | (go_at_call_of 46 (x.f1); refine (hcd1 _).mono ?_; rintro e wD ⟨rfl, hbD⟩; have HBD := Aside0.mk hbD; clear hbD))
           go_ret
           exact ⟨by rw [HE.out]; rfl, (HB2.out.trans (HBD.out.mono HB2.out.size))⟩
          | true =>
           rw [hd1] at hcd1
           have HD1 := Aside0.mk hd1
           clear hd1
           have HE : Aside0 (rowsGo (m : Int) Z (k + 1) (Z.drop (k + 1)) = rowsGo (m : Int) Z 0 Z) := ⟨by rw [HA4.out, hb0, hb1, HD1.out]; simp⟩
           go_wp2_with (first | (go_at_call_of 46 (x.f1); refine (hcd1 _).mono ?_; rintro e wD ⟨rfl, hbD⟩; have HBD := Aside0.mk hbD; clear hbD))
           go_roundg (n1 - (k + 1))
           case measure => omega
           case rel => exact ⟨k + 1, by omega, Nat.le_refl _, by go_num, ⟨(HB2.out.trans (HBD.out.mono HB2.out.size))⟩, ⟨(HM2.out.below HBD.out)⟩, HE⟩
        | false =>
         cases hd0 : codeB x.f0 with
         | false =>
          rw [hd0] at hcd0
          have HD0 := Aside0.mk hd0
          clear hd0
          have HE : Aside0 (tariffB R Z = false) := ⟨by rw [HX2.out, HRT.out, HA4.out, hb0, HD0.out]; simp⟩
          go_wp2_with (first | (go_at_call_of 46 (x.f0); refine (hcd0 w2).mono ?_; rintro e wC ⟨rfl, hbC⟩; have HBC := Aside0.mk hbC; have l1 := World.block_lt_of_cell? w2 _ z1; go_loud (have y1 := (hbC.cell (p := ⟨wr.heap.size, 1, none⟩) l1).trans z1); clear hbC))
          go_ret
          exact ⟨by rw [HE.out]; rfl, (HB2.out.trans (HBC.out.mono HB2.out.size))⟩
         | true =>
          rw [hd0] at hcd0
          have HD0 := Aside0.mk hd0
          clear hd0
          cases hb1 : x.f1.toList.isEmpty with
          | true =>
           have HE : Aside0 (rowsGo (m : Int) Z (k + 1) (Z.drop (k + 1)) = rowsGo (m : Int) Z 0 Z) := ⟨by rw [HA4.out, hb0, HD0.out, hb1]; simp⟩
           go_wp2_with (first | (go_at_call_of 46 (x.f0); refine (hcd0 w2).mono ?_; rintro e wC ⟨rfl, hbC⟩; have HBC := Aside0.mk hbC; have l1 := World.block_lt_of_cell? w2 _ z1; go_loud (have y1 := (hbC.cell (p := ⟨wr.heap.size, 1, none⟩) l1).trans z1); clear hbC))
           go_roundg (n1 - (k + 1))
           case measure => omega
           case rel => exact ⟨k + 1, by omega, Nat.le_refl _, by go_num, ⟨(HB2.out.trans (HBC.out.mono HB2.out.size))⟩, ⟨(HM2.out.below HBC.out)⟩, HE⟩
          | false =>
           cases hd1 : codeB x.f1 with
           | false =>
            rw [hd1] at hcd1
            have HD1 := Aside0.mk hd1
            clear hd1
            have HE : Aside0 (tariffB R Z = false) := ⟨by rw [HX2.out, HRT.out, HA4.out, hb0, HD0.out, hb1, HD1.out]; simp⟩
            go_wp2_with (first | (go_at_call_of 46 (x.f0); refine (hcd0 w2).mono ?_; rintro e wC ⟨rfl, hbC⟩; have HBC := Aside0.mk hbC; have l1 := World.block_lt_of_cell? w2 _ z1; go_loud (have y1 := (hbC.cell (p := ⟨wr.heap.size, 1, none⟩) l1).trans z1); clear hbC) | (go_at_call_of 46 (x.f1); refine (hcd1 _).mono ?_; rintro e wD ⟨rfl, hbD⟩; have HBD := Aside0.mk hbD; clear hbD))
            go_ret
            exact ⟨by rw [HE.out]; rfl, ((HB2.out.trans (HBC.out.mono HB2.out.size)).trans (HBD.out.mono (Nat.le_trans HB2.out.size HBC.out.size)))⟩
           | true =>
            rw [hd1] at hcd1
            have HD1 := Aside0.mk hd1
            clear hd1
            have HE : Aside0 (rowsGo (m : Int) Z (k + 1) (Z.drop (k + 1)) = rowsGo (m : Int) Z 0 Z) := ⟨by rw [HA4.out, hb0, HD0.out, hb1, HD1.out]; simp⟩
            go_wp2_with (first | (go_at_call_of 46 (x.f0); refine (hcd0 w2).mono ?_; rintro e wC ⟨rfl, hbC⟩; have HBC := Aside0.mk hbC; have l1 := World.block_lt_of_cell? w2 _ z1; go_loud (have y1 := (hbC.cell (p := ⟨wr.heap.size, 1, none⟩) l1).trans z1); clear hbC) | (go_at_call_of 46 (x.f1); refine (hcd1 _).mono ?_; rintro e wD ⟨rfl, hbD⟩; have HBD := Aside0.mk hbD; clear hbD))
            go_roundg (n1 - (k + 1))
            case measure => omega
            case rel => exact ⟨k + 1, by omega, Nat.le_refl _, by go_num, ⟨((HB2.out.trans (HBC.out.mono HB2.out.size)).trans (HBD.out.mono (Nat.le_trans HB2.out.size HBC.out.size)))⟩, ⟨((HM2.out.below HBC.out).below HBD.out)⟩, HE⟩
    ·obtain rfl : n1 = k := by omega
     have HRZ : Aside0 (rowsGo (m : Int) Z 0 Z = true) := ⟨by rw [← HA.out, List.drop_of_length_le (by have := HN1.out; omega)]; rfl⟩
     have hl := MapInt.look HM.out (t := 97) Tryd.underlying97 Tryd.underlying3 zeroInt (noText, noText) ⟨by decide, by decide⟩
     rw [rowMap_getD] at hl
     change Sem.run Tryd.prog (Instr.lookup 97 (.map (some b2)) (.agg #[.string ⟨#[]⟩, .string ⟨#[]⟩]) false) wr = _ at hl
     have HX3 : Aside0 (tariffB R Z = decide (rowCnt Z n1 (noText, noText) = 1)) := ⟨by rw [HX2.out, HRT.out, HRZ.out]; rfl⟩
     generalize rowCnt Z n1 (noText, noText) = q at *
     go_wp2_with fail
     go_ret
     refine ⟨?_, BW.out⟩
     rw [HX3.out]
     show Ending.returned (.bool ((q : Int) == 1)) = _
     rw [intOne q]
def zoneFitsB (z : Zn) : Bool := decide (z.f0.size ≤ 9223372036854775807) && decide (z.f1.size ≤ 9223372036854775807)
theorem tariffFits_of {R : List Rt} {Z : List Zn} (h : (R.all (fun r => decide (0 ≤ r.f0) && decide (r.f0 ≤ 255)) && Z.all zoneFitsB) = true) : TariffFits R Z := by
 unfold zoneFitsB at h
 simp only [Bool.and_eq_true, decide_eq_true_eq, List.all_eq_true] at h
 exact ⟨fun r hr => h.1 r hr, fun z hz => h.2 z hz⟩
def tariff_Right.f (l0 : List Rt) (l1 : List Zn) : Option Bool := if (l0.all (fun r => decide (0 ≤ r.f0) && decide (r.f0 ≤ 255)) && l1.all zoneFitsB) then some (tariffB l0 l1) else none
theorem tariff_Right.calls (A0 : Option Addr) (c0 : Nat) (l0 : List (S57)) (A1 : Option Addr) (c1 : Nat) (l1 : List (S67)) (r : Bool) (w : World) (hr0 : Kd.C k57 w A0 l0.length l0) (hc0 : l0.length ≤ c0) (hr1 : Kd.C k67 w A1 l1.length l1) (hc1 : l1.length ≤ c1) (h : tariff_Right.f l0 l1 = some r) :
  Calls Tryd.prog 18 #[.agg #[.slice A0 l0.length c0, .slice A1 l1.length c1]] w fun e w' => e = .returned (.bool r) ∧ Below w.heap.size w w' := by
 unfold tariff_Right.f at h
 split at h
 ·rename_i hf
  injection h with h
  subst h
  exact tariff_right.calls0 A0 c0 l0 A1 c1 l1 w hr0 hc0 hr1 hc1 (tariffFits_of hf)
 ·cases h
end Go.Proofs.YtfglcfbcdhjcdaaDoor.Q
