/-
  NARROWER THAN 'FOR EVERY INPUT', by the rows' own cells (each row's printed sentence says how): TariffTells: laid · TariffAdds: laid · TariffSteps: laid · TariffRows: laid · TariffLevels: laid · TariffWrong: laid · TariffOrder: laid.
  DERIVED. THE GIVEN ROWS OF THIS SEAT. 7 by the template 'for every input the law returns true; each argument reads behind the call as it read before'; 0 by the template 'total and deterministic' (their statements: YtfglcfbcdhjcdaaDoorTotals.lean).
  GIVEN WITH THE SEED: the statements are not yours to turn. If you find one false, say at which input.
  Laid BY PROGRAM, IN A SANDBOX (cutbox-rows.mjs): the forced cells as the released guide's own fill.sh prints them over the translation a097fe85524279a8… (all of the seat's roots in one cut). By AI agents, Wed Nov 11 2026. No macro, syntax, notation, axiom, sorry.
-/
import Derived.Test.YtfglcfbcdhjcdaaDoorChecked
import GoSem.PinnedTables
import GoSem.Claim
import GoSem.ClaimJoined
import GoSem.ClaimMapViews
import Derived.JoinedTies
import Derived.KernelRfl
namespace Go.Proofs.YtfglcfbcdhjcdaaDoor
/- THE CELL 'sum', in the pinned program and in every row, IS THE sha256 OF THE DUMP (.gsa) THAT YtfglcfbcdhjcdaaDoorProg.lean LOADS. Nothing in Lean hashes anything: it is a label: what it is worth is what the hold of that sum in a sandbox is worth. -/
noncomputable def Tryd.pinned : Pinned := { name := "ytfglcfbcdhjcdaadoor", sum := "a097fe85524279a8130ab22b36a7c7dfbe4609ecca3c2868a1b62e45d40c50b7", checked := Tryd.checked }
namespace Rows
def none {H : Type} : Left H := { results := [], args := [] }

/- WHAT THE LISTED PACKAGE-LEVEL VARIABLES READ AS WHEN THE CALL BEGINS. Each datum BY PROGRAM (the guide's laid-datum.mjs) off the statement by which the dump's own 'gosem.cut.vars' lays the variable. In a bare row this is a premise. The card (YtfglcfbcdhjcdaaDoorCards.lean) ties it to the program's text. -/
def laid_unicode_utf8_acceptRanges {H : Type} : DataW H := .agg [.agg [.lit (.int .u8 128), .lit (.int .u8 191)], .agg [.lit (.int .u8 160), .lit (.int .u8 191)], .agg [.lit (.int .u8 128), .lit (.int .u8 159)], .agg [.lit (.int .u8 144), .lit (.int .u8 191)], .agg [.lit (.int .u8 128), .lit (.int .u8 143)], .agg [.lit (.int .u8 0), .lit (.int .u8 0)], .agg [.lit (.int .u8 0), .lit (.int .u8 0)], .agg [.lit (.int .u8 0), .lit (.int .u8 0)], .agg [.lit (.int .u8 0), .lit (.int .u8 0)], .agg [.lit (.int .u8 0), .lit (.int .u8 0)], .agg [.lit (.int .u8 0), .lit (.int .u8 0)], .agg [.lit (.int .u8 0), .lit (.int .u8 0)], .agg [.lit (.int .u8 0), .lit (.int .u8 0)], .agg [.lit (.int .u8 0), .lit (.int .u8 0)], .agg [.lit (.int .u8 0), .lit (.int .u8 0)], .agg [.lit (.int .u8 0), .lit (.int .u8 0)]]
/-- One of Go's own tables, pinned by name: the form's constant. -/
def laid_unicode_utf8_first : DataW Unit := Go.Pinned.utf8First

/-- 'letterbaglaw24.TariffTells': WHATEVER THE INPUT: true; the input reads as it did. -/
def tariffTellsSpec : ChangeSpec := { name := "tariffTells", fn := fun _ => fun
  | [d1, d2, d3, d4, d5, d6] => { results := [.lit (.bool true)], args := [d1, d2, d3, d4, d5, d6] }
  | _ => none }
def tariffTellsRow : OpenClaim := { program := "ytfglcfbcdhjcdaadoor", sum := "a097fe85524279a8130ab22b36a7c7dfbe4609ecca3c2868a1b62e45d40c50b7", func := "letterbag/letterbaglaw24.TariffTells", spec := "tariffTells", inPlace := ["internal/bytealg.IndexByteString", "internal/bytealg.IndexString"], unfollowed := true, recurses := true, named := ["unicode/utf8.first", "unicode/utf8.acceptRanges", "internal/bytealg.MaxLen"], plainKeys := false, apart := false, laid := [("unicode/utf8.acceptRanges", laid_unicode_utf8_acceptRanges), ("unicode/utf8.first", laid_unicode_utf8_first)] }
def TariffTellsSaid : Prop := tariffTellsRow.holds Tryd.pinned (OpenSpec.ofChange tariffTellsSpec)

/-- ITS FALSE NEIGHBOUR: 'it returns false'. Refute it at one input. -/
def tariffTellsWrong : ChangeSpec := { name := "tariffTells", fn := fun _ => fun
  | [d1, d2, d3, d4, d5, d6] => { results := [.lit (.bool false)], args := [d1, d2, d3, d4, d5, d6] }
  | _ => none }
def TariffTellsWrongFalsely : Prop := tariffTellsRow.holds Tryd.pinned (OpenSpec.ofChange tariffTellsWrong)

/-- 'letterbaglaw24.TariffAdds': WHATEVER THE INPUT: true; the input reads as it did. -/
def tariffAddsSpec : ChangeSpec := { name := "tariffAdds", fn := fun _ => fun
  | [d1, d2, d3, d4, d5, d6, d7] => { results := [.lit (.bool true)], args := [d1, d2, d3, d4, d5, d6, d7] }
  | _ => none }
def tariffAddsRow : OpenClaim := { program := "ytfglcfbcdhjcdaadoor", sum := "a097fe85524279a8130ab22b36a7c7dfbe4609ecca3c2868a1b62e45d40c50b7", func := "letterbag/letterbaglaw24.TariffAdds", spec := "tariffAdds", inPlace := ["internal/bytealg.IndexByteString", "internal/bytealg.IndexString"], unfollowed := true, recurses := true, named := ["unicode/utf8.first", "unicode/utf8.acceptRanges", "internal/bytealg.MaxLen"], plainKeys := false, apart := false, laid := [("unicode/utf8.acceptRanges", laid_unicode_utf8_acceptRanges), ("unicode/utf8.first", laid_unicode_utf8_first)] }
def TariffAddsSaid : Prop := tariffAddsRow.holds Tryd.pinned (OpenSpec.ofChange tariffAddsSpec)

/-- ITS FALSE NEIGHBOUR: 'it returns false'. Refute it at one input. -/
def tariffAddsWrong : ChangeSpec := { name := "tariffAdds", fn := fun _ => fun
  | [d1, d2, d3, d4, d5, d6, d7] => { results := [.lit (.bool false)], args := [d1, d2, d3, d4, d5, d6, d7] }
  | _ => none }
def TariffAddsWrongFalsely : Prop := tariffAddsRow.holds Tryd.pinned (OpenSpec.ofChange tariffAddsWrong)

/-- 'letterbaglaw24.TariffSteps': WHATEVER THE INPUT: true; the input reads as it did. -/
def tariffStepsSpec : ChangeSpec := { name := "tariffSteps", fn := fun _ => fun
  | [d1, d2, d3, d4, d5] => { results := [.lit (.bool true)], args := [d1, d2, d3, d4, d5] }
  | _ => none }
def tariffStepsRow : OpenClaim := { program := "ytfglcfbcdhjcdaadoor", sum := "a097fe85524279a8130ab22b36a7c7dfbe4609ecca3c2868a1b62e45d40c50b7", func := "letterbag/letterbaglaw24.TariffSteps", spec := "tariffSteps", inPlace := ["internal/bytealg.IndexByteString", "internal/bytealg.IndexString"], unfollowed := true, recurses := true, named := ["unicode/utf8.first", "unicode/utf8.acceptRanges", "internal/bytealg.MaxLen"], plainKeys := false, apart := false, laid := [("unicode/utf8.acceptRanges", laid_unicode_utf8_acceptRanges), ("unicode/utf8.first", laid_unicode_utf8_first)] }
def TariffStepsSaid : Prop := tariffStepsRow.holds Tryd.pinned (OpenSpec.ofChange tariffStepsSpec)

/-- ITS FALSE NEIGHBOUR: 'it returns false'. Refute it at one input. -/
def tariffStepsWrong : ChangeSpec := { name := "tariffSteps", fn := fun _ => fun
  | [d1, d2, d3, d4, d5] => { results := [.lit (.bool false)], args := [d1, d2, d3, d4, d5] }
  | _ => none }
def TariffStepsWrongFalsely : Prop := tariffStepsRow.holds Tryd.pinned (OpenSpec.ofChange tariffStepsWrong)

/-- 'letterbaglaw24.TariffRows': WHATEVER THE INPUT: true; the input reads as it did. -/
def tariffRowsSpec : ChangeSpec := { name := "tariffRows", fn := fun _ => fun
  | [d1, d2, d3, d4, d5, d6] => { results := [.lit (.bool true)], args := [d1, d2, d3, d4, d5, d6] }
  | _ => none }
def tariffRowsRow : OpenClaim := { program := "ytfglcfbcdhjcdaadoor", sum := "a097fe85524279a8130ab22b36a7c7dfbe4609ecca3c2868a1b62e45d40c50b7", func := "letterbag/letterbaglaw24.TariffRows", spec := "tariffRows", inPlace := ["internal/bytealg.IndexByteString", "internal/bytealg.IndexString"], unfollowed := true, recurses := true, named := ["unicode/utf8.first", "unicode/utf8.acceptRanges", "internal/bytealg.MaxLen"], plainKeys := false, apart := false, laid := [("unicode/utf8.acceptRanges", laid_unicode_utf8_acceptRanges), ("unicode/utf8.first", laid_unicode_utf8_first)] }
def TariffRowsSaid : Prop := tariffRowsRow.holds Tryd.pinned (OpenSpec.ofChange tariffRowsSpec)

/-- ITS FALSE NEIGHBOUR: 'it returns false'. Refute it at one input. -/
def tariffRowsWrong : ChangeSpec := { name := "tariffRows", fn := fun _ => fun
  | [d1, d2, d3, d4, d5, d6] => { results := [.lit (.bool false)], args := [d1, d2, d3, d4, d5, d6] }
  | _ => none }
def TariffRowsWrongFalsely : Prop := tariffRowsRow.holds Tryd.pinned (OpenSpec.ofChange tariffRowsWrong)

/-- 'letterbaglaw24.TariffLevels': WHATEVER THE INPUT: true; the input reads as it did. -/
def tariffLevelsSpec : ChangeSpec := { name := "tariffLevels", fn := fun _ => fun
  | [d1, d2, d3, d4, d5, d6] => { results := [.lit (.bool true)], args := [d1, d2, d3, d4, d5, d6] }
  | _ => none }
def tariffLevelsRow : OpenClaim := { program := "ytfglcfbcdhjcdaadoor", sum := "a097fe85524279a8130ab22b36a7c7dfbe4609ecca3c2868a1b62e45d40c50b7", func := "letterbag/letterbaglaw24.TariffLevels", spec := "tariffLevels", inPlace := ["internal/bytealg.IndexByteString", "internal/bytealg.IndexString"], unfollowed := true, recurses := true, named := ["unicode/utf8.first", "unicode/utf8.acceptRanges", "internal/bytealg.MaxLen"], plainKeys := false, apart := false, laid := [("unicode/utf8.acceptRanges", laid_unicode_utf8_acceptRanges), ("unicode/utf8.first", laid_unicode_utf8_first)] }
def TariffLevelsSaid : Prop := tariffLevelsRow.holds Tryd.pinned (OpenSpec.ofChange tariffLevelsSpec)

/-- ITS FALSE NEIGHBOUR: 'it returns false'. Refute it at one input. -/
def tariffLevelsWrong : ChangeSpec := { name := "tariffLevels", fn := fun _ => fun
  | [d1, d2, d3, d4, d5, d6] => { results := [.lit (.bool false)], args := [d1, d2, d3, d4, d5, d6] }
  | _ => none }
def TariffLevelsWrongFalsely : Prop := tariffLevelsRow.holds Tryd.pinned (OpenSpec.ofChange tariffLevelsWrong)

/-- 'letterbaglaw24.TariffWrong': WHATEVER THE INPUT: true; the input reads as it did. -/
def tariffWrongSpec : ChangeSpec := { name := "tariffWrong", fn := fun _ => fun
  | [d1, d2, d3, d4] => { results := [.lit (.bool true)], args := [d1, d2, d3, d4] }
  | _ => none }
def tariffWrongRow : OpenClaim := { program := "ytfglcfbcdhjcdaadoor", sum := "a097fe85524279a8130ab22b36a7c7dfbe4609ecca3c2868a1b62e45d40c50b7", func := "letterbag/letterbaglaw24.TariffWrong", spec := "tariffWrong", inPlace := ["internal/bytealg.IndexByteString", "internal/bytealg.IndexString"], unfollowed := true, recurses := true, named := ["unicode/utf8.first", "unicode/utf8.acceptRanges", "internal/bytealg.MaxLen"], plainKeys := false, apart := false, laid := [("unicode/utf8.acceptRanges", laid_unicode_utf8_acceptRanges), ("unicode/utf8.first", laid_unicode_utf8_first)] }
def TariffWrongSaid : Prop := tariffWrongRow.holds Tryd.pinned (OpenSpec.ofChange tariffWrongSpec)

/-- ITS FALSE NEIGHBOUR: 'it returns false'. Refute it at one input. -/
def tariffWrongWrong : ChangeSpec := { name := "tariffWrong", fn := fun _ => fun
  | [d1, d2, d3, d4] => { results := [.lit (.bool false)], args := [d1, d2, d3, d4] }
  | _ => none }
def TariffWrongWrongFalsely : Prop := tariffWrongRow.holds Tryd.pinned (OpenSpec.ofChange tariffWrongWrong)

/-- 'letterbaglaw24.TariffOrder': WHATEVER THE INPUT: true; the input reads as it did. -/
def tariffOrderSpec : ChangeSpec := { name := "tariffOrder", fn := fun _ => fun
  | [d1, d2, d3, d4, d5] => { results := [.lit (.bool true)], args := [d1, d2, d3, d4, d5] }
  | _ => none }
def tariffOrderRow : OpenClaim := { program := "ytfglcfbcdhjcdaadoor", sum := "a097fe85524279a8130ab22b36a7c7dfbe4609ecca3c2868a1b62e45d40c50b7", func := "letterbag/letterbaglaw24.TariffOrder", spec := "tariffOrder", inPlace := ["internal/bytealg.IndexByteString", "internal/bytealg.IndexString"], unfollowed := true, recurses := true, named := ["unicode/utf8.first", "unicode/utf8.acceptRanges", "internal/bytealg.MaxLen"], plainKeys := false, apart := false, laid := [("unicode/utf8.acceptRanges", laid_unicode_utf8_acceptRanges), ("unicode/utf8.first", laid_unicode_utf8_first)] }
def TariffOrderSaid : Prop := tariffOrderRow.holds Tryd.pinned (OpenSpec.ofChange tariffOrderSpec)

/-- ITS FALSE NEIGHBOUR: 'it returns false'. Refute it at one input. -/
def tariffOrderWrong : ChangeSpec := { name := "tariffOrder", fn := fun _ => fun
  | [d1, d2, d3, d4, d5] => { results := [.lit (.bool false)], args := [d1, d2, d3, d4, d5] }
  | _ => none }
def TariffOrderWrongFalsely : Prop := tariffOrderRow.holds Tryd.pinned (OpenSpec.ofChange tariffOrderWrong)

/- THE SECOND FORM. 'bulk': how many values and letters a reading holds, each counted each time it is reached (what is shared counts as often as it is met; a slice's spare places count too). A statement '..UptoSaid' is the law's where the arguments, and the package variables that the reading takes, are together of bulk at most 1048576: NARROWER than '..Said'. Prove '..Said' where nothing that the law and all that it calls make is longer than what came in: it says more and counts as full. Else prove '..UptoSaid'. A law counts once. -/
mutual
def uptoBulk {H : Type} : DataW H → Nat
  | .lit (.string bytes) => bytes.length + 1
  | .lit _ => 1
  | .nil => 1
  | .ptr d => uptoBulk d + 1
  | .slice elems spare => uptoBulkAll elems + uptoBulkAll spare + 1
  | .agg parts => uptoBulkAll parts + 1
  | .iface _ d => uptoBulk d + 1
  | .map entries => uptoBulkEntries entries + 1
  | .held _ => 1
def uptoBulkAll {H : Type} : List (DataW H) → Nat
  | [] => 0
  | d :: r => uptoBulk d + uptoBulkAll r
def uptoBulkEntries {H : Type} : List (Lit × DataW H) → Nat
  | [] => 0
  | x :: r => uptoBulkEntry x + uptoBulkEntries r
def uptoBulkEntry {H : Type} : Lit × DataW H → Nat
  | (.string bytes, d) => bytes.length + uptoBulk d + 1
  | (_, d) => uptoBulk d + 1
 end
def uptoSmall : (H : Type) → List (DataW H) → Bool := fun _ ds => decide (uptoBulkAll ds ≤ 1048576)
def OpenSpec.upto (s : _root_.Go.ChangeSpec) : _root_.Go.OpenSpec := { _root_.Go.OpenSpec.ofChange s with cond := some uptoSmall }

/-- 'letterbaglaw24.TariffTells', WHERE WHAT IT READS IS OF BULK AT MOST 1048576: true; the input reads as it did. -/
def tariffTellsUptoRow : OpenClaim := { program := "ytfglcfbcdhjcdaadoor", sum := "a097fe85524279a8130ab22b36a7c7dfbe4609ecca3c2868a1b62e45d40c50b7", func := "letterbag/letterbaglaw24.TariffTells", spec := "tariffTells", inPlace := ["internal/bytealg.IndexByteString", "internal/bytealg.IndexString"], unfollowed := true, recurses := true, named := ["unicode/utf8.first", "unicode/utf8.acceptRanges", "internal/bytealg.MaxLen"], plainKeys := false, apart := false, laid := [("unicode/utf8.acceptRanges", laid_unicode_utf8_acceptRanges), ("unicode/utf8.first", laid_unicode_utf8_first)], narrowed := true }
def TariffTellsUptoSaid : Prop := tariffTellsUptoRow.holds Tryd.pinned (OpenSpec.upto tariffTellsSpec)

/-- 'letterbaglaw24.TariffAdds', WHERE WHAT IT READS IS OF BULK AT MOST 1048576: true; the input reads as it did. -/
def tariffAddsUptoRow : OpenClaim := { program := "ytfglcfbcdhjcdaadoor", sum := "a097fe85524279a8130ab22b36a7c7dfbe4609ecca3c2868a1b62e45d40c50b7", func := "letterbag/letterbaglaw24.TariffAdds", spec := "tariffAdds", inPlace := ["internal/bytealg.IndexByteString", "internal/bytealg.IndexString"], unfollowed := true, recurses := true, named := ["unicode/utf8.first", "unicode/utf8.acceptRanges", "internal/bytealg.MaxLen"], plainKeys := false, apart := false, laid := [("unicode/utf8.acceptRanges", laid_unicode_utf8_acceptRanges), ("unicode/utf8.first", laid_unicode_utf8_first)], narrowed := true }
def TariffAddsUptoSaid : Prop := tariffAddsUptoRow.holds Tryd.pinned (OpenSpec.upto tariffAddsSpec)

/-- 'letterbaglaw24.TariffSteps', WHERE WHAT IT READS IS OF BULK AT MOST 1048576: true; the input reads as it did. -/
def tariffStepsUptoRow : OpenClaim := { program := "ytfglcfbcdhjcdaadoor", sum := "a097fe85524279a8130ab22b36a7c7dfbe4609ecca3c2868a1b62e45d40c50b7", func := "letterbag/letterbaglaw24.TariffSteps", spec := "tariffSteps", inPlace := ["internal/bytealg.IndexByteString", "internal/bytealg.IndexString"], unfollowed := true, recurses := true, named := ["unicode/utf8.first", "unicode/utf8.acceptRanges", "internal/bytealg.MaxLen"], plainKeys := false, apart := false, laid := [("unicode/utf8.acceptRanges", laid_unicode_utf8_acceptRanges), ("unicode/utf8.first", laid_unicode_utf8_first)], narrowed := true }
def TariffStepsUptoSaid : Prop := tariffStepsUptoRow.holds Tryd.pinned (OpenSpec.upto tariffStepsSpec)

/-- 'letterbaglaw24.TariffRows', WHERE WHAT IT READS IS OF BULK AT MOST 1048576: true; the input reads as it did. -/
def tariffRowsUptoRow : OpenClaim := { program := "ytfglcfbcdhjcdaadoor", sum := "a097fe85524279a8130ab22b36a7c7dfbe4609ecca3c2868a1b62e45d40c50b7", func := "letterbag/letterbaglaw24.TariffRows", spec := "tariffRows", inPlace := ["internal/bytealg.IndexByteString", "internal/bytealg.IndexString"], unfollowed := true, recurses := true, named := ["unicode/utf8.first", "unicode/utf8.acceptRanges", "internal/bytealg.MaxLen"], plainKeys := false, apart := false, laid := [("unicode/utf8.acceptRanges", laid_unicode_utf8_acceptRanges), ("unicode/utf8.first", laid_unicode_utf8_first)], narrowed := true }
def TariffRowsUptoSaid : Prop := tariffRowsUptoRow.holds Tryd.pinned (OpenSpec.upto tariffRowsSpec)

/-- 'letterbaglaw24.TariffLevels', WHERE WHAT IT READS IS OF BULK AT MOST 1048576: true; the input reads as it did. -/
def tariffLevelsUptoRow : OpenClaim := { program := "ytfglcfbcdhjcdaadoor", sum := "a097fe85524279a8130ab22b36a7c7dfbe4609ecca3c2868a1b62e45d40c50b7", func := "letterbag/letterbaglaw24.TariffLevels", spec := "tariffLevels", inPlace := ["internal/bytealg.IndexByteString", "internal/bytealg.IndexString"], unfollowed := true, recurses := true, named := ["unicode/utf8.first", "unicode/utf8.acceptRanges", "internal/bytealg.MaxLen"], plainKeys := false, apart := false, laid := [("unicode/utf8.acceptRanges", laid_unicode_utf8_acceptRanges), ("unicode/utf8.first", laid_unicode_utf8_first)], narrowed := true }
def TariffLevelsUptoSaid : Prop := tariffLevelsUptoRow.holds Tryd.pinned (OpenSpec.upto tariffLevelsSpec)

/-- 'letterbaglaw24.TariffWrong', WHERE WHAT IT READS IS OF BULK AT MOST 1048576: true; the input reads as it did. -/
def tariffWrongUptoRow : OpenClaim := { program := "ytfglcfbcdhjcdaadoor", sum := "a097fe85524279a8130ab22b36a7c7dfbe4609ecca3c2868a1b62e45d40c50b7", func := "letterbag/letterbaglaw24.TariffWrong", spec := "tariffWrong", inPlace := ["internal/bytealg.IndexByteString", "internal/bytealg.IndexString"], unfollowed := true, recurses := true, named := ["unicode/utf8.first", "unicode/utf8.acceptRanges", "internal/bytealg.MaxLen"], plainKeys := false, apart := false, laid := [("unicode/utf8.acceptRanges", laid_unicode_utf8_acceptRanges), ("unicode/utf8.first", laid_unicode_utf8_first)], narrowed := true }
def TariffWrongUptoSaid : Prop := tariffWrongUptoRow.holds Tryd.pinned (OpenSpec.upto tariffWrongSpec)

/-- 'letterbaglaw24.TariffOrder', WHERE WHAT IT READS IS OF BULK AT MOST 1048576: true; the input reads as it did. -/
def tariffOrderUptoRow : OpenClaim := { program := "ytfglcfbcdhjcdaadoor", sum := "a097fe85524279a8130ab22b36a7c7dfbe4609ecca3c2868a1b62e45d40c50b7", func := "letterbag/letterbaglaw24.TariffOrder", spec := "tariffOrder", inPlace := ["internal/bytealg.IndexByteString", "internal/bytealg.IndexString"], unfollowed := true, recurses := true, named := ["unicode/utf8.first", "unicode/utf8.acceptRanges", "internal/bytealg.MaxLen"], plainKeys := false, apart := false, laid := [("unicode/utf8.acceptRanges", laid_unicode_utf8_acceptRanges), ("unicode/utf8.first", laid_unicode_utf8_first)], narrowed := true }
def TariffOrderUptoSaid : Prop := tariffOrderUptoRow.holds Tryd.pinned (OpenSpec.upto tariffOrderSpec)

end Rows
end Go.Proofs.YtfglcfbcdhjcdaaDoor
