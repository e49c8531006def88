/-
  DERIVED. GIVEN WITH THE SEED: THE CARDS: each row of YtfglcfbcdhjcdaaDoorRows.lean that lists a variable, with what it lists TIED to the program's text (the seventh form; the later family's looks); each row that meets fmt, with fmt's text TOLD by the authors' own Lean function (tested against real Go, not proved from fmt's source: count such statements apart). THE CARD IS WHAT COUNTS. Prove the row's statement (the work); the ties are given (YtfglcfbcdhjcdaaDoorTie.lean); close each card by the builder's one call (the guide's Derived/Test/ToyasCard.lean, 'card_holds'). Laid BY PROGRAM, IN A SANDBOX (cutbox-door.mjs). By AI agents, Wed Nov 11 2026. No macro, syntax, notation, axiom, sorry.
-/
import Derived.Test.YtfglcfbcdhjcdaaDoorRows
import GoSem.ClaimSeven
namespace Go.Proofs.YtfglcfbcdhjcdaaDoor
namespace Rows

/-- THE TIED CARD OF 'letterbaglaw24.TariffTells'. -/
def tariffTellsCard : Claim7 := { stood := { row := tariffTellsRow, standIns := [], harness := (true, "3fc2d4088d09993a8ff2fb1d2838031363de8c4908fb63871eecba3b6ee4084d"), looks := false }, kinds := [], alts := [], laidByText := true, laidKinds := [.data, .pinned], laidTests := true, laidLooks := .later }
def TariffTellsCardSaid : Prop := Claim7.holds Tryd.pinned (.plain (OpenSpec.ofChange tariffTellsSpec)) tariffTellsCard

/-- THE TIED CARD OF 'letterbaglaw24.TariffAdds'. -/
def tariffAddsCard : Claim7 := { stood := { row := tariffAddsRow, standIns := [], harness := (true, "3fc2d4088d09993a8ff2fb1d2838031363de8c4908fb63871eecba3b6ee4084d"), looks := false }, kinds := [], alts := [], laidByText := true, laidKinds := [.data, .pinned], laidTests := true, laidLooks := .later }
def TariffAddsCardSaid : Prop := Claim7.holds Tryd.pinned (.plain (OpenSpec.ofChange tariffAddsSpec)) tariffAddsCard

/-- THE TIED CARD OF 'letterbaglaw24.TariffSteps'. -/
def tariffStepsCard : Claim7 := { stood := { row := tariffStepsRow, standIns := [], harness := (true, "3fc2d4088d09993a8ff2fb1d2838031363de8c4908fb63871eecba3b6ee4084d"), looks := false }, kinds := [], alts := [], laidByText := true, laidKinds := [.data, .pinned], laidTests := true, laidLooks := .later }
def TariffStepsCardSaid : Prop := Claim7.holds Tryd.pinned (.plain (OpenSpec.ofChange tariffStepsSpec)) tariffStepsCard

/-- THE TIED CARD OF 'letterbaglaw24.TariffRows'. -/
def tariffRowsCard : Claim7 := { stood := { row := tariffRowsRow, standIns := [], harness := (true, "3fc2d4088d09993a8ff2fb1d2838031363de8c4908fb63871eecba3b6ee4084d"), looks := false }, kinds := [], alts := [], laidByText := true, laidKinds := [.data, .pinned], laidTests := true, laidLooks := .later }
def TariffRowsCardSaid : Prop := Claim7.holds Tryd.pinned (.plain (OpenSpec.ofChange tariffRowsSpec)) tariffRowsCard

/-- THE TIED CARD OF 'letterbaglaw24.TariffLevels'. -/
def tariffLevelsCard : Claim7 := { stood := { row := tariffLevelsRow, standIns := [], harness := (true, "3fc2d4088d09993a8ff2fb1d2838031363de8c4908fb63871eecba3b6ee4084d"), looks := false }, kinds := [], alts := [], laidByText := true, laidKinds := [.data, .pinned], laidTests := true, laidLooks := .later }
def TariffLevelsCardSaid : Prop := Claim7.holds Tryd.pinned (.plain (OpenSpec.ofChange tariffLevelsSpec)) tariffLevelsCard

/-- THE TIED CARD OF 'letterbaglaw24.TariffWrong'. -/
def tariffWrongCard : Claim7 := { stood := { row := tariffWrongRow, standIns := [], harness := (true, "3fc2d4088d09993a8ff2fb1d2838031363de8c4908fb63871eecba3b6ee4084d"), looks := false }, kinds := [], alts := [], laidByText := true, laidKinds := [.data, .pinned], laidTests := true, laidLooks := .later }
def TariffWrongCardSaid : Prop := Claim7.holds Tryd.pinned (.plain (OpenSpec.ofChange tariffWrongSpec)) tariffWrongCard

/-- THE TIED CARD OF 'letterbaglaw24.TariffOrder'. -/
def tariffOrderCard : Claim7 := { stood := { row := tariffOrderRow, standIns := [], harness := (true, "3fc2d4088d09993a8ff2fb1d2838031363de8c4908fb63871eecba3b6ee4084d"), looks := false }, kinds := [], alts := [], laidByText := true, laidKinds := [.data, .pinned], laidTests := true, laidLooks := .later }
def TariffOrderCardSaid : Prop := Claim7.holds Tryd.pinned (.plain (OpenSpec.ofChange tariffOrderSpec)) tariffOrderCard

/-- THE SECOND FORM's CARD OF 'letterbaglaw24.TariffTells'. -/
def tariffTellsUptoCard : Claim7 := { stood := { row := tariffTellsUptoRow, standIns := [], harness := (true, "3fc2d4088d09993a8ff2fb1d2838031363de8c4908fb63871eecba3b6ee4084d"), looks := false }, kinds := [], alts := [], laidByText := true, laidKinds := [.data, .pinned], laidTests := true, laidLooks := .later }
def TariffTellsUptoCardSaid : Prop := Claim7.holds Tryd.pinned (.plain (OpenSpec.upto tariffTellsSpec)) tariffTellsUptoCard

/-- THE SECOND FORM's CARD OF 'letterbaglaw24.TariffAdds'. -/
def tariffAddsUptoCard : Claim7 := { stood := { row := tariffAddsUptoRow, standIns := [], harness := (true, "3fc2d4088d09993a8ff2fb1d2838031363de8c4908fb63871eecba3b6ee4084d"), looks := false }, kinds := [], alts := [], laidByText := true, laidKinds := [.data, .pinned], laidTests := true, laidLooks := .later }
def TariffAddsUptoCardSaid : Prop := Claim7.holds Tryd.pinned (.plain (OpenSpec.upto tariffAddsSpec)) tariffAddsUptoCard

/-- THE SECOND FORM's CARD OF 'letterbaglaw24.TariffSteps'. -/
def tariffStepsUptoCard : Claim7 := { stood := { row := tariffStepsUptoRow, standIns := [], harness := (true, "3fc2d4088d09993a8ff2fb1d2838031363de8c4908fb63871eecba3b6ee4084d"), looks := false }, kinds := [], alts := [], laidByText := true, laidKinds := [.data, .pinned], laidTests := true, laidLooks := .later }
def TariffStepsUptoCardSaid : Prop := Claim7.holds Tryd.pinned (.plain (OpenSpec.upto tariffStepsSpec)) tariffStepsUptoCard

/-- THE SECOND FORM's CARD OF 'letterbaglaw24.TariffRows'. -/
def tariffRowsUptoCard : Claim7 := { stood := { row := tariffRowsUptoRow, standIns := [], harness := (true, "3fc2d4088d09993a8ff2fb1d2838031363de8c4908fb63871eecba3b6ee4084d"), looks := false }, kinds := [], alts := [], laidByText := true, laidKinds := [.data, .pinned], laidTests := true, laidLooks := .later }
def TariffRowsUptoCardSaid : Prop := Claim7.holds Tryd.pinned (.plain (OpenSpec.upto tariffRowsSpec)) tariffRowsUptoCard

/-- THE SECOND FORM's CARD OF 'letterbaglaw24.TariffLevels'. -/
def tariffLevelsUptoCard : Claim7 := { stood := { row := tariffLevelsUptoRow, standIns := [], harness := (true, "3fc2d4088d09993a8ff2fb1d2838031363de8c4908fb63871eecba3b6ee4084d"), looks := false }, kinds := [], alts := [], laidByText := true, laidKinds := [.data, .pinned], laidTests := true, laidLooks := .later }
def TariffLevelsUptoCardSaid : Prop := Claim7.holds Tryd.pinned (.plain (OpenSpec.upto tariffLevelsSpec)) tariffLevelsUptoCard

/-- THE SECOND FORM's CARD OF 'letterbaglaw24.TariffWrong'. -/
def tariffWrongUptoCard : Claim7 := { stood := { row := tariffWrongUptoRow, standIns := [], harness := (true, "3fc2d4088d09993a8ff2fb1d2838031363de8c4908fb63871eecba3b6ee4084d"), looks := false }, kinds := [], alts := [], laidByText := true, laidKinds := [.data, .pinned], laidTests := true, laidLooks := .later }
def TariffWrongUptoCardSaid : Prop := Claim7.holds Tryd.pinned (.plain (OpenSpec.upto tariffWrongSpec)) tariffWrongUptoCard

/-- THE SECOND FORM's CARD OF 'letterbaglaw24.TariffOrder'. -/
def tariffOrderUptoCard : Claim7 := { stood := { row := tariffOrderUptoRow, standIns := [], harness := (true, "3fc2d4088d09993a8ff2fb1d2838031363de8c4908fb63871eecba3b6ee4084d"), looks := false }, kinds := [], alts := [], laidByText := true, laidKinds := [.data, .pinned], laidTests := true, laidLooks := .later }
def TariffOrderUptoCardSaid : Prop := Claim7.holds Tryd.pinned (.plain (OpenSpec.upto tariffOrderSpec)) tariffOrderUptoCard
end Rows
end Go.Proofs.YtfglcfbcdhjcdaaDoor
