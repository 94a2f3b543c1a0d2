/-
  DERIVED. GIVEN WITH THE SEED: THE CARDS: each row of YtibgbgjocbaflaaGreatDoorRows.lean that lists a variable, with what it lists TIED to the program's text (the seventh form; the later family's looks); each row that meets fmt, with fmt's text TOLD by the authors' own Lean function (tested against real Go, not proved from fmt's source: count such statements apart). THE CARD IS WHAT COUNTS. Prove the row's statement (the work); the ties are given (YtibgbgjocbaflaaGreatDoorTie.lean); close each card by the builder's one call (the guide's Derived/Test/ToyasCard.lean, 'card_holds'). Laid BY PROGRAM, IN A SANDBOX (cutbox-door.mjs). By AI agents, Wed Nov 11 2026. No macro, syntax, notation, axiom, sorry.
-/
import Derived.Test.YtibgbgjocbaflaaGreatDoorRows
import GoSem.ClaimSeven
namespace Go.Proofs.YtibgbgjocbaflaaGreatDoor
namespace Rows

/-- THE TIED CARD OF 'ablautlaw46.JudgeDerives'. -/
def judgeDerivesCard : Claim7 := { stood := { row := judgeDerivesRow, standIns := [], harness := (true, "bfcc27ea27002729a21db6e1da7f1cd6ae01e6c9c6ecbf17947cbd9713e09ccc"), looks := true }, kinds := [], alts := [], laidByText := true, laidKinds := [.data, .data, .mapped, .pinned], laidTests := true, laidLooks := .later }
def JudgeDerivesCardSaid : Prop := Claim7.holds Tryz.pinned (.plain (OpenSpec.ofChange judgeDerivesSpec)) judgeDerivesCard

/-- THE TIED CARD OF 'ablautlaw46.JudgeAgrees'. -/
def judgeAgreesCard : Claim7 := { stood := { row := judgeAgreesRow, standIns := [], harness := (true, "bfcc27ea27002729a21db6e1da7f1cd6ae01e6c9c6ecbf17947cbd9713e09ccc"), looks := true }, kinds := [], alts := [], laidByText := true, laidKinds := [.data, .data, .mapped, .pinned], laidTests := true, laidLooks := .later }
def JudgeAgreesCardSaid : Prop := Claim7.holds Tryz.pinned (.plain (OpenSpec.ofChange judgeAgreesSpec)) judgeAgreesCard

/-- THE TIED CARD OF 'ablautlaw46.JudgeClean'. -/
def judgeCleanCard : Claim7 := { stood := { row := judgeCleanRow, standIns := [], harness := (true, "bfcc27ea27002729a21db6e1da7f1cd6ae01e6c9c6ecbf17947cbd9713e09ccc"), looks := true }, kinds := [], alts := [], laidByText := true, laidKinds := [.data, .data, .mapped, .pinned], laidTests := true, laidLooks := .later }
def JudgeCleanCardSaid : Prop := Claim7.holds Tryz.pinned (.plain (OpenSpec.ofChange judgeCleanSpec)) judgeCleanCard

/-- THE TIED CARD OF 'ablautlaw46.JudgeFlaws'. -/
def judgeFlawsCard : Claim7 := { stood := { row := judgeFlawsRow, standIns := [], harness := (true, "bfcc27ea27002729a21db6e1da7f1cd6ae01e6c9c6ecbf17947cbd9713e09ccc"), looks := true }, kinds := [], alts := [], laidByText := true, laidKinds := [.data, .data, .mapped, .pinned], laidTests := true, laidLooks := .later }
def JudgeFlawsCardSaid : Prop := Claim7.holds Tryz.pinned (.plain (OpenSpec.ofChange judgeFlawsSpec)) judgeFlawsCard

/-- THE TIED CARD OF 'ablautlaw46.JudgeKnown'. -/
def judgeKnownCard : Claim7 := { stood := { row := judgeKnownRow, standIns := [], harness := (true, "bfcc27ea27002729a21db6e1da7f1cd6ae01e6c9c6ecbf17947cbd9713e09ccc"), looks := true }, kinds := [], alts := [], laidByText := true, laidKinds := [.data, .data, .mapped, .funcs, .pinned], laidTests := true, laidLooks := .later }
def JudgeKnownCardSaid : Prop := Claim7.holds Tryz.pinned (.plain (OpenSpec.ofChange judgeKnownSpec)) judgeKnownCard

/-- THE TIED CARD OF 'ablautlaw46.JudgeAudits'. -/
def judgeAuditsCard : Claim7 := { stood := { row := judgeAuditsRow, standIns := [], harness := (true, "bfcc27ea27002729a21db6e1da7f1cd6ae01e6c9c6ecbf17947cbd9713e09ccc"), looks := true }, kinds := [], alts := [], laidByText := true, laidKinds := [.data, .data, .mapped, .funcs, .pinned], laidTests := true, laidLooks := .later }
def JudgeAuditsCardSaid : Prop := Claim7.holds Tryz.pinned (.plain (OpenSpec.ofChange judgeAuditsSpec)) judgeAuditsCard

/-- THE SECOND FORM's CARD OF 'ablautlaw46.JudgeDerives'. -/
def judgeDerivesUptoCard : Claim7 := { stood := { row := judgeDerivesUptoRow, standIns := [], harness := (true, "bfcc27ea27002729a21db6e1da7f1cd6ae01e6c9c6ecbf17947cbd9713e09ccc"), looks := true }, kinds := [], alts := [], laidByText := true, laidKinds := [.data, .data, .mapped, .pinned], laidTests := true, laidLooks := .later }
def JudgeDerivesUptoCardSaid : Prop := Claim7.holds Tryz.pinned (.plain (OpenSpec.upto judgeDerivesSpec)) judgeDerivesUptoCard

/-- THE SECOND FORM's CARD OF 'ablautlaw46.JudgeAgrees'. -/
def judgeAgreesUptoCard : Claim7 := { stood := { row := judgeAgreesUptoRow, standIns := [], harness := (true, "bfcc27ea27002729a21db6e1da7f1cd6ae01e6c9c6ecbf17947cbd9713e09ccc"), looks := true }, kinds := [], alts := [], laidByText := true, laidKinds := [.data, .data, .mapped, .pinned], laidTests := true, laidLooks := .later }
def JudgeAgreesUptoCardSaid : Prop := Claim7.holds Tryz.pinned (.plain (OpenSpec.upto judgeAgreesSpec)) judgeAgreesUptoCard

/-- THE SECOND FORM's CARD OF 'ablautlaw46.JudgeClean'. -/
def judgeCleanUptoCard : Claim7 := { stood := { row := judgeCleanUptoRow, standIns := [], harness := (true, "bfcc27ea27002729a21db6e1da7f1cd6ae01e6c9c6ecbf17947cbd9713e09ccc"), looks := true }, kinds := [], alts := [], laidByText := true, laidKinds := [.data, .data, .mapped, .pinned], laidTests := true, laidLooks := .later }
def JudgeCleanUptoCardSaid : Prop := Claim7.holds Tryz.pinned (.plain (OpenSpec.upto judgeCleanSpec)) judgeCleanUptoCard

/-- THE SECOND FORM's CARD OF 'ablautlaw46.JudgeFlaws'. -/
def judgeFlawsUptoCard : Claim7 := { stood := { row := judgeFlawsUptoRow, standIns := [], harness := (true, "bfcc27ea27002729a21db6e1da7f1cd6ae01e6c9c6ecbf17947cbd9713e09ccc"), looks := true }, kinds := [], alts := [], laidByText := true, laidKinds := [.data, .data, .mapped, .pinned], laidTests := true, laidLooks := .later }
def JudgeFlawsUptoCardSaid : Prop := Claim7.holds Tryz.pinned (.plain (OpenSpec.upto judgeFlawsSpec)) judgeFlawsUptoCard

/-- THE SECOND FORM's CARD OF 'ablautlaw46.JudgeKnown'. -/
def judgeKnownUptoCard : Claim7 := { stood := { row := judgeKnownUptoRow, standIns := [], harness := (true, "bfcc27ea27002729a21db6e1da7f1cd6ae01e6c9c6ecbf17947cbd9713e09ccc"), looks := true }, kinds := [], alts := [], laidByText := true, laidKinds := [.data, .data, .mapped, .funcs, .pinned], laidTests := true, laidLooks := .later }
def JudgeKnownUptoCardSaid : Prop := Claim7.holds Tryz.pinned (.plain (OpenSpec.upto judgeKnownSpec)) judgeKnownUptoCard

/-- THE SECOND FORM's CARD OF 'ablautlaw46.JudgeAudits'. -/
def judgeAuditsUptoCard : Claim7 := { stood := { row := judgeAuditsUptoRow, standIns := [], harness := (true, "bfcc27ea27002729a21db6e1da7f1cd6ae01e6c9c6ecbf17947cbd9713e09ccc"), looks := true }, kinds := [], alts := [], laidByText := true, laidKinds := [.data, .data, .mapped, .funcs, .pinned], laidTests := true, laidLooks := .later }
def JudgeAuditsUptoCardSaid : Prop := Claim7.holds Tryz.pinned (.plain (OpenSpec.upto judgeAuditsSpec)) judgeAuditsUptoCard
end Rows
end Go.Proofs.YtibgbgjocbaflaaGreatDoor
