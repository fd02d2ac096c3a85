/-
  DERIVED. GIVEN WITH THE SEED: THE CARDS: each row of YtehcekeccnlboaaDoorRows.lean that lists a variable, with what it lists TIED to the program's text (the seventh form; the later family's looks); each row that meets fmt, with fmt's text TOLD by the authors' own Lean function (tested against real Go, not proved from fmt's source: count such statements apart). THE CARD IS WHAT COUNTS. Prove the row's statement (the work); the ties are given (YtehcekeccnlboaaDoorTie.lean); close each card by the builder's one call (the guide's Derived/Test/ToyasCard.lean, 'card_holds'). Laid BY PROGRAM, IN A SANDBOX (cutbox-door.mjs). By AI agents, Wed Nov 11 2026. No macro, syntax, notation, axiom, sorry.
-/
import Derived.Test.YtehcekeccnlboaaDoorRows
import GoSem.ClaimSeven
namespace Go.Proofs.YtehcekeccnlboaaDoor
namespace Rows

/-- THE TIED CARD OF 'trothlaw03.ExprSame'. -/
def exprSameCard : Claim7 := { stood := { row := exprSameRow, standIns := [], harness := (true, "fb664ba62042774bf3f3f7a5c558e3e76a079831b744c089e1a6d58fa548ceb2"), looks := true }, kinds := [], alts := [], laidByText := true, laidKinds := [.data, .data, .data, .data], laidTests := true, laidLooks := .later }
def ExprSameCardSaid : Prop := Claim7.holds Tryd.pinned (.plain (OpenSpec.ofChange exprSameSpec)) exprSameCard

/-- THE TIED CARD OF 'trothlaw03.ExprTells'. -/
def exprTellsCard : Claim7 := { stood := { row := exprTellsRow, standIns := [], harness := (true, "fb664ba62042774bf3f3f7a5c558e3e76a079831b744c089e1a6d58fa548ceb2"), looks := true }, kinds := [], alts := [], laidByText := true, laidKinds := [.data, .data, .data, .data], laidTests := true, laidLooks := .later }
def ExprTellsCardSaid : Prop := Claim7.holds Tryd.pinned (.plain (OpenSpec.ofChange exprTellsSpec)) exprTellsCard

/-- THE TIED CARD OF 'trothlaw02.LexTells'. -/
def lexTellsCard : Claim7 := { stood := { row := lexTellsRow, standIns := [], harness := (true, "fb664ba62042774bf3f3f7a5c558e3e76a079831b744c089e1a6d58fa548ceb2"), looks := true }, kinds := [], alts := [], laidByText := true, laidKinds := [.data, .data, .data, .sentinel, .sentinel], laidTests := true, laidLooks := .later }
def LexTellsCardSaid : Prop := Claim7.holds Tryd.pinned (.plain (OpenSpec.ofChange lexTellsSpec)) lexTellsCard

/-- THE TIED CARD OF 'trothlaw02.LexBack'. -/
def lexBackCard : Claim7 := { stood := { row := lexBackRow, standIns := [], harness := (true, "fb664ba62042774bf3f3f7a5c558e3e76a079831b744c089e1a6d58fa548ceb2"), looks := true }, kinds := [], alts := [], laidByText := true, laidKinds := [.data, .data, .data, .sentinel, .sentinel], laidTests := true, laidLooks := .later }
def LexBackCardSaid : Prop := Claim7.holds Tryd.pinned (.plain (OpenSpec.ofChange lexBackSpec)) lexBackCard

/-- THE TIED CARD OF 'trothlaw02.LexLimits'. -/
def lexLimitsCard : Claim7 := { stood := { row := lexLimitsRow, standIns := [], harness := (true, "fb664ba62042774bf3f3f7a5c558e3e76a079831b744c089e1a6d58fa548ceb2"), looks := true }, kinds := [], alts := [], laidByText := true, laidKinds := [.data, .data, .data, .sentinel, .sentinel], laidTests := true, laidLooks := .later }
def LexLimitsCardSaid : Prop := Claim7.holds Tryd.pinned (.plain (OpenSpec.ofChange lexLimitsSpec)) lexLimitsCard

/-- THE TIED CARD OF 'trothlaw04.ProgModes'. -/
def progModesCard : Claim7 := { stood := { row := progModesRow, standIns := [], harness := (true, "fb664ba62042774bf3f3f7a5c558e3e76a079831b744c089e1a6d58fa548ceb2"), looks := true }, kinds := [], alts := [], laidByText := true, laidKinds := [.data, .data, .data, .data, .data], laidTests := true, laidLooks := .later }
def ProgModesCardSaid : Prop := Claim7.holds Tryd.pinned (.plain (OpenSpec.ofChange progModesSpec)) progModesCard

/-- THE TIED CARD OF 'trothlaw04.ProgUnlike'. -/
def progUnlikeCard : Claim7 := { stood := { row := progUnlikeRow, standIns := [], harness := (true, "fb664ba62042774bf3f3f7a5c558e3e76a079831b744c089e1a6d58fa548ceb2"), looks := true }, kinds := [], alts := [], laidByText := true, laidKinds := [.data, .data, .data, .data, .data], laidTests := true, laidLooks := .later }
def ProgUnlikeCardSaid : Prop := Claim7.holds Tryd.pinned (.plain (OpenSpec.ofChange progUnlikeSpec)) progUnlikeCard

/-- THE SECOND FORM's CARD OF 'trothlaw03.ExprSame'. -/
def exprSameUptoCard : Claim7 := { stood := { row := exprSameUptoRow, standIns := [], harness := (true, "fb664ba62042774bf3f3f7a5c558e3e76a079831b744c089e1a6d58fa548ceb2"), looks := true }, kinds := [], alts := [], laidByText := true, laidKinds := [.data, .data, .data, .data], laidTests := true, laidLooks := .later }
def ExprSameUptoCardSaid : Prop := Claim7.holds Tryd.pinned (.plain (OpenSpec.upto exprSameSpec)) exprSameUptoCard

/-- THE SECOND FORM's CARD OF 'trothlaw03.ExprTells'. -/
def exprTellsUptoCard : Claim7 := { stood := { row := exprTellsUptoRow, standIns := [], harness := (true, "fb664ba62042774bf3f3f7a5c558e3e76a079831b744c089e1a6d58fa548ceb2"), looks := true }, kinds := [], alts := [], laidByText := true, laidKinds := [.data, .data, .data, .data], laidTests := true, laidLooks := .later }
def ExprTellsUptoCardSaid : Prop := Claim7.holds Tryd.pinned (.plain (OpenSpec.upto exprTellsSpec)) exprTellsUptoCard

/-- THE SECOND FORM's CARD OF 'trothlaw02.LexTells'. -/
def lexTellsUptoCard : Claim7 := { stood := { row := lexTellsUptoRow, standIns := [], harness := (true, "fb664ba62042774bf3f3f7a5c558e3e76a079831b744c089e1a6d58fa548ceb2"), looks := true }, kinds := [], alts := [], laidByText := true, laidKinds := [.data, .data, .data, .sentinel, .sentinel], laidTests := true, laidLooks := .later }
def LexTellsUptoCardSaid : Prop := Claim7.holds Tryd.pinned (.plain (OpenSpec.upto lexTellsSpec)) lexTellsUptoCard

/-- THE SECOND FORM's CARD OF 'trothlaw02.LexBack'. -/
def lexBackUptoCard : Claim7 := { stood := { row := lexBackUptoRow, standIns := [], harness := (true, "fb664ba62042774bf3f3f7a5c558e3e76a079831b744c089e1a6d58fa548ceb2"), looks := true }, kinds := [], alts := [], laidByText := true, laidKinds := [.data, .data, .data, .sentinel, .sentinel], laidTests := true, laidLooks := .later }
def LexBackUptoCardSaid : Prop := Claim7.holds Tryd.pinned (.plain (OpenSpec.upto lexBackSpec)) lexBackUptoCard

/-- THE SECOND FORM's CARD OF 'trothlaw02.LexLimits'. -/
def lexLimitsUptoCard : Claim7 := { stood := { row := lexLimitsUptoRow, standIns := [], harness := (true, "fb664ba62042774bf3f3f7a5c558e3e76a079831b744c089e1a6d58fa548ceb2"), looks := true }, kinds := [], alts := [], laidByText := true, laidKinds := [.data, .data, .data, .sentinel, .sentinel], laidTests := true, laidLooks := .later }
def LexLimitsUptoCardSaid : Prop := Claim7.holds Tryd.pinned (.plain (OpenSpec.upto lexLimitsSpec)) lexLimitsUptoCard

/-- THE SECOND FORM's CARD OF 'trothlaw04.ProgModes'. -/
def progModesUptoCard : Claim7 := { stood := { row := progModesUptoRow, standIns := [], harness := (true, "fb664ba62042774bf3f3f7a5c558e3e76a079831b744c089e1a6d58fa548ceb2"), looks := true }, kinds := [], alts := [], laidByText := true, laidKinds := [.data, .data, .data, .data, .data], laidTests := true, laidLooks := .later }
def ProgModesUptoCardSaid : Prop := Claim7.holds Tryd.pinned (.plain (OpenSpec.upto progModesSpec)) progModesUptoCard

/-- THE SECOND FORM's CARD OF 'trothlaw04.ProgUnlike'. -/
def progUnlikeUptoCard : Claim7 := { stood := { row := progUnlikeUptoRow, standIns := [], harness := (true, "fb664ba62042774bf3f3f7a5c558e3e76a079831b744c089e1a6d58fa548ceb2"), looks := true }, kinds := [], alts := [], laidByText := true, laidKinds := [.data, .data, .data, .data, .data], laidTests := true, laidLooks := .later }
def ProgUnlikeUptoCardSaid : Prop := Claim7.holds Tryd.pinned (.plain (OpenSpec.upto progUnlikeSpec)) progUnlikeUptoCard
end Rows
end Go.Proofs.YtehcekeccnlboaaDoor
