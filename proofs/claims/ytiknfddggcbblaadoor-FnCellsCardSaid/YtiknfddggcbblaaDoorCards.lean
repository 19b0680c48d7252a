/-
  DERIVED. GIVEN WITH THE SEED: THE CARDS: each row of YtiknfddggcbblaaDoorRows.lean that lists a variable, with what it lists TIED to the program's text (the seventh form; the later family's looks); each row that meets fmt, with fmt's text TOLD by the authors' own Lean function (tested against real Go, not proved from fmt's source: count such statements apart). THE CARD IS WHAT COUNTS. Prove the row's statement (the work); the ties are given (YtiknfddggcbblaaDoorTie.lean); close each card by the builder's one call (the guide's Derived/Test/ToyasCard.lean, 'card_holds'). Laid BY PROGRAM, IN A SANDBOX (cutbox-door.mjs). By AI agents, Wed Nov 11 2026. No macro, syntax, notation, axiom, sorry.
-/
import Derived.Test.YtiknfddggcbblaaDoorRows
import GoSem.ClaimSeven
namespace Go.Proofs.YtiknfddggcbblaaDoor
namespace Rows

/-- THE TIED CARD OF 'laws.FnExactReadMat'. -/
def fnExactReadMatCard : Claim7 := { stood := { row := fnExactReadMatRow, standIns := [], harness := (true, "e0ce75883fb450858113f14e13e70ce673722728c76963c0621449598a251546"), looks := true }, kinds := [], alts := [], laidByText := true, laidKinds := [.data, .data, .data, .data, .sentinel, .sentinel, .pinned], laidTests := true, laidLooks := .later }
def FnExactReadMatCardSaid : Prop := Claim7.holds Tryd.pinned (.plain (OpenSpec.ofChange fnExactReadMatSpec)) fnExactReadMatCard

/-- THE TIED CARD OF 'laws.FnVecTexts'. -/
def fnVecTextsCard : Claim7 := { stood := { row := fnVecTextsRow, standIns := [], harness := (true, "e0ce75883fb450858113f14e13e70ce673722728c76963c0621449598a251546"), looks := true }, kinds := [], alts := [], laidByText := true, laidKinds := [.data, .data, .data, .data, .sentinel, .sentinel, .pinned], laidTests := true, laidLooks := .later }
def FnVecTextsCardSaid : Prop := Claim7.holds Tryd.pinned (.plain (OpenSpec.ofChange fnVecTextsSpec)) fnVecTextsCard

/-- THE TIED CARD OF 'laws.FnCells'. -/
def fnCellsCard : Claim7 := { stood := { row := fnCellsRow, standIns := [], harness := (true, "e0ce75883fb450858113f14e13e70ce673722728c76963c0621449598a251546"), looks := true }, kinds := [], alts := [], laidByText := true, laidKinds := [.data, .data, .data, .data, .sentinel, .sentinel, .pinned], laidTests := true, laidLooks := .later }
def FnCellsCardSaid : Prop := Claim7.holds Tryd.pinned (.plain (OpenSpec.ofChange fnCellsSpec)) fnCellsCard

/-- THE TIED CARD OF 'laws.FnExactVecText'. -/
def fnExactVecTextCard : Claim7 := { stood := { row := fnExactVecTextRow, standIns := [], harness := (true, "e0ce75883fb450858113f14e13e70ce673722728c76963c0621449598a251546"), looks := true }, kinds := [], alts := [], laidByText := true, laidKinds := [.data, .data, .data], laidTests := true, laidLooks := .later }
def FnExactVecTextCardSaid : Prop := Claim7.holds Tryd.pinned (.plain (OpenSpec.ofChange fnExactVecTextSpec)) fnExactVecTextCard

/-- THE TIED CARD OF 'laws.FnExactLatticeText'. -/
def fnExactLatticeTextCard : Claim7 := { stood := { row := fnExactLatticeTextRow, standIns := [], harness := (true, "e0ce75883fb450858113f14e13e70ce673722728c76963c0621449598a251546"), looks := true }, kinds := [], alts := [], laidByText := true, laidKinds := [.data, .data, .data], laidTests := true, laidLooks := .later }
def FnExactLatticeTextCardSaid : Prop := Claim7.holds Tryd.pinned (.plain (OpenSpec.ofChange fnExactLatticeTextSpec)) fnExactLatticeTextCard

/-- THE TIED CARD OF 'laws.FnExactMatText'. -/
def fnExactMatTextCard : Claim7 := { stood := { row := fnExactMatTextRow, standIns := [], harness := (true, "e0ce75883fb450858113f14e13e70ce673722728c76963c0621449598a251546"), looks := true }, kinds := [], alts := [], laidByText := true, laidKinds := [.data, .data, .data], laidTests := true, laidLooks := .later }
def FnExactMatTextCardSaid : Prop := Claim7.holds Tryd.pinned (.plain (OpenSpec.ofChange fnExactMatTextSpec)) fnExactMatTextCard

/-- THE TIED CARD OF 'laws.FnExactReadVec'. -/
def fnExactReadVecCard : Claim7 := { stood := { row := fnExactReadVecRow, standIns := [], harness := (true, "e0ce75883fb450858113f14e13e70ce673722728c76963c0621449598a251546"), looks := true }, kinds := [], alts := [], laidByText := true, laidKinds := [.data, .data, .data, .data, .sentinel, .sentinel, .pinned], laidTests := true, laidLooks := .later }
def FnExactReadVecCardSaid : Prop := Claim7.holds Tryd.pinned (.plain (OpenSpec.ofChange fnExactReadVecSpec)) fnExactReadVecCard

/-- THE TIED CARD OF 'laws.FnExactReadLattice'. -/
def fnExactReadLatticeCard : Claim7 := { stood := { row := fnExactReadLatticeRow, standIns := [], harness := (true, "e0ce75883fb450858113f14e13e70ce673722728c76963c0621449598a251546"), looks := true }, kinds := [], alts := [], laidByText := true, laidKinds := [.data, .data, .data, .data, .sentinel, .sentinel, .pinned], laidTests := true, laidLooks := .later }
def FnExactReadLatticeCardSaid : Prop := Claim7.holds Tryd.pinned (.plain (OpenSpec.ofChange fnExactReadLatticeSpec)) fnExactReadLatticeCard

/-- THE SECOND FORM's CARD OF 'laws.FnExactReadMat'. -/
def fnExactReadMatUptoCard : Claim7 := { stood := { row := fnExactReadMatUptoRow, standIns := [], harness := (true, "e0ce75883fb450858113f14e13e70ce673722728c76963c0621449598a251546"), looks := true }, kinds := [], alts := [], laidByText := true, laidKinds := [.data, .data, .data, .data, .sentinel, .sentinel, .pinned], laidTests := true, laidLooks := .later }
def FnExactReadMatUptoCardSaid : Prop := Claim7.holds Tryd.pinned (.plain (OpenSpec.upto fnExactReadMatSpec)) fnExactReadMatUptoCard

/-- THE SECOND FORM's CARD OF 'laws.FnVecTexts'. -/
def fnVecTextsUptoCard : Claim7 := { stood := { row := fnVecTextsUptoRow, standIns := [], harness := (true, "e0ce75883fb450858113f14e13e70ce673722728c76963c0621449598a251546"), looks := true }, kinds := [], alts := [], laidByText := true, laidKinds := [.data, .data, .data, .data, .sentinel, .sentinel, .pinned], laidTests := true, laidLooks := .later }
def FnVecTextsUptoCardSaid : Prop := Claim7.holds Tryd.pinned (.plain (OpenSpec.upto fnVecTextsSpec)) fnVecTextsUptoCard

/-- THE SECOND FORM's CARD OF 'laws.FnCells'. -/
def fnCellsUptoCard : Claim7 := { stood := { row := fnCellsUptoRow, standIns := [], harness := (true, "e0ce75883fb450858113f14e13e70ce673722728c76963c0621449598a251546"), looks := true }, kinds := [], alts := [], laidByText := true, laidKinds := [.data, .data, .data, .data, .sentinel, .sentinel, .pinned], laidTests := true, laidLooks := .later }
def FnCellsUptoCardSaid : Prop := Claim7.holds Tryd.pinned (.plain (OpenSpec.upto fnCellsSpec)) fnCellsUptoCard

/-- THE SECOND FORM's CARD OF 'laws.FnExactVecText'. -/
def fnExactVecTextUptoCard : Claim7 := { stood := { row := fnExactVecTextUptoRow, standIns := [], harness := (true, "e0ce75883fb450858113f14e13e70ce673722728c76963c0621449598a251546"), looks := true }, kinds := [], alts := [], laidByText := true, laidKinds := [.data, .data, .data], laidTests := true, laidLooks := .later }
def FnExactVecTextUptoCardSaid : Prop := Claim7.holds Tryd.pinned (.plain (OpenSpec.upto fnExactVecTextSpec)) fnExactVecTextUptoCard

/-- THE SECOND FORM's CARD OF 'laws.FnExactLatticeText'. -/
def fnExactLatticeTextUptoCard : Claim7 := { stood := { row := fnExactLatticeTextUptoRow, standIns := [], harness := (true, "e0ce75883fb450858113f14e13e70ce673722728c76963c0621449598a251546"), looks := true }, kinds := [], alts := [], laidByText := true, laidKinds := [.data, .data, .data], laidTests := true, laidLooks := .later }
def FnExactLatticeTextUptoCardSaid : Prop := Claim7.holds Tryd.pinned (.plain (OpenSpec.upto fnExactLatticeTextSpec)) fnExactLatticeTextUptoCard

/-- THE SECOND FORM's CARD OF 'laws.FnExactMatText'. -/
def fnExactMatTextUptoCard : Claim7 := { stood := { row := fnExactMatTextUptoRow, standIns := [], harness := (true, "e0ce75883fb450858113f14e13e70ce673722728c76963c0621449598a251546"), looks := true }, kinds := [], alts := [], laidByText := true, laidKinds := [.data, .data, .data], laidTests := true, laidLooks := .later }
def FnExactMatTextUptoCardSaid : Prop := Claim7.holds Tryd.pinned (.plain (OpenSpec.upto fnExactMatTextSpec)) fnExactMatTextUptoCard

/-- THE SECOND FORM's CARD OF 'laws.FnExactReadVec'. -/
def fnExactReadVecUptoCard : Claim7 := { stood := { row := fnExactReadVecUptoRow, standIns := [], harness := (true, "e0ce75883fb450858113f14e13e70ce673722728c76963c0621449598a251546"), looks := true }, kinds := [], alts := [], laidByText := true, laidKinds := [.data, .data, .data, .data, .sentinel, .sentinel, .pinned], laidTests := true, laidLooks := .later }
def FnExactReadVecUptoCardSaid : Prop := Claim7.holds Tryd.pinned (.plain (OpenSpec.upto fnExactReadVecSpec)) fnExactReadVecUptoCard

/-- THE SECOND FORM's CARD OF 'laws.FnExactReadLattice'. -/
def fnExactReadLatticeUptoCard : Claim7 := { stood := { row := fnExactReadLatticeUptoRow, standIns := [], harness := (true, "e0ce75883fb450858113f14e13e70ce673722728c76963c0621449598a251546"), looks := true }, kinds := [], alts := [], laidByText := true, laidKinds := [.data, .data, .data, .data, .sentinel, .sentinel, .pinned], laidTests := true, laidLooks := .later }
def FnExactReadLatticeUptoCardSaid : Prop := Claim7.holds Tryd.pinned (.plain (OpenSpec.upto fnExactReadLatticeSpec)) fnExactReadLatticeUptoCard
end Rows
end Go.Proofs.YtiknfddggcbblaaDoor
