/-
  DERIVED. GIVEN WITH THE SEED: THE CARDS: each row of YtojkhldombndpaaGreatDoorRows.lean that lists a variable, with what it lists TIED to the program's text (the seventh form; the later family's looks); each row that meets fmt, with fmt's text TOLD by the authors' own Lean function (tested against real Go, not proved from fmt's source: count such statements apart). THE CARD IS WHAT COUNTS. Prove the row's statement (the work); the ties are given (YtojkhldombndpaaGreatDoorTie.lean); close each card by the builder's one call (the guide's Derived/Test/ToyasCard.lean, 'card_holds'). Laid BY PROGRAM, IN A SANDBOX (cutbox-door.mjs). By AI agents, Wed Nov 11 2026. No macro, syntax, notation, axiom, sorry.
-/
import Derived.Test.YtojkhldombndpaaGreatDoorRows
import GoSem.ClaimSeven
namespace Go.Proofs.YtojkhldombndpaaGreatDoor
namespace Rows

/-- THE TIED CARD OF 'nacelletop.TopHawseMeasured'. -/
def topHawseMeasuredCard : Claim7 := { stood := { row := topHawseMeasuredRow, standIns := [], harness := (true, "6822e6c6afe26ba0ca53e3fc2f6a776f90c2b087a2a03b097838335f038f4aa8"), looks := true }, kinds := [], alts := [], laidByText := true, laidKinds := [.data], laidTests := true, laidLooks := .later }
def TopHawseMeasuredCardSaid : Prop := Claim7.holds Tryz.pinned (.plain (OpenSpec.ofChange topHawseMeasuredSpec)) topHawseMeasuredCard

/-- THE TIED CARD OF 'nacellelaw02.WakePowers'. -/
def wakePowersCard : Claim7 := { stood := { row := wakePowersRow, standIns := [], harness := (true, "6822e6c6afe26ba0ca53e3fc2f6a776f90c2b087a2a03b097838335f038f4aa8"), looks := true }, kinds := [], alts := [], laidByText := true, laidKinds := [.data, .data, .data, .data], laidTests := true, laidLooks := .later }
def WakePowersCardSaid : Prop := Claim7.holds Tryz.pinned (.plain (OpenSpec.ofChange wakePowersSpec)) wakePowersCard

/-- THE TIED CARD OF 'nacellelaw02.WakePlans'. -/
def wakePlansCard : Claim7 := { stood := { row := wakePlansRow, standIns := [], harness := (true, "6822e6c6afe26ba0ca53e3fc2f6a776f90c2b087a2a03b097838335f038f4aa8"), looks := true }, kinds := [], alts := [], laidByText := true, laidKinds := [.data, .data, .data, .data], laidTests := true, laidLooks := .later }
def WakePlansCardSaid : Prop := Claim7.holds Tryz.pinned (.plain (OpenSpec.ofChange wakePlansSpec)) wakePlansCard

/-- THE TIED CARD OF 'nacellelaw02.WakeBounds'. -/
def wakeBoundsCard : Claim7 := { stood := { row := wakeBoundsRow, standIns := [], harness := (true, "6822e6c6afe26ba0ca53e3fc2f6a776f90c2b087a2a03b097838335f038f4aa8"), looks := true }, kinds := [], alts := [], laidByText := true, laidKinds := [.data, .data, .data, .data], laidTests := true, laidLooks := .later }
def WakeBoundsCardSaid : Prop := Claim7.holds Tryz.pinned (.plain (OpenSpec.ofChange wakeBoundsSpec)) wakeBoundsCard

/-- THE TIED CARD OF 'nacellelaw02.WakeChoices'. -/
def wakeChoicesCard : Claim7 := { stood := { row := wakeChoicesRow, standIns := [], harness := (true, "6822e6c6afe26ba0ca53e3fc2f6a776f90c2b087a2a03b097838335f038f4aa8"), looks := true }, kinds := [], alts := [], laidByText := true, laidKinds := [.data, .data, .data, .data], laidTests := true, laidLooks := .later }
def WakeChoicesCardSaid : Prop := Claim7.holds Tryz.pinned (.plain (OpenSpec.ofChange wakeChoicesSpec)) wakeChoicesCard

/-- THE TIED CARD OF 'nacelletop.TopBuoyFed'. -/
def topBuoyFedCard : Claim7 := { stood := { row := topBuoyFedRow, standIns := [], harness := (true, "6822e6c6afe26ba0ca53e3fc2f6a776f90c2b087a2a03b097838335f038f4aa8"), looks := true }, kinds := [], alts := [], laidByText := true, laidKinds := [.data], laidTests := true, laidLooks := .later }
def TopBuoyFedCardSaid : Prop := Claim7.holds Tryz.pinned (.plain (OpenSpec.ofChange topBuoyFedSpec)) topBuoyFedCard

/-- THE TIED CARD OF 'nacellelaw02.WakeRelations'. -/
def wakeRelationsCard : Claim7 := { stood := { row := wakeRelationsRow, standIns := [], harness := (true, "6822e6c6afe26ba0ca53e3fc2f6a776f90c2b087a2a03b097838335f038f4aa8"), looks := true }, kinds := [], alts := [], laidByText := true, laidKinds := [.data, .data, .data, .data], laidTests := true, laidLooks := .later }
def WakeRelationsCardSaid : Prop := Claim7.holds Tryz.pinned (.plain (OpenSpec.ofChange wakeRelationsSpec)) wakeRelationsCard

/-- THE TIED CARD OF 'nacellelaw02.WakeDeficits'. -/
def wakeDeficitsCard : Claim7 := { stood := { row := wakeDeficitsRow, standIns := [], harness := (true, "6822e6c6afe26ba0ca53e3fc2f6a776f90c2b087a2a03b097838335f038f4aa8"), looks := true }, kinds := [], alts := [], laidByText := true, laidKinds := [.data, .data, .data, .data], laidTests := true, laidLooks := .later }
def WakeDeficitsCardSaid : Prop := Claim7.holds Tryz.pinned (.plain (OpenSpec.ofChange wakeDeficitsSpec)) wakeDeficitsCard

/-- THE TIED CARD OF 'nacellelaw02.WakeEnergies'. -/
def wakeEnergiesCard : Claim7 := { stood := { row := wakeEnergiesRow, standIns := [], harness := (true, "6822e6c6afe26ba0ca53e3fc2f6a776f90c2b087a2a03b097838335f038f4aa8"), looks := true }, kinds := [], alts := [], laidByText := true, laidKinds := [.data, .data, .data, .data], laidTests := true, laidLooks := .later }
def WakeEnergiesCardSaid : Prop := Claim7.holds Tryz.pinned (.plain (OpenSpec.ofChange wakeEnergiesSpec)) wakeEnergiesCard

/-- THE TIED CARD OF 'nacellelaw02.WakeTurns'. -/
def wakeTurnsCard : Claim7 := { stood := { row := wakeTurnsRow, standIns := [], harness := (true, "6822e6c6afe26ba0ca53e3fc2f6a776f90c2b087a2a03b097838335f038f4aa8"), looks := true }, kinds := [], alts := [], laidByText := true, laidKinds := [.data, .data, .data, .data], laidTests := true, laidLooks := .later }
def WakeTurnsCardSaid : Prop := Claim7.holds Tryz.pinned (.plain (OpenSpec.ofChange wakeTurnsSpec)) wakeTurnsCard

/-- THE TIED CARD OF 'nacellelaw02.WakeLess'. -/
def wakeLessCard : Claim7 := { stood := { row := wakeLessRow, standIns := [], harness := (true, "6822e6c6afe26ba0ca53e3fc2f6a776f90c2b087a2a03b097838335f038f4aa8"), looks := true }, kinds := [], alts := [], laidByText := true, laidKinds := [.data, .data, .data, .data], laidTests := true, laidLooks := .later }
def WakeLessCardSaid : Prop := Claim7.holds Tryz.pinned (.plain (OpenSpec.ofChange wakeLessSpec)) wakeLessCard

/-- THE TIED CARD OF 'nacellelaw02.WakeMoves'. -/
def wakeMovesCard : Claim7 := { stood := { row := wakeMovesRow, standIns := [], harness := (true, "6822e6c6afe26ba0ca53e3fc2f6a776f90c2b087a2a03b097838335f038f4aa8"), looks := true }, kinds := [], alts := [], laidByText := true, laidKinds := [.data, .data, .data, .data], laidTests := true, laidLooks := .later }
def WakeMovesCardSaid : Prop := Claim7.holds Tryz.pinned (.plain (OpenSpec.ofChange wakeMovesSpec)) wakeMovesCard

/-- THE TIED CARD OF 'nacellelaw02.WakeImproves'. -/
def wakeImprovesCard : Claim7 := { stood := { row := wakeImprovesRow, standIns := [], harness := (true, "6822e6c6afe26ba0ca53e3fc2f6a776f90c2b087a2a03b097838335f038f4aa8"), looks := true }, kinds := [], alts := [], laidByText := true, laidKinds := [.data, .data, .data, .data], laidTests := true, laidLooks := .later }
def WakeImprovesCardSaid : Prop := Claim7.holds Tryz.pinned (.plain (OpenSpec.ofChange wakeImprovesSpec)) wakeImprovesCard

/-- THE TIED CARD OF 'nacellelaw02.WakeSteps'. -/
def wakeStepsCard : Claim7 := { stood := { row := wakeStepsRow, standIns := [], harness := (true, "6822e6c6afe26ba0ca53e3fc2f6a776f90c2b087a2a03b097838335f038f4aa8"), looks := true }, kinds := [], alts := [], laidByText := true, laidKinds := [.data, .data, .data, .data], laidTests := true, laidLooks := .later }
def WakeStepsCardSaid : Prop := Claim7.holds Tryz.pinned (.plain (OpenSpec.ofChange wakeStepsSpec)) wakeStepsCard

/-- THE TIED CARD OF 'nacellelaw02.WakeCurves'. -/
def wakeCurvesCard : Claim7 := { stood := { row := wakeCurvesRow, standIns := [], harness := (true, "6822e6c6afe26ba0ca53e3fc2f6a776f90c2b087a2a03b097838335f038f4aa8"), looks := true }, kinds := [], alts := [], laidByText := true, laidKinds := [.data, .data, .data, .data, .sentinel, .sentinel, .data, .pinned], laidTests := true, laidLooks := .later }
def WakeCurvesCardSaid : Prop := Claim7.holds Tryz.pinned (.plain (OpenSpec.ofChange wakeCurvesSpec)) wakeCurvesCard

/-- THE TIED CARD OF 'nacellelaw02.WakeBack'. -/
def wakeBackCard : Claim7 := { stood := { row := wakeBackRow, standIns := [], harness := (true, "6822e6c6afe26ba0ca53e3fc2f6a776f90c2b087a2a03b097838335f038f4aa8"), looks := true }, kinds := [], alts := [], laidByText := true, laidKinds := [.data, .data, .data, .data, .sentinel, .sentinel, .data, .pinned], laidTests := true, laidLooks := .later }
def WakeBackCardSaid : Prop := Claim7.holds Tryz.pinned (.plain (OpenSpec.ofChange wakeBackSpec)) wakeBackCard

/-- THE TIED CARD OF 'nacelletop.TopHawseTurned'. -/
def topHawseTurnedCard : Claim7 := { stood := { row := topHawseTurnedRow, standIns := [], harness := (true, "6822e6c6afe26ba0ca53e3fc2f6a776f90c2b087a2a03b097838335f038f4aa8"), looks := true }, kinds := [], alts := [], laidByText := true, laidKinds := [.data, .data, .data, .data, .sentinel, .sentinel, .data, .pinned], laidTests := true, laidLooks := .later }
def TopHawseTurnedCardSaid : Prop := Claim7.holds Tryz.pinned (.plain (OpenSpec.ofChange topHawseTurnedSpec)) topHawseTurnedCard

/-- THE SECOND FORM's CARD OF 'nacelletop.TopHawseMeasured'. -/
def topHawseMeasuredUptoCard : Claim7 := { stood := { row := topHawseMeasuredUptoRow, standIns := [], harness := (true, "6822e6c6afe26ba0ca53e3fc2f6a776f90c2b087a2a03b097838335f038f4aa8"), looks := true }, kinds := [], alts := [], laidByText := true, laidKinds := [.data], laidTests := true, laidLooks := .later }
def TopHawseMeasuredUptoCardSaid : Prop := Claim7.holds Tryz.pinned (.plain (OpenSpec.upto topHawseMeasuredSpec)) topHawseMeasuredUptoCard

/-- THE SECOND FORM's CARD OF 'nacellelaw02.WakePowers'. -/
def wakePowersUptoCard : Claim7 := { stood := { row := wakePowersUptoRow, standIns := [], harness := (true, "6822e6c6afe26ba0ca53e3fc2f6a776f90c2b087a2a03b097838335f038f4aa8"), looks := true }, kinds := [], alts := [], laidByText := true, laidKinds := [.data, .data, .data, .data], laidTests := true, laidLooks := .later }
def WakePowersUptoCardSaid : Prop := Claim7.holds Tryz.pinned (.plain (OpenSpec.upto wakePowersSpec)) wakePowersUptoCard

/-- THE SECOND FORM's CARD OF 'nacellelaw02.WakePlans'. -/
def wakePlansUptoCard : Claim7 := { stood := { row := wakePlansUptoRow, standIns := [], harness := (true, "6822e6c6afe26ba0ca53e3fc2f6a776f90c2b087a2a03b097838335f038f4aa8"), looks := true }, kinds := [], alts := [], laidByText := true, laidKinds := [.data, .data, .data, .data], laidTests := true, laidLooks := .later }
def WakePlansUptoCardSaid : Prop := Claim7.holds Tryz.pinned (.plain (OpenSpec.upto wakePlansSpec)) wakePlansUptoCard

/-- THE SECOND FORM's CARD OF 'nacellelaw02.WakeBounds'. -/
def wakeBoundsUptoCard : Claim7 := { stood := { row := wakeBoundsUptoRow, standIns := [], harness := (true, "6822e6c6afe26ba0ca53e3fc2f6a776f90c2b087a2a03b097838335f038f4aa8"), looks := true }, kinds := [], alts := [], laidByText := true, laidKinds := [.data, .data, .data, .data], laidTests := true, laidLooks := .later }
def WakeBoundsUptoCardSaid : Prop := Claim7.holds Tryz.pinned (.plain (OpenSpec.upto wakeBoundsSpec)) wakeBoundsUptoCard

/-- THE SECOND FORM's CARD OF 'nacellelaw02.WakeChoices'. -/
def wakeChoicesUptoCard : Claim7 := { stood := { row := wakeChoicesUptoRow, standIns := [], harness := (true, "6822e6c6afe26ba0ca53e3fc2f6a776f90c2b087a2a03b097838335f038f4aa8"), looks := true }, kinds := [], alts := [], laidByText := true, laidKinds := [.data, .data, .data, .data], laidTests := true, laidLooks := .later }
def WakeChoicesUptoCardSaid : Prop := Claim7.holds Tryz.pinned (.plain (OpenSpec.upto wakeChoicesSpec)) wakeChoicesUptoCard

/-- THE SECOND FORM's CARD OF 'nacelletop.TopBuoyFed'. -/
def topBuoyFedUptoCard : Claim7 := { stood := { row := topBuoyFedUptoRow, standIns := [], harness := (true, "6822e6c6afe26ba0ca53e3fc2f6a776f90c2b087a2a03b097838335f038f4aa8"), looks := true }, kinds := [], alts := [], laidByText := true, laidKinds := [.data], laidTests := true, laidLooks := .later }
def TopBuoyFedUptoCardSaid : Prop := Claim7.holds Tryz.pinned (.plain (OpenSpec.upto topBuoyFedSpec)) topBuoyFedUptoCard

/-- THE SECOND FORM's CARD OF 'nacellelaw02.WakeRelations'. -/
def wakeRelationsUptoCard : Claim7 := { stood := { row := wakeRelationsUptoRow, standIns := [], harness := (true, "6822e6c6afe26ba0ca53e3fc2f6a776f90c2b087a2a03b097838335f038f4aa8"), looks := true }, kinds := [], alts := [], laidByText := true, laidKinds := [.data, .data, .data, .data], laidTests := true, laidLooks := .later }
def WakeRelationsUptoCardSaid : Prop := Claim7.holds Tryz.pinned (.plain (OpenSpec.upto wakeRelationsSpec)) wakeRelationsUptoCard

/-- THE SECOND FORM's CARD OF 'nacellelaw02.WakeDeficits'. -/
def wakeDeficitsUptoCard : Claim7 := { stood := { row := wakeDeficitsUptoRow, standIns := [], harness := (true, "6822e6c6afe26ba0ca53e3fc2f6a776f90c2b087a2a03b097838335f038f4aa8"), looks := true }, kinds := [], alts := [], laidByText := true, laidKinds := [.data, .data, .data, .data], laidTests := true, laidLooks := .later }
def WakeDeficitsUptoCardSaid : Prop := Claim7.holds Tryz.pinned (.plain (OpenSpec.upto wakeDeficitsSpec)) wakeDeficitsUptoCard

/-- THE SECOND FORM's CARD OF 'nacellelaw02.WakeEnergies'. -/
def wakeEnergiesUptoCard : Claim7 := { stood := { row := wakeEnergiesUptoRow, standIns := [], harness := (true, "6822e6c6afe26ba0ca53e3fc2f6a776f90c2b087a2a03b097838335f038f4aa8"), looks := true }, kinds := [], alts := [], laidByText := true, laidKinds := [.data, .data, .data, .data], laidTests := true, laidLooks := .later }
def WakeEnergiesUptoCardSaid : Prop := Claim7.holds Tryz.pinned (.plain (OpenSpec.upto wakeEnergiesSpec)) wakeEnergiesUptoCard

/-- THE SECOND FORM's CARD OF 'nacellelaw02.WakeTurns'. -/
def wakeTurnsUptoCard : Claim7 := { stood := { row := wakeTurnsUptoRow, standIns := [], harness := (true, "6822e6c6afe26ba0ca53e3fc2f6a776f90c2b087a2a03b097838335f038f4aa8"), looks := true }, kinds := [], alts := [], laidByText := true, laidKinds := [.data, .data, .data, .data], laidTests := true, laidLooks := .later }
def WakeTurnsUptoCardSaid : Prop := Claim7.holds Tryz.pinned (.plain (OpenSpec.upto wakeTurnsSpec)) wakeTurnsUptoCard

/-- THE SECOND FORM's CARD OF 'nacellelaw02.WakeLess'. -/
def wakeLessUptoCard : Claim7 := { stood := { row := wakeLessUptoRow, standIns := [], harness := (true, "6822e6c6afe26ba0ca53e3fc2f6a776f90c2b087a2a03b097838335f038f4aa8"), looks := true }, kinds := [], alts := [], laidByText := true, laidKinds := [.data, .data, .data, .data], laidTests := true, laidLooks := .later }
def WakeLessUptoCardSaid : Prop := Claim7.holds Tryz.pinned (.plain (OpenSpec.upto wakeLessSpec)) wakeLessUptoCard

/-- THE SECOND FORM's CARD OF 'nacellelaw02.WakeMoves'. -/
def wakeMovesUptoCard : Claim7 := { stood := { row := wakeMovesUptoRow, standIns := [], harness := (true, "6822e6c6afe26ba0ca53e3fc2f6a776f90c2b087a2a03b097838335f038f4aa8"), looks := true }, kinds := [], alts := [], laidByText := true, laidKinds := [.data, .data, .data, .data], laidTests := true, laidLooks := .later }
def WakeMovesUptoCardSaid : Prop := Claim7.holds Tryz.pinned (.plain (OpenSpec.upto wakeMovesSpec)) wakeMovesUptoCard

/-- THE SECOND FORM's CARD OF 'nacellelaw02.WakeImproves'. -/
def wakeImprovesUptoCard : Claim7 := { stood := { row := wakeImprovesUptoRow, standIns := [], harness := (true, "6822e6c6afe26ba0ca53e3fc2f6a776f90c2b087a2a03b097838335f038f4aa8"), looks := true }, kinds := [], alts := [], laidByText := true, laidKinds := [.data, .data, .data, .data], laidTests := true, laidLooks := .later }
def WakeImprovesUptoCardSaid : Prop := Claim7.holds Tryz.pinned (.plain (OpenSpec.upto wakeImprovesSpec)) wakeImprovesUptoCard

/-- THE SECOND FORM's CARD OF 'nacellelaw02.WakeSteps'. -/
def wakeStepsUptoCard : Claim7 := { stood := { row := wakeStepsUptoRow, standIns := [], harness := (true, "6822e6c6afe26ba0ca53e3fc2f6a776f90c2b087a2a03b097838335f038f4aa8"), looks := true }, kinds := [], alts := [], laidByText := true, laidKinds := [.data, .data, .data, .data], laidTests := true, laidLooks := .later }
def WakeStepsUptoCardSaid : Prop := Claim7.holds Tryz.pinned (.plain (OpenSpec.upto wakeStepsSpec)) wakeStepsUptoCard

/-- THE SECOND FORM's CARD OF 'nacellelaw02.WakeCurves'. -/
def wakeCurvesUptoCard : Claim7 := { stood := { row := wakeCurvesUptoRow, standIns := [], harness := (true, "6822e6c6afe26ba0ca53e3fc2f6a776f90c2b087a2a03b097838335f038f4aa8"), looks := true }, kinds := [], alts := [], laidByText := true, laidKinds := [.data, .data, .data, .data, .sentinel, .sentinel, .data, .pinned], laidTests := true, laidLooks := .later }
def WakeCurvesUptoCardSaid : Prop := Claim7.holds Tryz.pinned (.plain (OpenSpec.upto wakeCurvesSpec)) wakeCurvesUptoCard

/-- THE SECOND FORM's CARD OF 'nacellelaw02.WakeBack'. -/
def wakeBackUptoCard : Claim7 := { stood := { row := wakeBackUptoRow, standIns := [], harness := (true, "6822e6c6afe26ba0ca53e3fc2f6a776f90c2b087a2a03b097838335f038f4aa8"), looks := true }, kinds := [], alts := [], laidByText := true, laidKinds := [.data, .data, .data, .data, .sentinel, .sentinel, .data, .pinned], laidTests := true, laidLooks := .later }
def WakeBackUptoCardSaid : Prop := Claim7.holds Tryz.pinned (.plain (OpenSpec.upto wakeBackSpec)) wakeBackUptoCard

/-- THE SECOND FORM's CARD OF 'nacelletop.TopHawseTurned'. -/
def topHawseTurnedUptoCard : Claim7 := { stood := { row := topHawseTurnedUptoRow, standIns := [], harness := (true, "6822e6c6afe26ba0ca53e3fc2f6a776f90c2b087a2a03b097838335f038f4aa8"), looks := true }, kinds := [], alts := [], laidByText := true, laidKinds := [.data, .data, .data, .data, .sentinel, .sentinel, .data, .pinned], laidTests := true, laidLooks := .later }
def TopHawseTurnedUptoCardSaid : Prop := Claim7.holds Tryz.pinned (.plain (OpenSpec.upto topHawseTurnedSpec)) topHawseTurnedUptoCard
end Rows
end Go.Proofs.YtojkhldombndpaaGreatDoor
