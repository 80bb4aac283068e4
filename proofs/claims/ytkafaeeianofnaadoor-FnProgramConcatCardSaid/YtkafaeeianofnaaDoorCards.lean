/-
  DERIVED. GIVEN WITH THE SEED: THE CARDS: each row of YtkafaeeianofnaaDoorRows.lean that lists a variable, with what it lists TIED to the program's text (the seventh form; the later family's looks); each row that meets fmt, with fmt's text TOLD by the authors' own Lean function (tested against real Go, not proved from fmt's source: count such statements apart). THE CARD IS WHAT COUNTS. Prove the row's statement (the work); the ties are given (YtkafaeeianofnaaDoorTie.lean); close each card by the builder's one call (the guide's Derived/Test/ToyasCard.lean, 'card_holds'). Laid BY PROGRAM, IN A SANDBOX (cutbox-door.mjs). By AI agents, Wed Nov 11 2026. No macro, syntax, notation, axiom, sorry.
-/
import Derived.Test.YtkafaeeianofnaaDoorRows
import GoSem.ClaimSeven
namespace Go.Proofs.YtkafaeeianofnaaDoor
namespace Rows

/-- THE TIED CARD OF 'laws.FnCountCmds'. -/
def fnCountCmdsCard : Claim7 := { stood := { row := fnCountCmdsRow, standIns := [], harness := (true, "fcd4d04753f7385cabb357aa8c9f15d2c2d7d66b0079566cc5e7aff1d8c8f4b1"), looks := false }, kinds := [], alts := [], laidByText := true, laidKinds := [.data], laidTests := true, laidLooks := .later }
def FnCountCmdsCardSaid : Prop := Claim7.holds Tryd.pinned (.plain (OpenSpec.ofChange fnCountCmdsSpec)) fnCountCmdsCard

/-- THE TIED CARD OF 'laws.FnProgramConcat'. -/
def fnProgramConcatCard : Claim7 := { stood := { row := fnProgramConcatRow, standIns := [], harness := (true, "fcd4d04753f7385cabb357aa8c9f15d2c2d7d66b0079566cc5e7aff1d8c8f4b1"), looks := false }, kinds := [], alts := [], laidByText := true, laidKinds := [.data], laidTests := true, laidLooks := .later }
def FnProgramConcatCardSaid : Prop := Claim7.holds Tryd.pinned (.plain (OpenSpec.ofChange fnProgramConcatSpec)) fnProgramConcatCard

/-- THE TIED CARD OF 'laws.FnExactFormatProgram'. -/
def fnExactFormatProgramCard : Claim7 := { stood := { row := fnExactFormatProgramRow, standIns := [], harness := (true, "fcd4d04753f7385cabb357aa8c9f15d2c2d7d66b0079566cc5e7aff1d8c8f4b1"), looks := false }, kinds := [], alts := [], laidByText := true, laidKinds := [.data], laidTests := true, laidLooks := .later }
def FnExactFormatProgramCardSaid : Prop := Claim7.holds Tryd.pinned (.plain (OpenSpec.ofChange fnExactFormatProgramSpec)) fnExactFormatProgramCard

/-- THE SECOND FORM's CARD OF 'laws.FnCountCmds'. -/
def fnCountCmdsUptoCard : Claim7 := { stood := { row := fnCountCmdsUptoRow, standIns := [], harness := (true, "fcd4d04753f7385cabb357aa8c9f15d2c2d7d66b0079566cc5e7aff1d8c8f4b1"), looks := false }, kinds := [], alts := [], laidByText := true, laidKinds := [.data], laidTests := true, laidLooks := .later }
def FnCountCmdsUptoCardSaid : Prop := Claim7.holds Tryd.pinned (.plain (OpenSpec.upto fnCountCmdsSpec)) fnCountCmdsUptoCard

/-- THE SECOND FORM's CARD OF 'laws.FnProgramConcat'. -/
def fnProgramConcatUptoCard : Claim7 := { stood := { row := fnProgramConcatUptoRow, standIns := [], harness := (true, "fcd4d04753f7385cabb357aa8c9f15d2c2d7d66b0079566cc5e7aff1d8c8f4b1"), looks := false }, kinds := [], alts := [], laidByText := true, laidKinds := [.data], laidTests := true, laidLooks := .later }
def FnProgramConcatUptoCardSaid : Prop := Claim7.holds Tryd.pinned (.plain (OpenSpec.upto fnProgramConcatSpec)) fnProgramConcatUptoCard

/-- THE SECOND FORM's CARD OF 'laws.FnExactFormatProgram'. -/
def fnExactFormatProgramUptoCard : Claim7 := { stood := { row := fnExactFormatProgramUptoRow, standIns := [], harness := (true, "fcd4d04753f7385cabb357aa8c9f15d2c2d7d66b0079566cc5e7aff1d8c8f4b1"), looks := false }, kinds := [], alts := [], laidByText := true, laidKinds := [.data], laidTests := true, laidLooks := .later }
def FnExactFormatProgramUptoCardSaid : Prop := Claim7.holds Tryd.pinned (.plain (OpenSpec.upto fnExactFormatProgramSpec)) fnExactFormatProgramUptoCard
end Rows
end Go.Proofs.YtkafaeeianofnaaDoor
