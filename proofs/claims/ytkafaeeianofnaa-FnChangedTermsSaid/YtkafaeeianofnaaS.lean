/-
  Facts of the whole program, reckoned by the kernel. No conditions.
-/
import Derived.Test.YtkafaeeianofnaaRows
import Derived.Test.YtkafaeeianofnaaEc
set_option linter.unusedSimpArgs false
set_option linter.unusedVariables false
set_option linter.unusedSectionVars false

namespace Go.Proofs.Ytkafaeeianofnaa
open Go.SE Go.RowKit
/-! facts of the whole program -/
theorem own : ownKnob Try.prog.godebug = none := by kernel_rfl
theorem laidOut : laidOutB Try.prog = true := by kernel_rfl
theorem sf_big : Try.pinned.checked.prog.mayEnter = true ∧ Try.pinned.checked.prog.liftsFinal = Rows.fnProgramSameRow.lifted ∧ Try.pinned.checked.prog.make = some Rows.fnProgramSameRow.make := ⟨by kernel_rfl, by kernel_rfl, by kernel_rfl⟩
end Go.Proofs.Ytkafaeeianofnaa
