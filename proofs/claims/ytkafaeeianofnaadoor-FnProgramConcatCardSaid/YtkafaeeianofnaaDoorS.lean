/-
  Facts of the whole program, reckoned by the kernel. No conditions.
-/
import Derived.Test.YtkafaeeianofnaaDoorRows
import Derived.Test.YtkafaeeianofnaaDoorEc
set_option linter.unusedSimpArgs false
set_option linter.unusedVariables false
set_option linter.unusedSectionVars false

namespace Go.Proofs.YtkafaeeianofnaaDoor
open Go.SE Go.RowKit
/-! facts of the whole program -/
theorem own : ownKnob Tryd.prog.godebug = none := by kernel_rfl
theorem laidOut : laidOutB Tryd.prog = true := by kernel_rfl
theorem sf_big : Tryd.pinned.checked.prog.mayEnter = true ∧ Tryd.pinned.checked.prog.liftsFinal = Rows.fnCountCmdsRow.lifted ∧ Tryd.pinned.checked.prog.make = some Rows.fnCountCmdsRow.make := ⟨by kernel_rfl, by kernel_rfl, by kernel_rfl⟩
end Go.Proofs.YtkafaeeianofnaaDoor
