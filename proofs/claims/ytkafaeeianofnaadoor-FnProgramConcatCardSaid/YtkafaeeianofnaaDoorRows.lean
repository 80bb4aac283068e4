/-
  NARROWER THAN 'FOR EVERY INPUT', by the rows' own cells (each row's printed sentence says how): FnCountCmds: laid · FnProgramConcat: laid · FnExactFormatProgram: loops, laid.
  DERIVED. THE GIVEN ROWS OF THIS SEAT. 3 by the template 'for every input the law returns true; each argument reads behind the call as it read before'; 0 by the template 'total and deterministic' (their statements: YtkafaeeianofnaaDoorTotals.lean).
  GIVEN WITH THE SEED: the statements are not yours to turn. If you find one false, say at which input.
  Laid BY PROGRAM, IN A SANDBOX (cutbox-rows.mjs): the forced cells as the released guide's own fill.sh prints them over the translation 171b060d819ba314… (all of the seat's roots in one cut). By AI agents, Wed Nov 11 2026. No macro, syntax, notation, axiom, sorry.
-/
import Derived.Test.YtkafaeeianofnaaDoorChecked
import GoSem.Claim
import GoSem.ClaimJoined
import GoSem.ClaimMapViews
import Derived.JoinedTies
import Derived.KernelRfl
namespace Go.Proofs.YtkafaeeianofnaaDoor
/- THE CELL 'sum', in the pinned program and in every row, IS THE sha256 OF THE DUMP (.gsa) THAT YtkafaeeianofnaaDoorProg.lean LOADS. Nothing in Lean hashes anything: it is a label: what it is worth is what the hold of that sum in a sandbox is worth. -/
noncomputable def Tryd.pinned : Pinned := { name := "ytkafaeeianofnaadoor", sum := "171b060d819ba31467e1cc422a8ac81e9f0d618c1ee444c74d35590fe32dcd30", checked := Tryd.checked }
namespace Rows
def none {H : Type} : Left H := { results := [], args := [] }

/- WHAT THE LISTED PACKAGE-LEVEL VARIABLES READ AS WHEN THE CALL BEGINS. Each datum BY PROGRAM (the guide's laid-datum.mjs) off the statement by which the dump's own 'gosem.cut.vars' lays the variable. In a bare row this is a premise. The card (YtkafaeeianofnaaDoorCards.lean) ties it to the program's text. -/
def laid_loop_example_separation_impl_termNames {H : Type} : DataW H := .agg [.lit (.string [110, 105, 108]), .lit (.string [97]), .lit (.string [98]), .lit (.string [99]), .lit (.string [100]), .lit (.string [112]), .lit (.string [113]), .lit (.string [114]), .lit (.string [115])]

/-- 'laws.FnCountCmds': WHATEVER THE INPUT: true; the input reads as it did. -/
def fnCountCmdsSpec : ChangeSpec := { name := "fnCountCmds", vars := ["loop.example/separation/impl.termNames"], fn := fun _ => fun
  | [d, g1] => { results := [.lit (.bool true)], args := [d], vars := [g1] }
  | _ => none }
def fnCountCmdsRow : OpenClaim := { program := "ytkafaeeianofnaadoor", sum := "171b060d819ba31467e1cc422a8ac81e9f0d618c1ee444c74d35590fe32dcd30", func := "loop.example/separation/laws.FnCountCmds", spec := "fnCountCmds", inPlace := ["internal/abi.NoEscape", "internal/bytealg.MakeNoZero"], recurses := true, named := ["loop.example/separation/impl.termNames"], apart := false, laid := [("loop.example/separation/impl.termNames", laid_loop_example_separation_impl_termNames)] }
def FnCountCmdsSaid : Prop := fnCountCmdsRow.holds Tryd.pinned (OpenSpec.ofChange fnCountCmdsSpec)

/-- ITS FALSE NEIGHBOUR: 'it returns false'. Refute it at one input. -/
def fnCountCmdsWrong : ChangeSpec := { name := "fnCountCmds", vars := ["loop.example/separation/impl.termNames"], fn := fun _ => fun
  | [d, g1] => { results := [.lit (.bool false)], args := [d], vars := [g1] }
  | _ => none }
def FnCountCmdsWrongFalsely : Prop := fnCountCmdsRow.holds Tryd.pinned (OpenSpec.ofChange fnCountCmdsWrong)

/-- 'laws.FnProgramConcat': WHATEVER THE INPUT: true; the input reads as it did. -/
def fnProgramConcatSpec : ChangeSpec := { name := "fnProgramConcat", vars := ["loop.example/separation/impl.termNames"], fn := fun _ => fun
  | [d1, d2, g1] => { results := [.lit (.bool true)], args := [d1, d2], vars := [g1] }
  | _ => none }
def fnProgramConcatRow : OpenClaim := { program := "ytkafaeeianofnaadoor", sum := "171b060d819ba31467e1cc422a8ac81e9f0d618c1ee444c74d35590fe32dcd30", func := "loop.example/separation/laws.FnProgramConcat", spec := "fnProgramConcat", inPlace := ["internal/abi.NoEscape", "internal/bytealg.MakeNoZero"], recurses := true, named := ["loop.example/separation/impl.termNames"], apart := false, laid := [("loop.example/separation/impl.termNames", laid_loop_example_separation_impl_termNames)] }
def FnProgramConcatSaid : Prop := fnProgramConcatRow.holds Tryd.pinned (OpenSpec.ofChange fnProgramConcatSpec)

/-- ITS FALSE NEIGHBOUR: 'it returns false'. Refute it at one input. -/
def fnProgramConcatWrong : ChangeSpec := { name := "fnProgramConcat", vars := ["loop.example/separation/impl.termNames"], fn := fun _ => fun
  | [d1, d2, g1] => { results := [.lit (.bool false)], args := [d1, d2], vars := [g1] }
  | _ => none }
def FnProgramConcatWrongFalsely : Prop := fnProgramConcatRow.holds Tryd.pinned (OpenSpec.ofChange fnProgramConcatWrong)

/-- 'laws.FnExactFormatProgram': WHATEVER THE INPUT: true; the input reads as it did. -/
def fnExactFormatProgramSpec : ChangeSpec := { name := "fnExactFormatProgram", vars := ["loop.example/separation/impl.termNames"], fn := fun _ => fun
  | [d, g1] => { results := [.lit (.bool true)], args := [d], vars := [g1] }
  | _ => none }
def fnExactFormatProgramRow : OpenClaim := { program := "ytkafaeeianofnaadoor", sum := "171b060d819ba31467e1cc422a8ac81e9f0d618c1ee444c74d35590fe32dcd30", func := "loop.example/separation/laws.FnExactFormatProgram", spec := "fnExactFormatProgram", inPlace := ["internal/abi.NoEscape", "internal/bytealg.MakeNoZero"], recurses := true, named := ["loop.example/separation/impl.termNames"], loops := true, apart := false, laid := [("loop.example/separation/impl.termNames", laid_loop_example_separation_impl_termNames)] }
def FnExactFormatProgramSaid : Prop := fnExactFormatProgramRow.holds Tryd.pinned (OpenSpec.ofChange fnExactFormatProgramSpec)

/-- ITS FALSE NEIGHBOUR: 'it returns false'. Refute it at one input. -/
def fnExactFormatProgramWrong : ChangeSpec := { name := "fnExactFormatProgram", vars := ["loop.example/separation/impl.termNames"], fn := fun _ => fun
  | [d, g1] => { results := [.lit (.bool false)], args := [d], vars := [g1] }
  | _ => none }
def FnExactFormatProgramWrongFalsely : Prop := fnExactFormatProgramRow.holds Tryd.pinned (OpenSpec.ofChange fnExactFormatProgramWrong)

/- THE SECOND FORM. 'bulk': how many values and letters a reading holds, each counted each time it is reached (what is shared counts as often as it is met; a slice's spare places count too). A statement '..UptoSaid' is the law's where the arguments, and the package variables that the reading takes, are together of bulk at most 1048576: NARROWER than '..Said'. Prove '..Said' where nothing that the law and all that it calls make is longer than what came in: it says more and counts as full. Else prove '..UptoSaid'. A law counts once. -/
mutual
def uptoBulk {H : Type} : DataW H → Nat
  | .lit (.string bytes) => bytes.length + 1
  | .lit _ => 1
  | .nil => 1
  | .ptr d => uptoBulk d + 1
  | .slice elems spare => uptoBulkAll elems + uptoBulkAll spare + 1
  | .agg parts => uptoBulkAll parts + 1
  | .iface _ d => uptoBulk d + 1
  | .map entries => uptoBulkEntries entries + 1
  | .held _ => 1
def uptoBulkAll {H : Type} : List (DataW H) → Nat
  | [] => 0
  | d :: r => uptoBulk d + uptoBulkAll r
def uptoBulkEntries {H : Type} : List (Lit × DataW H) → Nat
  | [] => 0
  | x :: r => uptoBulkEntry x + uptoBulkEntries r
def uptoBulkEntry {H : Type} : Lit × DataW H → Nat
  | (.string bytes, d) => bytes.length + uptoBulk d + 1
  | (_, d) => uptoBulk d + 1
 end
def uptoSmall : (H : Type) → List (DataW H) → Bool := fun _ ds => decide (uptoBulkAll ds ≤ 1048576)
def OpenSpec.upto (s : _root_.Go.ChangeSpec) : _root_.Go.OpenSpec := { _root_.Go.OpenSpec.ofChange s with cond := some uptoSmall }

/-- 'laws.FnCountCmds', WHERE WHAT IT READS IS OF BULK AT MOST 1048576: true; the input reads as it did. -/
def fnCountCmdsUptoRow : OpenClaim := { program := "ytkafaeeianofnaadoor", sum := "171b060d819ba31467e1cc422a8ac81e9f0d618c1ee444c74d35590fe32dcd30", func := "loop.example/separation/laws.FnCountCmds", spec := "fnCountCmds", inPlace := ["internal/abi.NoEscape", "internal/bytealg.MakeNoZero"], recurses := true, named := ["loop.example/separation/impl.termNames"], apart := false, laid := [("loop.example/separation/impl.termNames", laid_loop_example_separation_impl_termNames)], narrowed := true }
def FnCountCmdsUptoSaid : Prop := fnCountCmdsUptoRow.holds Tryd.pinned (OpenSpec.upto fnCountCmdsSpec)

/-- 'laws.FnProgramConcat', WHERE WHAT IT READS IS OF BULK AT MOST 1048576: true; the input reads as it did. -/
def fnProgramConcatUptoRow : OpenClaim := { program := "ytkafaeeianofnaadoor", sum := "171b060d819ba31467e1cc422a8ac81e9f0d618c1ee444c74d35590fe32dcd30", func := "loop.example/separation/laws.FnProgramConcat", spec := "fnProgramConcat", inPlace := ["internal/abi.NoEscape", "internal/bytealg.MakeNoZero"], recurses := true, named := ["loop.example/separation/impl.termNames"], apart := false, laid := [("loop.example/separation/impl.termNames", laid_loop_example_separation_impl_termNames)], narrowed := true }
def FnProgramConcatUptoSaid : Prop := fnProgramConcatUptoRow.holds Tryd.pinned (OpenSpec.upto fnProgramConcatSpec)

/-- 'laws.FnExactFormatProgram', WHERE WHAT IT READS IS OF BULK AT MOST 1048576: true; the input reads as it did. -/
def fnExactFormatProgramUptoRow : OpenClaim := { program := "ytkafaeeianofnaadoor", sum := "171b060d819ba31467e1cc422a8ac81e9f0d618c1ee444c74d35590fe32dcd30", func := "loop.example/separation/laws.FnExactFormatProgram", spec := "fnExactFormatProgram", inPlace := ["internal/abi.NoEscape", "internal/bytealg.MakeNoZero"], recurses := true, named := ["loop.example/separation/impl.termNames"], loops := true, apart := false, laid := [("loop.example/separation/impl.termNames", laid_loop_example_separation_impl_termNames)], narrowed := true }
def FnExactFormatProgramUptoSaid : Prop := fnExactFormatProgramUptoRow.holds Tryd.pinned (OpenSpec.upto fnExactFormatProgramSpec)

end Rows
end Go.Proofs.YtkafaeeianofnaaDoor
