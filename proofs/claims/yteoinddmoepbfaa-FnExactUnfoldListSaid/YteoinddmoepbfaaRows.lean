/-
  No cell of these rows narrows 'for every input' (looked for: loops, veiled, ifaces, maps, wideKeys, modest, calm, conditions, laid).
  DERIVED. THE GIVEN ROWS OF THIS SEAT. 12 by the template 'for every input the law returns true; each argument reads behind the call as it read before'; 0 by the template 'total and deterministic' (their statements: YteoinddmoepbfaaTotals.lean).
  GIVEN WITH THE SEED: the statements are not yours to turn. If you find one false, say at which input.
  Laid BY PROGRAM, IN A SANDBOX (cutbox-rows.mjs): the forced cells as the released guide's own fill.sh prints them over the translation a4df8407157d305b… (all of the seat's roots in one cut). By AI agents, Wed Nov 11 2026. No macro, syntax, notation, axiom, sorry.
-/
import Derived.Test.YteoinddmoepbfaaChecked
import GoSem.Claim
import GoSem.ClaimJoined
import GoSem.ClaimMapViews
import Derived.JoinedTies
import Derived.KernelRfl
namespace Go.Proofs.Yteoinddmoepbfaa
/- THE CELL 'sum', in the pinned program and in every row, IS THE sha256 OF THE DUMP (.gsa) THAT YteoinddmoepbfaaProg.lean LOADS. Nothing in Lean hashes anything: it is a label: what it is worth is what the hold of that sum in a sandbox is worth. -/
noncomputable def Try.pinned : Pinned := { name := "yteoinddmoepbfaa", sum := "a4df8407157d305b1967bbb0ef29f3d8715ae59643fdcde7755053f436cd78dc", checked := Try.checked }
namespace Rows
def none {H : Type} : Left H := { results := [], args := [] }

/-- 'laws.FnImpliesEqual': WHATEVER THE INPUT: true; the input reads as it did. -/
def fnImpliesEqualSpec : ChangeSpec := { name := "fnImpliesEqual", fn := fun _ => fun
  | [d1, d2] => { results := [.lit (.bool true)], args := [d1, d2] }
  | _ => none }
def fnImpliesEqualRow : OpenClaim := { program := "yteoinddmoepbfaa", sum := "a4df8407157d305b1967bbb0ef29f3d8715ae59643fdcde7755053f436cd78dc", func := "loop.example/separation/laws.FnImpliesEqual", spec := "fnImpliesEqual", unfollowed := true, recurses := true, apart := false }
def FnImpliesEqualSaid : Prop := fnImpliesEqualRow.holds Try.pinned (OpenSpec.ofChange fnImpliesEqualSpec)

/-- ITS FALSE NEIGHBOUR: 'it returns false'. Refute it at one input. -/
def fnImpliesEqualWrong : ChangeSpec := { name := "fnImpliesEqual", fn := fun _ => fun
  | [d1, d2] => { results := [.lit (.bool false)], args := [d1, d2] }
  | _ => none }
def FnImpliesEqualWrongFalsely : Prop := fnImpliesEqualRow.holds Try.pinned (OpenSpec.ofChange fnImpliesEqualWrong)

/-- 'laws.FnExactConsistent': WHATEVER THE INPUT: true; the input reads as it did. -/
def fnExactConsistentSpec : ChangeSpec := { name := "fnExactConsistent", fn := fun _ => fun
  | [d] => { results := [.lit (.bool true)], args := [d] }
  | _ => none }
def fnExactConsistentRow : OpenClaim := { program := "yteoinddmoepbfaa", sum := "a4df8407157d305b1967bbb0ef29f3d8715ae59643fdcde7755053f436cd78dc", func := "loop.example/separation/laws.FnExactConsistent", spec := "fnExactConsistent", unfollowed := true, recurses := true, apart := false }
def FnExactConsistentSaid : Prop := fnExactConsistentRow.holds Try.pinned (OpenSpec.ofChange fnExactConsistentSpec)

/-- ITS FALSE NEIGHBOUR: 'it returns false'. Refute it at one input. -/
def fnExactConsistentWrong : ChangeSpec := { name := "fnExactConsistent", fn := fun _ => fun
  | [d] => { results := [.lit (.bool false)], args := [d] }
  | _ => none }
def FnExactConsistentWrongFalsely : Prop := fnExactConsistentRow.holds Try.pinned (OpenSpec.ofChange fnExactConsistentWrong)

/-- 'laws.FnExactImplies': WHATEVER THE INPUT: true; the input reads as it did. -/
def fnExactImpliesSpec : ChangeSpec := { name := "fnExactImplies", fn := fun _ => fun
  | [d1, d2] => { results := [.lit (.bool true)], args := [d1, d2] }
  | _ => none }
def fnExactImpliesRow : OpenClaim := { program := "yteoinddmoepbfaa", sum := "a4df8407157d305b1967bbb0ef29f3d8715ae59643fdcde7755053f436cd78dc", func := "loop.example/separation/laws.FnExactImplies", spec := "fnExactImplies", unfollowed := true, recurses := true, apart := false }
def FnExactImpliesSaid : Prop := fnExactImpliesRow.holds Try.pinned (OpenSpec.ofChange fnExactImpliesSpec)

/-- ITS FALSE NEIGHBOUR: 'it returns false'. Refute it at one input. -/
def fnExactImpliesWrong : ChangeSpec := { name := "fnExactImplies", fn := fun _ => fun
  | [d1, d2] => { results := [.lit (.bool false)], args := [d1, d2] }
  | _ => none }
def FnExactImpliesWrongFalsely : Prop := fnExactImpliesRow.holds Try.pinned (OpenSpec.ofChange fnExactImpliesWrong)

/-- 'laws.FnExactUnfoldList': WHATEVER THE INPUT: true; the input reads as it did. -/
def fnExactUnfoldListSpec : ChangeSpec := { name := "fnExactUnfoldList", fn := fun _ => fun
  | [d1, d2] => { results := [.lit (.bool true)], args := [d1, d2] }
  | _ => none }
def fnExactUnfoldListRow : OpenClaim := { program := "yteoinddmoepbfaa", sum := "a4df8407157d305b1967bbb0ef29f3d8715ae59643fdcde7755053f436cd78dc", func := "loop.example/separation/laws.FnExactUnfoldList", spec := "fnExactUnfoldList", apart := false }
def FnExactUnfoldListSaid : Prop := fnExactUnfoldListRow.holds Try.pinned (OpenSpec.ofChange fnExactUnfoldListSpec)

/-- ITS FALSE NEIGHBOUR: 'it returns false'. Refute it at one input. -/
def fnExactUnfoldListWrong : ChangeSpec := { name := "fnExactUnfoldList", fn := fun _ => fun
  | [d1, d2] => { results := [.lit (.bool false)], args := [d1, d2] }
  | _ => none }
def FnExactUnfoldListWrongFalsely : Prop := fnExactUnfoldListRow.holds Try.pinned (OpenSpec.ofChange fnExactUnfoldListWrong)

/-- 'laws.FnExactAllocated': WHATEVER THE INPUT: true; the input reads as it did. -/
def fnExactAllocatedSpec : ChangeSpec := { name := "fnExactAllocated", fn := fun _ => fun
  | [d1, d2] => { results := [.lit (.bool true)], args := [d1, d2] }
  | _ => none }
def fnExactAllocatedRow : OpenClaim := { program := "yteoinddmoepbfaa", sum := "a4df8407157d305b1967bbb0ef29f3d8715ae59643fdcde7755053f436cd78dc", func := "loop.example/separation/laws.FnExactAllocated", spec := "fnExactAllocated", unfollowed := true, recurses := true, apart := false }
def FnExactAllocatedSaid : Prop := fnExactAllocatedRow.holds Try.pinned (OpenSpec.ofChange fnExactAllocatedSpec)

/-- ITS FALSE NEIGHBOUR: 'it returns false'. Refute it at one input. -/
def fnExactAllocatedWrong : ChangeSpec := { name := "fnExactAllocated", fn := fun _ => fun
  | [d1, d2] => { results := [.lit (.bool false)], args := [d1, d2] }
  | _ => none }
def FnExactAllocatedWrongFalsely : Prop := fnExactAllocatedRow.holds Try.pinned (OpenSpec.ofChange fnExactAllocatedWrong)

/-- 'laws.FnExactCaseOf': WHATEVER THE INPUT: true; the input reads as it did. -/
def fnExactCaseOfSpec : ChangeSpec := { name := "fnExactCaseOf", fn := fun _ => fun
  | [d1, d2] => { results := [.lit (.bool true)], args := [d1, d2] }
  | _ => none }
def fnExactCaseOfRow : OpenClaim := { program := "yteoinddmoepbfaa", sum := "a4df8407157d305b1967bbb0ef29f3d8715ae59643fdcde7755053f436cd78dc", func := "loop.example/separation/laws.FnExactCaseOf", spec := "fnExactCaseOf", apart := false }
def FnExactCaseOfSaid : Prop := fnExactCaseOfRow.holds Try.pinned (OpenSpec.ofChange fnExactCaseOfSpec)

/-- ITS FALSE NEIGHBOUR: 'it returns false'. Refute it at one input. -/
def fnExactCaseOfWrong : ChangeSpec := { name := "fnExactCaseOf", fn := fun _ => fun
  | [d1, d2] => { results := [.lit (.bool false)], args := [d1, d2] }
  | _ => none }
def FnExactCaseOfWrongFalsely : Prop := fnExactCaseOfRow.holds Try.pinned (OpenSpec.ofChange fnExactCaseOfWrong)

/-- 'laws.FnExactEntailsCase': WHATEVER THE INPUT: true; the input reads as it did. -/
def fnExactEntailsCaseSpec : ChangeSpec := { name := "fnExactEntailsCase", fn := fun _ => fun
  | [d1, d2, d3] => { results := [.lit (.bool true)], args := [d1, d2, d3] }
  | _ => none }
def fnExactEntailsCaseRow : OpenClaim := { program := "yteoinddmoepbfaa", sum := "a4df8407157d305b1967bbb0ef29f3d8715ae59643fdcde7755053f436cd78dc", func := "loop.example/separation/laws.FnExactEntailsCase", spec := "fnExactEntailsCase", apart := false }
def FnExactEntailsCaseSaid : Prop := fnExactEntailsCaseRow.holds Try.pinned (OpenSpec.ofChange fnExactEntailsCaseSpec)

/-- ITS FALSE NEIGHBOUR: 'it returns false'. Refute it at one input. -/
def fnExactEntailsCaseWrong : ChangeSpec := { name := "fnExactEntailsCase", fn := fun _ => fun
  | [d1, d2, d3] => { results := [.lit (.bool false)], args := [d1, d2, d3] }
  | _ => none }
def FnExactEntailsCaseWrongFalsely : Prop := fnExactEntailsCaseRow.holds Try.pinned (OpenSpec.ofChange fnExactEntailsCaseWrong)

/-- 'laws.FnExactEntails': WHATEVER THE INPUT: true; the input reads as it did. -/
def fnExactEntailsSpec : ChangeSpec := { name := "fnExactEntails", fn := fun _ => fun
  | [d1, d2] => { results := [.lit (.bool true)], args := [d1, d2] }
  | _ => none }
def fnExactEntailsRow : OpenClaim := { program := "yteoinddmoepbfaa", sum := "a4df8407157d305b1967bbb0ef29f3d8715ae59643fdcde7755053f436cd78dc", func := "loop.example/separation/laws.FnExactEntails", spec := "fnExactEntails", unfollowed := true, recurses := true, apart := false }
def FnExactEntailsSaid : Prop := fnExactEntailsRow.holds Try.pinned (OpenSpec.ofChange fnExactEntailsSpec)

/-- ITS FALSE NEIGHBOUR: 'it returns false'. Refute it at one input. -/
def fnExactEntailsWrong : ChangeSpec := { name := "fnExactEntails", fn := fun _ => fun
  | [d1, d2] => { results := [.lit (.bool false)], args := [d1, d2] }
  | _ => none }
def FnExactEntailsWrongFalsely : Prop := fnExactEntailsRow.holds Try.pinned (OpenSpec.ofChange fnExactEntailsWrong)

/-- 'laws.FnExactModelOf': WHATEVER THE INPUT: true; the input reads as it did. -/
def fnExactModelOfSpec : ChangeSpec := { name := "fnExactModelOf", fn := fun _ => fun
  | [d] => { results := [.lit (.bool true)], args := [d] }
  | _ => none }
def fnExactModelOfRow : OpenClaim := { program := "yteoinddmoepbfaa", sum := "a4df8407157d305b1967bbb0ef29f3d8715ae59643fdcde7755053f436cd78dc", func := "loop.example/separation/laws.FnExactModelOf", spec := "fnExactModelOf", unfollowed := true, recurses := true, apart := false }
def FnExactModelOfSaid : Prop := fnExactModelOfRow.holds Try.pinned (OpenSpec.ofChange fnExactModelOfSpec)

/-- ITS FALSE NEIGHBOUR: 'it returns false'. Refute it at one input. -/
def fnExactModelOfWrong : ChangeSpec := { name := "fnExactModelOf", fn := fun _ => fun
  | [d] => { results := [.lit (.bool false)], args := [d] }
  | _ => none }
def FnExactModelOfWrongFalsely : Prop := fnExactModelOfRow.holds Try.pinned (OpenSpec.ofChange fnExactModelOfWrong)

/-- 'laws.FnExactEquivalent': WHATEVER THE INPUT: true; the input reads as it did. -/
def fnExactEquivalentSpec : ChangeSpec := { name := "fnExactEquivalent", fn := fun _ => fun
  | [d1, d2] => { results := [.lit (.bool true)], args := [d1, d2] }
  | _ => none }
def fnExactEquivalentRow : OpenClaim := { program := "yteoinddmoepbfaa", sum := "a4df8407157d305b1967bbb0ef29f3d8715ae59643fdcde7755053f436cd78dc", func := "loop.example/separation/laws.FnExactEquivalent", spec := "fnExactEquivalent", unfollowed := true, recurses := true, apart := false }
def FnExactEquivalentSaid : Prop := fnExactEquivalentRow.holds Try.pinned (OpenSpec.ofChange fnExactEquivalentSpec)

/-- ITS FALSE NEIGHBOUR: 'it returns false'. Refute it at one input. -/
def fnExactEquivalentWrong : ChangeSpec := { name := "fnExactEquivalent", fn := fun _ => fun
  | [d1, d2] => { results := [.lit (.bool false)], args := [d1, d2] }
  | _ => none }
def FnExactEquivalentWrongFalsely : Prop := fnExactEquivalentRow.holds Try.pinned (OpenSpec.ofChange fnExactEquivalentWrong)

/-- 'laws.FnImpliesFact': WHATEVER THE INPUT: true; the input reads as it did. -/
def fnImpliesFactSpec : ChangeSpec := { name := "fnImpliesFact", fn := fun _ => fun
  | [d] => { results := [.lit (.bool true)], args := [d] }
  | _ => none }
def fnImpliesFactRow : OpenClaim := { program := "yteoinddmoepbfaa", sum := "a4df8407157d305b1967bbb0ef29f3d8715ae59643fdcde7755053f436cd78dc", func := "loop.example/separation/laws.FnImpliesFact", spec := "fnImpliesFact", unfollowed := true, recurses := true, apart := false }
def FnImpliesFactSaid : Prop := fnImpliesFactRow.holds Try.pinned (OpenSpec.ofChange fnImpliesFactSpec)

/-- ITS FALSE NEIGHBOUR: 'it returns false'. Refute it at one input. -/
def fnImpliesFactWrong : ChangeSpec := { name := "fnImpliesFact", fn := fun _ => fun
  | [d] => { results := [.lit (.bool false)], args := [d] }
  | _ => none }
def FnImpliesFactWrongFalsely : Prop := fnImpliesFactRow.holds Try.pinned (OpenSpec.ofChange fnImpliesFactWrong)

/-- 'laws.FnAllocatedApart': WHATEVER THE INPUT: true; the input reads as it did. -/
def fnAllocatedApartSpec : ChangeSpec := { name := "fnAllocatedApart", fn := fun _ => fun
  | [d] => { results := [.lit (.bool true)], args := [d] }
  | _ => none }
def fnAllocatedApartRow : OpenClaim := { program := "yteoinddmoepbfaa", sum := "a4df8407157d305b1967bbb0ef29f3d8715ae59643fdcde7755053f436cd78dc", func := "loop.example/separation/laws.FnAllocatedApart", spec := "fnAllocatedApart", unfollowed := true, recurses := true, apart := false }
def FnAllocatedApartSaid : Prop := fnAllocatedApartRow.holds Try.pinned (OpenSpec.ofChange fnAllocatedApartSpec)

/-- ITS FALSE NEIGHBOUR: 'it returns false'. Refute it at one input. -/
def fnAllocatedApartWrong : ChangeSpec := { name := "fnAllocatedApart", fn := fun _ => fun
  | [d] => { results := [.lit (.bool false)], args := [d] }
  | _ => none }
def FnAllocatedApartWrongFalsely : Prop := fnAllocatedApartRow.holds Try.pinned (OpenSpec.ofChange fnAllocatedApartWrong)

/- THE SECOND FORM. 'bulk': how many values and letters a reading holds, each counted each time it is reached (what is shared counts as often as it is met; a slice's spare places count too). A statement '..UptoSaid' is the law's where the arguments, and the package variables that the reading takes, are together of bulk at most 1048576: NARROWER than '..Said'. Prove '..Said' where nothing that the law and all that it calls make is longer than what came in: it says more and counts as full. Else prove '..UptoSaid'. A law counts once. -/
mutual
def uptoBulk {H : Type} : DataW H → Nat
  | .lit (.string bytes) => bytes.length + 1
  | .lit _ => 1
  | .nil => 1
  | .ptr d => uptoBulk d + 1
  | .slice elems spare => uptoBulkAll elems + uptoBulkAll spare + 1
  | .agg parts => uptoBulkAll parts + 1
  | .iface _ d => uptoBulk d + 1
  | .map entries => uptoBulkEntries entries + 1
  | .held _ => 1
def uptoBulkAll {H : Type} : List (DataW H) → Nat
  | [] => 0
  | d :: r => uptoBulk d + uptoBulkAll r
def uptoBulkEntries {H : Type} : List (Lit × DataW H) → Nat
  | [] => 0
  | x :: r => uptoBulkEntry x + uptoBulkEntries r
def uptoBulkEntry {H : Type} : Lit × DataW H → Nat
  | (.string bytes, d) => bytes.length + uptoBulk d + 1
  | (_, d) => uptoBulk d + 1
 end
def uptoSmall : (H : Type) → List (DataW H) → Bool := fun _ ds => decide (uptoBulkAll ds ≤ 1048576)
def OpenSpec.upto (s : _root_.Go.ChangeSpec) : _root_.Go.OpenSpec := { _root_.Go.OpenSpec.ofChange s with cond := some uptoSmall }

/-- 'laws.FnImpliesEqual', WHERE WHAT IT READS IS OF BULK AT MOST 1048576: true; the input reads as it did. -/
def fnImpliesEqualUptoRow : OpenClaim := { program := "yteoinddmoepbfaa", sum := "a4df8407157d305b1967bbb0ef29f3d8715ae59643fdcde7755053f436cd78dc", func := "loop.example/separation/laws.FnImpliesEqual", spec := "fnImpliesEqual", unfollowed := true, recurses := true, apart := false, narrowed := true }
def FnImpliesEqualUptoSaid : Prop := fnImpliesEqualUptoRow.holds Try.pinned (OpenSpec.upto fnImpliesEqualSpec)

/-- 'laws.FnExactConsistent', WHERE WHAT IT READS IS OF BULK AT MOST 1048576: true; the input reads as it did. -/
def fnExactConsistentUptoRow : OpenClaim := { program := "yteoinddmoepbfaa", sum := "a4df8407157d305b1967bbb0ef29f3d8715ae59643fdcde7755053f436cd78dc", func := "loop.example/separation/laws.FnExactConsistent", spec := "fnExactConsistent", unfollowed := true, recurses := true, apart := false, narrowed := true }
def FnExactConsistentUptoSaid : Prop := fnExactConsistentUptoRow.holds Try.pinned (OpenSpec.upto fnExactConsistentSpec)

/-- 'laws.FnExactImplies', WHERE WHAT IT READS IS OF BULK AT MOST 1048576: true; the input reads as it did. -/
def fnExactImpliesUptoRow : OpenClaim := { program := "yteoinddmoepbfaa", sum := "a4df8407157d305b1967bbb0ef29f3d8715ae59643fdcde7755053f436cd78dc", func := "loop.example/separation/laws.FnExactImplies", spec := "fnExactImplies", unfollowed := true, recurses := true, apart := false, narrowed := true }
def FnExactImpliesUptoSaid : Prop := fnExactImpliesUptoRow.holds Try.pinned (OpenSpec.upto fnExactImpliesSpec)

/-- 'laws.FnExactUnfoldList', WHERE WHAT IT READS IS OF BULK AT MOST 1048576: true; the input reads as it did. -/
def fnExactUnfoldListUptoRow : OpenClaim := { program := "yteoinddmoepbfaa", sum := "a4df8407157d305b1967bbb0ef29f3d8715ae59643fdcde7755053f436cd78dc", func := "loop.example/separation/laws.FnExactUnfoldList", spec := "fnExactUnfoldList", apart := false, narrowed := true }
def FnExactUnfoldListUptoSaid : Prop := fnExactUnfoldListUptoRow.holds Try.pinned (OpenSpec.upto fnExactUnfoldListSpec)

/-- 'laws.FnExactAllocated', WHERE WHAT IT READS IS OF BULK AT MOST 1048576: true; the input reads as it did. -/
def fnExactAllocatedUptoRow : OpenClaim := { program := "yteoinddmoepbfaa", sum := "a4df8407157d305b1967bbb0ef29f3d8715ae59643fdcde7755053f436cd78dc", func := "loop.example/separation/laws.FnExactAllocated", spec := "fnExactAllocated", unfollowed := true, recurses := true, apart := false, narrowed := true }
def FnExactAllocatedUptoSaid : Prop := fnExactAllocatedUptoRow.holds Try.pinned (OpenSpec.upto fnExactAllocatedSpec)

/-- 'laws.FnExactCaseOf', WHERE WHAT IT READS IS OF BULK AT MOST 1048576: true; the input reads as it did. -/
def fnExactCaseOfUptoRow : OpenClaim := { program := "yteoinddmoepbfaa", sum := "a4df8407157d305b1967bbb0ef29f3d8715ae59643fdcde7755053f436cd78dc", func := "loop.example/separation/laws.FnExactCaseOf", spec := "fnExactCaseOf", apart := false, narrowed := true }
def FnExactCaseOfUptoSaid : Prop := fnExactCaseOfUptoRow.holds Try.pinned (OpenSpec.upto fnExactCaseOfSpec)

/-- 'laws.FnExactEntailsCase', WHERE WHAT IT READS IS OF BULK AT MOST 1048576: true; the input reads as it did. -/
def fnExactEntailsCaseUptoRow : OpenClaim := { program := "yteoinddmoepbfaa", sum := "a4df8407157d305b1967bbb0ef29f3d8715ae59643fdcde7755053f436cd78dc", func := "loop.example/separation/laws.FnExactEntailsCase", spec := "fnExactEntailsCase", apart := false, narrowed := true }
def FnExactEntailsCaseUptoSaid : Prop := fnExactEntailsCaseUptoRow.holds Try.pinned (OpenSpec.upto fnExactEntailsCaseSpec)

/-- 'laws.FnExactEntails', WHERE WHAT IT READS IS OF BULK AT MOST 1048576: true; the input reads as it did. -/
def fnExactEntailsUptoRow : OpenClaim := { program := "yteoinddmoepbfaa", sum := "a4df8407157d305b1967bbb0ef29f3d8715ae59643fdcde7755053f436cd78dc", func := "loop.example/separation/laws.FnExactEntails", spec := "fnExactEntails", unfollowed := true, recurses := true, apart := false, narrowed := true }
def FnExactEntailsUptoSaid : Prop := fnExactEntailsUptoRow.holds Try.pinned (OpenSpec.upto fnExactEntailsSpec)

/-- 'laws.FnExactModelOf', WHERE WHAT IT READS IS OF BULK AT MOST 1048576: true; the input reads as it did. -/
def fnExactModelOfUptoRow : OpenClaim := { program := "yteoinddmoepbfaa", sum := "a4df8407157d305b1967bbb0ef29f3d8715ae59643fdcde7755053f436cd78dc", func := "loop.example/separation/laws.FnExactModelOf", spec := "fnExactModelOf", unfollowed := true, recurses := true, apart := false, narrowed := true }
def FnExactModelOfUptoSaid : Prop := fnExactModelOfUptoRow.holds Try.pinned (OpenSpec.upto fnExactModelOfSpec)

/-- 'laws.FnExactEquivalent', WHERE WHAT IT READS IS OF BULK AT MOST 1048576: true; the input reads as it did. -/
def fnExactEquivalentUptoRow : OpenClaim := { program := "yteoinddmoepbfaa", sum := "a4df8407157d305b1967bbb0ef29f3d8715ae59643fdcde7755053f436cd78dc", func := "loop.example/separation/laws.FnExactEquivalent", spec := "fnExactEquivalent", unfollowed := true, recurses := true, apart := false, narrowed := true }
def FnExactEquivalentUptoSaid : Prop := fnExactEquivalentUptoRow.holds Try.pinned (OpenSpec.upto fnExactEquivalentSpec)

/-- 'laws.FnImpliesFact', WHERE WHAT IT READS IS OF BULK AT MOST 1048576: true; the input reads as it did. -/
def fnImpliesFactUptoRow : OpenClaim := { program := "yteoinddmoepbfaa", sum := "a4df8407157d305b1967bbb0ef29f3d8715ae59643fdcde7755053f436cd78dc", func := "loop.example/separation/laws.FnImpliesFact", spec := "fnImpliesFact", unfollowed := true, recurses := true, apart := false, narrowed := true }
def FnImpliesFactUptoSaid : Prop := fnImpliesFactUptoRow.holds Try.pinned (OpenSpec.upto fnImpliesFactSpec)

/-- 'laws.FnAllocatedApart', WHERE WHAT IT READS IS OF BULK AT MOST 1048576: true; the input reads as it did. -/
def fnAllocatedApartUptoRow : OpenClaim := { program := "yteoinddmoepbfaa", sum := "a4df8407157d305b1967bbb0ef29f3d8715ae59643fdcde7755053f436cd78dc", func := "loop.example/separation/laws.FnAllocatedApart", spec := "fnAllocatedApart", unfollowed := true, recurses := true, apart := false, narrowed := true }
def FnAllocatedApartUptoSaid : Prop := fnAllocatedApartUptoRow.holds Try.pinned (OpenSpec.upto fnAllocatedApartSpec)

end Rows
end Go.Proofs.Yteoinddmoepbfaa
