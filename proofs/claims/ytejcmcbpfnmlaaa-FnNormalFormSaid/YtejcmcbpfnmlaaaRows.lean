/-
  No cell of these rows narrows 'for every input' (looked for: loops, veiled, ifaces, maps, wideKeys, modest, calm, conditions, laid).
  DERIVED. THE GIVEN ROWS OF THIS SEAT. 12 by the template 'for every input the law returns true; each argument reads behind the call as it read before'; 0 by the template 'total and deterministic' (their statements: YtejcmcbpfnmlaaaTotals.lean).
  GIVEN WITH THE SEED: the statements are not yours to turn. If you find one false, say at which input.
  Laid BY PROGRAM, IN A SANDBOX (cutbox-rows.mjs): the forced cells as the released guide's own fill.sh prints them over the translation 2f4b422e358be229… (all of the seat's roots in one cut). By AI agents, Wed Nov 11 2026. No macro, syntax, notation, axiom, sorry.
-/
import Derived.Test.YtejcmcbpfnmlaaaChecked
import GoSem.Claim
import GoSem.ClaimJoined
import GoSem.ClaimMapViews
import Derived.JoinedTies
import Derived.KernelRfl
namespace Go.Proofs.Ytejcmcbpfnmlaaa
/- THE CELL 'sum', in the pinned program and in every row, IS THE sha256 OF THE DUMP (.gsa) THAT YtejcmcbpfnmlaaaProg.lean LOADS. Nothing in Lean hashes anything: it is a label: what it is worth is what the hold of that sum in a sandbox is worth. -/
noncomputable def Try.pinned : Pinned := { name := "ytejcmcbpfnmlaaa", sum := "2f4b422e358be229e08c32f8c0b82dd774af4965a410bcfc2340af4a58d91d08", checked := Try.checked }
namespace Rows
def none {H : Type} : Left H := { results := [], args := [] }

/-- 'laws.FnSymTest': WHATEVER THE INPUT: true; the input reads as it did. -/
def fnSymTestSpec : ChangeSpec := { name := "fnSymTest", fn := fun _ => fun
  | [d] => { results := [.lit (.bool true)], args := [d] }
  | _ => none }
def fnSymTestRow : OpenClaim := { program := "ytejcmcbpfnmlaaa", sum := "2f4b422e358be229e08c32f8c0b82dd774af4965a410bcfc2340af4a58d91d08", func := "loop.example/separation/laws.FnSymTest", spec := "fnSymTest", unfollowed := true, recurses := true, apart := false }
def FnSymTestSaid : Prop := fnSymTestRow.holds Try.pinned (OpenSpec.ofChange fnSymTestSpec)

/-- ITS FALSE NEIGHBOUR: 'it returns false'. Refute it at one input. -/
def fnSymTestWrong : ChangeSpec := { name := "fnSymTest", fn := fun _ => fun
  | [d] => { results := [.lit (.bool false)], args := [d] }
  | _ => none }
def FnSymTestWrongFalsely : Prop := fnSymTestRow.holds Try.pinned (OpenSpec.ofChange fnSymTestWrong)

/-- 'laws.FnCasesOf': WHATEVER THE INPUT: true; the input reads as it did. -/
def fnCasesOfSpec : ChangeSpec := { name := "fnCasesOf", fn := fun _ => fun
  | [d] => { results := [.lit (.bool true)], args := [d] }
  | _ => none }
def fnCasesOfRow : OpenClaim := { program := "ytejcmcbpfnmlaaa", sum := "2f4b422e358be229e08c32f8c0b82dd774af4965a410bcfc2340af4a58d91d08", func := "loop.example/separation/laws.FnCasesOf", spec := "fnCasesOf", unfollowed := true, recurses := true, apart := false }
def FnCasesOfSaid : Prop := fnCasesOfRow.holds Try.pinned (OpenSpec.ofChange fnCasesOfSpec)

/-- ITS FALSE NEIGHBOUR: 'it returns false'. Refute it at one input. -/
def fnCasesOfWrong : ChangeSpec := { name := "fnCasesOf", fn := fun _ => fun
  | [d] => { results := [.lit (.bool false)], args := [d] }
  | _ => none }
def FnCasesOfWrongFalsely : Prop := fnCasesOfRow.holds Try.pinned (OpenSpec.ofChange fnCasesOfWrong)

/-- 'laws.FnCasesFact': WHATEVER THE INPUT: true; the input reads as it did. -/
def fnCasesFactSpec : ChangeSpec := { name := "fnCasesFact", fn := fun _ => fun
  | [d] => { results := [.lit (.bool true)], args := [d] }
  | _ => none }
def fnCasesFactRow : OpenClaim := { program := "ytejcmcbpfnmlaaa", sum := "2f4b422e358be229e08c32f8c0b82dd774af4965a410bcfc2340af4a58d91d08", func := "loop.example/separation/laws.FnCasesFact", spec := "fnCasesFact", unfollowed := true, recurses := true, apart := false }
def FnCasesFactSaid : Prop := fnCasesFactRow.holds Try.pinned (OpenSpec.ofChange fnCasesFactSpec)

/-- ITS FALSE NEIGHBOUR: 'it returns false'. Refute it at one input. -/
def fnCasesFactWrong : ChangeSpec := { name := "fnCasesFact", fn := fun _ => fun
  | [d] => { results := [.lit (.bool false)], args := [d] }
  | _ => none }
def FnCasesFactWrongFalsely : Prop := fnCasesFactRow.holds Try.pinned (OpenSpec.ofChange fnCasesFactWrong)

/-- 'laws.FnHoldsFacts': WHATEVER THE INPUT: true; the input reads as it did. -/
def fnHoldsFactsSpec : ChangeSpec := { name := "fnHoldsFacts", fn := fun _ => fun
  | [d1, d2] => { results := [.lit (.bool true)], args := [d1, d2] }
  | _ => none }
def fnHoldsFactsRow : OpenClaim := { program := "ytejcmcbpfnmlaaa", sum := "2f4b422e358be229e08c32f8c0b82dd774af4965a410bcfc2340af4a58d91d08", func := "loop.example/separation/laws.FnHoldsFacts", spec := "fnHoldsFacts", apart := false }
def FnHoldsFactsSaid : Prop := fnHoldsFactsRow.holds Try.pinned (OpenSpec.ofChange fnHoldsFactsSpec)

/-- ITS FALSE NEIGHBOUR: 'it returns false'. Refute it at one input. -/
def fnHoldsFactsWrong : ChangeSpec := { name := "fnHoldsFacts", fn := fun _ => fun
  | [d1, d2] => { results := [.lit (.bool false)], args := [d1, d2] }
  | _ => none }
def FnHoldsFactsWrongFalsely : Prop := fnHoldsFactsRow.holds Try.pinned (OpenSpec.ofChange fnHoldsFactsWrong)

/-- 'laws.FnHoldsSubst': WHATEVER THE INPUT: true; the input reads as it did. -/
def fnHoldsSubstSpec : ChangeSpec := { name := "fnHoldsSubst", fn := fun _ => fun
  | [d1, d2] => { results := [.lit (.bool true)], args := [d1, d2] }
  | _ => none }
def fnHoldsSubstRow : OpenClaim := { program := "ytejcmcbpfnmlaaa", sum := "2f4b422e358be229e08c32f8c0b82dd774af4965a410bcfc2340af4a58d91d08", func := "loop.example/separation/laws.FnHoldsSubst", spec := "fnHoldsSubst", apart := false }
def FnHoldsSubstSaid : Prop := fnHoldsSubstRow.holds Try.pinned (OpenSpec.ofChange fnHoldsSubstSpec)

/-- ITS FALSE NEIGHBOUR: 'it returns false'. Refute it at one input. -/
def fnHoldsSubstWrong : ChangeSpec := { name := "fnHoldsSubst", fn := fun _ => fun
  | [d1, d2] => { results := [.lit (.bool false)], args := [d1, d2] }
  | _ => none }
def FnHoldsSubstWrongFalsely : Prop := fnHoldsSubstRow.holds Try.pinned (OpenSpec.ofChange fnHoldsSubstWrong)

/-- 'laws.FnImplies': WHATEVER THE INPUT: true; the input reads as it did. -/
def fnImpliesSpec : ChangeSpec := { name := "fnImplies", fn := fun _ => fun
  | [d1, d2] => { results := [.lit (.bool true)], args := [d1, d2] }
  | _ => none }
def fnImpliesRow : OpenClaim := { program := "ytejcmcbpfnmlaaa", sum := "2f4b422e358be229e08c32f8c0b82dd774af4965a410bcfc2340af4a58d91d08", func := "loop.example/separation/laws.FnImplies", spec := "fnImplies", unfollowed := true, recurses := true, apart := false }
def FnImpliesSaid : Prop := fnImpliesRow.holds Try.pinned (OpenSpec.ofChange fnImpliesSpec)

/-- ITS FALSE NEIGHBOUR: 'it returns false'. Refute it at one input. -/
def fnImpliesWrong : ChangeSpec := { name := "fnImplies", fn := fun _ => fun
  | [d1, d2] => { results := [.lit (.bool false)], args := [d1, d2] }
  | _ => none }
def FnImpliesWrongFalsely : Prop := fnImpliesRow.holds Try.pinned (OpenSpec.ofChange fnImpliesWrong)

/-- 'laws.FnNormalForm': WHATEVER THE INPUT: true; the input reads as it did. -/
def fnNormalFormSpec : ChangeSpec := { name := "fnNormalForm", fn := fun _ => fun
  | [d1, d2] => { results := [.lit (.bool true)], args := [d1, d2] }
  | _ => none }
def fnNormalFormRow : OpenClaim := { program := "ytejcmcbpfnmlaaa", sum := "2f4b422e358be229e08c32f8c0b82dd774af4965a410bcfc2340af4a58d91d08", func := "loop.example/separation/laws.FnNormalForm", spec := "fnNormalForm", unfollowed := true, recurses := true, apart := false }
def FnNormalFormSaid : Prop := fnNormalFormRow.holds Try.pinned (OpenSpec.ofChange fnNormalFormSpec)

/-- ITS FALSE NEIGHBOUR: 'it returns false'. Refute it at one input. -/
def fnNormalFormWrong : ChangeSpec := { name := "fnNormalForm", fn := fun _ => fun
  | [d1, d2] => { results := [.lit (.bool false)], args := [d1, d2] }
  | _ => none }
def FnNormalFormWrongFalsely : Prop := fnNormalFormRow.holds Try.pinned (OpenSpec.ofChange fnNormalFormWrong)

/-- 'laws.FnImpliesAdd': WHATEVER THE INPUT: true; the input reads as it did. -/
def fnImpliesAddSpec : ChangeSpec := { name := "fnImpliesAdd", fn := fun _ => fun
  | [d1, d2] => { results := [.lit (.bool true)], args := [d1, d2] }
  | _ => none }
def fnImpliesAddRow : OpenClaim := { program := "ytejcmcbpfnmlaaa", sum := "2f4b422e358be229e08c32f8c0b82dd774af4965a410bcfc2340af4a58d91d08", func := "loop.example/separation/laws.FnImpliesAdd", spec := "fnImpliesAdd", unfollowed := true, recurses := true, apart := false }
def FnImpliesAddSaid : Prop := fnImpliesAddRow.holds Try.pinned (OpenSpec.ofChange fnImpliesAddSpec)

/-- ITS FALSE NEIGHBOUR: 'it returns false'. Refute it at one input. -/
def fnImpliesAddWrong : ChangeSpec := { name := "fnImpliesAdd", fn := fun _ => fun
  | [d1, d2] => { results := [.lit (.bool false)], args := [d1, d2] }
  | _ => none }
def FnImpliesAddWrongFalsely : Prop := fnImpliesAddRow.holds Try.pinned (OpenSpec.ofChange fnImpliesAddWrong)

/-- 'laws.FnAllocated': WHATEVER THE INPUT: true; the input reads as it did. -/
def fnAllocatedSpec : ChangeSpec := { name := "fnAllocated", fn := fun _ => fun
  | [d1, d2] => { results := [.lit (.bool true)], args := [d1, d2] }
  | _ => none }
def fnAllocatedRow : OpenClaim := { program := "ytejcmcbpfnmlaaa", sum := "2f4b422e358be229e08c32f8c0b82dd774af4965a410bcfc2340af4a58d91d08", func := "loop.example/separation/laws.FnAllocated", spec := "fnAllocated", unfollowed := true, recurses := true, apart := false }
def FnAllocatedSaid : Prop := fnAllocatedRow.holds Try.pinned (OpenSpec.ofChange fnAllocatedSpec)

/-- ITS FALSE NEIGHBOUR: 'it returns false'. Refute it at one input. -/
def fnAllocatedWrong : ChangeSpec := { name := "fnAllocated", fn := fun _ => fun
  | [d1, d2] => { results := [.lit (.bool false)], args := [d1, d2] }
  | _ => none }
def FnAllocatedWrongFalsely : Prop := fnAllocatedRow.holds Try.pinned (OpenSpec.ofChange fnAllocatedWrong)

/-- 'laws.FnExactEntailsCase': WHATEVER THE INPUT: true; the input reads as it did. -/
def fnExactEntailsCaseSpec : ChangeSpec := { name := "fnExactEntailsCase", fn := fun _ => fun
  | [d1, d2, d3] => { results := [.lit (.bool true)], args := [d1, d2, d3] }
  | _ => none }
def fnExactEntailsCaseRow : OpenClaim := { program := "ytejcmcbpfnmlaaa", sum := "2f4b422e358be229e08c32f8c0b82dd774af4965a410bcfc2340af4a58d91d08", func := "loop.example/separation/laws.FnExactEntailsCase", spec := "fnExactEntailsCase", apart := false }
def FnExactEntailsCaseSaid : Prop := fnExactEntailsCaseRow.holds Try.pinned (OpenSpec.ofChange fnExactEntailsCaseSpec)

/-- ITS FALSE NEIGHBOUR: 'it returns false'. Refute it at one input. -/
def fnExactEntailsCaseWrong : ChangeSpec := { name := "fnExactEntailsCase", fn := fun _ => fun
  | [d1, d2, d3] => { results := [.lit (.bool false)], args := [d1, d2, d3] }
  | _ => none }
def FnExactEntailsCaseWrongFalsely : Prop := fnExactEntailsCaseRow.holds Try.pinned (OpenSpec.ofChange fnExactEntailsCaseWrong)

/-- 'laws.FnExactEntails': WHATEVER THE INPUT: true; the input reads as it did. -/
def fnExactEntailsSpec : ChangeSpec := { name := "fnExactEntails", fn := fun _ => fun
  | [d1, d2] => { results := [.lit (.bool true)], args := [d1, d2] }
  | _ => none }
def fnExactEntailsRow : OpenClaim := { program := "ytejcmcbpfnmlaaa", sum := "2f4b422e358be229e08c32f8c0b82dd774af4965a410bcfc2340af4a58d91d08", func := "loop.example/separation/laws.FnExactEntails", spec := "fnExactEntails", unfollowed := true, recurses := true, apart := false }
def FnExactEntailsSaid : Prop := fnExactEntailsRow.holds Try.pinned (OpenSpec.ofChange fnExactEntailsSpec)

/-- ITS FALSE NEIGHBOUR: 'it returns false'. Refute it at one input. -/
def fnExactEntailsWrong : ChangeSpec := { name := "fnExactEntails", fn := fun _ => fun
  | [d1, d2] => { results := [.lit (.bool false)], args := [d1, d2] }
  | _ => none }
def FnExactEntailsWrongFalsely : Prop := fnExactEntailsRow.holds Try.pinned (OpenSpec.ofChange fnExactEntailsWrong)

/-- 'laws.FnExactEquivalent': WHATEVER THE INPUT: true; the input reads as it did. -/
def fnExactEquivalentSpec : ChangeSpec := { name := "fnExactEquivalent", fn := fun _ => fun
  | [d1, d2] => { results := [.lit (.bool true)], args := [d1, d2] }
  | _ => none }
def fnExactEquivalentRow : OpenClaim := { program := "ytejcmcbpfnmlaaa", sum := "2f4b422e358be229e08c32f8c0b82dd774af4965a410bcfc2340af4a58d91d08", func := "loop.example/separation/laws.FnExactEquivalent", spec := "fnExactEquivalent", unfollowed := true, recurses := true, apart := false }
def FnExactEquivalentSaid : Prop := fnExactEquivalentRow.holds Try.pinned (OpenSpec.ofChange fnExactEquivalentSpec)

/-- ITS FALSE NEIGHBOUR: 'it returns false'. Refute it at one input. -/
def fnExactEquivalentWrong : ChangeSpec := { name := "fnExactEquivalent", fn := fun _ => fun
  | [d1, d2] => { results := [.lit (.bool false)], args := [d1, d2] }
  | _ => none }
def FnExactEquivalentWrongFalsely : Prop := fnExactEquivalentRow.holds Try.pinned (OpenSpec.ofChange fnExactEquivalentWrong)

/- THE SECOND FORM. 'bulk': how many values and letters a reading holds, each counted each time it is reached (what is shared counts as often as it is met; a slice's spare places count too). A statement '..UptoSaid' is the law's where the arguments, and the package variables that the reading takes, are together of bulk at most 1048576: NARROWER than '..Said'. Prove '..Said' where nothing that the law and all that it calls make is longer than what came in: it says more and counts as full. Else prove '..UptoSaid'. A law counts once. -/
mutual
def uptoBulk {H : Type} : DataW H → Nat
  | .lit (.string bytes) => bytes.length + 1
  | .lit _ => 1
  | .nil => 1
  | .ptr d => uptoBulk d + 1
  | .slice elems spare => uptoBulkAll elems + uptoBulkAll spare + 1
  | .agg parts => uptoBulkAll parts + 1
  | .iface _ d => uptoBulk d + 1
  | .map entries => uptoBulkEntries entries + 1
  | .held _ => 1
def uptoBulkAll {H : Type} : List (DataW H) → Nat
  | [] => 0
  | d :: r => uptoBulk d + uptoBulkAll r
def uptoBulkEntries {H : Type} : List (Lit × DataW H) → Nat
  | [] => 0
  | x :: r => uptoBulkEntry x + uptoBulkEntries r
def uptoBulkEntry {H : Type} : Lit × DataW H → Nat
  | (.string bytes, d) => bytes.length + uptoBulk d + 1
  | (_, d) => uptoBulk d + 1
 end
def uptoSmall : (H : Type) → List (DataW H) → Bool := fun _ ds => decide (uptoBulkAll ds ≤ 1048576)
def OpenSpec.upto (s : _root_.Go.ChangeSpec) : _root_.Go.OpenSpec := { _root_.Go.OpenSpec.ofChange s with cond := some uptoSmall }

/-- 'laws.FnSymTest', WHERE WHAT IT READS IS OF BULK AT MOST 1048576: true; the input reads as it did. -/
def fnSymTestUptoRow : OpenClaim := { program := "ytejcmcbpfnmlaaa", sum := "2f4b422e358be229e08c32f8c0b82dd774af4965a410bcfc2340af4a58d91d08", func := "loop.example/separation/laws.FnSymTest", spec := "fnSymTest", unfollowed := true, recurses := true, apart := false, narrowed := true }
def FnSymTestUptoSaid : Prop := fnSymTestUptoRow.holds Try.pinned (OpenSpec.upto fnSymTestSpec)

/-- 'laws.FnCasesOf', WHERE WHAT IT READS IS OF BULK AT MOST 1048576: true; the input reads as it did. -/
def fnCasesOfUptoRow : OpenClaim := { program := "ytejcmcbpfnmlaaa", sum := "2f4b422e358be229e08c32f8c0b82dd774af4965a410bcfc2340af4a58d91d08", func := "loop.example/separation/laws.FnCasesOf", spec := "fnCasesOf", unfollowed := true, recurses := true, apart := false, narrowed := true }
def FnCasesOfUptoSaid : Prop := fnCasesOfUptoRow.holds Try.pinned (OpenSpec.upto fnCasesOfSpec)

/-- 'laws.FnCasesFact', WHERE WHAT IT READS IS OF BULK AT MOST 1048576: true; the input reads as it did. -/
def fnCasesFactUptoRow : OpenClaim := { program := "ytejcmcbpfnmlaaa", sum := "2f4b422e358be229e08c32f8c0b82dd774af4965a410bcfc2340af4a58d91d08", func := "loop.example/separation/laws.FnCasesFact", spec := "fnCasesFact", unfollowed := true, recurses := true, apart := false, narrowed := true }
def FnCasesFactUptoSaid : Prop := fnCasesFactUptoRow.holds Try.pinned (OpenSpec.upto fnCasesFactSpec)

/-- 'laws.FnHoldsFacts', WHERE WHAT IT READS IS OF BULK AT MOST 1048576: true; the input reads as it did. -/
def fnHoldsFactsUptoRow : OpenClaim := { program := "ytejcmcbpfnmlaaa", sum := "2f4b422e358be229e08c32f8c0b82dd774af4965a410bcfc2340af4a58d91d08", func := "loop.example/separation/laws.FnHoldsFacts", spec := "fnHoldsFacts", apart := false, narrowed := true }
def FnHoldsFactsUptoSaid : Prop := fnHoldsFactsUptoRow.holds Try.pinned (OpenSpec.upto fnHoldsFactsSpec)

/-- 'laws.FnHoldsSubst', WHERE WHAT IT READS IS OF BULK AT MOST 1048576: true; the input reads as it did. -/
def fnHoldsSubstUptoRow : OpenClaim := { program := "ytejcmcbpfnmlaaa", sum := "2f4b422e358be229e08c32f8c0b82dd774af4965a410bcfc2340af4a58d91d08", func := "loop.example/separation/laws.FnHoldsSubst", spec := "fnHoldsSubst", apart := false, narrowed := true }
def FnHoldsSubstUptoSaid : Prop := fnHoldsSubstUptoRow.holds Try.pinned (OpenSpec.upto fnHoldsSubstSpec)

/-- 'laws.FnImplies', WHERE WHAT IT READS IS OF BULK AT MOST 1048576: true; the input reads as it did. -/
def fnImpliesUptoRow : OpenClaim := { program := "ytejcmcbpfnmlaaa", sum := "2f4b422e358be229e08c32f8c0b82dd774af4965a410bcfc2340af4a58d91d08", func := "loop.example/separation/laws.FnImplies", spec := "fnImplies", unfollowed := true, recurses := true, apart := false, narrowed := true }
def FnImpliesUptoSaid : Prop := fnImpliesUptoRow.holds Try.pinned (OpenSpec.upto fnImpliesSpec)

/-- 'laws.FnNormalForm', WHERE WHAT IT READS IS OF BULK AT MOST 1048576: true; the input reads as it did. -/
def fnNormalFormUptoRow : OpenClaim := { program := "ytejcmcbpfnmlaaa", sum := "2f4b422e358be229e08c32f8c0b82dd774af4965a410bcfc2340af4a58d91d08", func := "loop.example/separation/laws.FnNormalForm", spec := "fnNormalForm", unfollowed := true, recurses := true, apart := false, narrowed := true }
def FnNormalFormUptoSaid : Prop := fnNormalFormUptoRow.holds Try.pinned (OpenSpec.upto fnNormalFormSpec)

/-- 'laws.FnImpliesAdd', WHERE WHAT IT READS IS OF BULK AT MOST 1048576: true; the input reads as it did. -/
def fnImpliesAddUptoRow : OpenClaim := { program := "ytejcmcbpfnmlaaa", sum := "2f4b422e358be229e08c32f8c0b82dd774af4965a410bcfc2340af4a58d91d08", func := "loop.example/separation/laws.FnImpliesAdd", spec := "fnImpliesAdd", unfollowed := true, recurses := true, apart := false, narrowed := true }
def FnImpliesAddUptoSaid : Prop := fnImpliesAddUptoRow.holds Try.pinned (OpenSpec.upto fnImpliesAddSpec)

/-- 'laws.FnAllocated', WHERE WHAT IT READS IS OF BULK AT MOST 1048576: true; the input reads as it did. -/
def fnAllocatedUptoRow : OpenClaim := { program := "ytejcmcbpfnmlaaa", sum := "2f4b422e358be229e08c32f8c0b82dd774af4965a410bcfc2340af4a58d91d08", func := "loop.example/separation/laws.FnAllocated", spec := "fnAllocated", unfollowed := true, recurses := true, apart := false, narrowed := true }
def FnAllocatedUptoSaid : Prop := fnAllocatedUptoRow.holds Try.pinned (OpenSpec.upto fnAllocatedSpec)

/-- 'laws.FnExactEntailsCase', WHERE WHAT IT READS IS OF BULK AT MOST 1048576: true; the input reads as it did. -/
def fnExactEntailsCaseUptoRow : OpenClaim := { program := "ytejcmcbpfnmlaaa", sum := "2f4b422e358be229e08c32f8c0b82dd774af4965a410bcfc2340af4a58d91d08", func := "loop.example/separation/laws.FnExactEntailsCase", spec := "fnExactEntailsCase", apart := false, narrowed := true }
def FnExactEntailsCaseUptoSaid : Prop := fnExactEntailsCaseUptoRow.holds Try.pinned (OpenSpec.upto fnExactEntailsCaseSpec)

/-- 'laws.FnExactEntails', WHERE WHAT IT READS IS OF BULK AT MOST 1048576: true; the input reads as it did. -/
def fnExactEntailsUptoRow : OpenClaim := { program := "ytejcmcbpfnmlaaa", sum := "2f4b422e358be229e08c32f8c0b82dd774af4965a410bcfc2340af4a58d91d08", func := "loop.example/separation/laws.FnExactEntails", spec := "fnExactEntails", unfollowed := true, recurses := true, apart := false, narrowed := true }
def FnExactEntailsUptoSaid : Prop := fnExactEntailsUptoRow.holds Try.pinned (OpenSpec.upto fnExactEntailsSpec)

/-- 'laws.FnExactEquivalent', WHERE WHAT IT READS IS OF BULK AT MOST 1048576: true; the input reads as it did. -/
def fnExactEquivalentUptoRow : OpenClaim := { program := "ytejcmcbpfnmlaaa", sum := "2f4b422e358be229e08c32f8c0b82dd774af4965a410bcfc2340af4a58d91d08", func := "loop.example/separation/laws.FnExactEquivalent", spec := "fnExactEquivalent", unfollowed := true, recurses := true, apart := false, narrowed := true }
def FnExactEquivalentUptoSaid : Prop := fnExactEquivalentUptoRow.holds Try.pinned (OpenSpec.upto fnExactEquivalentSpec)

end Rows
end Go.Proofs.Ytejcmcbpfnmlaaa
