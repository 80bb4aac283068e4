/-
  NARROWER THAN 'FOR EVERY INPUT', by the rows' own cells (each row's printed sentence says how): FnExactProgramSame: loops.
  DERIVED. THE GIVEN ROWS OF THIS SEAT. 12 by the template 'for every input the law returns true; each argument reads behind the call as it read before'; 0 by the template 'total and deterministic' (their statements: YtcnjahaoecngbaaTotals.lean).
  GIVEN WITH THE SEED: the statements are not yours to turn. If you find one false, say at which input.
  Laid BY PROGRAM, IN A SANDBOX (cutbox-rows.mjs): the forced cells as the released guide's own fill.sh prints them over the translation f82c82b7b90c8a3c… (all of the seat's roots in one cut). By AI agents, Wed Nov 11 2026. No macro, syntax, notation, axiom, sorry.
-/
import Derived.Test.YtcnjahaoecngbaaChecked
import GoSem.Claim
import GoSem.ClaimJoined
import GoSem.ClaimMapViews
import Derived.JoinedTies
import Derived.KernelRfl
namespace Go.Proofs.Ytcnjahaoecngbaa
/- THE CELL 'sum', in the pinned program and in every row, IS THE sha256 OF THE DUMP (.gsa) THAT YtcnjahaoecngbaaProg.lean LOADS. Nothing in Lean hashes anything: it is a label: what it is worth is what the hold of that sum in a sandbox is worth. -/
noncomputable def Try.pinned : Pinned := { name := "ytcnjahaoecngbaa", sum := "f82c82b7b90c8a3c2a5f5c121899b43091877bef6fe220eaf3b64db95f849b5c", checked := Try.checked }
namespace Rows
def none {H : Type} : Left H := { results := [], args := [] }

/-- 'laws.FnExactTestHolds': WHATEVER THE INPUT: true; the input reads as it did. -/
def fnExactTestHoldsSpec : ChangeSpec := { name := "fnExactTestHolds", fn := fun _ => fun
  | [d1, d2] => { results := [.lit (.bool true)], args := [d1, d2] }
  | _ => none }
def fnExactTestHoldsRow : OpenClaim := { program := "ytcnjahaoecngbaa", sum := "f82c82b7b90c8a3c2a5f5c121899b43091877bef6fe220eaf3b64db95f849b5c", func := "loop.example/separation/laws.FnExactTestHolds", spec := "fnExactTestHolds", plainKeys := false, apart := false }
def FnExactTestHoldsSaid : Prop := fnExactTestHoldsRow.holds Try.pinned (OpenSpec.ofChange fnExactTestHoldsSpec)

/-- ITS FALSE NEIGHBOUR: 'it returns false'. Refute it at one input. -/
def fnExactTestHoldsWrong : ChangeSpec := { name := "fnExactTestHolds", fn := fun _ => fun
  | [d1, d2] => { results := [.lit (.bool false)], args := [d1, d2] }
  | _ => none }
def FnExactTestHoldsWrongFalsely : Prop := fnExactTestHoldsRow.holds Try.pinned (OpenSpec.ofChange fnExactTestHoldsWrong)

/-- 'laws.FnTestHolds': WHATEVER THE INPUT: true; the input reads as it did. -/
def fnTestHoldsSpec : ChangeSpec := { name := "fnTestHolds", fn := fun _ => fun
  | [d] => { results := [.lit (.bool true)], args := [d] }
  | _ => none }
def fnTestHoldsRow : OpenClaim := { program := "ytcnjahaoecngbaa", sum := "f82c82b7b90c8a3c2a5f5c121899b43091877bef6fe220eaf3b64db95f849b5c", func := "loop.example/separation/laws.FnTestHolds", spec := "fnTestHolds", plainKeys := false, apart := false }
def FnTestHoldsSaid : Prop := fnTestHoldsRow.holds Try.pinned (OpenSpec.ofChange fnTestHoldsSpec)

/-- ITS FALSE NEIGHBOUR: 'it returns false'. Refute it at one input. -/
def fnTestHoldsWrong : ChangeSpec := { name := "fnTestHolds", fn := fun _ => fun
  | [d] => { results := [.lit (.bool false)], args := [d] }
  | _ => none }
def FnTestHoldsWrongFalsely : Prop := fnTestHoldsRow.holds Try.pinned (OpenSpec.ofChange fnTestHoldsWrong)

/-- 'laws.FnStarAssertions': WHATEVER THE INPUT: true; the input reads as it did. -/
def fnStarAssertionsSpec : ChangeSpec := { name := "fnStarAssertions", fn := fun _ => fun
  | [d1, d2] => { results := [.lit (.bool true)], args := [d1, d2] }
  | _ => none }
def fnStarAssertionsRow : OpenClaim := { program := "ytcnjahaoecngbaa", sum := "f82c82b7b90c8a3c2a5f5c121899b43091877bef6fe220eaf3b64db95f849b5c", func := "loop.example/separation/laws.FnStarAssertions", spec := "fnStarAssertions", plainKeys := false, apart := false }
def FnStarAssertionsSaid : Prop := fnStarAssertionsRow.holds Try.pinned (OpenSpec.ofChange fnStarAssertionsSpec)

/-- ITS FALSE NEIGHBOUR: 'it returns false'. Refute it at one input. -/
def fnStarAssertionsWrong : ChangeSpec := { name := "fnStarAssertions", fn := fun _ => fun
  | [d1, d2] => { results := [.lit (.bool false)], args := [d1, d2] }
  | _ => none }
def FnStarAssertionsWrongFalsely : Prop := fnStarAssertionsRow.holds Try.pinned (OpenSpec.ofChange fnStarAssertionsWrong)

/-- 'laws.FnSubstAssertion': WHATEVER THE INPUT: true; the input reads as it did. -/
def fnSubstAssertionSpec : ChangeSpec := { name := "fnSubstAssertion", fn := fun _ => fun
  | [d] => { results := [.lit (.bool true)], args := [d] }
  | _ => none }
def fnSubstAssertionRow : OpenClaim := { program := "ytcnjahaoecngbaa", sum := "f82c82b7b90c8a3c2a5f5c121899b43091877bef6fe220eaf3b64db95f849b5c", func := "loop.example/separation/laws.FnSubstAssertion", spec := "fnSubstAssertion", plainKeys := false, apart := false }
def FnSubstAssertionSaid : Prop := fnSubstAssertionRow.holds Try.pinned (OpenSpec.ofChange fnSubstAssertionSpec)

/-- ITS FALSE NEIGHBOUR: 'it returns false'. Refute it at one input. -/
def fnSubstAssertionWrong : ChangeSpec := { name := "fnSubstAssertion", fn := fun _ => fun
  | [d] => { results := [.lit (.bool false)], args := [d] }
  | _ => none }
def FnSubstAssertionWrongFalsely : Prop := fnSubstAssertionRow.holds Try.pinned (OpenSpec.ofChange fnSubstAssertionWrong)

/-- 'laws.FnSubstBack': WHATEVER THE INPUT: true; the input reads as it did. -/
def fnSubstBackSpec : ChangeSpec := { name := "fnSubstBack", fn := fun _ => fun
  | [d1, d2] => { results := [.lit (.bool true)], args := [d1, d2] }
  | _ => none }
def fnSubstBackRow : OpenClaim := { program := "ytcnjahaoecngbaa", sum := "f82c82b7b90c8a3c2a5f5c121899b43091877bef6fe220eaf3b64db95f849b5c", func := "loop.example/separation/laws.FnSubstBack", spec := "fnSubstBack", plainKeys := false, apart := false }
def FnSubstBackSaid : Prop := fnSubstBackRow.holds Try.pinned (OpenSpec.ofChange fnSubstBackSpec)

/-- ITS FALSE NEIGHBOUR: 'it returns false'. Refute it at one input. -/
def fnSubstBackWrong : ChangeSpec := { name := "fnSubstBack", fn := fun _ => fun
  | [d1, d2] => { results := [.lit (.bool false)], args := [d1, d2] }
  | _ => none }
def FnSubstBackWrongFalsely : Prop := fnSubstBackRow.holds Try.pinned (OpenSpec.ofChange fnSubstBackWrong)

/-- 'laws.FnExactPickAtoms': WHATEVER THE INPUT: true; the input reads as it did. -/
def fnExactPickAtomsSpec : ChangeSpec := { name := "fnExactPickAtoms", fn := fun _ => fun
  | [d1, d2] => { results := [.lit (.bool true)], args := [d1, d2] }
  | _ => none }
def fnExactPickAtomsRow : OpenClaim := { program := "ytcnjahaoecngbaa", sum := "f82c82b7b90c8a3c2a5f5c121899b43091877bef6fe220eaf3b64db95f849b5c", func := "loop.example/separation/laws.FnExactPickAtoms", spec := "fnExactPickAtoms", plainKeys := false, apart := false }
def FnExactPickAtomsSaid : Prop := fnExactPickAtomsRow.holds Try.pinned (OpenSpec.ofChange fnExactPickAtomsSpec)

/-- ITS FALSE NEIGHBOUR: 'it returns false'. Refute it at one input. -/
def fnExactPickAtomsWrong : ChangeSpec := { name := "fnExactPickAtoms", fn := fun _ => fun
  | [d1, d2] => { results := [.lit (.bool false)], args := [d1, d2] }
  | _ => none }
def FnExactPickAtomsWrongFalsely : Prop := fnExactPickAtomsRow.holds Try.pinned (OpenSpec.ofChange fnExactPickAtomsWrong)

/-- 'laws.FnProgramSame': WHATEVER THE INPUT: true; the input reads as it did. -/
def fnProgramSameSpec : ChangeSpec := { name := "fnProgramSame", fn := fun _ => fun
  | [d] => { results := [.lit (.bool true)], args := [d] }
  | _ => none }
def fnProgramSameRow : OpenClaim := { program := "ytcnjahaoecngbaa", sum := "f82c82b7b90c8a3c2a5f5c121899b43091877bef6fe220eaf3b64db95f849b5c", func := "loop.example/separation/laws.FnProgramSame", spec := "fnProgramSame", recurses := true, plainKeys := false, apart := false }
def FnProgramSameSaid : Prop := fnProgramSameRow.holds Try.pinned (OpenSpec.ofChange fnProgramSameSpec)

/-- ITS FALSE NEIGHBOUR: 'it returns false'. Refute it at one input. -/
def fnProgramSameWrong : ChangeSpec := { name := "fnProgramSame", fn := fun _ => fun
  | [d] => { results := [.lit (.bool false)], args := [d] }
  | _ => none }
def FnProgramSameWrongFalsely : Prop := fnProgramSameRow.holds Try.pinned (OpenSpec.ofChange fnProgramSameWrong)

/-- 'laws.FnEntails': WHATEVER THE INPUT: true; the input reads as it did. -/
def fnEntailsSpec : ChangeSpec := { name := "fnEntails", fn := fun _ => fun
  | [d1, d2] => { results := [.lit (.bool true)], args := [d1, d2] }
  | _ => none }
def fnEntailsRow : OpenClaim := { program := "ytcnjahaoecngbaa", sum := "f82c82b7b90c8a3c2a5f5c121899b43091877bef6fe220eaf3b64db95f849b5c", func := "loop.example/separation/laws.FnEntails", spec := "fnEntails", unfollowed := true, recurses := true, plainKeys := false, apart := false }
def FnEntailsSaid : Prop := fnEntailsRow.holds Try.pinned (OpenSpec.ofChange fnEntailsSpec)

/-- ITS FALSE NEIGHBOUR: 'it returns false'. Refute it at one input. -/
def fnEntailsWrong : ChangeSpec := { name := "fnEntails", fn := fun _ => fun
  | [d1, d2] => { results := [.lit (.bool false)], args := [d1, d2] }
  | _ => none }
def FnEntailsWrongFalsely : Prop := fnEntailsRow.holds Try.pinned (OpenSpec.ofChange fnEntailsWrong)

/-- 'laws.FnExactProgramSame': WHATEVER THE INPUT: true; the input reads as it did. -/
def fnExactProgramSameSpec : ChangeSpec := { name := "fnExactProgramSame", fn := fun _ => fun
  | [d1, d2] => { results := [.lit (.bool true)], args := [d1, d2] }
  | _ => none }
def fnExactProgramSameRow : OpenClaim := { program := "ytcnjahaoecngbaa", sum := "f82c82b7b90c8a3c2a5f5c121899b43091877bef6fe220eaf3b64db95f849b5c", func := "loop.example/separation/laws.FnExactProgramSame", spec := "fnExactProgramSame", recurses := true, loops := true, plainKeys := false, apart := false }
def FnExactProgramSameSaid : Prop := fnExactProgramSameRow.holds Try.pinned (OpenSpec.ofChange fnExactProgramSameSpec)

/-- ITS FALSE NEIGHBOUR: 'it returns false'. Refute it at one input. -/
def fnExactProgramSameWrong : ChangeSpec := { name := "fnExactProgramSame", fn := fun _ => fun
  | [d1, d2] => { results := [.lit (.bool false)], args := [d1, d2] }
  | _ => none }
def FnExactProgramSameWrongFalsely : Prop := fnExactProgramSameRow.holds Try.pinned (OpenSpec.ofChange fnExactProgramSameWrong)

/-- 'laws.FnExactAssertionTerms': WHATEVER THE INPUT: true; the input reads as it did. -/
def fnExactAssertionTermsSpec : ChangeSpec := { name := "fnExactAssertionTerms", fn := fun _ => fun
  | [d] => { results := [.lit (.bool true)], args := [d] }
  | _ => none }
def fnExactAssertionTermsRow : OpenClaim := { program := "ytcnjahaoecngbaa", sum := "f82c82b7b90c8a3c2a5f5c121899b43091877bef6fe220eaf3b64db95f849b5c", func := "loop.example/separation/laws.FnExactAssertionTerms", spec := "fnExactAssertionTerms", plainKeys := false, apart := false }
def FnExactAssertionTermsSaid : Prop := fnExactAssertionTermsRow.holds Try.pinned (OpenSpec.ofChange fnExactAssertionTermsSpec)

/-- ITS FALSE NEIGHBOUR: 'it returns false'. Refute it at one input. -/
def fnExactAssertionTermsWrong : ChangeSpec := { name := "fnExactAssertionTerms", fn := fun _ => fun
  | [d] => { results := [.lit (.bool false)], args := [d] }
  | _ => none }
def FnExactAssertionTermsWrongFalsely : Prop := fnExactAssertionTermsRow.holds Try.pinned (OpenSpec.ofChange fnExactAssertionTermsWrong)

/-- 'laws.FnExactNormalForm': WHATEVER THE INPUT: true; the input reads as it did. -/
def fnExactNormalFormSpec : ChangeSpec := { name := "fnExactNormalForm", fn := fun _ => fun
  | [d] => { results := [.lit (.bool true)], args := [d] }
  | _ => none }
def fnExactNormalFormRow : OpenClaim := { program := "ytcnjahaoecngbaa", sum := "f82c82b7b90c8a3c2a5f5c121899b43091877bef6fe220eaf3b64db95f849b5c", func := "loop.example/separation/laws.FnExactNormalForm", spec := "fnExactNormalForm", plainKeys := false, apart := false }
def FnExactNormalFormSaid : Prop := fnExactNormalFormRow.holds Try.pinned (OpenSpec.ofChange fnExactNormalFormSpec)

/-- ITS FALSE NEIGHBOUR: 'it returns false'. Refute it at one input. -/
def fnExactNormalFormWrong : ChangeSpec := { name := "fnExactNormalForm", fn := fun _ => fun
  | [d] => { results := [.lit (.bool false)], args := [d] }
  | _ => none }
def FnExactNormalFormWrongFalsely : Prop := fnExactNormalFormRow.holds Try.pinned (OpenSpec.ofChange fnExactNormalFormWrong)

/-- 'laws.FnImpliesEqual': WHATEVER THE INPUT: true; the input reads as it did. -/
def fnImpliesEqualSpec : ChangeSpec := { name := "fnImpliesEqual", fn := fun _ => fun
  | [d1, d2] => { results := [.lit (.bool true)], args := [d1, d2] }
  | _ => none }
def fnImpliesEqualRow : OpenClaim := { program := "ytcnjahaoecngbaa", sum := "f82c82b7b90c8a3c2a5f5c121899b43091877bef6fe220eaf3b64db95f849b5c", func := "loop.example/separation/laws.FnImpliesEqual", spec := "fnImpliesEqual", unfollowed := true, recurses := true, plainKeys := false, apart := false }
def FnImpliesEqualSaid : Prop := fnImpliesEqualRow.holds Try.pinned (OpenSpec.ofChange fnImpliesEqualSpec)

/-- ITS FALSE NEIGHBOUR: 'it returns false'. Refute it at one input. -/
def fnImpliesEqualWrong : ChangeSpec := { name := "fnImpliesEqual", fn := fun _ => fun
  | [d1, d2] => { results := [.lit (.bool false)], args := [d1, d2] }
  | _ => none }
def FnImpliesEqualWrongFalsely : Prop := fnImpliesEqualRow.holds Try.pinned (OpenSpec.ofChange fnImpliesEqualWrong)

/- THE SECOND FORM. 'bulk': how many values and letters a reading holds, each counted each time it is reached (what is shared counts as often as it is met; a slice's spare places count too). A statement '..UptoSaid' is the law's where the arguments, and the package variables that the reading takes, are together of bulk at most 1048576: NARROWER than '..Said'. Prove '..Said' where nothing that the law and all that it calls make is longer than what came in: it says more and counts as full. Else prove '..UptoSaid'. A law counts once. -/
mutual
def uptoBulk {H : Type} : DataW H → Nat
  | .lit (.string bytes) => bytes.length + 1
  | .lit _ => 1
  | .nil => 1
  | .ptr d => uptoBulk d + 1
  | .slice elems spare => uptoBulkAll elems + uptoBulkAll spare + 1
  | .agg parts => uptoBulkAll parts + 1
  | .iface _ d => uptoBulk d + 1
  | .map entries => uptoBulkEntries entries + 1
  | .held _ => 1
def uptoBulkAll {H : Type} : List (DataW H) → Nat
  | [] => 0
  | d :: r => uptoBulk d + uptoBulkAll r
def uptoBulkEntries {H : Type} : List (Lit × DataW H) → Nat
  | [] => 0
  | x :: r => uptoBulkEntry x + uptoBulkEntries r
def uptoBulkEntry {H : Type} : Lit × DataW H → Nat
  | (.string bytes, d) => bytes.length + uptoBulk d + 1
  | (_, d) => uptoBulk d + 1
 end
def uptoSmall : (H : Type) → List (DataW H) → Bool := fun _ ds => decide (uptoBulkAll ds ≤ 1048576)
def OpenSpec.upto (s : _root_.Go.ChangeSpec) : _root_.Go.OpenSpec := { _root_.Go.OpenSpec.ofChange s with cond := some uptoSmall }

/-- 'laws.FnExactTestHolds', WHERE WHAT IT READS IS OF BULK AT MOST 1048576: true; the input reads as it did. -/
def fnExactTestHoldsUptoRow : OpenClaim := { program := "ytcnjahaoecngbaa", sum := "f82c82b7b90c8a3c2a5f5c121899b43091877bef6fe220eaf3b64db95f849b5c", func := "loop.example/separation/laws.FnExactTestHolds", spec := "fnExactTestHolds", plainKeys := false, apart := false, narrowed := true }
def FnExactTestHoldsUptoSaid : Prop := fnExactTestHoldsUptoRow.holds Try.pinned (OpenSpec.upto fnExactTestHoldsSpec)

/-- 'laws.FnTestHolds', WHERE WHAT IT READS IS OF BULK AT MOST 1048576: true; the input reads as it did. -/
def fnTestHoldsUptoRow : OpenClaim := { program := "ytcnjahaoecngbaa", sum := "f82c82b7b90c8a3c2a5f5c121899b43091877bef6fe220eaf3b64db95f849b5c", func := "loop.example/separation/laws.FnTestHolds", spec := "fnTestHolds", plainKeys := false, apart := false, narrowed := true }
def FnTestHoldsUptoSaid : Prop := fnTestHoldsUptoRow.holds Try.pinned (OpenSpec.upto fnTestHoldsSpec)

/-- 'laws.FnStarAssertions', WHERE WHAT IT READS IS OF BULK AT MOST 1048576: true; the input reads as it did. -/
def fnStarAssertionsUptoRow : OpenClaim := { program := "ytcnjahaoecngbaa", sum := "f82c82b7b90c8a3c2a5f5c121899b43091877bef6fe220eaf3b64db95f849b5c", func := "loop.example/separation/laws.FnStarAssertions", spec := "fnStarAssertions", plainKeys := false, apart := false, narrowed := true }
def FnStarAssertionsUptoSaid : Prop := fnStarAssertionsUptoRow.holds Try.pinned (OpenSpec.upto fnStarAssertionsSpec)

/-- 'laws.FnSubstAssertion', WHERE WHAT IT READS IS OF BULK AT MOST 1048576: true; the input reads as it did. -/
def fnSubstAssertionUptoRow : OpenClaim := { program := "ytcnjahaoecngbaa", sum := "f82c82b7b90c8a3c2a5f5c121899b43091877bef6fe220eaf3b64db95f849b5c", func := "loop.example/separation/laws.FnSubstAssertion", spec := "fnSubstAssertion", plainKeys := false, apart := false, narrowed := true }
def FnSubstAssertionUptoSaid : Prop := fnSubstAssertionUptoRow.holds Try.pinned (OpenSpec.upto fnSubstAssertionSpec)

/-- 'laws.FnSubstBack', WHERE WHAT IT READS IS OF BULK AT MOST 1048576: true; the input reads as it did. -/
def fnSubstBackUptoRow : OpenClaim := { program := "ytcnjahaoecngbaa", sum := "f82c82b7b90c8a3c2a5f5c121899b43091877bef6fe220eaf3b64db95f849b5c", func := "loop.example/separation/laws.FnSubstBack", spec := "fnSubstBack", plainKeys := false, apart := false, narrowed := true }
def FnSubstBackUptoSaid : Prop := fnSubstBackUptoRow.holds Try.pinned (OpenSpec.upto fnSubstBackSpec)

/-- 'laws.FnExactPickAtoms', WHERE WHAT IT READS IS OF BULK AT MOST 1048576: true; the input reads as it did. -/
def fnExactPickAtomsUptoRow : OpenClaim := { program := "ytcnjahaoecngbaa", sum := "f82c82b7b90c8a3c2a5f5c121899b43091877bef6fe220eaf3b64db95f849b5c", func := "loop.example/separation/laws.FnExactPickAtoms", spec := "fnExactPickAtoms", plainKeys := false, apart := false, narrowed := true }
def FnExactPickAtomsUptoSaid : Prop := fnExactPickAtomsUptoRow.holds Try.pinned (OpenSpec.upto fnExactPickAtomsSpec)

/-- 'laws.FnProgramSame', WHERE WHAT IT READS IS OF BULK AT MOST 1048576: true; the input reads as it did. -/
def fnProgramSameUptoRow : OpenClaim := { program := "ytcnjahaoecngbaa", sum := "f82c82b7b90c8a3c2a5f5c121899b43091877bef6fe220eaf3b64db95f849b5c", func := "loop.example/separation/laws.FnProgramSame", spec := "fnProgramSame", recurses := true, plainKeys := false, apart := false, narrowed := true }
def FnProgramSameUptoSaid : Prop := fnProgramSameUptoRow.holds Try.pinned (OpenSpec.upto fnProgramSameSpec)

/-- 'laws.FnEntails', WHERE WHAT IT READS IS OF BULK AT MOST 1048576: true; the input reads as it did. -/
def fnEntailsUptoRow : OpenClaim := { program := "ytcnjahaoecngbaa", sum := "f82c82b7b90c8a3c2a5f5c121899b43091877bef6fe220eaf3b64db95f849b5c", func := "loop.example/separation/laws.FnEntails", spec := "fnEntails", unfollowed := true, recurses := true, plainKeys := false, apart := false, narrowed := true }
def FnEntailsUptoSaid : Prop := fnEntailsUptoRow.holds Try.pinned (OpenSpec.upto fnEntailsSpec)

/-- 'laws.FnExactProgramSame', WHERE WHAT IT READS IS OF BULK AT MOST 1048576: true; the input reads as it did. -/
def fnExactProgramSameUptoRow : OpenClaim := { program := "ytcnjahaoecngbaa", sum := "f82c82b7b90c8a3c2a5f5c121899b43091877bef6fe220eaf3b64db95f849b5c", func := "loop.example/separation/laws.FnExactProgramSame", spec := "fnExactProgramSame", recurses := true, loops := true, plainKeys := false, apart := false, narrowed := true }
def FnExactProgramSameUptoSaid : Prop := fnExactProgramSameUptoRow.holds Try.pinned (OpenSpec.upto fnExactProgramSameSpec)

/-- 'laws.FnExactAssertionTerms', WHERE WHAT IT READS IS OF BULK AT MOST 1048576: true; the input reads as it did. -/
def fnExactAssertionTermsUptoRow : OpenClaim := { program := "ytcnjahaoecngbaa", sum := "f82c82b7b90c8a3c2a5f5c121899b43091877bef6fe220eaf3b64db95f849b5c", func := "loop.example/separation/laws.FnExactAssertionTerms", spec := "fnExactAssertionTerms", plainKeys := false, apart := false, narrowed := true }
def FnExactAssertionTermsUptoSaid : Prop := fnExactAssertionTermsUptoRow.holds Try.pinned (OpenSpec.upto fnExactAssertionTermsSpec)

/-- 'laws.FnExactNormalForm', WHERE WHAT IT READS IS OF BULK AT MOST 1048576: true; the input reads as it did. -/
def fnExactNormalFormUptoRow : OpenClaim := { program := "ytcnjahaoecngbaa", sum := "f82c82b7b90c8a3c2a5f5c121899b43091877bef6fe220eaf3b64db95f849b5c", func := "loop.example/separation/laws.FnExactNormalForm", spec := "fnExactNormalForm", plainKeys := false, apart := false, narrowed := true }
def FnExactNormalFormUptoSaid : Prop := fnExactNormalFormUptoRow.holds Try.pinned (OpenSpec.upto fnExactNormalFormSpec)

/-- 'laws.FnImpliesEqual', WHERE WHAT IT READS IS OF BULK AT MOST 1048576: true; the input reads as it did. -/
def fnImpliesEqualUptoRow : OpenClaim := { program := "ytcnjahaoecngbaa", sum := "f82c82b7b90c8a3c2a5f5c121899b43091877bef6fe220eaf3b64db95f849b5c", func := "loop.example/separation/laws.FnImpliesEqual", spec := "fnImpliesEqual", unfollowed := true, recurses := true, plainKeys := false, apart := false, narrowed := true }
def FnImpliesEqualUptoSaid : Prop := fnImpliesEqualUptoRow.holds Try.pinned (OpenSpec.upto fnImpliesEqualSpec)

end Rows
end Go.Proofs.Ytcnjahaoecngbaa
