/-
  No cell of these rows narrows 'for every input' (looked for: loops, veiled, ifaces, maps, wideKeys, modest, calm, conditions, laid).
  DERIVED. THE GIVEN ROWS OF THIS SEAT. 12 by the template 'for every input the law returns true; each argument reads behind the call as it read before'; 0 by the template 'total and deterministic' (their statements: YtfoioficiffgkaaTotals.lean).
  GIVEN WITH THE SEED: the statements are not yours to turn. If you find one false, say at which input.
  Laid BY PROGRAM, IN A SANDBOX (cutbox-rows.mjs): the forced cells as the released guide's own fill.sh prints them over the translation 79cc7f529705a81c… (all of the seat's roots in one cut). By AI agents, Wed Nov 11 2026. No macro, syntax, notation, axiom, sorry.
-/
import Derived.Test.YtfoioficiffgkaaChecked
import GoSem.Claim
import GoSem.ClaimJoined
import GoSem.ClaimMapViews
import Derived.JoinedTies
import Derived.KernelRfl
namespace Go.Proofs.Ytfoioficiffgkaa
/- THE CELL 'sum', in the pinned program and in every row, IS THE sha256 OF THE DUMP (.gsa) THAT YtfoioficiffgkaaProg.lean LOADS. Nothing in Lean hashes anything: it is a label: what it is worth is what the hold of that sum in a sandbox is worth. -/
noncomputable def Try.pinned : Pinned := { name := "ytfoioficiffgkaa", sum := "79cc7f529705a81c1a0109a0492e3e9fe6c2fc013f68715d98f89cfccd50415a", checked := Try.checked }
namespace Rows
def none {H : Type} : Left H := { results := [], args := [] }

/-- 'laws.FnNormalForm': WHATEVER THE INPUT: true; the input reads as it did. -/
def fnNormalFormSpec : ChangeSpec := { name := "fnNormalForm", fn := fun _ => fun
  | [d1, d2] => { results := [.lit (.bool true)], args := [d1, d2] }
  | _ => none }
def fnNormalFormRow : OpenClaim := { program := "ytfoioficiffgkaa", sum := "79cc7f529705a81c1a0109a0492e3e9fe6c2fc013f68715d98f89cfccd50415a", func := "loop.example/separation/laws.FnNormalForm", spec := "fnNormalForm", unfollowed := true, recurses := true, apart := false }
def FnNormalFormSaid : Prop := fnNormalFormRow.holds Try.pinned (OpenSpec.ofChange fnNormalFormSpec)

/-- ITS FALSE NEIGHBOUR: 'it returns false'. Refute it at one input. -/
def fnNormalFormWrong : ChangeSpec := { name := "fnNormalForm", fn := fun _ => fun
  | [d1, d2] => { results := [.lit (.bool false)], args := [d1, d2] }
  | _ => none }
def FnNormalFormWrongFalsely : Prop := fnNormalFormRow.holds Try.pinned (OpenSpec.ofChange fnNormalFormWrong)

/-- 'laws.FnExactEntailsCase': WHATEVER THE INPUT: true; the input reads as it did. -/
def fnExactEntailsCaseSpec : ChangeSpec := { name := "fnExactEntailsCase", fn := fun _ => fun
  | [d1, d2, d3] => { results := [.lit (.bool true)], args := [d1, d2, d3] }
  | _ => none }
def fnExactEntailsCaseRow : OpenClaim := { program := "ytfoioficiffgkaa", sum := "79cc7f529705a81c1a0109a0492e3e9fe6c2fc013f68715d98f89cfccd50415a", func := "loop.example/separation/laws.FnExactEntailsCase", spec := "fnExactEntailsCase", apart := false }
def FnExactEntailsCaseSaid : Prop := fnExactEntailsCaseRow.holds Try.pinned (OpenSpec.ofChange fnExactEntailsCaseSpec)

/-- ITS FALSE NEIGHBOUR: 'it returns false'. Refute it at one input. -/
def fnExactEntailsCaseWrong : ChangeSpec := { name := "fnExactEntailsCase", fn := fun _ => fun
  | [d1, d2, d3] => { results := [.lit (.bool false)], args := [d1, d2, d3] }
  | _ => none }
def FnExactEntailsCaseWrongFalsely : Prop := fnExactEntailsCaseRow.holds Try.pinned (OpenSpec.ofChange fnExactEntailsCaseWrong)

/-- 'laws.FnEntailsNothing': WHATEVER THE INPUT: true; the input reads as it did. -/
def fnEntailsNothingSpec : ChangeSpec := { name := "fnEntailsNothing", fn := fun _ => fun
  | [d] => { results := [.lit (.bool true)], args := [d] }
  | _ => none }
def fnEntailsNothingRow : OpenClaim := { program := "ytfoioficiffgkaa", sum := "79cc7f529705a81c1a0109a0492e3e9fe6c2fc013f68715d98f89cfccd50415a", func := "loop.example/separation/laws.FnEntailsNothing", spec := "fnEntailsNothing", unfollowed := true, recurses := true, apart := false }
def FnEntailsNothingSaid : Prop := fnEntailsNothingRow.holds Try.pinned (OpenSpec.ofChange fnEntailsNothingSpec)

/-- ITS FALSE NEIGHBOUR: 'it returns false'. Refute it at one input. -/
def fnEntailsNothingWrong : ChangeSpec := { name := "fnEntailsNothing", fn := fun _ => fun
  | [d] => { results := [.lit (.bool false)], args := [d] }
  | _ => none }
def FnEntailsNothingWrongFalsely : Prop := fnEntailsNothingRow.holds Try.pinned (OpenSpec.ofChange fnEntailsNothingWrong)

/-- 'laws.FnEntailsFrame': WHATEVER THE INPUT: true; the input reads as it did. -/
def fnEntailsFrameSpec : ChangeSpec := { name := "fnEntailsFrame", fn := fun _ => fun
  | [d1, d2] => { results := [.lit (.bool true)], args := [d1, d2] }
  | _ => none }
def fnEntailsFrameRow : OpenClaim := { program := "ytfoioficiffgkaa", sum := "79cc7f529705a81c1a0109a0492e3e9fe6c2fc013f68715d98f89cfccd50415a", func := "loop.example/separation/laws.FnEntailsFrame", spec := "fnEntailsFrame", unfollowed := true, recurses := true, apart := false }
def FnEntailsFrameSaid : Prop := fnEntailsFrameRow.holds Try.pinned (OpenSpec.ofChange fnEntailsFrameSpec)

/-- ITS FALSE NEIGHBOUR: 'it returns false'. Refute it at one input. -/
def fnEntailsFrameWrong : ChangeSpec := { name := "fnEntailsFrame", fn := fun _ => fun
  | [d1, d2] => { results := [.lit (.bool false)], args := [d1, d2] }
  | _ => none }
def FnEntailsFrameWrongFalsely : Prop := fnEntailsFrameRow.holds Try.pinned (OpenSpec.ofChange fnEntailsFrameWrong)

/-- 'laws.FnEntailsFacts': WHATEVER THE INPUT: true; the input reads as it did. -/
def fnEntailsFactsSpec : ChangeSpec := { name := "fnEntailsFacts", fn := fun _ => fun
  | [d1, d2] => { results := [.lit (.bool true)], args := [d1, d2] }
  | _ => none }
def fnEntailsFactsRow : OpenClaim := { program := "ytfoioficiffgkaa", sum := "79cc7f529705a81c1a0109a0492e3e9fe6c2fc013f68715d98f89cfccd50415a", func := "loop.example/separation/laws.FnEntailsFacts", spec := "fnEntailsFacts", unfollowed := true, recurses := true, apart := false }
def FnEntailsFactsSaid : Prop := fnEntailsFactsRow.holds Try.pinned (OpenSpec.ofChange fnEntailsFactsSpec)

/-- ITS FALSE NEIGHBOUR: 'it returns false'. Refute it at one input. -/
def fnEntailsFactsWrong : ChangeSpec := { name := "fnEntailsFacts", fn := fun _ => fun
  | [d1, d2] => { results := [.lit (.bool false)], args := [d1, d2] }
  | _ => none }
def FnEntailsFactsWrongFalsely : Prop := fnEntailsFactsRow.holds Try.pinned (OpenSpec.ofChange fnEntailsFactsWrong)

/-- 'laws.FnEntailsReflexive': WHATEVER THE INPUT: true; the input reads as it did. -/
def fnEntailsReflexiveSpec : ChangeSpec := { name := "fnEntailsReflexive", fn := fun _ => fun
  | [d] => { results := [.lit (.bool true)], args := [d] }
  | _ => none }
def fnEntailsReflexiveRow : OpenClaim := { program := "ytfoioficiffgkaa", sum := "79cc7f529705a81c1a0109a0492e3e9fe6c2fc013f68715d98f89cfccd50415a", func := "loop.example/separation/laws.FnEntailsReflexive", spec := "fnEntailsReflexive", unfollowed := true, recurses := true, apart := false }
def FnEntailsReflexiveSaid : Prop := fnEntailsReflexiveRow.holds Try.pinned (OpenSpec.ofChange fnEntailsReflexiveSpec)

/-- ITS FALSE NEIGHBOUR: 'it returns false'. Refute it at one input. -/
def fnEntailsReflexiveWrong : ChangeSpec := { name := "fnEntailsReflexive", fn := fun _ => fun
  | [d] => { results := [.lit (.bool false)], args := [d] }
  | _ => none }
def FnEntailsReflexiveWrongFalsely : Prop := fnEntailsReflexiveRow.holds Try.pinned (OpenSpec.ofChange fnEntailsReflexiveWrong)

/-- 'laws.FnEquivalentSubst': WHATEVER THE INPUT: true; the input reads as it did. -/
def fnEquivalentSubstSpec : ChangeSpec := { name := "fnEquivalentSubst", fn := fun _ => fun
  | [d] => { results := [.lit (.bool true)], args := [d] }
  | _ => none }
def fnEquivalentSubstRow : OpenClaim := { program := "ytfoioficiffgkaa", sum := "79cc7f529705a81c1a0109a0492e3e9fe6c2fc013f68715d98f89cfccd50415a", func := "loop.example/separation/laws.FnEquivalentSubst", spec := "fnEquivalentSubst", unfollowed := true, recurses := true, apart := false }
def FnEquivalentSubstSaid : Prop := fnEquivalentSubstRow.holds Try.pinned (OpenSpec.ofChange fnEquivalentSubstSpec)

/-- ITS FALSE NEIGHBOUR: 'it returns false'. Refute it at one input. -/
def fnEquivalentSubstWrong : ChangeSpec := { name := "fnEquivalentSubst", fn := fun _ => fun
  | [d] => { results := [.lit (.bool false)], args := [d] }
  | _ => none }
def FnEquivalentSubstWrongFalsely : Prop := fnEquivalentSubstRow.holds Try.pinned (OpenSpec.ofChange fnEquivalentSubstWrong)

/-- 'laws.FnEntails': WHATEVER THE INPUT: true; the input reads as it did. -/
def fnEntailsSpec : ChangeSpec := { name := "fnEntails", fn := fun _ => fun
  | [d1, d2] => { results := [.lit (.bool true)], args := [d1, d2] }
  | _ => none }
def fnEntailsRow : OpenClaim := { program := "ytfoioficiffgkaa", sum := "79cc7f529705a81c1a0109a0492e3e9fe6c2fc013f68715d98f89cfccd50415a", func := "loop.example/separation/laws.FnEntails", spec := "fnEntails", unfollowed := true, recurses := true, apart := false }
def FnEntailsSaid : Prop := fnEntailsRow.holds Try.pinned (OpenSpec.ofChange fnEntailsSpec)

/-- ITS FALSE NEIGHBOUR: 'it returns false'. Refute it at one input. -/
def fnEntailsWrong : ChangeSpec := { name := "fnEntails", fn := fun _ => fun
  | [d1, d2] => { results := [.lit (.bool false)], args := [d1, d2] }
  | _ => none }
def FnEntailsWrongFalsely : Prop := fnEntailsRow.holds Try.pinned (OpenSpec.ofChange fnEntailsWrong)

/-- 'laws.FnEntailsTransitive': WHATEVER THE INPUT: true; the input reads as it did. -/
def fnEntailsTransitiveSpec : ChangeSpec := { name := "fnEntailsTransitive", fn := fun _ => fun
  | [d1, d2] => { results := [.lit (.bool true)], args := [d1, d2] }
  | _ => none }
def fnEntailsTransitiveRow : OpenClaim := { program := "ytfoioficiffgkaa", sum := "79cc7f529705a81c1a0109a0492e3e9fe6c2fc013f68715d98f89cfccd50415a", func := "loop.example/separation/laws.FnEntailsTransitive", spec := "fnEntailsTransitive", unfollowed := true, recurses := true, apart := false }
def FnEntailsTransitiveSaid : Prop := fnEntailsTransitiveRow.holds Try.pinned (OpenSpec.ofChange fnEntailsTransitiveSpec)

/-- ITS FALSE NEIGHBOUR: 'it returns false'. Refute it at one input. -/
def fnEntailsTransitiveWrong : ChangeSpec := { name := "fnEntailsTransitive", fn := fun _ => fun
  | [d1, d2] => { results := [.lit (.bool false)], args := [d1, d2] }
  | _ => none }
def FnEntailsTransitiveWrongFalsely : Prop := fnEntailsTransitiveRow.holds Try.pinned (OpenSpec.ofChange fnEntailsTransitiveWrong)

/-- 'laws.FnUnfoldList': WHATEVER THE INPUT: true; the input reads as it did. -/
def fnUnfoldListSpec : ChangeSpec := { name := "fnUnfoldList", fn := fun _ => fun
  | [d] => { results := [.lit (.bool true)], args := [d] }
  | _ => none }
def fnUnfoldListRow : OpenClaim := { program := "ytfoioficiffgkaa", sum := "79cc7f529705a81c1a0109a0492e3e9fe6c2fc013f68715d98f89cfccd50415a", func := "loop.example/separation/laws.FnUnfoldList", spec := "fnUnfoldList", unfollowed := true, recurses := true, apart := false }
def FnUnfoldListSaid : Prop := fnUnfoldListRow.holds Try.pinned (OpenSpec.ofChange fnUnfoldListSpec)

/-- ITS FALSE NEIGHBOUR: 'it returns false'. Refute it at one input. -/
def fnUnfoldListWrong : ChangeSpec := { name := "fnUnfoldList", fn := fun _ => fun
  | [d] => { results := [.lit (.bool false)], args := [d] }
  | _ => none }
def FnUnfoldListWrongFalsely : Prop := fnUnfoldListRow.holds Try.pinned (OpenSpec.ofChange fnUnfoldListWrong)

/-- 'laws.FnFoldCells': WHATEVER THE INPUT: true; the input reads as it did. -/
def fnFoldCellsSpec : ChangeSpec := { name := "fnFoldCells", fn := fun _ => fun
  | [d] => { results := [.lit (.bool true)], args := [d] }
  | _ => none }
def fnFoldCellsRow : OpenClaim := { program := "ytfoioficiffgkaa", sum := "79cc7f529705a81c1a0109a0492e3e9fe6c2fc013f68715d98f89cfccd50415a", func := "loop.example/separation/laws.FnFoldCells", spec := "fnFoldCells", unfollowed := true, recurses := true, apart := false }
def FnFoldCellsSaid : Prop := fnFoldCellsRow.holds Try.pinned (OpenSpec.ofChange fnFoldCellsSpec)

/-- ITS FALSE NEIGHBOUR: 'it returns false'. Refute it at one input. -/
def fnFoldCellsWrong : ChangeSpec := { name := "fnFoldCells", fn := fun _ => fun
  | [d] => { results := [.lit (.bool false)], args := [d] }
  | _ => none }
def FnFoldCellsWrongFalsely : Prop := fnFoldCellsRow.holds Try.pinned (OpenSpec.ofChange fnFoldCellsWrong)

/-- 'laws.FnExactFoldCells': WHATEVER THE INPUT: true; the input reads as it did. -/
def fnExactFoldCellsSpec : ChangeSpec := { name := "fnExactFoldCells", fn := fun _ => fun
  | [d] => { results := [.lit (.bool true)], args := [d] }
  | _ => none }
def fnExactFoldCellsRow : OpenClaim := { program := "ytfoioficiffgkaa", sum := "79cc7f529705a81c1a0109a0492e3e9fe6c2fc013f68715d98f89cfccd50415a", func := "loop.example/separation/laws.FnExactFoldCells", spec := "fnExactFoldCells", unfollowed := true, recurses := true, apart := false }
def FnExactFoldCellsSaid : Prop := fnExactFoldCellsRow.holds Try.pinned (OpenSpec.ofChange fnExactFoldCellsSpec)

/-- ITS FALSE NEIGHBOUR: 'it returns false'. Refute it at one input. -/
def fnExactFoldCellsWrong : ChangeSpec := { name := "fnExactFoldCells", fn := fun _ => fun
  | [d] => { results := [.lit (.bool false)], args := [d] }
  | _ => none }
def FnExactFoldCellsWrongFalsely : Prop := fnExactFoldCellsRow.holds Try.pinned (OpenSpec.ofChange fnExactFoldCellsWrong)

/- THE SECOND FORM. 'bulk': how many values and letters a reading holds, each counted each time it is reached (what is shared counts as often as it is met; a slice's spare places count too). A statement '..UptoSaid' is the law's where the arguments, and the package variables that the reading takes, are together of bulk at most 1048576: NARROWER than '..Said'. Prove '..Said' where nothing that the law and all that it calls make is longer than what came in: it says more and counts as full. Else prove '..UptoSaid'. A law counts once. -/
mutual
def uptoBulk {H : Type} : DataW H → Nat
  | .lit (.string bytes) => bytes.length + 1
  | .lit _ => 1
  | .nil => 1
  | .ptr d => uptoBulk d + 1
  | .slice elems spare => uptoBulkAll elems + uptoBulkAll spare + 1
  | .agg parts => uptoBulkAll parts + 1
  | .iface _ d => uptoBulk d + 1
  | .map entries => uptoBulkEntries entries + 1
  | .held _ => 1
def uptoBulkAll {H : Type} : List (DataW H) → Nat
  | [] => 0
  | d :: r => uptoBulk d + uptoBulkAll r
def uptoBulkEntries {H : Type} : List (Lit × DataW H) → Nat
  | [] => 0
  | x :: r => uptoBulkEntry x + uptoBulkEntries r
def uptoBulkEntry {H : Type} : Lit × DataW H → Nat
  | (.string bytes, d) => bytes.length + uptoBulk d + 1
  | (_, d) => uptoBulk d + 1
 end
def uptoSmall : (H : Type) → List (DataW H) → Bool := fun _ ds => decide (uptoBulkAll ds ≤ 1048576)
def OpenSpec.upto (s : _root_.Go.ChangeSpec) : _root_.Go.OpenSpec := { _root_.Go.OpenSpec.ofChange s with cond := some uptoSmall }

/-- 'laws.FnNormalForm', WHERE WHAT IT READS IS OF BULK AT MOST 1048576: true; the input reads as it did. -/
def fnNormalFormUptoRow : OpenClaim := { program := "ytfoioficiffgkaa", sum := "79cc7f529705a81c1a0109a0492e3e9fe6c2fc013f68715d98f89cfccd50415a", func := "loop.example/separation/laws.FnNormalForm", spec := "fnNormalForm", unfollowed := true, recurses := true, apart := false, narrowed := true }
def FnNormalFormUptoSaid : Prop := fnNormalFormUptoRow.holds Try.pinned (OpenSpec.upto fnNormalFormSpec)

/-- 'laws.FnExactEntailsCase', WHERE WHAT IT READS IS OF BULK AT MOST 1048576: true; the input reads as it did. -/
def fnExactEntailsCaseUptoRow : OpenClaim := { program := "ytfoioficiffgkaa", sum := "79cc7f529705a81c1a0109a0492e3e9fe6c2fc013f68715d98f89cfccd50415a", func := "loop.example/separation/laws.FnExactEntailsCase", spec := "fnExactEntailsCase", apart := false, narrowed := true }
def FnExactEntailsCaseUptoSaid : Prop := fnExactEntailsCaseUptoRow.holds Try.pinned (OpenSpec.upto fnExactEntailsCaseSpec)

/-- 'laws.FnEntailsNothing', WHERE WHAT IT READS IS OF BULK AT MOST 1048576: true; the input reads as it did. -/
def fnEntailsNothingUptoRow : OpenClaim := { program := "ytfoioficiffgkaa", sum := "79cc7f529705a81c1a0109a0492e3e9fe6c2fc013f68715d98f89cfccd50415a", func := "loop.example/separation/laws.FnEntailsNothing", spec := "fnEntailsNothing", unfollowed := true, recurses := true, apart := false, narrowed := true }
def FnEntailsNothingUptoSaid : Prop := fnEntailsNothingUptoRow.holds Try.pinned (OpenSpec.upto fnEntailsNothingSpec)

/-- 'laws.FnEntailsFrame', WHERE WHAT IT READS IS OF BULK AT MOST 1048576: true; the input reads as it did. -/
def fnEntailsFrameUptoRow : OpenClaim := { program := "ytfoioficiffgkaa", sum := "79cc7f529705a81c1a0109a0492e3e9fe6c2fc013f68715d98f89cfccd50415a", func := "loop.example/separation/laws.FnEntailsFrame", spec := "fnEntailsFrame", unfollowed := true, recurses := true, apart := false, narrowed := true }
def FnEntailsFrameUptoSaid : Prop := fnEntailsFrameUptoRow.holds Try.pinned (OpenSpec.upto fnEntailsFrameSpec)

/-- 'laws.FnEntailsFacts', WHERE WHAT IT READS IS OF BULK AT MOST 1048576: true; the input reads as it did. -/
def fnEntailsFactsUptoRow : OpenClaim := { program := "ytfoioficiffgkaa", sum := "79cc7f529705a81c1a0109a0492e3e9fe6c2fc013f68715d98f89cfccd50415a", func := "loop.example/separation/laws.FnEntailsFacts", spec := "fnEntailsFacts", unfollowed := true, recurses := true, apart := false, narrowed := true }
def FnEntailsFactsUptoSaid : Prop := fnEntailsFactsUptoRow.holds Try.pinned (OpenSpec.upto fnEntailsFactsSpec)

/-- 'laws.FnEntailsReflexive', WHERE WHAT IT READS IS OF BULK AT MOST 1048576: true; the input reads as it did. -/
def fnEntailsReflexiveUptoRow : OpenClaim := { program := "ytfoioficiffgkaa", sum := "79cc7f529705a81c1a0109a0492e3e9fe6c2fc013f68715d98f89cfccd50415a", func := "loop.example/separation/laws.FnEntailsReflexive", spec := "fnEntailsReflexive", unfollowed := true, recurses := true, apart := false, narrowed := true }
def FnEntailsReflexiveUptoSaid : Prop := fnEntailsReflexiveUptoRow.holds Try.pinned (OpenSpec.upto fnEntailsReflexiveSpec)

/-- 'laws.FnEquivalentSubst', WHERE WHAT IT READS IS OF BULK AT MOST 1048576: true; the input reads as it did. -/
def fnEquivalentSubstUptoRow : OpenClaim := { program := "ytfoioficiffgkaa", sum := "79cc7f529705a81c1a0109a0492e3e9fe6c2fc013f68715d98f89cfccd50415a", func := "loop.example/separation/laws.FnEquivalentSubst", spec := "fnEquivalentSubst", unfollowed := true, recurses := true, apart := false, narrowed := true }
def FnEquivalentSubstUptoSaid : Prop := fnEquivalentSubstUptoRow.holds Try.pinned (OpenSpec.upto fnEquivalentSubstSpec)

/-- 'laws.FnEntails', WHERE WHAT IT READS IS OF BULK AT MOST 1048576: true; the input reads as it did. -/
def fnEntailsUptoRow : OpenClaim := { program := "ytfoioficiffgkaa", sum := "79cc7f529705a81c1a0109a0492e3e9fe6c2fc013f68715d98f89cfccd50415a", func := "loop.example/separation/laws.FnEntails", spec := "fnEntails", unfollowed := true, recurses := true, apart := false, narrowed := true }
def FnEntailsUptoSaid : Prop := fnEntailsUptoRow.holds Try.pinned (OpenSpec.upto fnEntailsSpec)

/-- 'laws.FnEntailsTransitive', WHERE WHAT IT READS IS OF BULK AT MOST 1048576: true; the input reads as it did. -/
def fnEntailsTransitiveUptoRow : OpenClaim := { program := "ytfoioficiffgkaa", sum := "79cc7f529705a81c1a0109a0492e3e9fe6c2fc013f68715d98f89cfccd50415a", func := "loop.example/separation/laws.FnEntailsTransitive", spec := "fnEntailsTransitive", unfollowed := true, recurses := true, apart := false, narrowed := true }
def FnEntailsTransitiveUptoSaid : Prop := fnEntailsTransitiveUptoRow.holds Try.pinned (OpenSpec.upto fnEntailsTransitiveSpec)

/-- 'laws.FnUnfoldList', WHERE WHAT IT READS IS OF BULK AT MOST 1048576: true; the input reads as it did. -/
def fnUnfoldListUptoRow : OpenClaim := { program := "ytfoioficiffgkaa", sum := "79cc7f529705a81c1a0109a0492e3e9fe6c2fc013f68715d98f89cfccd50415a", func := "loop.example/separation/laws.FnUnfoldList", spec := "fnUnfoldList", unfollowed := true, recurses := true, apart := false, narrowed := true }
def FnUnfoldListUptoSaid : Prop := fnUnfoldListUptoRow.holds Try.pinned (OpenSpec.upto fnUnfoldListSpec)

/-- 'laws.FnFoldCells', WHERE WHAT IT READS IS OF BULK AT MOST 1048576: true; the input reads as it did. -/
def fnFoldCellsUptoRow : OpenClaim := { program := "ytfoioficiffgkaa", sum := "79cc7f529705a81c1a0109a0492e3e9fe6c2fc013f68715d98f89cfccd50415a", func := "loop.example/separation/laws.FnFoldCells", spec := "fnFoldCells", unfollowed := true, recurses := true, apart := false, narrowed := true }
def FnFoldCellsUptoSaid : Prop := fnFoldCellsUptoRow.holds Try.pinned (OpenSpec.upto fnFoldCellsSpec)

/-- 'laws.FnExactFoldCells', WHERE WHAT IT READS IS OF BULK AT MOST 1048576: true; the input reads as it did. -/
def fnExactFoldCellsUptoRow : OpenClaim := { program := "ytfoioficiffgkaa", sum := "79cc7f529705a81c1a0109a0492e3e9fe6c2fc013f68715d98f89cfccd50415a", func := "loop.example/separation/laws.FnExactFoldCells", spec := "fnExactFoldCells", unfollowed := true, recurses := true, apart := false, narrowed := true }
def FnExactFoldCellsUptoSaid : Prop := fnExactFoldCellsUptoRow.holds Try.pinned (OpenSpec.upto fnExactFoldCellsSpec)

end Rows
end Go.Proofs.Ytfoioficiffgkaa
