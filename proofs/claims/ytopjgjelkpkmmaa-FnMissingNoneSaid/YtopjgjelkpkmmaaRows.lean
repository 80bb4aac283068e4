/-
  No cell of these rows narrows 'for every input' (looked for: loops, veiled, ifaces, maps, wideKeys, modest, calm, conditions, laid).
  DERIVED. THE GIVEN ROWS OF THIS SEAT. 12 by the template 'for every input the law returns true; each argument reads behind the call as it read before'; 0 by the template 'total and deterministic' (their statements: YtopjgjelkpkmmaaTotals.lean).
  GIVEN WITH THE SEED: the statements are not yours to turn. If you find one false, say at which input.
  Laid BY PROGRAM, IN A SANDBOX (cutbox-rows.mjs): the forced cells as the released guide's own fill.sh prints them over the translation c1a8df082c2c61c1… (all of the seat's roots in one cut). By AI agents, Wed Nov 11 2026. No macro, syntax, notation, axiom, sorry.
-/
import Derived.Test.YtopjgjelkpkmmaaChecked
import GoSem.Claim
import GoSem.ClaimJoined
import GoSem.ClaimMapViews
import Derived.JoinedTies
import Derived.KernelRfl
namespace Go.Proofs.Ytopjgjelkpkmmaa
/- THE CELL 'sum', in the pinned program and in every row, IS THE sha256 OF THE DUMP (.gsa) THAT YtopjgjelkpkmmaaProg.lean LOADS. Nothing in Lean hashes anything: it is a label: what it is worth is what the hold of that sum in a sandbox is worth. -/
noncomputable def Try.pinned : Pinned := { name := "ytopjgjelkpkmmaa", sum := "c1a8df082c2c61c1a25f4fddfd7e1219cc26d1983f133d377bfd4e0ad045827b", checked := Try.checked }
namespace Rows
def none {H : Type} : Left H := { results := [], args := [] }

/-- 'laws.FnEntailsModels': WHATEVER THE INPUT: true; the input reads as it did. -/
def fnEntailsModelsSpec : ChangeSpec := { name := "fnEntailsModels", fn := fun _ => fun
  | [d] => { results := [.lit (.bool true)], args := [d] }
  | _ => none }
def fnEntailsModelsRow : OpenClaim := { program := "ytopjgjelkpkmmaa", sum := "c1a8df082c2c61c1a25f4fddfd7e1219cc26d1983f133d377bfd4e0ad045827b", func := "loop.example/separation/laws.FnEntailsModels", spec := "fnEntailsModels", unfollowed := true, recurses := true, apart := false }
def FnEntailsModelsSaid : Prop := fnEntailsModelsRow.holds Try.pinned (OpenSpec.ofChange fnEntailsModelsSpec)

/-- ITS FALSE NEIGHBOUR: 'it returns false'. Refute it at one input. -/
def fnEntailsModelsWrong : ChangeSpec := { name := "fnEntailsModels", fn := fun _ => fun
  | [d] => { results := [.lit (.bool false)], args := [d] }
  | _ => none }
def FnEntailsModelsWrongFalsely : Prop := fnEntailsModelsRow.holds Try.pinned (OpenSpec.ofChange fnEntailsModelsWrong)

/-- 'laws.FnExactCounterModel': WHATEVER THE INPUT: true; the input reads as it did. -/
def fnExactCounterModelSpec : ChangeSpec := { name := "fnExactCounterModel", fn := fun _ => fun
  | [d1, d2] => { results := [.lit (.bool true)], args := [d1, d2] }
  | _ => none }
def fnExactCounterModelRow : OpenClaim := { program := "ytopjgjelkpkmmaa", sum := "c1a8df082c2c61c1a25f4fddfd7e1219cc26d1983f133d377bfd4e0ad045827b", func := "loop.example/separation/laws.FnExactCounterModel", spec := "fnExactCounterModel", unfollowed := true, recurses := true, apart := false }
def FnExactCounterModelSaid : Prop := fnExactCounterModelRow.holds Try.pinned (OpenSpec.ofChange fnExactCounterModelSpec)

/-- ITS FALSE NEIGHBOUR: 'it returns false'. Refute it at one input. -/
def fnExactCounterModelWrong : ChangeSpec := { name := "fnExactCounterModel", fn := fun _ => fun
  | [d1, d2] => { results := [.lit (.bool false)], args := [d1, d2] }
  | _ => none }
def FnExactCounterModelWrongFalsely : Prop := fnExactCounterModelRow.holds Try.pinned (OpenSpec.ofChange fnExactCounterModelWrong)

/-- 'laws.FnPickAtoms': WHATEVER THE INPUT: true; the input reads as it did. -/
def fnPickAtomsSpec : ChangeSpec := { name := "fnPickAtoms", fn := fun _ => fun
  | [d] => { results := [.lit (.bool true)], args := [d] }
  | _ => none }
def fnPickAtomsRow : OpenClaim := { program := "ytopjgjelkpkmmaa", sum := "c1a8df082c2c61c1a25f4fddfd7e1219cc26d1983f133d377bfd4e0ad045827b", func := "loop.example/separation/laws.FnPickAtoms", spec := "fnPickAtoms", unfollowed := true, recurses := true, apart := false }
def FnPickAtomsSaid : Prop := fnPickAtomsRow.holds Try.pinned (OpenSpec.ofChange fnPickAtomsSpec)

/-- ITS FALSE NEIGHBOUR: 'it returns false'. Refute it at one input. -/
def fnPickAtomsWrong : ChangeSpec := { name := "fnPickAtoms", fn := fun _ => fun
  | [d] => { results := [.lit (.bool false)], args := [d] }
  | _ => none }
def FnPickAtomsWrongFalsely : Prop := fnPickAtomsRow.holds Try.pinned (OpenSpec.ofChange fnPickAtomsWrong)

/-- 'laws.FnFrameEntails': WHATEVER THE INPUT: true; the input reads as it did. -/
def fnFrameEntailsSpec : ChangeSpec := { name := "fnFrameEntails", fn := fun _ => fun
  | [d] => { results := [.lit (.bool true)], args := [d] }
  | _ => none }
def fnFrameEntailsRow : OpenClaim := { program := "ytopjgjelkpkmmaa", sum := "c1a8df082c2c61c1a25f4fddfd7e1219cc26d1983f133d377bfd4e0ad045827b", func := "loop.example/separation/laws.FnFrameEntails", spec := "fnFrameEntails", unfollowed := true, recurses := true, apart := false }
def FnFrameEntailsSaid : Prop := fnFrameEntailsRow.holds Try.pinned (OpenSpec.ofChange fnFrameEntailsSpec)

/-- ITS FALSE NEIGHBOUR: 'it returns false'. Refute it at one input. -/
def fnFrameEntailsWrong : ChangeSpec := { name := "fnFrameEntails", fn := fun _ => fun
  | [d] => { results := [.lit (.bool false)], args := [d] }
  | _ => none }
def FnFrameEntailsWrongFalsely : Prop := fnFrameEntailsRow.holds Try.pinned (OpenSpec.ofChange fnFrameEntailsWrong)

/-- 'laws.FnUseFrame': WHATEVER THE INPUT: true; the input reads as it did. -/
def fnUseFrameSpec : ChangeSpec := { name := "fnUseFrame", fn := fun _ => fun
  | [d] => { results := [.lit (.bool true)], args := [d] }
  | _ => none }
def fnUseFrameRow : OpenClaim := { program := "ytopjgjelkpkmmaa", sum := "c1a8df082c2c61c1a25f4fddfd7e1219cc26d1983f133d377bfd4e0ad045827b", func := "loop.example/separation/laws.FnUseFrame", spec := "fnUseFrame", unfollowed := true, recurses := true, apart := false }
def FnUseFrameSaid : Prop := fnUseFrameRow.holds Try.pinned (OpenSpec.ofChange fnUseFrameSpec)

/-- ITS FALSE NEIGHBOUR: 'it returns false'. Refute it at one input. -/
def fnUseFrameWrong : ChangeSpec := { name := "fnUseFrame", fn := fun _ => fun
  | [d] => { results := [.lit (.bool false)], args := [d] }
  | _ => none }
def FnUseFrameWrongFalsely : Prop := fnUseFrameRow.holds Try.pinned (OpenSpec.ofChange fnUseFrameWrong)

/-- 'laws.FnMissingOf': WHATEVER THE INPUT: true; the input reads as it did. -/
def fnMissingOfSpec : ChangeSpec := { name := "fnMissingOf", fn := fun _ => fun
  | [d] => { results := [.lit (.bool true)], args := [d] }
  | _ => none }
def fnMissingOfRow : OpenClaim := { program := "ytopjgjelkpkmmaa", sum := "c1a8df082c2c61c1a25f4fddfd7e1219cc26d1983f133d377bfd4e0ad045827b", func := "loop.example/separation/laws.FnMissingOf", spec := "fnMissingOf", unfollowed := true, recurses := true, apart := false }
def FnMissingOfSaid : Prop := fnMissingOfRow.holds Try.pinned (OpenSpec.ofChange fnMissingOfSpec)

/-- ITS FALSE NEIGHBOUR: 'it returns false'. Refute it at one input. -/
def fnMissingOfWrong : ChangeSpec := { name := "fnMissingOf", fn := fun _ => fun
  | [d] => { results := [.lit (.bool false)], args := [d] }
  | _ => none }
def FnMissingOfWrongFalsely : Prop := fnMissingOfRow.holds Try.pinned (OpenSpec.ofChange fnMissingOfWrong)

/-- 'laws.FnExactFrameOf': WHATEVER THE INPUT: true; the input reads as it did. -/
def fnExactFrameOfSpec : ChangeSpec := { name := "fnExactFrameOf", fn := fun _ => fun
  | [d1, d2] => { results := [.lit (.bool true)], args := [d1, d2] }
  | _ => none }
def fnExactFrameOfRow : OpenClaim := { program := "ytopjgjelkpkmmaa", sum := "c1a8df082c2c61c1a25f4fddfd7e1219cc26d1983f133d377bfd4e0ad045827b", func := "loop.example/separation/laws.FnExactFrameOf", spec := "fnExactFrameOf", unfollowed := true, recurses := true, apart := false }
def FnExactFrameOfSaid : Prop := fnExactFrameOfRow.holds Try.pinned (OpenSpec.ofChange fnExactFrameOfSpec)

/-- ITS FALSE NEIGHBOUR: 'it returns false'. Refute it at one input. -/
def fnExactFrameOfWrong : ChangeSpec := { name := "fnExactFrameOf", fn := fun _ => fun
  | [d1, d2] => { results := [.lit (.bool false)], args := [d1, d2] }
  | _ => none }
def FnExactFrameOfWrongFalsely : Prop := fnExactFrameOfRow.holds Try.pinned (OpenSpec.ofChange fnExactFrameOfWrong)

/-- 'laws.FnExactUseFrame': WHATEVER THE INPUT: true; the input reads as it did. -/
def fnExactUseFrameSpec : ChangeSpec := { name := "fnExactUseFrame", fn := fun _ => fun
  | [d1, d2, d3] => { results := [.lit (.bool true)], args := [d1, d2, d3] }
  | _ => none }
def fnExactUseFrameRow : OpenClaim := { program := "ytopjgjelkpkmmaa", sum := "c1a8df082c2c61c1a25f4fddfd7e1219cc26d1983f133d377bfd4e0ad045827b", func := "loop.example/separation/laws.FnExactUseFrame", spec := "fnExactUseFrame", unfollowed := true, recurses := true, apart := false }
def FnExactUseFrameSaid : Prop := fnExactUseFrameRow.holds Try.pinned (OpenSpec.ofChange fnExactUseFrameSpec)

/-- ITS FALSE NEIGHBOUR: 'it returns false'. Refute it at one input. -/
def fnExactUseFrameWrong : ChangeSpec := { name := "fnExactUseFrame", fn := fun _ => fun
  | [d1, d2, d3] => { results := [.lit (.bool false)], args := [d1, d2, d3] }
  | _ => none }
def FnExactUseFrameWrongFalsely : Prop := fnExactUseFrameRow.holds Try.pinned (OpenSpec.ofChange fnExactUseFrameWrong)

/-- 'laws.FnMissingAll': WHATEVER THE INPUT: true; the input reads as it did. -/
def fnMissingAllSpec : ChangeSpec := { name := "fnMissingAll", fn := fun _ => fun
  | [d] => { results := [.lit (.bool true)], args := [d] }
  | _ => none }
def fnMissingAllRow : OpenClaim := { program := "ytopjgjelkpkmmaa", sum := "c1a8df082c2c61c1a25f4fddfd7e1219cc26d1983f133d377bfd4e0ad045827b", func := "loop.example/separation/laws.FnMissingAll", spec := "fnMissingAll", unfollowed := true, recurses := true, apart := false }
def FnMissingAllSaid : Prop := fnMissingAllRow.holds Try.pinned (OpenSpec.ofChange fnMissingAllSpec)

/-- ITS FALSE NEIGHBOUR: 'it returns false'. Refute it at one input. -/
def fnMissingAllWrong : ChangeSpec := { name := "fnMissingAll", fn := fun _ => fun
  | [d] => { results := [.lit (.bool false)], args := [d] }
  | _ => none }
def FnMissingAllWrongFalsely : Prop := fnMissingAllRow.holds Try.pinned (OpenSpec.ofChange fnMissingAllWrong)

/-- 'laws.FnExactCoverOf': WHATEVER THE INPUT: true; the input reads as it did. -/
def fnExactCoverOfSpec : ChangeSpec := { name := "fnExactCoverOf", fn := fun _ => fun
  | [d1, d2] => { results := [.lit (.bool true)], args := [d1, d2] }
  | _ => none }
def fnExactCoverOfRow : OpenClaim := { program := "ytopjgjelkpkmmaa", sum := "c1a8df082c2c61c1a25f4fddfd7e1219cc26d1983f133d377bfd4e0ad045827b", func := "loop.example/separation/laws.FnExactCoverOf", spec := "fnExactCoverOf", unfollowed := true, recurses := true, apart := false }
def FnExactCoverOfSaid : Prop := fnExactCoverOfRow.holds Try.pinned (OpenSpec.ofChange fnExactCoverOfSpec)

/-- ITS FALSE NEIGHBOUR: 'it returns false'. Refute it at one input. -/
def fnExactCoverOfWrong : ChangeSpec := { name := "fnExactCoverOf", fn := fun _ => fun
  | [d1, d2] => { results := [.lit (.bool false)], args := [d1, d2] }
  | _ => none }
def FnExactCoverOfWrongFalsely : Prop := fnExactCoverOfRow.holds Try.pinned (OpenSpec.ofChange fnExactCoverOfWrong)

/-- 'laws.FnMissingNone': WHATEVER THE INPUT: true; the input reads as it did. -/
def fnMissingNoneSpec : ChangeSpec := { name := "fnMissingNone", fn := fun _ => fun
  | [d] => { results := [.lit (.bool true)], args := [d] }
  | _ => none }
def fnMissingNoneRow : OpenClaim := { program := "ytopjgjelkpkmmaa", sum := "c1a8df082c2c61c1a25f4fddfd7e1219cc26d1983f133d377bfd4e0ad045827b", func := "loop.example/separation/laws.FnMissingNone", spec := "fnMissingNone", unfollowed := true, recurses := true, apart := false }
def FnMissingNoneSaid : Prop := fnMissingNoneRow.holds Try.pinned (OpenSpec.ofChange fnMissingNoneSpec)

/-- ITS FALSE NEIGHBOUR: 'it returns false'. Refute it at one input. -/
def fnMissingNoneWrong : ChangeSpec := { name := "fnMissingNone", fn := fun _ => fun
  | [d] => { results := [.lit (.bool false)], args := [d] }
  | _ => none }
def FnMissingNoneWrongFalsely : Prop := fnMissingNoneRow.holds Try.pinned (OpenSpec.ofChange fnMissingNoneWrong)

/-- 'laws.FnExactMissingOf': WHATEVER THE INPUT: true; the input reads as it did. -/
def fnExactMissingOfSpec : ChangeSpec := { name := "fnExactMissingOf", fn := fun _ => fun
  | [d1, d2] => { results := [.lit (.bool true)], args := [d1, d2] }
  | _ => none }
def fnExactMissingOfRow : OpenClaim := { program := "ytopjgjelkpkmmaa", sum := "c1a8df082c2c61c1a25f4fddfd7e1219cc26d1983f133d377bfd4e0ad045827b", func := "loop.example/separation/laws.FnExactMissingOf", spec := "fnExactMissingOf", unfollowed := true, recurses := true, apart := false }
def FnExactMissingOfSaid : Prop := fnExactMissingOfRow.holds Try.pinned (OpenSpec.ofChange fnExactMissingOfSpec)

/-- ITS FALSE NEIGHBOUR: 'it returns false'. Refute it at one input. -/
def fnExactMissingOfWrong : ChangeSpec := { name := "fnExactMissingOf", fn := fun _ => fun
  | [d1, d2] => { results := [.lit (.bool false)], args := [d1, d2] }
  | _ => none }
def FnExactMissingOfWrongFalsely : Prop := fnExactMissingOfRow.holds Try.pinned (OpenSpec.ofChange fnExactMissingOfWrong)

/- THE SECOND FORM. 'bulk': how many values and letters a reading holds, each counted each time it is reached (what is shared counts as often as it is met; a slice's spare places count too). A statement '..UptoSaid' is the law's where the arguments, and the package variables that the reading takes, are together of bulk at most 1048576: NARROWER than '..Said'. Prove '..Said' where nothing that the law and all that it calls make is longer than what came in: it says more and counts as full. Else prove '..UptoSaid'. A law counts once. -/
mutual
def uptoBulk {H : Type} : DataW H → Nat
  | .lit (.string bytes) => bytes.length + 1
  | .lit _ => 1
  | .nil => 1
  | .ptr d => uptoBulk d + 1
  | .slice elems spare => uptoBulkAll elems + uptoBulkAll spare + 1
  | .agg parts => uptoBulkAll parts + 1
  | .iface _ d => uptoBulk d + 1
  | .map entries => uptoBulkEntries entries + 1
  | .held _ => 1
def uptoBulkAll {H : Type} : List (DataW H) → Nat
  | [] => 0
  | d :: r => uptoBulk d + uptoBulkAll r
def uptoBulkEntries {H : Type} : List (Lit × DataW H) → Nat
  | [] => 0
  | x :: r => uptoBulkEntry x + uptoBulkEntries r
def uptoBulkEntry {H : Type} : Lit × DataW H → Nat
  | (.string bytes, d) => bytes.length + uptoBulk d + 1
  | (_, d) => uptoBulk d + 1
 end
def uptoSmall : (H : Type) → List (DataW H) → Bool := fun _ ds => decide (uptoBulkAll ds ≤ 1048576)
def OpenSpec.upto (s : _root_.Go.ChangeSpec) : _root_.Go.OpenSpec := { _root_.Go.OpenSpec.ofChange s with cond := some uptoSmall }

/-- 'laws.FnEntailsModels', WHERE WHAT IT READS IS OF BULK AT MOST 1048576: true; the input reads as it did. -/
def fnEntailsModelsUptoRow : OpenClaim := { program := "ytopjgjelkpkmmaa", sum := "c1a8df082c2c61c1a25f4fddfd7e1219cc26d1983f133d377bfd4e0ad045827b", func := "loop.example/separation/laws.FnEntailsModels", spec := "fnEntailsModels", unfollowed := true, recurses := true, apart := false, narrowed := true }
def FnEntailsModelsUptoSaid : Prop := fnEntailsModelsUptoRow.holds Try.pinned (OpenSpec.upto fnEntailsModelsSpec)

/-- 'laws.FnExactCounterModel', WHERE WHAT IT READS IS OF BULK AT MOST 1048576: true; the input reads as it did. -/
def fnExactCounterModelUptoRow : OpenClaim := { program := "ytopjgjelkpkmmaa", sum := "c1a8df082c2c61c1a25f4fddfd7e1219cc26d1983f133d377bfd4e0ad045827b", func := "loop.example/separation/laws.FnExactCounterModel", spec := "fnExactCounterModel", unfollowed := true, recurses := true, apart := false, narrowed := true }
def FnExactCounterModelUptoSaid : Prop := fnExactCounterModelUptoRow.holds Try.pinned (OpenSpec.upto fnExactCounterModelSpec)

/-- 'laws.FnPickAtoms', WHERE WHAT IT READS IS OF BULK AT MOST 1048576: true; the input reads as it did. -/
def fnPickAtomsUptoRow : OpenClaim := { program := "ytopjgjelkpkmmaa", sum := "c1a8df082c2c61c1a25f4fddfd7e1219cc26d1983f133d377bfd4e0ad045827b", func := "loop.example/separation/laws.FnPickAtoms", spec := "fnPickAtoms", unfollowed := true, recurses := true, apart := false, narrowed := true }
def FnPickAtomsUptoSaid : Prop := fnPickAtomsUptoRow.holds Try.pinned (OpenSpec.upto fnPickAtomsSpec)

/-- 'laws.FnFrameEntails', WHERE WHAT IT READS IS OF BULK AT MOST 1048576: true; the input reads as it did. -/
def fnFrameEntailsUptoRow : OpenClaim := { program := "ytopjgjelkpkmmaa", sum := "c1a8df082c2c61c1a25f4fddfd7e1219cc26d1983f133d377bfd4e0ad045827b", func := "loop.example/separation/laws.FnFrameEntails", spec := "fnFrameEntails", unfollowed := true, recurses := true, apart := false, narrowed := true }
def FnFrameEntailsUptoSaid : Prop := fnFrameEntailsUptoRow.holds Try.pinned (OpenSpec.upto fnFrameEntailsSpec)

/-- 'laws.FnUseFrame', WHERE WHAT IT READS IS OF BULK AT MOST 1048576: true; the input reads as it did. -/
def fnUseFrameUptoRow : OpenClaim := { program := "ytopjgjelkpkmmaa", sum := "c1a8df082c2c61c1a25f4fddfd7e1219cc26d1983f133d377bfd4e0ad045827b", func := "loop.example/separation/laws.FnUseFrame", spec := "fnUseFrame", unfollowed := true, recurses := true, apart := false, narrowed := true }
def FnUseFrameUptoSaid : Prop := fnUseFrameUptoRow.holds Try.pinned (OpenSpec.upto fnUseFrameSpec)

/-- 'laws.FnMissingOf', WHERE WHAT IT READS IS OF BULK AT MOST 1048576: true; the input reads as it did. -/
def fnMissingOfUptoRow : OpenClaim := { program := "ytopjgjelkpkmmaa", sum := "c1a8df082c2c61c1a25f4fddfd7e1219cc26d1983f133d377bfd4e0ad045827b", func := "loop.example/separation/laws.FnMissingOf", spec := "fnMissingOf", unfollowed := true, recurses := true, apart := false, narrowed := true }
def FnMissingOfUptoSaid : Prop := fnMissingOfUptoRow.holds Try.pinned (OpenSpec.upto fnMissingOfSpec)

/-- 'laws.FnExactFrameOf', WHERE WHAT IT READS IS OF BULK AT MOST 1048576: true; the input reads as it did. -/
def fnExactFrameOfUptoRow : OpenClaim := { program := "ytopjgjelkpkmmaa", sum := "c1a8df082c2c61c1a25f4fddfd7e1219cc26d1983f133d377bfd4e0ad045827b", func := "loop.example/separation/laws.FnExactFrameOf", spec := "fnExactFrameOf", unfollowed := true, recurses := true, apart := false, narrowed := true }
def FnExactFrameOfUptoSaid : Prop := fnExactFrameOfUptoRow.holds Try.pinned (OpenSpec.upto fnExactFrameOfSpec)

/-- 'laws.FnExactUseFrame', WHERE WHAT IT READS IS OF BULK AT MOST 1048576: true; the input reads as it did. -/
def fnExactUseFrameUptoRow : OpenClaim := { program := "ytopjgjelkpkmmaa", sum := "c1a8df082c2c61c1a25f4fddfd7e1219cc26d1983f133d377bfd4e0ad045827b", func := "loop.example/separation/laws.FnExactUseFrame", spec := "fnExactUseFrame", unfollowed := true, recurses := true, apart := false, narrowed := true }
def FnExactUseFrameUptoSaid : Prop := fnExactUseFrameUptoRow.holds Try.pinned (OpenSpec.upto fnExactUseFrameSpec)

/-- 'laws.FnMissingAll', WHERE WHAT IT READS IS OF BULK AT MOST 1048576: true; the input reads as it did. -/
def fnMissingAllUptoRow : OpenClaim := { program := "ytopjgjelkpkmmaa", sum := "c1a8df082c2c61c1a25f4fddfd7e1219cc26d1983f133d377bfd4e0ad045827b", func := "loop.example/separation/laws.FnMissingAll", spec := "fnMissingAll", unfollowed := true, recurses := true, apart := false, narrowed := true }
def FnMissingAllUptoSaid : Prop := fnMissingAllUptoRow.holds Try.pinned (OpenSpec.upto fnMissingAllSpec)

/-- 'laws.FnExactCoverOf', WHERE WHAT IT READS IS OF BULK AT MOST 1048576: true; the input reads as it did. -/
def fnExactCoverOfUptoRow : OpenClaim := { program := "ytopjgjelkpkmmaa", sum := "c1a8df082c2c61c1a25f4fddfd7e1219cc26d1983f133d377bfd4e0ad045827b", func := "loop.example/separation/laws.FnExactCoverOf", spec := "fnExactCoverOf", unfollowed := true, recurses := true, apart := false, narrowed := true }
def FnExactCoverOfUptoSaid : Prop := fnExactCoverOfUptoRow.holds Try.pinned (OpenSpec.upto fnExactCoverOfSpec)

/-- 'laws.FnMissingNone', WHERE WHAT IT READS IS OF BULK AT MOST 1048576: true; the input reads as it did. -/
def fnMissingNoneUptoRow : OpenClaim := { program := "ytopjgjelkpkmmaa", sum := "c1a8df082c2c61c1a25f4fddfd7e1219cc26d1983f133d377bfd4e0ad045827b", func := "loop.example/separation/laws.FnMissingNone", spec := "fnMissingNone", unfollowed := true, recurses := true, apart := false, narrowed := true }
def FnMissingNoneUptoSaid : Prop := fnMissingNoneUptoRow.holds Try.pinned (OpenSpec.upto fnMissingNoneSpec)

/-- 'laws.FnExactMissingOf', WHERE WHAT IT READS IS OF BULK AT MOST 1048576: true; the input reads as it did. -/
def fnExactMissingOfUptoRow : OpenClaim := { program := "ytopjgjelkpkmmaa", sum := "c1a8df082c2c61c1a25f4fddfd7e1219cc26d1983f133d377bfd4e0ad045827b", func := "loop.example/separation/laws.FnExactMissingOf", spec := "fnExactMissingOf", unfollowed := true, recurses := true, apart := false, narrowed := true }
def FnExactMissingOfUptoSaid : Prop := fnExactMissingOfUptoRow.holds Try.pinned (OpenSpec.upto fnExactMissingOfSpec)

end Rows
end Go.Proofs.Ytopjgjelkpkmmaa
