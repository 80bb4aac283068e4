/-
  NARROWER THAN 'FOR EVERY INPUT', by the rows' own cells (each row's printed sentence says how): FnExactProgramSame: loops · FnExactProgramValid: loops · FnExactCountCmds: loops · FnExactRunBasic: loops.
  DERIVED. THE GIVEN ROWS OF THIS SEAT. 9 by the template 'for every input the law returns true; each argument reads behind the call as it read before'; 0 by the template 'total and deterministic' (their statements: YtkafaeeianofnaaTotals.lean).
  GIVEN WITH THE SEED: the statements are not yours to turn. If you find one false, say at which input.
  Laid BY PROGRAM, IN A SANDBOX (cutbox-rows.mjs): the forced cells as the released guide's own fill.sh prints them over the translation b731484360c0994e… (all of the seat's roots in one cut). By AI agents, Wed Nov 11 2026. No macro, syntax, notation, axiom, sorry.
-/
import Derived.Test.YtkafaeeianofnaaChecked
import GoSem.Claim
import GoSem.ClaimJoined
import GoSem.ClaimMapViews
import Derived.JoinedTies
import Derived.KernelRfl
namespace Go.Proofs.Ytkafaeeianofnaa
/- THE CELL 'sum', in the pinned program and in every row, IS THE sha256 OF THE DUMP (.gsa) THAT YtkafaeeianofnaaProg.lean LOADS. Nothing in Lean hashes anything: it is a label: what it is worth is what the hold of that sum in a sandbox is worth. -/
noncomputable def Try.pinned : Pinned := { name := "ytkafaeeianofnaa", sum := "b731484360c0994e026e66bce695aebe335bc32db50bdb939398f99bd8266d95", checked := Try.checked }
namespace Rows
def none {H : Type} : Left H := { results := [], args := [] }

/-- 'laws.FnProgramSame': WHATEVER THE INPUT: true; the input reads as it did. -/
def fnProgramSameSpec : ChangeSpec := { name := "fnProgramSame", fn := fun _ => fun
  | [d] => { results := [.lit (.bool true)], args := [d] }
  | _ => none }
def fnProgramSameRow : OpenClaim := { program := "ytkafaeeianofnaa", sum := "b731484360c0994e026e66bce695aebe335bc32db50bdb939398f99bd8266d95", func := "loop.example/separation/laws.FnProgramSame", spec := "fnProgramSame", recurses := true, plainKeys := false, apart := false }
def FnProgramSameSaid : Prop := fnProgramSameRow.holds Try.pinned (OpenSpec.ofChange fnProgramSameSpec)

/-- ITS FALSE NEIGHBOUR: 'it returns false'. Refute it at one input. -/
def fnProgramSameWrong : ChangeSpec := { name := "fnProgramSame", fn := fun _ => fun
  | [d] => { results := [.lit (.bool false)], args := [d] }
  | _ => none }
def FnProgramSameWrongFalsely : Prop := fnProgramSameRow.holds Try.pinned (OpenSpec.ofChange fnProgramSameWrong)

/-- 'laws.FnExactProgramSame': WHATEVER THE INPUT: true; the input reads as it did. -/
def fnExactProgramSameSpec : ChangeSpec := { name := "fnExactProgramSame", fn := fun _ => fun
  | [d1, d2] => { results := [.lit (.bool true)], args := [d1, d2] }
  | _ => none }
def fnExactProgramSameRow : OpenClaim := { program := "ytkafaeeianofnaa", sum := "b731484360c0994e026e66bce695aebe335bc32db50bdb939398f99bd8266d95", func := "loop.example/separation/laws.FnExactProgramSame", spec := "fnExactProgramSame", recurses := true, loops := true, plainKeys := false, apart := false }
def FnExactProgramSameSaid : Prop := fnExactProgramSameRow.holds Try.pinned (OpenSpec.ofChange fnExactProgramSameSpec)

/-- ITS FALSE NEIGHBOUR: 'it returns false'. Refute it at one input. -/
def fnExactProgramSameWrong : ChangeSpec := { name := "fnExactProgramSame", fn := fun _ => fun
  | [d1, d2] => { results := [.lit (.bool false)], args := [d1, d2] }
  | _ => none }
def FnExactProgramSameWrongFalsely : Prop := fnExactProgramSameRow.holds Try.pinned (OpenSpec.ofChange fnExactProgramSameWrong)

/-- 'laws.FnExactProgramValid': WHATEVER THE INPUT: true; the input reads as it did. -/
def fnExactProgramValidSpec : ChangeSpec := { name := "fnExactProgramValid", fn := fun _ => fun
  | [d] => { results := [.lit (.bool true)], args := [d] }
  | _ => none }
def fnExactProgramValidRow : OpenClaim := { program := "ytkafaeeianofnaa", sum := "b731484360c0994e026e66bce695aebe335bc32db50bdb939398f99bd8266d95", func := "loop.example/separation/laws.FnExactProgramValid", spec := "fnExactProgramValid", recurses := true, loops := true, plainKeys := false, apart := false }
def FnExactProgramValidSaid : Prop := fnExactProgramValidRow.holds Try.pinned (OpenSpec.ofChange fnExactProgramValidSpec)

/-- ITS FALSE NEIGHBOUR: 'it returns false'. Refute it at one input. -/
def fnExactProgramValidWrong : ChangeSpec := { name := "fnExactProgramValid", fn := fun _ => fun
  | [d] => { results := [.lit (.bool false)], args := [d] }
  | _ => none }
def FnExactProgramValidWrongFalsely : Prop := fnExactProgramValidRow.holds Try.pinned (OpenSpec.ofChange fnExactProgramValidWrong)

/-- 'laws.FnChangedTerms': WHATEVER THE INPUT: true; the input reads as it did. -/
def fnChangedTermsSpec : ChangeSpec := { name := "fnChangedTerms", fn := fun _ => fun
  | [d] => { results := [.lit (.bool true)], args := [d] }
  | _ => none }
def fnChangedTermsRow : OpenClaim := { program := "ytkafaeeianofnaa", sum := "b731484360c0994e026e66bce695aebe335bc32db50bdb939398f99bd8266d95", func := "loop.example/separation/laws.FnChangedTerms", spec := "fnChangedTerms", unfollowed := true, recurses := true, plainKeys := false, apart := false }
def FnChangedTermsSaid : Prop := fnChangedTermsRow.holds Try.pinned (OpenSpec.ofChange fnChangedTermsSpec)

/-- ITS FALSE NEIGHBOUR: 'it returns false'. Refute it at one input. -/
def fnChangedTermsWrong : ChangeSpec := { name := "fnChangedTerms", fn := fun _ => fun
  | [d] => { results := [.lit (.bool false)], args := [d] }
  | _ => none }
def FnChangedTermsWrongFalsely : Prop := fnChangedTermsRow.holds Try.pinned (OpenSpec.ofChange fnChangedTermsWrong)

/-- 'laws.FnExactCountCmds': WHATEVER THE INPUT: true; the input reads as it did. -/
def fnExactCountCmdsSpec : ChangeSpec := { name := "fnExactCountCmds", fn := fun _ => fun
  | [d] => { results := [.lit (.bool true)], args := [d] }
  | _ => none }
def fnExactCountCmdsRow : OpenClaim := { program := "ytkafaeeianofnaa", sum := "b731484360c0994e026e66bce695aebe335bc32db50bdb939398f99bd8266d95", func := "loop.example/separation/laws.FnExactCountCmds", spec := "fnExactCountCmds", recurses := true, loops := true, plainKeys := false, apart := false }
def FnExactCountCmdsSaid : Prop := fnExactCountCmdsRow.holds Try.pinned (OpenSpec.ofChange fnExactCountCmdsSpec)

/-- ITS FALSE NEIGHBOUR: 'it returns false'. Refute it at one input. -/
def fnExactCountCmdsWrong : ChangeSpec := { name := "fnExactCountCmds", fn := fun _ => fun
  | [d] => { results := [.lit (.bool false)], args := [d] }
  | _ => none }
def FnExactCountCmdsWrongFalsely : Prop := fnExactCountCmdsRow.holds Try.pinned (OpenSpec.ofChange fnExactCountCmdsWrong)

/-- 'laws.FnRunBasic': WHATEVER THE INPUT: true; the input reads as it did. -/
def fnRunBasicSpec : ChangeSpec := { name := "fnRunBasic", fn := fun _ => fun
  | [d] => { results := [.lit (.bool true)], args := [d] }
  | _ => none }
def fnRunBasicRow : OpenClaim := { program := "ytkafaeeianofnaa", sum := "b731484360c0994e026e66bce695aebe335bc32db50bdb939398f99bd8266d95", func := "loop.example/separation/laws.FnRunBasic", spec := "fnRunBasic", recurses := true, plainKeys := false, apart := false }
def FnRunBasicSaid : Prop := fnRunBasicRow.holds Try.pinned (OpenSpec.ofChange fnRunBasicSpec)

/-- ITS FALSE NEIGHBOUR: 'it returns false'. Refute it at one input. -/
def fnRunBasicWrong : ChangeSpec := { name := "fnRunBasic", fn := fun _ => fun
  | [d] => { results := [.lit (.bool false)], args := [d] }
  | _ => none }
def FnRunBasicWrongFalsely : Prop := fnRunBasicRow.holds Try.pinned (OpenSpec.ofChange fnRunBasicWrong)

/-- 'laws.FnRunSelf': WHATEVER THE INPUT: true; the input reads as it did. -/
def fnRunSelfSpec : ChangeSpec := { name := "fnRunSelf", fn := fun _ => fun
  | [d] => { results := [.lit (.bool true)], args := [d] }
  | _ => none }
def fnRunSelfRow : OpenClaim := { program := "ytkafaeeianofnaa", sum := "b731484360c0994e026e66bce695aebe335bc32db50bdb939398f99bd8266d95", func := "loop.example/separation/laws.FnRunSelf", spec := "fnRunSelf", recurses := true, plainKeys := false, apart := false }
def FnRunSelfSaid : Prop := fnRunSelfRow.holds Try.pinned (OpenSpec.ofChange fnRunSelfSpec)

/-- ITS FALSE NEIGHBOUR: 'it returns false'. Refute it at one input. -/
def fnRunSelfWrong : ChangeSpec := { name := "fnRunSelf", fn := fun _ => fun
  | [d] => { results := [.lit (.bool false)], args := [d] }
  | _ => none }
def FnRunSelfWrongFalsely : Prop := fnRunSelfRow.holds Try.pinned (OpenSpec.ofChange fnRunSelfWrong)

/-- 'laws.FnRunNewFree': WHATEVER THE INPUT: true; the input reads as it did. -/
def fnRunNewFreeSpec : ChangeSpec := { name := "fnRunNewFree", fn := fun _ => fun
  | [d] => { results := [.lit (.bool true)], args := [d] }
  | _ => none }
def fnRunNewFreeRow : OpenClaim := { program := "ytkafaeeianofnaa", sum := "b731484360c0994e026e66bce695aebe335bc32db50bdb939398f99bd8266d95", func := "loop.example/separation/laws.FnRunNewFree", spec := "fnRunNewFree", recurses := true, plainKeys := false, apart := false }
def FnRunNewFreeSaid : Prop := fnRunNewFreeRow.holds Try.pinned (OpenSpec.ofChange fnRunNewFreeSpec)

/-- ITS FALSE NEIGHBOUR: 'it returns false'. Refute it at one input. -/
def fnRunNewFreeWrong : ChangeSpec := { name := "fnRunNewFree", fn := fun _ => fun
  | [d] => { results := [.lit (.bool false)], args := [d] }
  | _ => none }
def FnRunNewFreeWrongFalsely : Prop := fnRunNewFreeRow.holds Try.pinned (OpenSpec.ofChange fnRunNewFreeWrong)

/-- 'laws.FnExactRunBasic': WHATEVER THE INPUT: true; the input reads as it did. -/
def fnExactRunBasicSpec : ChangeSpec := { name := "fnExactRunBasic", fn := fun _ => fun
  | [d1, d2] => { results := [.lit (.bool true)], args := [d1, d2] }
  | _ => none }
def fnExactRunBasicRow : OpenClaim := { program := "ytkafaeeianofnaa", sum := "b731484360c0994e026e66bce695aebe335bc32db50bdb939398f99bd8266d95", func := "loop.example/separation/laws.FnExactRunBasic", spec := "fnExactRunBasic", recurses := true, loops := true, plainKeys := false, apart := false }
def FnExactRunBasicSaid : Prop := fnExactRunBasicRow.holds Try.pinned (OpenSpec.ofChange fnExactRunBasicSpec)

/-- ITS FALSE NEIGHBOUR: 'it returns false'. Refute it at one input. -/
def fnExactRunBasicWrong : ChangeSpec := { name := "fnExactRunBasic", fn := fun _ => fun
  | [d1, d2] => { results := [.lit (.bool false)], args := [d1, d2] }
  | _ => none }
def FnExactRunBasicWrongFalsely : Prop := fnExactRunBasicRow.holds Try.pinned (OpenSpec.ofChange fnExactRunBasicWrong)

/- THE SECOND FORM. 'bulk': how many values and letters a reading holds, each counted each time it is reached (what is shared counts as often as it is met; a slice's spare places count too). A statement '..UptoSaid' is the law's where the arguments, and the package variables that the reading takes, are together of bulk at most 1048576: NARROWER than '..Said'. Prove '..Said' where nothing that the law and all that it calls make is longer than what came in: it says more and counts as full. Else prove '..UptoSaid'. A law counts once. -/
mutual
def uptoBulk {H : Type} : DataW H → Nat
  | .lit (.string bytes) => bytes.length + 1
  | .lit _ => 1
  | .nil => 1
  | .ptr d => uptoBulk d + 1
  | .slice elems spare => uptoBulkAll elems + uptoBulkAll spare + 1
  | .agg parts => uptoBulkAll parts + 1
  | .iface _ d => uptoBulk d + 1
  | .map entries => uptoBulkEntries entries + 1
  | .held _ => 1
def uptoBulkAll {H : Type} : List (DataW H) → Nat
  | [] => 0
  | d :: r => uptoBulk d + uptoBulkAll r
def uptoBulkEntries {H : Type} : List (Lit × DataW H) → Nat
  | [] => 0
  | x :: r => uptoBulkEntry x + uptoBulkEntries r
def uptoBulkEntry {H : Type} : Lit × DataW H → Nat
  | (.string bytes, d) => bytes.length + uptoBulk d + 1
  | (_, d) => uptoBulk d + 1
 end
def uptoSmall : (H : Type) → List (DataW H) → Bool := fun _ ds => decide (uptoBulkAll ds ≤ 1048576)
def OpenSpec.upto (s : _root_.Go.ChangeSpec) : _root_.Go.OpenSpec := { _root_.Go.OpenSpec.ofChange s with cond := some uptoSmall }

/-- 'laws.FnProgramSame', WHERE WHAT IT READS IS OF BULK AT MOST 1048576: true; the input reads as it did. -/
def fnProgramSameUptoRow : OpenClaim := { program := "ytkafaeeianofnaa", sum := "b731484360c0994e026e66bce695aebe335bc32db50bdb939398f99bd8266d95", func := "loop.example/separation/laws.FnProgramSame", spec := "fnProgramSame", recurses := true, plainKeys := false, apart := false, narrowed := true }
def FnProgramSameUptoSaid : Prop := fnProgramSameUptoRow.holds Try.pinned (OpenSpec.upto fnProgramSameSpec)

/-- 'laws.FnExactProgramSame', WHERE WHAT IT READS IS OF BULK AT MOST 1048576: true; the input reads as it did. -/
def fnExactProgramSameUptoRow : OpenClaim := { program := "ytkafaeeianofnaa", sum := "b731484360c0994e026e66bce695aebe335bc32db50bdb939398f99bd8266d95", func := "loop.example/separation/laws.FnExactProgramSame", spec := "fnExactProgramSame", recurses := true, loops := true, plainKeys := false, apart := false, narrowed := true }
def FnExactProgramSameUptoSaid : Prop := fnExactProgramSameUptoRow.holds Try.pinned (OpenSpec.upto fnExactProgramSameSpec)

/-- 'laws.FnExactProgramValid', WHERE WHAT IT READS IS OF BULK AT MOST 1048576: true; the input reads as it did. -/
def fnExactProgramValidUptoRow : OpenClaim := { program := "ytkafaeeianofnaa", sum := "b731484360c0994e026e66bce695aebe335bc32db50bdb939398f99bd8266d95", func := "loop.example/separation/laws.FnExactProgramValid", spec := "fnExactProgramValid", recurses := true, loops := true, plainKeys := false, apart := false, narrowed := true }
def FnExactProgramValidUptoSaid : Prop := fnExactProgramValidUptoRow.holds Try.pinned (OpenSpec.upto fnExactProgramValidSpec)

/-- 'laws.FnChangedTerms', WHERE WHAT IT READS IS OF BULK AT MOST 1048576: true; the input reads as it did. -/
def fnChangedTermsUptoRow : OpenClaim := { program := "ytkafaeeianofnaa", sum := "b731484360c0994e026e66bce695aebe335bc32db50bdb939398f99bd8266d95", func := "loop.example/separation/laws.FnChangedTerms", spec := "fnChangedTerms", unfollowed := true, recurses := true, plainKeys := false, apart := false, narrowed := true }
def FnChangedTermsUptoSaid : Prop := fnChangedTermsUptoRow.holds Try.pinned (OpenSpec.upto fnChangedTermsSpec)

/-- 'laws.FnExactCountCmds', WHERE WHAT IT READS IS OF BULK AT MOST 1048576: true; the input reads as it did. -/
def fnExactCountCmdsUptoRow : OpenClaim := { program := "ytkafaeeianofnaa", sum := "b731484360c0994e026e66bce695aebe335bc32db50bdb939398f99bd8266d95", func := "loop.example/separation/laws.FnExactCountCmds", spec := "fnExactCountCmds", recurses := true, loops := true, plainKeys := false, apart := false, narrowed := true }
def FnExactCountCmdsUptoSaid : Prop := fnExactCountCmdsUptoRow.holds Try.pinned (OpenSpec.upto fnExactCountCmdsSpec)

/-- 'laws.FnRunBasic', WHERE WHAT IT READS IS OF BULK AT MOST 1048576: true; the input reads as it did. -/
def fnRunBasicUptoRow : OpenClaim := { program := "ytkafaeeianofnaa", sum := "b731484360c0994e026e66bce695aebe335bc32db50bdb939398f99bd8266d95", func := "loop.example/separation/laws.FnRunBasic", spec := "fnRunBasic", recurses := true, plainKeys := false, apart := false, narrowed := true }
def FnRunBasicUptoSaid : Prop := fnRunBasicUptoRow.holds Try.pinned (OpenSpec.upto fnRunBasicSpec)

/-- 'laws.FnRunSelf', WHERE WHAT IT READS IS OF BULK AT MOST 1048576: true; the input reads as it did. -/
def fnRunSelfUptoRow : OpenClaim := { program := "ytkafaeeianofnaa", sum := "b731484360c0994e026e66bce695aebe335bc32db50bdb939398f99bd8266d95", func := "loop.example/separation/laws.FnRunSelf", spec := "fnRunSelf", recurses := true, plainKeys := false, apart := false, narrowed := true }
def FnRunSelfUptoSaid : Prop := fnRunSelfUptoRow.holds Try.pinned (OpenSpec.upto fnRunSelfSpec)

/-- 'laws.FnRunNewFree', WHERE WHAT IT READS IS OF BULK AT MOST 1048576: true; the input reads as it did. -/
def fnRunNewFreeUptoRow : OpenClaim := { program := "ytkafaeeianofnaa", sum := "b731484360c0994e026e66bce695aebe335bc32db50bdb939398f99bd8266d95", func := "loop.example/separation/laws.FnRunNewFree", spec := "fnRunNewFree", recurses := true, plainKeys := false, apart := false, narrowed := true }
def FnRunNewFreeUptoSaid : Prop := fnRunNewFreeUptoRow.holds Try.pinned (OpenSpec.upto fnRunNewFreeSpec)

/-- 'laws.FnExactRunBasic', WHERE WHAT IT READS IS OF BULK AT MOST 1048576: true; the input reads as it did. -/
def fnExactRunBasicUptoRow : OpenClaim := { program := "ytkafaeeianofnaa", sum := "b731484360c0994e026e66bce695aebe335bc32db50bdb939398f99bd8266d95", func := "loop.example/separation/laws.FnExactRunBasic", spec := "fnExactRunBasic", recurses := true, loops := true, plainKeys := false, apart := false, narrowed := true }
def FnExactRunBasicUptoSaid : Prop := fnExactRunBasicUptoRow.holds Try.pinned (OpenSpec.upto fnExactRunBasicSpec)

end Rows
end Go.Proofs.Ytkafaeeianofnaa
