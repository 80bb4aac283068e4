/-
  Contracts of single functions of the program, each shown by the engine: what a call returns for arguments within the contract's bounds.
-/
import Derived.Test.YtfoioficiffgkaaFFnExactEntailsCasea
import Derived.Test.YtfoioficiffgkaaFFnExactEntailsCasee
import Derived.Test.YtfoioficiffgkaaEe
import Derived.Test.YtfoioficiffgkaaFFnExactEntailsCaseb
import Derived.Test.YtfoioficiffgkaaFFnExactEntailsCasec
import Derived.Test.YtfoioficiffgkaaEf
set_option linter.unusedSimpArgs false
set_option linter.unusedVariables false
set_option linter.unusedSectionVars false

namespace Go.Proofs.Ytfoioficiffgkaa
open Go.SE Go.RowKit
set_option linter.unusedSimpArgs false
set_option linter.unusedVariables false
set_option maxHeartbeats 1000000
set_option maxRecDepth 100000
/-! eqFactS -/
abbrev c_eqFactS : Con := ⟨[.sl .fact, .sl .fact], [.bool], fun (a, b, _) => a.length ≤ 281474976710656 ∧ b.length ≤ 281474976710656, .inl fun (a, b, _) => (decide (a = b), ()), fun _ => 0⟩
abbrev L_eqFactS : List (FuncId × Con) := [(133, c_eqFact)]
abbrev P_eqFactS : List (FuncId × PT) := []
def an_eqFactS (a : List GFact) (b : List GFact) : Nat → St → Option Ann
  | 4, se => some { α := Nat, ok := fun i => i ≤ a.length ∧ a.length = b.length ∧ a.take i = b.take i, mu := fun i => a.length - i, i0 := fun _ => 0, nx := fun a _ => (fun i => i + 1) a, live := [0, 1], sets := fun i => [(5, sv (.int .i64 i))], mids := [], blks := fun i => [], owns := fun i => [], rd := fun r _ => r, base := 100000 }
  | _, _ => none
def VC_eqFactS (a : List GFact) (b : List GFact) (k : Nat) : Prop := True ∧ True ∧ True ∧ True ∧ True ∧ True ∧ (vcIf (((a.length : Nat) : Int) != ((b.length : Nat) : Int)) (True ∧ (((false, ()) : Bool × Unit) = (decide (a = b), ())) ∧ True ∧ True ∧ True ∧ True ∧ TF) (True ∧ ((0 ≤ a.length ∧ a.length = b.length ∧ a.take 0 = b.take 0) ∧ TT ∧ (RL [.s (.c (.d (.arr .fact a))), .s (.c (.d (.arr .fact b)))]) ∧ (([.s (.c (.d (.val (.int .i64 (0 : Int)))))] : List S) = [.s (.c (.d (.val (.int .i64 ((0 : Nat) : Int)))))]) ∧ (RM []) ∧ (RM []) ∧ True ∧ TT) ∧ (∀ i1 : Nat, (i1 ≤ a.length ∧ a.length = b.length ∧ a.take i1 = b.take i1) → True ∧ True ∧ True ∧ True ∧ (vcIf (decide (((i1 : Nat) : Int) < ((a.length : Nat) : Int))) (True ∧ True ∧ (0 ≤ ((i1 : Nat) : Int) ∧ ((i1 : Nat) : Int) < ((a.length : Nat) : Int)) ∧ True ∧ True ∧ True ∧ (0 ≤ ((i1 : Nat) : Int) ∧ ((i1 : Nat) : Int) < ((b.length : Nat) : Int)) ∧ True ∧ (True ∧ True ∧ True) ∧ True ∧ (vcIf (!(decide ((a.getD i1 (⟨false, 0, 0⟩ : GFact)) = (b.getD i1 (⟨false, 0, 0⟩ : GFact))))) (True ∧ (((false, ()) : Bool × Unit) = (decide (a = b), ())) ∧ True ∧ True ∧ True ∧ True ∧ TF) (True ∧ (inK .i64 (((i1 : Nat) : Int) + (1 : Int))) ∧ True ∧ ((i1 + 1) ≤ a.length ∧ a.length = b.length ∧ a.take (i1 + 1) = b.take (i1 + 1)) ∧ (a.length - (i1 + 1) < a.length - i1) ∧ TT ∧ (RL [.s (.c (.d (.arr .fact a))), .s (.c (.d (.arr .fact b)))]) ∧ (([.s (.c (.d (.val (.int .i64 (((i1 : Nat) : Int) + (1 : Int))))))] : List S) = [.s (.c (.d (.val (.int .i64 (((i1 + 1) : Nat) : Int)))))]) ∧ (RM []) ∧ (RM []) ∧ True ∧ TT))) (True ∧ (((true, ()) : Bool × Unit) = (decide (a = b), ())) ∧ True ∧ True ∧ True ∧ True ∧ TF)))))
theorem vcn_eqFactS (a : List GFact) (b : List GFact) (k : Nat) (hp : a.length ≤ 281474976710656 ∧ b.length ≤ 281474976710656) : VC_eqFactS a b k := by
  unfold VC_eqFactS
  simp only [cln, Nat.reduceEqDiff, Nat.reduceLeDiff, Nat.reduceAdd]
  all_goals (try simp only [opn])
  all_goals (repeat' (first | apply And.intro | intro _))
  all_goals (first | omega | (simp_all; done) | grind [same_step, same_not, take_full])
theorem vce_eqFactS (a : List GFact) (b : List GFact) (k : Nat) : VC_eqFactS a b k = vcQ tab (lookF L_eqFactS) (lookP P_eqFactS) (fun _ => false) (fun _ => none) (an_eqFactS a b) (fun _ => []) (bodyOf Try.f74) (entry (encs c_eqFactS.aks (a, b, ())) (rdOf false k)) (retOk tab c_eqFactS Try.f74.results.toList (a, b, ()) k) := by kernel_rfl
theorem ok_eqFactS : FnOk Try.prog E 74 c_eqFactS :=
  fn_okQ (l := L_eqFactS) (lp := P_eqFactS) (hp := fun _ => false) (gcs := fun _ => none) (perm := fun _ => []) tabOk mix ⟨ok_eqFact, trivial⟩ trivial Try.func74 rfl (by kernel_rfl) (by decide) (by kernel_rfl) (anns := fun x _ => an_eqFactS x.1 x.2.1) (fun ⟨a, b, _⟩ k hp _ => (vce_eqFactS a b k).mp (vcn_eqFactS a b k hp)) tot_fn
end Go.Proofs.Ytfoioficiffgkaa

namespace Go.Proofs.Ytfoioficiffgkaa
open Go.SE Go.RowKit
set_option linter.unusedSimpArgs false
set_option linter.unusedVariables false
set_option maxHeartbeats 1000000
set_option maxRecDepth 100000
/-! eqAtom -/
abbrev c_eqAtom : Con := ⟨[.atom, .atom], [.bool], fun _ => True, .inl fun (f, g, _) => (decide (f = g), ()), fun _ => 0⟩
abbrev L_eqAtom : List (FuncId × Con) := []
abbrev P_eqAtom : List (FuncId × PT) := []
def VC_eqAtom (f : GAtom) (g : GAtom) (k : Nat) : Prop := TN ∧ TN ∧ True ∧ True ∧ True ∧ True ∧ True ∧ True ∧ (vcIf (f.kind != g.kind) (True ∧ (((false, ()) : Bool × Unit) = (decide (f = g), ())) ∧ True ∧ True ∧ True ∧ True ∧ TF) (True ∧ True ∧ True ∧ True ∧ True ∧ (vcIf (f.a != g.a) (True ∧ (((false, ()) : Bool × Unit) = (decide (f = g), ())) ∧ True ∧ True ∧ True ∧ True ∧ TF) (True ∧ True ∧ True ∧ True ∧ True ∧ (vcIf (f.b != g.b) (True ∧ (((false, ()) : Bool × Unit) = (decide (f = g), ())) ∧ True ∧ True ∧ True ∧ True ∧ TF) (True ∧ (((true, ()) : Bool × Unit) = (decide (f = g), ())) ∧ True ∧ True ∧ True ∧ True ∧ TF))))))
theorem vcn_eqAtom (f : GAtom) (g : GAtom) (k : Nat) : VC_eqAtom f g k := by
  unfold VC_eqAtom
  simp only [cln, Nat.reduceEqDiff, Nat.reduceLeDiff, Nat.reduceAdd]
  obtain ⟨f1, f2, f3⟩ := f; obtain ⟨g1, g2, g3⟩ := g
  all_goals (try simp only [opn])
  all_goals (repeat' (first | apply And.intro | intro _))
  all_goals (first | omega | (simp_all; done) | grind [])
theorem vce_eqAtom (f : GAtom) (g : GAtom) (k : Nat) : VC_eqAtom f g k = vcQ tab (lookF L_eqAtom) (lookP P_eqAtom) (fun _ => false) (fun _ => none) (fun _ _ => none) (fun _ => []) (bodyOf Try.f134) (entry (encs c_eqAtom.aks (f, g, ())) (rdOf false k)) (retOk tab c_eqAtom Try.f134.results.toList (f, g, ()) k) := by kernel_rfl
theorem ok_eqAtom : FnOk Try.prog E 134 c_eqAtom :=
  fn_okQ (l := L_eqAtom) (lp := P_eqAtom) (hp := fun _ => false) (gcs := fun _ => none) (perm := fun _ => []) tabOk mix trivial trivial Try.func134 rfl (by kernel_rfl) (by decide) (by kernel_rfl) (anns := fun x _ => fun _ _ => none) (fun ⟨f, g, _⟩ k _ _ => (vce_eqAtom f g k).mp (vcn_eqAtom f g k)) tot_fn
end Go.Proofs.Ytfoioficiffgkaa

namespace Go.Proofs.Ytfoioficiffgkaa
open Go.SE Go.RowKit
set_option linter.unusedSimpArgs false
set_option linter.unusedVariables false
set_option maxHeartbeats 1000000
set_option maxRecDepth 100000
/-! eqAtomS -/
abbrev c_eqAtomS : Con := ⟨[.sl .atom, .sl .atom], [.bool], fun (a, b, _) => a.length ≤ 281474976710656 ∧ b.length ≤ 281474976710656, .inl fun (a, b, _) => (decide (a = b), ()), fun _ => 0⟩
abbrev L_eqAtomS : List (FuncId × Con) := [(134, c_eqAtom)]
abbrev P_eqAtomS : List (FuncId × PT) := []
def an_eqAtomS (a : List GAtom) (b : List GAtom) : Nat → St → Option Ann
  | 4, se => some { α := Nat, ok := fun i => i ≤ a.length ∧ a.length = b.length ∧ a.take i = b.take i, mu := fun i => a.length - i, i0 := fun _ => 0, nx := fun a _ => (fun i => i + 1) a, live := [0, 1], sets := fun i => [(5, sv (.int .i64 i))], mids := [], blks := fun i => [], owns := fun i => [], rd := fun r _ => r, base := 100000 }
  | _, _ => none
def VC_eqAtomS (a : List GAtom) (b : List GAtom) (k : Nat) : Prop := True ∧ True ∧ True ∧ True ∧ True ∧ True ∧ (vcIf (((a.length : Nat) : Int) != ((b.length : Nat) : Int)) (True ∧ (((false, ()) : Bool × Unit) = (decide (a = b), ())) ∧ True ∧ True ∧ True ∧ True ∧ TF) (True ∧ ((0 ≤ a.length ∧ a.length = b.length ∧ a.take 0 = b.take 0) ∧ TT ∧ (RL [.s (.c (.d (.arr .atom a))), .s (.c (.d (.arr .atom b)))]) ∧ (([.s (.c (.d (.val (.int .i64 (0 : Int)))))] : List S) = [.s (.c (.d (.val (.int .i64 ((0 : Nat) : Int)))))]) ∧ (RM []) ∧ (RM []) ∧ True ∧ TT) ∧ (∀ i1 : Nat, (i1 ≤ a.length ∧ a.length = b.length ∧ a.take i1 = b.take i1) → True ∧ True ∧ True ∧ True ∧ (vcIf (decide (((i1 : Nat) : Int) < ((a.length : Nat) : Int))) (True ∧ True ∧ (0 ≤ ((i1 : Nat) : Int) ∧ ((i1 : Nat) : Int) < ((a.length : Nat) : Int)) ∧ True ∧ True ∧ True ∧ (0 ≤ ((i1 : Nat) : Int) ∧ ((i1 : Nat) : Int) < ((b.length : Nat) : Int)) ∧ True ∧ (True ∧ True ∧ True) ∧ True ∧ (vcIf (!(decide ((a.getD i1 (⟨0, 0, 0⟩ : GAtom)) = (b.getD i1 (⟨0, 0, 0⟩ : GAtom))))) (True ∧ (((false, ()) : Bool × Unit) = (decide (a = b), ())) ∧ True ∧ True ∧ True ∧ True ∧ TF) (True ∧ (inK .i64 (((i1 : Nat) : Int) + (1 : Int))) ∧ True ∧ ((i1 + 1) ≤ a.length ∧ a.length = b.length ∧ a.take (i1 + 1) = b.take (i1 + 1)) ∧ (a.length - (i1 + 1) < a.length - i1) ∧ TT ∧ (RL [.s (.c (.d (.arr .atom a))), .s (.c (.d (.arr .atom b)))]) ∧ (([.s (.c (.d (.val (.int .i64 (((i1 : Nat) : Int) + (1 : Int))))))] : List S) = [.s (.c (.d (.val (.int .i64 (((i1 + 1) : Nat) : Int)))))]) ∧ (RM []) ∧ (RM []) ∧ True ∧ TT))) (True ∧ (((true, ()) : Bool × Unit) = (decide (a = b), ())) ∧ True ∧ True ∧ True ∧ True ∧ TF)))))
theorem vcn_eqAtomS (a : List GAtom) (b : List GAtom) (k : Nat) (hp : a.length ≤ 281474976710656 ∧ b.length ≤ 281474976710656) : VC_eqAtomS a b k := by
  unfold VC_eqAtomS
  simp only [cln, Nat.reduceEqDiff, Nat.reduceLeDiff, Nat.reduceAdd]
  all_goals (try simp only [opn])
  all_goals (repeat' (first | apply And.intro | intro _))
  all_goals (first | omega | (simp_all; done) | grind [same_step, same_not, take_full])
theorem vce_eqAtomS (a : List GAtom) (b : List GAtom) (k : Nat) : VC_eqAtomS a b k = vcQ tab (lookF L_eqAtomS) (lookP P_eqAtomS) (fun _ => false) (fun _ => none) (an_eqAtomS a b) (fun _ => []) (bodyOf Try.f75) (entry (encs c_eqAtomS.aks (a, b, ())) (rdOf false k)) (retOk tab c_eqAtomS Try.f75.results.toList (a, b, ()) k) := by kernel_rfl
theorem ok_eqAtomS : FnOk Try.prog E 75 c_eqAtomS :=
  fn_okQ (l := L_eqAtomS) (lp := P_eqAtomS) (hp := fun _ => false) (gcs := fun _ => none) (perm := fun _ => []) tabOk mix ⟨ok_eqAtom, trivial⟩ trivial Try.func75 rfl (by kernel_rfl) (by decide) (by kernel_rfl) (anns := fun x _ => an_eqAtomS x.1 x.2.1) (fun ⟨a, b, _⟩ k hp _ => (vce_eqAtomS a b k).mp (vcn_eqAtomS a b k hp)) tot_fn
end Go.Proofs.Ytfoioficiffgkaa

namespace Go.Proofs.Ytfoioficiffgkaa
open Go.SE Go.RowKit
set_option linter.unusedSimpArgs false
set_option linter.unusedVariables false
set_option maxHeartbeats 1000000
set_option maxRecDepth 100000
/-! eqAssertion -/
abbrev c_eqAssertion : Con := ⟨[.asn, .asn], [.bool], fun (a, b, _) => a.facts.length ≤ 281474976710656 ∧ a.atoms.length ≤ 281474976710656 ∧ b.facts.length ≤ 281474976710656 ∧ b.atoms.length ≤ 281474976710656, .inl fun (a, b, _) => (decide (a = b), ()), fun _ => 0⟩
abbrev L_eqAssertion : List (FuncId × Con) := [(74, c_eqFactS), (75, c_eqAtomS)]
abbrev P_eqAssertion : List (FuncId × PT) := []
def VC_eqAssertion (a : GAsn) (b : GAsn) (k : Nat) : Prop := TN ∧ TN ∧ True ∧ True ∧ True ∧ True ∧ True ∧ ((a.facts.length ≤ 281474976710656 ∧ b.facts.length ≤ 281474976710656) ∧ True ∧ True) ∧ True ∧ (vcIf (!(decide (a.facts = b.facts))) (True ∧ (((false, ()) : Bool × Unit) = (decide (a = b), ())) ∧ True ∧ True ∧ True ∧ True ∧ TF) (True ∧ True ∧ True ∧ True ∧ ((a.atoms.length ≤ 281474976710656 ∧ b.atoms.length ≤ 281474976710656) ∧ True ∧ True) ∧ True ∧ (vcIf (!(decide (a.atoms = b.atoms))) (True ∧ (((false, ()) : Bool × Unit) = (decide (a = b), ())) ∧ True ∧ True ∧ True ∧ True ∧ TF) (True ∧ (((true, ()) : Bool × Unit) = (decide (a = b), ())) ∧ True ∧ True ∧ True ∧ True ∧ TF))))
theorem vcn_eqAssertion (a : GAsn) (b : GAsn) (k : Nat) (hp : a.facts.length ≤ 281474976710656 ∧ a.atoms.length ≤ 281474976710656 ∧ b.facts.length ≤ 281474976710656 ∧ b.atoms.length ≤ 281474976710656) : VC_eqAssertion a b k := by
  unfold VC_eqAssertion
  simp only [cln, Nat.reduceEqDiff, Nat.reduceLeDiff, Nat.reduceAdd]
  obtain ⟨a1, a2⟩ := a; obtain ⟨b1, b2⟩ := b
  all_goals (try simp only [opn])
  all_goals (repeat' (first | apply And.intro | intro _))
  all_goals (first | omega | (simp_all; done) | grind [])
theorem vce_eqAssertion (a : GAsn) (b : GAsn) (k : Nat) : VC_eqAssertion a b k = vcQ tab (lookF L_eqAssertion) (lookP P_eqAssertion) (fun _ => false) (fun _ => none) (fun _ _ => none) (fun _ => []) (bodyOf Try.f28) (entry (encs c_eqAssertion.aks (a, b, ())) (rdOf false k)) (retOk tab c_eqAssertion Try.f28.results.toList (a, b, ()) k) := by kernel_rfl
theorem ok_eqAssertion : FnOk Try.prog E 28 c_eqAssertion :=
  fn_okQ (l := L_eqAssertion) (lp := P_eqAssertion) (hp := fun _ => false) (gcs := fun _ => none) (perm := fun _ => []) tabOk mix ⟨ok_eqFactS, ok_eqAtomS, trivial⟩ trivial Try.func28 rfl (by kernel_rfl) (by decide) (by kernel_rfl) (anns := fun x _ => fun _ _ => none) (fun ⟨a, b, _⟩ k hp _ => (vce_eqAssertion a b k).mp (vcn_eqAssertion a b k hp)) tot_fn
end Go.Proofs.Ytfoioficiffgkaa

namespace Go.Proofs.Ytfoioficiffgkaa
open Go.SE Go.RowKit
set_option linter.unusedSimpArgs false
set_option linter.unusedVariables false
set_option maxHeartbeats 1000000
set_option maxRecDepth 100000
/-! eqIntS -/
abbrev c_eqIntS : Con := ⟨[.sl .int, .sl .int], [.bool], fun (a, b, _) => a.length ≤ 281474976710656 ∧ b.length ≤ 281474976710656, .inl fun (a, b, _) => (decide (a = b), ()), fun _ => 0⟩
abbrev L_eqIntS : List (FuncId × Con) := []
def an_eqIntS (a : List Int) (b : List Int) : Nat → Option Ann
  | 4 => some { α := Nat, ok := fun i => i ≤ a.length ∧ a.length = b.length ∧ a.take i = b.take i, mu := fun i => a.length - i, i0 := fun _ => 0, nx := fun a _ => (fun i => i + 1) a, live := [0, 1], sets := fun i => [(5, sv (.int .i64 i))], mids := [], blks := fun i => [], owns := fun i => [], rd := fun r _ => r, base := 100000 }
  | _ => none
theorem vc_eqIntS (a : List Int) (b : List Int) (k : Nat) (hp : a.length ≤ 281474976710656 ∧ b.length ≤ 281474976710656) : vc tab (lookF L_eqIntS) (an_eqIntS a b) (fun _ => []) (bodyOf Try.f29) (entry (encs c_eqIntS.aks (a, b, ())) (rdOf false k)) (retOk tab c_eqIntS Try.f29.results.toList (a, b, ()) k) := by
  dsimp only [bodyOf, Try.f29, rdOf]
  simp (maxSteps := 10000000) only [c_eqIntS, L_eqIntS, an_eqIntS, SE.lookF, tab2, tab3, tab4, tab5, tab7, tab9, tab12, tab13, tab21, tab22, tab23, tab24, tab25, tab26, tab31, tab32, tab33, tab41, tab42, tab43, tab44, tab55, tab56, tab60, tab61, tab81, tab82, tab86, tab87, tab94, tab99, tab101, tab130, tab131, tab144, tab146, tab148, tab149, tab150, tab178, tab190, SE.entry, SE.envOf, SE.rdOf, Option.get_some, SE.vc, SE.vcReg, SE.vcLoop, SE.condK, SE.seqK, SE.blockK, SE.vcOps, SE.vcStep, SE.vcOp, SE.vcTr, SE.vcDet_some, SE.vcDet_none, SE.vcIf_true, SE.vcIf_false, SE.vcEach, SE.pickOps, SE.gslot, SE.trOp, SE.moveId, SE.trMove, SE.trPick, SE.trAlloc, SE.trBox, SE.trBuild, SE.trBuildSlice, SE.trLoad, SE.trStore, SE.trNilCheck, SE.trBin, SE.trUn, SE.trConvert, SE.trFieldAddr, SE.trField, SE.trIndexAddr, SE.trIndex, SE.trSlice, SE.trMakeSlice, SE.trExtract, SE.trLen, SE.trAppend, SE.trCopy, SE.trFn, SE.trCall, SE.argsS, SE.ev, SE.constS, SE.junk, SE.sv, SE.upd_app, SE.adds, SE.sets, SE.nid, SE.St.app, SE.St.put, SE.free, SE.freeL, SE.allFree, SE.rids, SE.AK.rids, SE.castL, SE.rdl, SE.AK.dec, SE.decs, SE.AK.enc, SE.encs, SE.AK.res, SE.ress, SE.pack1, SE.zcells, SE.zeroOf, SE.partCells, SE.putc, SE.fills, SE.datas, SE.elemOf, SE.elemsOf, SE.notSpent, SE.cellsAt, SE.weak, SE.dcellsAt, SE.slAt, SE.rdPlus, SE.intAt, SE.updElem, SE.kill, SE.noJunk, SE.inK, SE.binI, SE.shf, SE.isShift, SE.eqCells, SE.aggS, SE.intOp, SE.nested, SE.hasRdr, SE.refsC, SE.refsCs, SE.ownsC, SE.refsAr, SE.rdFits, SE.costIf, SE.Con.post, SE.Con.det, SE.Ty.cells, SE.Ty.sz, SE.Ty.zero, SE.Ty.flat, SE.Ty.dec, SE.retOk, SE.loadsS, SE.loadS, SE.decRs, SE.decR, SE.outC, SE.rdC, SE.allDiff, SE.notIn, SE.notFrozen, SE.apartL, SE.rdEnd, SE.firstReg, SE.headC, SE.fitsC, SE.idsC, SE.keepE, SE.keepM, SE.keepB, SE.inL, SE.puts, SE.ownRes, SE.ownEnv, SE.renL, SE.srcId, SE.lookR, SE.envSame, SE.envSets, SE.memSame, SE.memBlks, SE.memOwns, SE.famsOf, SE.allIn, SE.closedE, SE.closedV, SE.closedM, SE.closedR, SE.rdLe, SE.S.refs, SE.S0.refs, SE.CV.refs, SE.refsL, SE.refsT, SE.S.ren, SE.S0.ren, SE.CV.ren, SE.Res.refs, SE.Res.ren, min_i64, max_i64, min_u16, max_u16, min_u8, max_u8, min_u64, max_u64, S.s.injEq, S0.c.injEq, CV.d.injEq, DC.val.injEq, Value.int.injEq, Value.bool.injEq, Value.string.injEq, eta_fact, eta_atom, eta_asn, eta_state, List.mem_cons, List.mem_nil_iff, or_false, false_or, or_true, true_or, Option.map_some, Option.map_none, Option.bind_some, Option.getD_some, Option.getD_none, Nat.reduceEqDiff, Nat.reduceAdd, Nat.reduceMul, Nat.reduceLeDiff, ↓reduceIte, reduceCtorEq, true_and, and_true, and_self, forall_const, implies_true, true_implies, List.getElem?_toArray, List.getElem?_cons_succ, List.getElem?_cons_zero, List.append_nil, List.nil_append, List.cons_append, List.length_cons, List.length_nil, List.take_succ_cons, List.take_zero, List.drop_succ_cons, List.drop_zero, List.set_cons_zero, List.set_cons_succ, List.map_cons, List.map_nil, Nat.add_zero, Nat.zero_add, forall_eq, Prod.forall, Bool.not_true, Bool.not_false, Nat.lt_irrefl, Nat.zero_lt_succ, List.singleton_append, Prod.mk.injEq, Nat.zero_mul, Nat.one_mul, Nat.reducePow, Option.some.injEq, not_false_eq_true, Int.toNat_natCast, Nat.sub_zero, Nat.le_refl, Bool.or_false, Bool.false_or, Bool.or_true, Bool.true_or, Bool.and_true, Bool.true_and, Bool.and_false, Bool.false_and, Bool.or_self, Bool.and_self, List.append_eq, and_false, false_and]
  all_goals (try simp only [vcIf_iff, decide_eq_true_eq, decide_eq_false_iff_not, bne_iff_ne, ne_eq, beq_iff_eq, beq_eq_false_iff_ne, bne_eq_false_iff_eq, Bool.not_eq_true', Bool.not_eq_false', Int.ofNat_lt, Int.natCast_inj])
  all_goals (repeat' (first | apply And.intro | intro _))
  all_goals (first | omega | (simp_all; done) | grind [same_step, same_not, take_full])
theorem ok_eqIntS : FnOk Try.prog E 29 c_eqIntS :=
  fn_ok (l := L_eqIntS) (perm := fun _ => []) tabOk mix trivial Try.func29 rfl (by kernel_rfl) (by decide) (by kernel_rfl) (anns := fun x _ => an_eqIntS x.1 x.2.1) (fun ⟨a, b, _⟩ k hp _ => vc_eqIntS a b k hp) tot_fn
end Go.Proofs.Ytfoioficiffgkaa

namespace Go.Proofs.Ytfoioficiffgkaa
open Go.SE Go.RowKit
set_option linter.unusedSimpArgs false
set_option linter.unusedVariables false
set_option maxHeartbeats 1000000
set_option maxRecDepth 100000
/-! FnExactEntailsCase -/
abbrev c_FnExactEntailsCase : Con := ⟨[.asn, .asn, .sl .int], [.bool], fun (a, b, c, _) => a.facts.length ≤ 281474976710656 ∧ a.atoms.length ≤ 281474976710656 ∧ b.facts.length ≤ 281474976710656 ∧ b.atoms.length ≤ 281474976710656 ∧ c.length ≤ 281474976710656, .inl fun (a, b, c, _) => (true, ()), fun _ => 0⟩
abbrev L_FnExactEntailsCase : List (FuncId × Con) := [(23, c_szAssertion), (24, c_sEntailsCase), (25, c_toAssertion), (26, c_toIntS), (27, c_iEntailsCase), (28, c_eqAssertion), (29, c_eqIntS)]
abbrev P_FnExactEntailsCase : List (FuncId × PT) := []
def VC_FnExactEntailsCase_1 (a : GAsn) (b : GAsn) (c : List Int) (k : Nat) : Prop := (True ∧ True ∧ True ∧ (vcIf (decide ((1048576 : Int) < ((c.length : Nat) : Int))) (True ∧ (((true, ()) : Bool × Unit) = (true, ())) ∧ True ∧ True ∧ True ∧ True ∧ TF) (True ∧ True ∧ True ∧ ((a.facts.length ≤ 281474976710656 ∧ a.atoms.length ≤ 281474976710656 ∧ 0 ≤ (1048576 : Int) ∧ (1048576 : Int) ≤ 1048576) ∧ True ∧ True) ∧ True ∧ True ∧ True ∧ (vcIf (decide ((szA a (1048576 : Int)) < (0 : Int))) (True ∧ (((true, ()) : Bool × Unit) = (true, ())) ∧ True ∧ True ∧ True ∧ True ∧ TF) (True ∧ True ∧ ((b.facts.length ≤ 281474976710656 ∧ b.atoms.length ≤ 281474976710656 ∧ 0 ≤ (szA a (1048576 : Int)) ∧ (szA a (1048576 : Int)) ≤ 1048576) ∧ True ∧ True) ∧ True ∧ True ∧ True ∧ (vcIf (decide ((szA b (szA a (1048576 : Int))) < (0 : Int))) (True ∧ (((true, ()) : Bool × Unit) = (true, ())) ∧ True ∧ True ∧ True ∧ True ∧ TF) (True ∧ ((a.facts.length ≤ 1048576 ∧ a.atoms.length ≤ 1048576) ∧ True ∧ TN ∧ TN ∧ True) ∧ True ∧ ((b.facts.length ≤ 1048576 ∧ b.atoms.length ≤ 1048576) ∧ True ∧ TN ∧ TN ∧ True) ∧ True ∧ ((c.length ≤ 1048576) ∧ True ∧ TN ∧ True) ∧ ((a.facts.length ≤ 281474976710656 ∧ a.atoms.length ≤ 281474976710656 ∧ b.facts.length ≤ 281474976710656 ∧ b.atoms.length ≤ 281474976710656 ∧ c.length ≤ 281474976710656) ∧ True ∧ True) ∧ True ∧ True ∧ ((a.facts.length ≤ 1048576 ∧ a.atoms.length ≤ 1048576) ∧ True ∧ TN ∧ TN ∧ True) ∧ (TN ∧ TN ∧ TN ∧ True) ∧ (TF ∧ TF) ∧ True ∧ ((b.facts.length ≤ 1048576 ∧ b.atoms.length ≤ 1048576) ∧ True ∧ TN ∧ TN ∧ True) ∧ (TN ∧ TN ∧ TN ∧ True) ∧ (TF ∧ TF) ∧ True ∧ ((c.length ≤ 1048576) ∧ True ∧ TN ∧ True) ∧ True ∧ True ∧ True ∧ True ∧ ((a.facts.length ≤ 281474976710656 ∧ a.atoms.length ≤ 281474976710656 ∧ b.facts.length ≤ 281474976710656 ∧ b.atoms.length ≤ 281474976710656 ∧ c.length ≤ 281474976710656) ∧ True ∧ True) ∧ True ∧ True ∧ True ∧ True ∧ (vcIf ((ECs a b c) != (ECs a b c)) (True ∧ (((false, ()) : Bool × Unit) = (true, ())) ∧ True ∧ True ∧ True ∧ True ∧ TF) (True ∧ True ∧ ((a.facts.length ≤ 1048576 ∧ a.atoms.length ≤ 1048576) ∧ True ∧ TN ∧ TN ∧ True) ∧ ((a.facts.length ≤ 281474976710656 ∧ a.atoms.length ≤ 281474976710656 ∧ a.facts.length ≤ 281474976710656 ∧ a.atoms.length ≤ 281474976710656) ∧ True ∧ True) ∧ True ∧ (vcIf (!(decide (a = a))) (True ∧ (((false, ()) : Bool × Unit) = (true, ())) ∧ True ∧ True ∧ True ∧ True ∧ TF) (True ∧ True ∧ ((b.facts.length ≤ 1048576 ∧ b.atoms.length ≤ 1048576) ∧ True ∧ TN ∧ TN ∧ True) ∧ ((b.facts.length ≤ 281474976710656 ∧ b.atoms.length ≤ 281474976710656 ∧ b.facts.length ≤ 281474976710656 ∧ b.atoms.length ≤ 281474976710656) ∧ True ∧ True) ∧ True ∧ (vcIf (!(decide (b = b))) (True ∧ (((false, ()) : Bool × Unit) = (true, ())) ∧ True ∧ True ∧ True ∧ True ∧ TF) (True ∧ True ∧ ((c.length ≤ 1048576) ∧ True ∧ TN ∧ True) ∧ ((c.length ≤ 281474976710656 ∧ c.length ≤ 281474976710656) ∧ True ∧ True) ∧ True ∧ (vcIf (!(decide (c = c))) (True ∧ (((false, ()) : Bool × Unit) = (true, ())) ∧ True ∧ True ∧ True ∧ True ∧ TF) (True ∧ (((true, ()) : Bool × Unit) = (true, ())) ∧ True ∧ True ∧ True ∧ True ∧ TF)))))))))))))))
def VC_FnExactEntailsCase (a : GAsn) (b : GAsn) (c : List Int) (k : Nat) : Prop := TN ∧ TN ∧ True ∧ (VC_FnExactEntailsCase_1 a b c k)
theorem vcn_FnExactEntailsCase (a : GAsn) (b : GAsn) (c : List Int) (k : Nat) (hp : a.facts.length ≤ 281474976710656 ∧ a.atoms.length ≤ 281474976710656 ∧ b.facts.length ≤ 281474976710656 ∧ b.atoms.length ≤ 281474976710656 ∧ c.length ≤ 281474976710656) : VC_FnExactEntailsCase a b c k := by
  unfold VC_FnExactEntailsCase VC_FnExactEntailsCase_1
  simp only [cln, Nat.reduceEqDiff, Nat.reduceLeDiff, Nat.reduceAdd, bne_self_eq_false, beq_self_eq_true, decide_true, eq_self, Bool.not_true, Bool.not_false, vcIf_true, vcIf_false, Bool.false_and, Bool.true_and, Bool.or_false, Bool.or_true]
  all_goals (try simp only [vcIf_iff, decide_eq_true_eq, decide_eq_false_iff_not, bne_iff_ne, ne_eq, beq_iff_eq, beq_eq_false_iff_ne, bne_eq_false_iff_eq, Bool.not_eq_true', Bool.not_eq_false', Int.ofNat_lt, Int.natCast_inj])
  all_goals (repeat' (first | apply And.intro | intro _))
  all_goals (first | omega | (simp_all; done) | grind [szA, sz1])
theorem vce_FnExactEntailsCase (a : GAsn) (b : GAsn) (c : List Int) (k : Nat) : VC_FnExactEntailsCase a b c k = vcQ tab (lookF L_FnExactEntailsCase) (lookP P_FnExactEntailsCase) (fun _ => false) (fun _ => none) (fun _ _ => none) (fun _ => []) (bodyOf Try.f4) (entry (encs c_FnExactEntailsCase.aks (a, b, c, ())) (rdOf false k)) (retOk tab c_FnExactEntailsCase Try.f4.results.toList (a, b, c, ()) k) := by kernel_rfl
theorem ok_FnExactEntailsCase : FnOk Try.prog E 4 c_FnExactEntailsCase :=
  fn_okQ (l := L_FnExactEntailsCase) (lp := P_FnExactEntailsCase) (hp := fun _ => false) (gcs := fun _ => none) (perm := fun _ => []) tabOk mix ⟨ok_szAssertion, ok_sEntailsCase, ok_toAssertion, ok_toIntS, ok_iEntailsCase, ok_eqAssertion, ok_eqIntS, trivial⟩ trivial Try.func4 rfl (by kernel_rfl) (by decide) (by kernel_rfl) (anns := fun x _ => fun _ _ => none) (fun ⟨a, b, c, _⟩ k hp _ => (vce_FnExactEntailsCase a b c k).mp (vcn_FnExactEntailsCase a b c k hp)) tot_fn
end Go.Proofs.Ytfoioficiffgkaa
