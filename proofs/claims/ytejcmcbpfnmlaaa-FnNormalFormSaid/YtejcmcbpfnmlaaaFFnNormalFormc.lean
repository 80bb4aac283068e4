/-
  Contracts of single functions of the program, each shown by the engine: what a call returns for arguments within the contract's bounds.
-/
import Derived.Test.YtejcmcbpfnmlaaaFFnNormalForma
import Derived.Test.YtejcmcbpfnmlaaaFFnNormalFormb
import Derived.Test.YtejcmcbpfnmlaaaEe
import Derived.Test.YtejcmcbpfnmlaaaEd
import Derived.Test.YtejcmcbpfnmlaaaEf
set_option linter.unusedSimpArgs false
set_option linter.unusedVariables false
set_option linter.unusedSectionVars false

namespace Go.Proofs.Ytejcmcbpfnmlaaa
open Go.SE Go.RowKit
set_option linter.unusedSimpArgs false
set_option linter.unusedVariables false
set_option maxHeartbeats 1000000
set_option maxRecDepth 100000
/-! l3Copy -/
abbrev c_l3Copy : Con := ⟨[.asn], [.asn], fun (a, _) => a.facts.length ≤ 1048576 ∧ a.atoms.length ≤ 1048576, .inl fun (a, _) => (a, ()), fun _ => 0⟩
abbrev L_l3Copy : List (FuncId × Con) := [(122, c_l3Star)]
abbrev P_l3Copy : List (FuncId × PT) := []
def VC_l3Copy (a : GAsn) (k : Nat) : Prop := TN ∧ (TN ∧ TN ∧ TN ∧ True) ∧ True ∧ (TN ∧ TN ∧ True) ∧ ((a.facts.length ≤ 1048576 ∧ a.atoms.length ≤ 1048576 ∧ (⟨([] : List GFact), ([] : List GAtom)⟩ : GAsn).facts.length ≤ 1048576 ∧ (⟨([] : List GFact), ([] : List GAtom)⟩ : GAsn).atoms.length ≤ 1048576) ∧ True ∧ TN ∧ TN ∧ True) ∧ (TF ∧ TF) ∧ ((((⟨(a.facts ++ (⟨([] : List GFact), ([] : List GAtom)⟩ : GAsn).facts), (a.atoms ++ (⟨([] : List GFact), ([] : List GAtom)⟩ : GAsn).atoms)⟩ : GAsn), ()) : GAsn × Unit) = (a, ())) ∧ ((((80 : Nat) ≠ 81) ∧ True) ∧ True ∧ True) ∧ ((TF ∧ TF) ∧ (TF ∧ TF) ∧ True) ∧ True ∧ (True ∧ True ∧ True) ∧ TF
theorem vcn_l3Copy (a : GAsn) (k : Nat) (hp : a.facts.length ≤ 1048576 ∧ a.atoms.length ≤ 1048576) : VC_l3Copy a k := by
  unfold VC_l3Copy
  simp only [cln, Nat.reduceEqDiff, Nat.reduceLeDiff, Nat.reduceAdd]
  all_goals (try simp only [opn])
  all_goals (repeat' (first | apply And.intro | intro _))
  all_goals (first | omega | (simp_all; done) | grind [])
theorem vce_l3Copy (a : GAsn) (k : Nat) : VC_l3Copy a k = vcQ tab (lookF L_l3Copy) (lookP P_l3Copy) (fun _ => false) (fun _ => none) (fun _ _ => none) (fun _ => []) (bodyOf Try.f130) (entry (encs c_l3Copy.aks (a, ())) (rdOf false k)) (retOk tab c_l3Copy Try.f130.results.toList (a, ()) k) := by kernel_rfl
theorem ok_l3Copy : FnOk Try.prog E 130 c_l3Copy :=
  fn_okQ (l := L_l3Copy) (lp := P_l3Copy) (hp := fun _ => false) (gcs := fun _ => none) (perm := fun _ => []) tabOk mix ⟨ok_l3Star, trivial⟩ trivial Try.func130 rfl (by kernel_rfl) (by decide) (by kernel_rfl) (anns := fun x _ => fun _ _ => none) (fun ⟨a, _⟩ k hp _ => (vce_l3Copy a k).mp (vcn_l3Copy a k hp)) tot_fn
end Go.Proofs.Ytejcmcbpfnmlaaa

namespace Go.Proofs.Ytejcmcbpfnmlaaa
open Go.SE Go.RowKit
set_option linter.unusedSimpArgs false
set_option linter.unusedVariables false
set_option maxHeartbeats 1000000
set_option maxRecDepth 100000
/-! l1Mutate -/
abbrev c_l1Mutate : Con := ⟨[.rdr, .sl .fact], [.sl .fact], fun (rr, l, _) => l.length ≤ 1048576, .inr fun (rr, l, _) r => r.1.length ≤ l.length + 13, fun (rr, l, _) => 2⟩
abbrev L_l1Mutate : List (FuncId × Con) := [(82, c_pick), (83, c_num)]
def an_l1Mutate (rr : Unit) (l : List GFact) : Nat → Option Ann
  | 6 => some { α := Nat, ok := fun i => i = 0 ∨ l.length + i ≤ 13, mu := fun i => 20 - i, i0 := fun _ => 0, nx := fun a _ => (fun i => i + 1) a, live := [], sets := fun i => [], mids := [], blks := fun i => [], owns := fun i => [⟨7, .slot 5, .fact, l ++ List.replicate i ⟨true, 1, 2⟩⟩], rd := fun r _ => r, base := 100000 }
  | _ => none
theorem vc_l1Mutate (rr : Unit) (l : List GFact) (k : Nat) (hp : l.length ≤ 1048576) (hk : k + (2) ≤ 1099511627776) : vc tab (lookF L_l1Mutate) (an_l1Mutate rr l) (fun _ => []) (bodyOf Try.f131) (entry (encs c_l1Mutate.aks (rr, l, ())) (rdOf true k)) (retOk tab c_l1Mutate Try.f131.results.toList (rr, l, ()) k) := by
  dsimp only [bodyOf, Try.f131, rdOf]
  simp (maxSteps := 10000000) only [c_l1Mutate, L_l1Mutate, an_l1Mutate, SE.lookF, c_pick, c_num, tab2, tab3, tab4, tab5, tab7, tab9, tab12, tab13, tab21, tab22, tab23, tab24, tab25, tab26, tab27, tab28, tab39, tab42, tab46, tab47, tab65, tab66, tab67, tab68, tab79, tab80, tab84, tab85, tab90, tab91, tab94, tab111, tab140, tab141, tab157, tab159, tab160, tab161, tab162, tab182, tab194, SE.entry, SE.envOf, SE.rdOf, Option.get_some, SE.vc, SE.vcReg, SE.vcLoop, SE.condK, SE.seqK, SE.blockK, SE.vcOps, SE.vcStep, SE.vcOp, SE.vcTr, SE.vcDet_some, SE.vcDet_none, SE.vcIf_true, SE.vcIf_false, SE.vcEach, SE.pickOps, SE.gslot, SE.trOp, SE.moveId, SE.trMove, SE.trPick, SE.trAlloc, SE.trBox, SE.trBuild, SE.trBuildSlice, SE.trLoad, SE.trStore, SE.trNilCheck, SE.trBin, SE.trUn, SE.trConvert, SE.trFieldAddr, SE.trField, SE.trIndexAddr, SE.trIndex, SE.trSlice, SE.trMakeSlice, SE.trExtract, SE.trLen, SE.trAppend, SE.trCopy, SE.trFn, SE.trCall, SE.argsS, SE.ev, SE.constS, SE.junk, SE.sv, SE.upd_app, SE.adds, SE.sets, SE.nid, SE.St.app, SE.St.put, SE.free, SE.freeL, SE.allFree, SE.rids, SE.AK.rids, SE.castL, SE.rdl, SE.AK.dec, SE.decs, SE.AK.enc, SE.encs, SE.AK.res, SE.ress, SE.pack1, SE.zcells, SE.zeroOf, SE.partCells, SE.putc, SE.fills, SE.datas, SE.elemOf, SE.elemsOf, SE.notSpent, SE.cellsAt, SE.weak, SE.dcellsAt, SE.slAt, SE.rdPlus, SE.intAt, SE.updElem, SE.kill, SE.noJunk, SE.inK, SE.binI, SE.shf, SE.isShift, SE.eqCells, SE.aggS, SE.intOp, SE.nested, SE.hasRdr, SE.refsC, SE.refsCs, SE.ownsC, SE.refsAr, SE.rdFits, SE.costIf, SE.Con.post, SE.Con.det, SE.Ty.cells, SE.Ty.sz, SE.Ty.zero, SE.Ty.flat, SE.Ty.dec, SE.retOk, SE.loadsS, SE.loadS, SE.decRs, SE.decR, SE.outC, SE.rdC, SE.allDiff, SE.notIn, SE.notFrozen, SE.apartL, SE.rdEnd, SE.firstReg, SE.headC, SE.fitsC, SE.idsC, SE.keepE, SE.keepM, SE.keepB, SE.inL, SE.puts, SE.ownRes, SE.ownEnv, SE.renL, SE.srcId, SE.lookR, SE.envSame, SE.envSets, SE.memSame, SE.memBlks, SE.memOwns, SE.famsOf, SE.allIn, SE.closedE, SE.closedV, SE.closedM, SE.closedR, SE.rdLe, SE.S.refs, SE.S0.refs, SE.CV.refs, SE.refsL, SE.refsT, SE.S.ren, SE.S0.ren, SE.CV.ren, SE.Res.refs, SE.Res.ren, min_i64, max_i64, min_u16, max_u16, min_u8, max_u8, min_u64, max_u64, S.s.injEq, S0.c.injEq, CV.d.injEq, DC.val.injEq, Value.int.injEq, Value.bool.injEq, Value.string.injEq, eta_fact, eta_atom, eta_asn, eta_state, List.mem_cons, List.mem_nil_iff, or_false, false_or, or_true, true_or, Option.map_some, Option.map_none, Option.bind_some, Option.getD_some, Option.getD_none, Nat.reduceEqDiff, Nat.reduceAdd, Nat.reduceMul, Nat.reduceLeDiff, ↓reduceIte, reduceCtorEq, true_and, and_true, and_self, forall_const, implies_true, true_implies, List.getElem?_toArray, List.getElem?_cons_succ, List.getElem?_cons_zero, List.append_nil, List.nil_append, List.cons_append, List.length_cons, List.length_nil, List.take_succ_cons, List.take_zero, List.drop_succ_cons, List.drop_zero, List.set_cons_zero, List.set_cons_succ, List.map_cons, List.map_nil, Nat.add_zero, Nat.zero_add, forall_eq, Prod.forall, Bool.not_true, Bool.not_false, Nat.lt_irrefl, Nat.zero_lt_succ, List.singleton_append, Prod.mk.injEq, Nat.zero_mul, Nat.one_mul, Nat.reducePow, Option.some.injEq, not_false_eq_true, Int.toNat_natCast, Nat.sub_zero, Nat.le_refl, Bool.or_false, Bool.false_or, Bool.or_true, Bool.true_or, Bool.and_true, Bool.true_and, Bool.and_false, Bool.false_and, Bool.or_self, Bool.and_self, List.append_eq, and_false, false_and]
  all_goals (try simp only [vcIf_iff, decide_eq_true_eq, decide_eq_false_iff_not, bne_iff_ne, ne_eq, beq_iff_eq, beq_eq_false_iff_ne, bne_eq_false_iff_eq, Bool.not_eq_true', Bool.not_eq_false', Int.ofNat_lt, Int.natCast_inj])
  all_goals (repeat' (first | apply And.intro | intro _))
  all_goals (first | omega | (simp_all; done) | grind [List.replicate_succ', List.append_assoc])
theorem ok_l1Mutate : FnOk Try.prog E 131 c_l1Mutate :=
  fn_ok (l := L_l1Mutate) (perm := fun _ => []) tabOk mix ⟨ok_pick, ok_num, trivial⟩ Try.func131 rfl (by kernel_rfl) (by decide) (by kernel_rfl) (anns := fun x _ => an_l1Mutate x.1 x.2.1) (fun ⟨rr, l, _⟩ k hp hk => vc_l1Mutate rr l k hp (hk rfl)) (fun ⟨_, l, _⟩ _ => ⟨(l, ()), Nat.le_add_right _ _⟩)
end Go.Proofs.Ytejcmcbpfnmlaaa

namespace Go.Proofs.Ytejcmcbpfnmlaaa
open Go.SE Go.RowKit
set_option linter.unusedSimpArgs false
set_option linter.unusedVariables false
set_option maxHeartbeats 1000000
set_option maxRecDepth 100000
/-! l3Mutate -/
abbrev c_l3Mutate : Con := ⟨[.rdr, .asn], [.asn], fun (rr, a, _) => a.facts.length ≤ 100000 ∧ a.atoms.length ≤ 100000, .inr fun (rr, a, _) r => r.1.facts.length ≤ a.facts.length + 14 ∧ r.1.atoms.length ≤ a.atoms.length + 7, fun (rr, a, _) => 4⟩
abbrev L_l3Mutate : List (FuncId × Con) := [(82, c_pick), (83, c_num), (130, c_l3Copy), (131, c_l1Mutate)]
def an_l3Mutate (rr : Unit) (a : GAsn) : Nat → Option Ann
  | 8 => some { α := Nat, ok := fun i => i = 0 ∨ a.atoms.length + i ≤ 7, mu := fun i => 20 - i, i0 := fun _ => 0, nx := fun a _ => (fun i => i + 1) a, live := [4, 5], sets := fun i => [], mids := [79, 64, 65], blks := fun i => [(95, .blk [.own 7, .own 8])], owns := fun i => [⟨7, .cell 95 0, .fact, a.facts⟩, ⟨8, .cell 95 1, .atom, a.atoms ++ List.replicate i ⟨2, 1, 1⟩⟩], rd := fun r _ => r, base := 100000 }
  | _ => none
theorem vc_l3Mutate (rr : Unit) (a : GAsn) (k : Nat) (hp : a.facts.length ≤ 100000 ∧ a.atoms.length ≤ 100000) (hk : k + (4) ≤ 1099511627776) : vc tab (lookF L_l3Mutate) (an_l3Mutate rr a) (fun _ => []) (bodyOf Try.f80) (entry (encs c_l3Mutate.aks (rr, a, ())) (rdOf true k)) (retOk tab c_l3Mutate Try.f80.results.toList (rr, a, ()) k) := by
  dsimp only [bodyOf, Try.f80, rdOf]
  simp (maxSteps := 10000000) only [c_l3Mutate, L_l3Mutate, an_l3Mutate, SE.lookF, c_pick, c_num, c_l3Copy, c_l1Mutate, tab2, tab3, tab4, tab5, tab7, tab9, tab12, tab13, tab21, tab22, tab23, tab24, tab25, tab26, tab27, tab28, tab39, tab42, tab46, tab47, tab65, tab66, tab67, tab68, tab79, tab80, tab84, tab85, tab90, tab91, tab94, tab111, tab140, tab141, tab157, tab159, tab160, tab161, tab162, tab182, tab194, SE.entry, SE.envOf, SE.rdOf, Option.get_some, SE.vc, SE.vcReg, SE.vcLoop, SE.condK, SE.seqK, SE.blockK, SE.vcOps, SE.vcStep, SE.vcOp, SE.vcTr, SE.vcDet_some, SE.vcDet_none, SE.vcIf_true, SE.vcIf_false, SE.vcEach, SE.pickOps, SE.gslot, SE.trOp, SE.moveId, SE.trMove, SE.trPick, SE.trAlloc, SE.trBox, SE.trBuild, SE.trBuildSlice, SE.trLoad, SE.trStore, SE.trNilCheck, SE.trBin, SE.trUn, SE.trConvert, SE.trFieldAddr, SE.trField, SE.trIndexAddr, SE.trIndex, SE.trSlice, SE.trMakeSlice, SE.trExtract, SE.trLen, SE.trAppend, SE.trCopy, SE.trFn, SE.trCall, SE.argsS, SE.ev, SE.constS, SE.junk, SE.sv, SE.upd_app, SE.adds, SE.sets, SE.nid, SE.St.app, SE.St.put, SE.free, SE.freeL, SE.allFree, SE.rids, SE.AK.rids, SE.castL, SE.rdl, SE.AK.dec, SE.decs, SE.AK.enc, SE.encs, SE.AK.res, SE.ress, SE.pack1, SE.zcells, SE.zeroOf, SE.partCells, SE.putc, SE.fills, SE.datas, SE.elemOf, SE.elemsOf, SE.notSpent, SE.cellsAt, SE.weak, SE.dcellsAt, SE.slAt, SE.rdPlus, SE.intAt, SE.updElem, SE.kill, SE.noJunk, SE.inK, SE.binI, SE.shf, SE.isShift, SE.eqCells, SE.aggS, SE.intOp, SE.nested, SE.hasRdr, SE.refsC, SE.refsCs, SE.ownsC, SE.refsAr, SE.rdFits, SE.costIf, SE.Con.post, SE.Con.det, SE.Ty.cells, SE.Ty.sz, SE.Ty.zero, SE.Ty.flat, SE.Ty.dec, SE.retOk, SE.loadsS, SE.loadS, SE.decRs, SE.decR, SE.outC, SE.rdC, SE.allDiff, SE.notIn, SE.notFrozen, SE.apartL, SE.rdEnd, SE.firstReg, SE.headC, SE.fitsC, SE.idsC, SE.keepE, SE.keepM, SE.keepB, SE.inL, SE.puts, SE.ownRes, SE.ownEnv, SE.renL, SE.srcId, SE.lookR, SE.envSame, SE.envSets, SE.memSame, SE.memBlks, SE.memOwns, SE.famsOf, SE.allIn, SE.closedE, SE.closedV, SE.closedM, SE.closedR, SE.rdLe, SE.S.refs, SE.S0.refs, SE.CV.refs, SE.refsL, SE.refsT, SE.S.ren, SE.S0.ren, SE.CV.ren, SE.Res.refs, SE.Res.ren, min_i64, max_i64, min_u16, max_u16, min_u8, max_u8, min_u64, max_u64, S.s.injEq, S0.c.injEq, CV.d.injEq, DC.val.injEq, Value.int.injEq, Value.bool.injEq, Value.string.injEq, eta_fact, eta_atom, eta_asn, eta_state, List.mem_cons, List.mem_nil_iff, or_false, false_or, or_true, true_or, Option.map_some, Option.map_none, Option.bind_some, Option.getD_some, Option.getD_none, Nat.reduceEqDiff, Nat.reduceAdd, Nat.reduceMul, Nat.reduceLeDiff, ↓reduceIte, reduceCtorEq, true_and, and_true, and_self, forall_const, implies_true, true_implies, List.getElem?_toArray, List.getElem?_cons_succ, List.getElem?_cons_zero, List.append_nil, List.nil_append, List.cons_append, List.length_cons, List.length_nil, List.take_succ_cons, List.take_zero, List.drop_succ_cons, List.drop_zero, List.set_cons_zero, List.set_cons_succ, List.map_cons, List.map_nil, Nat.add_zero, Nat.zero_add, forall_eq, Prod.forall, Bool.not_true, Bool.not_false, Nat.lt_irrefl, Nat.zero_lt_succ, List.singleton_append, Prod.mk.injEq, Nat.zero_mul, Nat.one_mul, Nat.reducePow, Option.some.injEq, not_false_eq_true, Int.toNat_natCast, Nat.sub_zero, Nat.le_refl, Bool.or_false, Bool.false_or, Bool.or_true, Bool.true_or, Bool.and_true, Bool.true_and, Bool.and_false, Bool.false_and, Bool.or_self, Bool.and_self, List.append_eq, and_false, false_and]
  all_goals (try simp only [vcIf_iff, decide_eq_true_eq, decide_eq_false_iff_not, bne_iff_ne, ne_eq, beq_iff_eq, beq_eq_false_iff_ne, bne_eq_false_iff_eq, Bool.not_eq_true', Bool.not_eq_false', Int.ofNat_lt, Int.natCast_inj])
  all_goals (repeat' (first | apply And.intro | intro _))
  all_goals (first | omega | (simp_all; done) | grind [List.replicate_succ', List.append_assoc])
theorem ok_l3Mutate : FnOk Try.prog E 80 c_l3Mutate :=
  fn_ok (l := L_l3Mutate) (perm := fun _ => []) tabOk mix ⟨ok_pick, ok_num, ok_l3Copy, ok_l1Mutate, trivial⟩ Try.func80 rfl (by kernel_rfl) (by decide) (by kernel_rfl) (anns := fun x _ => an_l3Mutate x.1 x.2.1) (fun ⟨rr, a, _⟩ k hp hk => vc_l3Mutate rr a k hp (hk rfl)) (fun ⟨_, a, _⟩ _ => ⟨(a, ()), ⟨Nat.le_add_right _ _, Nat.le_add_right _ _⟩⟩)
end Go.Proofs.Ytejcmcbpfnmlaaa

namespace Go.Proofs.Ytejcmcbpfnmlaaa
open Go.SE Go.RowKit
set_option linter.unusedSimpArgs false
set_option linter.unusedVariables false
set_option maxHeartbeats 1000000
set_option maxRecDepth 100000
/-! l3Point -/
abbrev c_l3Point : Con := ⟨[.rdr], [.atom], fun _ => True, .inr fun (rr, _) r => atV r.1 = true, fun (rr, _) => 3⟩
abbrev L_l3Point : List (FuncId × Con) := [(82, c_pick), (83, c_num)]
abbrev P_l3Point : List (FuncId × PT) := []
def VC_l3Point (rr : Unit) (k : Nat) : Prop := (TN ∧ True) ∧ True ∧ (TN ∧ True) ∧ ((0 < ([(1 : Int), (2 : Int), (3 : Int), (5 : Int), (4 : Int), (6 : Int)] : List Int).length ∧ ([(1 : Int), (2 : Int), (3 : Int), (5 : Int), (4 : Int), (6 : Int)] : List Int).length ≤ 1000) ∧ (k + 1 ≤ 1099511627776) ∧ True) ∧ (∀ r1 : Int × Unit, (r1.1 ∈ ([(1 : Int), (2 : Int), (3 : Int), (5 : Int), (4 : Int), (6 : Int)] : List Int)) → True ∧ (TN ∧ True) ∧ ((0 < ([(2 : Int), (0 : Int), (3 : Int), (1 : Int), (5 : Int), (0 : Int), (6 : Int)] : List Int).length ∧ ([(2 : Int), (0 : Int), (3 : Int), (1 : Int), (5 : Int), (0 : Int), (6 : Int)] : List Int).length ≤ 1000) ∧ (k + 1 + 1 ≤ 1099511627776) ∧ True) ∧ (∀ r2 : Int × Unit, (r2.1 ∈ ([(2 : Int), (0 : Int), (3 : Int), (1 : Int), (5 : Int), (0 : Int), (6 : Int)] : List Int)) → True ∧ (TN ∧ True) ∧ (TF ∧ TF) ∧ True ∧ (True ∧ (k + 1 + 1 + 1 ≤ 1099511627776) ∧ True) ∧ (∀ r3 : Int × Unit, (pickP (2 : Int) r3.1) → True ∧ (vcIf (r3.1 == (0 : Int)) (True ∧ (TF ∧ TF) ∧ True ∧ (TF ∧ TF) ∧ (atV (⟨(2 : Int), r1.1, r2.1⟩ : GAtom) = true) ∧ True ∧ True ∧ True ∧ True ∧ (k + 1 + 1 + 1 ≤ k + 3)) (True ∧ (TF ∧ TF) ∧ (atV (⟨(1 : Int), r1.1, r2.1⟩ : GAtom) = true) ∧ True ∧ True ∧ True ∧ True ∧ (k + 1 + 1 + 1 ≤ k + 3))))))
theorem vcn_l3Point (rr : Unit) (k : Nat) (hk : k + (3) ≤ 1099511627776) : VC_l3Point rr k := by
  unfold VC_l3Point
  simp only [cln, Nat.reduceEqDiff, Nat.reduceLeDiff, Nat.reduceAdd]
  all_goals (try simp only [opn])
  all_goals (repeat' (first | apply And.intro | intro _))
  all_goals (first | omega | grind (splits := 40) [atV, isT])
theorem vce_l3Point (rr : Unit) (k : Nat) : VC_l3Point rr k = vcQ tab (lookF L_l3Point) (lookP P_l3Point) (fun _ => false) (fun _ => none) (fun _ _ => none) (fun _ => []) (bodyOf Try.f132) (entry (encs c_l3Point.aks (rr, ())) (rdOf true k)) (retOk tab c_l3Point Try.f132.results.toList (rr, ()) k) := by kernel_rfl
theorem ok_l3Point : FnOk Try.prog E 132 c_l3Point :=
  fn_okQ (l := L_l3Point) (lp := P_l3Point) (hp := fun _ => false) (gcs := fun _ => none) (perm := fun _ => []) tabOk mix ⟨ok_pick, ok_num, trivial⟩ trivial Try.func132 rfl (by kernel_rfl) (by decide) (by kernel_rfl) (anns := fun x _ => fun _ _ => none) (fun ⟨rr, _⟩ k _ hk => (vce_l3Point rr k).mp (vcn_l3Point rr k (hk rfl))) (fun _ _ => ⟨((⟨1, 0, 0⟩ : GAtom), ()), rfl⟩)
end Go.Proofs.Ytejcmcbpfnmlaaa

namespace Go.Proofs.Ytejcmcbpfnmlaaa
open Go.SE Go.RowKit
set_option linter.unusedSimpArgs false
set_option linter.unusedVariables false
set_option maxHeartbeats 1000000
set_option maxRecDepth 100000
/-! l3Draw -/
abbrev c_l3Draw : Con := ⟨[.rdr], [.asn], fun _ => True, .inr fun (rr, _) r => asV r.1 = true, fun (rr, _) => 20⟩
abbrev L_l3Draw : List (FuncId × Con) := [(82, c_pick), (83, c_num), (132, c_l3Point)]
def an_l3Draw (rr : Unit) : Nat → Option Ann
  | 3 => some { α := Int × List GFact, ok := fun a => 0 ≤ a.1 ∧ a.1 + a.2.length ≤ 2 ∧ a.2.all fV = true, mu := fun a => a.1.toNat, i0 := fun st => (intAt st 4, []), nx := fun a st => (a.1 - 1, slAt .fact st (.cell 63 0)), live := [0, 2, 3], sets := fun a => [(4, sv (.int .i64 a.1))], mids := [47, 32, 33], blks := fun a => [(63, .blk [.own 7, .own 8])], owns := fun a => [⟨7, .cell 63 0, .fact, a.2⟩, ⟨8, .cell 63 1, .atom, []⟩], rd := fun r a => rdPlus r (3 * (2 - a.1.toNat)), base := 100000 }
  | 7 => some { α := Int × List GFact × List GAtom, ok := fun a => 0 ≤ a.1 ∧ a.1 + a.2.2.length ≤ 4 ∧ a.2.1.length ≤ 2 ∧ a.2.1.all fV = true ∧ a.2.2.all atV = true, mu := fun a => a.1.toNat, i0 := fun st => (intAt st 5, slAt .fact st (.cell 63 0), []), nx := fun a st => (a.1 - 1, a.2.1, slAt .atom st (.cell 63 1)), live := [0, 2, 3], sets := fun a => [(5, sv (.int .i64 a.1))], mids := [47, 32, 33], blks := fun a => [(63, .blk [.own 7, .own 8])], owns := fun a => [⟨7, .cell 63 0, .fact, a.2.1⟩, ⟨8, .cell 63 1, .atom, a.2.2⟩], rd := fun r a => rdPlus r (3 * (4 - a.1.toNat)), base := 200000 }
  | _ => none
theorem vc_l3Draw (rr : Unit) (k : Nat) (hk : k + (20) ≤ 1099511627776) : vc tab (lookF L_l3Draw) (an_l3Draw rr) (fun _ => []) (bodyOf Try.f81) (entry (encs c_l3Draw.aks (rr, ())) (rdOf true k)) (retOk tab c_l3Draw Try.f81.results.toList (rr, ()) k) := by
  dsimp only [bodyOf, Try.f81, rdOf]
  simp (maxSteps := 10000000) only [c_l3Draw, L_l3Draw, an_l3Draw, SE.lookF, c_pick, c_num, c_l3Point, tab2, tab3, tab4, tab5, tab7, tab9, tab12, tab13, tab21, tab22, tab23, tab24, tab25, tab26, tab27, tab28, tab39, tab42, tab46, tab47, tab65, tab66, tab67, tab68, tab79, tab80, tab84, tab85, tab90, tab91, tab94, tab111, tab140, tab141, tab157, tab159, tab160, tab161, tab162, tab182, tab194, SE.entry, SE.envOf, SE.rdOf, Option.get_some, SE.vc, SE.vcReg, SE.vcLoop, SE.condK, SE.seqK, SE.blockK, SE.vcOps, SE.vcStep, SE.vcOp, SE.vcTr, SE.vcDet_some, SE.vcDet_none, SE.vcIf_true, SE.vcIf_false, SE.vcEach, SE.pickOps, SE.gslot, SE.trOp, SE.moveId, SE.trMove, SE.trPick, SE.trAlloc, SE.trBox, SE.trBuild, SE.trBuildSlice, SE.trLoad, SE.trStore, SE.trNilCheck, SE.trBin, SE.trUn, SE.trConvert, SE.trFieldAddr, SE.trField, SE.trIndexAddr, SE.trIndex, SE.trSlice, SE.trMakeSlice, SE.trExtract, SE.trLen, SE.trAppend, SE.trCopy, SE.trFn, SE.trCall, SE.argsS, SE.ev, SE.constS, SE.junk, SE.sv, SE.upd_app, SE.adds, SE.sets, SE.nid, SE.St.app, SE.St.put, SE.free, SE.freeL, SE.allFree, SE.rids, SE.AK.rids, SE.castL, SE.rdl, SE.AK.dec, SE.decs, SE.AK.enc, SE.encs, SE.AK.res, SE.ress, SE.pack1, SE.zcells, SE.zeroOf, SE.partCells, SE.putc, SE.fills, SE.datas, SE.elemOf, SE.elemsOf, SE.notSpent, SE.cellsAt, SE.weak, SE.dcellsAt, SE.slAt, SE.rdPlus, SE.intAt, SE.updElem, SE.kill, SE.noJunk, SE.inK, SE.binI, SE.shf, SE.isShift, SE.eqCells, SE.aggS, SE.intOp, SE.nested, SE.hasRdr, SE.refsC, SE.refsCs, SE.ownsC, SE.refsAr, SE.rdFits, SE.costIf, SE.Con.post, SE.Con.det, SE.Ty.cells, SE.Ty.sz, SE.Ty.zero, SE.Ty.flat, SE.Ty.dec, SE.retOk, SE.loadsS, SE.loadS, SE.decRs, SE.decR, SE.outC, SE.rdC, SE.allDiff, SE.notIn, SE.notFrozen, SE.apartL, SE.rdEnd, SE.firstReg, SE.headC, SE.fitsC, SE.idsC, SE.keepE, SE.keepM, SE.keepB, SE.inL, SE.puts, SE.ownRes, SE.ownEnv, SE.renL, SE.srcId, SE.lookR, SE.envSame, SE.envSets, SE.memSame, SE.memBlks, SE.memOwns, SE.famsOf, SE.allIn, SE.closedE, SE.closedV, SE.closedM, SE.closedR, SE.rdLe, SE.S.refs, SE.S0.refs, SE.CV.refs, SE.refsL, SE.refsT, SE.S.ren, SE.S0.ren, SE.CV.ren, SE.Res.refs, SE.Res.ren, min_i64, max_i64, min_u16, max_u16, min_u8, max_u8, min_u64, max_u64, S.s.injEq, S0.c.injEq, CV.d.injEq, DC.val.injEq, Value.int.injEq, Value.bool.injEq, Value.string.injEq, eta_fact, eta_atom, eta_asn, eta_state, List.mem_cons, List.mem_nil_iff, or_false, false_or, or_true, true_or, Option.map_some, Option.map_none, Option.bind_some, Option.getD_some, Option.getD_none, Nat.reduceEqDiff, Nat.reduceAdd, Nat.reduceMul, Nat.reduceLeDiff, ↓reduceIte, reduceCtorEq, true_and, and_true, and_self, forall_const, implies_true, true_implies, List.getElem?_toArray, List.getElem?_cons_succ, List.getElem?_cons_zero, List.append_nil, List.nil_append, List.cons_append, List.length_cons, List.length_nil, List.take_succ_cons, List.take_zero, List.drop_succ_cons, List.drop_zero, List.set_cons_zero, List.set_cons_succ, List.map_cons, List.map_nil, Nat.add_zero, Nat.zero_add, forall_eq, Prod.forall, Bool.not_true, Bool.not_false, Nat.lt_irrefl, Nat.zero_lt_succ, List.singleton_append, Prod.mk.injEq, Nat.zero_mul, Nat.one_mul, Nat.reducePow, Option.some.injEq, not_false_eq_true, Int.toNat_natCast, Nat.sub_zero, Nat.le_refl, Bool.or_false, Bool.false_or, Bool.or_true, Bool.true_or, Bool.and_true, Bool.true_and, Bool.and_false, Bool.false_and, Bool.or_self, Bool.and_self, List.append_eq, and_false, false_and]
  all_goals (try simp only [vcIf_iff, decide_eq_true_eq, decide_eq_false_iff_not, bne_iff_ne, ne_eq, beq_iff_eq, beq_eq_false_iff_ne, bne_eq_false_iff_eq, Bool.not_eq_true', Bool.not_eq_false', Int.ofNat_lt, Int.natCast_inj])
  all_goals (repeat' (first | apply And.intro | intro _))
  all_goals (first | omega | (simp_all; done) | grind [pickP, asV, fsV, fV, isT])
theorem ok_l3Draw : FnOk Try.prog E 81 c_l3Draw :=
  fn_ok (l := L_l3Draw) (perm := fun _ => []) tabOk mix ⟨ok_pick, ok_num, ok_l3Point, trivial⟩ Try.func81 rfl (by kernel_rfl) (by decide) (by kernel_rfl) (anns := fun x _ => an_l3Draw x.1) (fun ⟨rr, _⟩ k _ hk => vc_l3Draw rr k (hk rfl)) (fun _ _ => ⟨((⟨[], []⟩ : GAsn), ()), rfl⟩)
end Go.Proofs.Ytejcmcbpfnmlaaa

namespace Go.Proofs.Ytejcmcbpfnmlaaa
open Go.SE Go.RowKit
set_option linter.unusedSimpArgs false
set_option linter.unusedVariables false
set_option maxHeartbeats 1000000
set_option maxRecDepth 100000
/-! l2Copy -/
abbrev c_l2Copy : Con := ⟨[.state], [.state], fun (s, _) => s.vals.length ≤ 1048576 ∧ s.heap.length ≤ 1048576, .inl fun (s, _) => (s, ()), fun _ => 0⟩
abbrev L_l2Copy : List (FuncId × Con) := []
theorem vc_l2Copy (s : GState) (k : Nat) (hp : s.vals.length ≤ 1048576 ∧ s.heap.length ≤ 1048576) : vc tab (lookF L_l2Copy) (fun _ => none) (fun _ => []) (bodyOf Try.f134) (entry (encs c_l2Copy.aks (s, ())) (rdOf false k)) (retOk tab c_l2Copy Try.f134.results.toList (s, ()) k) := by
  dsimp only [bodyOf, Try.f134, rdOf]
  simp (maxSteps := 10000000) only [c_l2Copy, L_l2Copy, SE.lookF, tab2, tab3, tab4, tab5, tab7, tab9, tab12, tab13, tab21, tab22, tab23, tab24, tab25, tab26, tab27, tab28, tab39, tab42, tab46, tab47, tab65, tab66, tab67, tab68, tab79, tab80, tab84, tab85, tab90, tab91, tab94, tab111, tab140, tab141, tab157, tab159, tab160, tab161, tab162, tab182, tab194, SE.entry, SE.envOf, SE.rdOf, Option.get_some, SE.vc, SE.vcReg, SE.vcLoop, SE.condK, SE.seqK, SE.blockK, SE.vcOps, SE.vcStep, SE.vcOp, SE.vcTr, SE.vcDet_some, SE.vcDet_none, SE.vcIf_true, SE.vcIf_false, SE.vcEach, SE.pickOps, SE.gslot, SE.trOp, SE.moveId, SE.trMove, SE.trPick, SE.trAlloc, SE.trBox, SE.trBuild, SE.trBuildSlice, SE.trLoad, SE.trStore, SE.trNilCheck, SE.trBin, SE.trUn, SE.trConvert, SE.trFieldAddr, SE.trField, SE.trIndexAddr, SE.trIndex, SE.trSlice, SE.trMakeSlice, SE.trExtract, SE.trLen, SE.trAppend, SE.trCopy, SE.trFn, SE.trCall, SE.argsS, SE.ev, SE.constS, SE.junk, SE.sv, SE.upd_app, SE.adds, SE.sets, SE.nid, SE.St.app, SE.St.put, SE.free, SE.freeL, SE.allFree, SE.rids, SE.AK.rids, SE.castL, SE.rdl, SE.AK.dec, SE.decs, SE.AK.enc, SE.encs, SE.AK.res, SE.ress, SE.pack1, SE.zcells, SE.zeroOf, SE.partCells, SE.putc, SE.fills, SE.datas, SE.elemOf, SE.elemsOf, SE.notSpent, SE.cellsAt, SE.weak, SE.dcellsAt, SE.slAt, SE.rdPlus, SE.intAt, SE.updElem, SE.kill, SE.noJunk, SE.inK, SE.binI, SE.shf, SE.isShift, SE.eqCells, SE.aggS, SE.intOp, SE.nested, SE.hasRdr, SE.refsC, SE.refsCs, SE.ownsC, SE.refsAr, SE.rdFits, SE.costIf, SE.Con.post, SE.Con.det, SE.Ty.cells, SE.Ty.sz, SE.Ty.zero, SE.Ty.flat, SE.Ty.dec, SE.retOk, SE.loadsS, SE.loadS, SE.decRs, SE.decR, SE.outC, SE.rdC, SE.allDiff, SE.notIn, SE.notFrozen, SE.apartL, SE.rdEnd, SE.firstReg, SE.headC, SE.fitsC, SE.idsC, SE.keepE, SE.keepM, SE.keepB, SE.inL, SE.puts, SE.ownRes, SE.ownEnv, SE.renL, SE.srcId, SE.lookR, SE.envSame, SE.envSets, SE.memSame, SE.memBlks, SE.memOwns, SE.famsOf, SE.allIn, SE.closedE, SE.closedV, SE.closedM, SE.closedR, SE.rdLe, SE.S.refs, SE.S0.refs, SE.CV.refs, SE.refsL, SE.refsT, SE.S.ren, SE.S0.ren, SE.CV.ren, SE.Res.refs, SE.Res.ren, min_i64, max_i64, min_u16, max_u16, min_u8, max_u8, min_u64, max_u64, S.s.injEq, S0.c.injEq, CV.d.injEq, DC.val.injEq, Value.int.injEq, Value.bool.injEq, Value.string.injEq, eta_fact, eta_atom, eta_asn, eta_state, List.mem_cons, List.mem_nil_iff, or_false, false_or, or_true, true_or, Option.map_some, Option.map_none, Option.bind_some, Option.getD_some, Option.getD_none, Nat.reduceEqDiff, Nat.reduceAdd, Nat.reduceMul, Nat.reduceLeDiff, ↓reduceIte, reduceCtorEq, true_and, and_true, and_self, forall_const, implies_true, true_implies, List.getElem?_toArray, List.getElem?_cons_succ, List.getElem?_cons_zero, List.append_nil, List.nil_append, List.cons_append, List.length_cons, List.length_nil, List.take_succ_cons, List.take_zero, List.drop_succ_cons, List.drop_zero, List.set_cons_zero, List.set_cons_succ, List.map_cons, List.map_nil, Nat.add_zero, Nat.zero_add, forall_eq, Prod.forall, Bool.not_true, Bool.not_false, Nat.lt_irrefl, Nat.zero_lt_succ, List.singleton_append, Prod.mk.injEq, Nat.zero_mul, Nat.one_mul, Nat.reducePow, Option.some.injEq, not_false_eq_true, Int.toNat_natCast, Nat.sub_zero, Nat.le_refl, Bool.or_false, Bool.false_or, Bool.or_true, Bool.true_or, Bool.and_true, Bool.true_and, Bool.and_false, Bool.false_and, Bool.or_self, Bool.and_self, List.append_eq, and_false, false_and]
  all_goals (try simp only [vcIf_iff, decide_eq_true_eq, decide_eq_false_iff_not, bne_iff_ne, ne_eq, beq_iff_eq, beq_eq_false_iff_ne, bne_eq_false_iff_eq, Bool.not_eq_true', Bool.not_eq_false', Int.ofNat_lt, Int.natCast_inj])
  all_goals (repeat' (first | apply And.intro | intro _))
  all_goals (first | omega | (simp_all; done) | grind [])
theorem ok_l2Copy : FnOk Try.prog E 134 c_l2Copy :=
  fn_ok (l := L_l2Copy) (perm := fun _ => []) tabOk mix trivial Try.func134 rfl (by kernel_rfl) (by decide) (by kernel_rfl) (anns := fun x _ => fun _ => none) (fun ⟨s, _⟩ k hp _ => vc_l2Copy s k hp) tot_fn
end Go.Proofs.Ytejcmcbpfnmlaaa

namespace Go.Proofs.Ytejcmcbpfnmlaaa
open Go.SE Go.RowKit
set_option linter.unusedSimpArgs false
set_option linter.unusedVariables false
set_option maxHeartbeats 1000000
set_option maxRecDepth 100000
/-! l2Mutate -/
abbrev c_l2Mutate : Con := ⟨[.rdr, .state], [.state], fun (rr, s, _) => s.vals.length ≤ 1048576 ∧ s.heap.length ≤ 1048576, .inr fun (rr, s, _) r => r.1.vals.length ≤ s.vals.length ∧ r.1.heap.length ≤ s.heap.length + 1, fun (rr, s, _) => 2⟩
abbrev L_l2Mutate : List (FuncId × Con) := [(82, c_pick), (83, c_num), (134, c_l2Copy)]
abbrev P_l2Mutate : List (FuncId × PT) := []
def VC_l2Mutate_1 (rr : Unit) (s : GState) (k : Nat) (r1 : Int × Unit) : Prop := (True ∧ (vcIf (r1.1 == (0 : Int)) (True ∧ True ∧ True ∧ True ∧ (vcIf (decide ((0 : Int) < ((s.vals.length : Nat) : Int))) (True ∧ True ∧ True ∧ (TN ∧ True) ∧ ((0 < ([(9 : Int), (-1 : Int), (9223372036854775807 : Int)] : List Int).length ∧ ([(9 : Int), (-1 : Int), (9223372036854775807 : Int)] : List Int).length ≤ 1000) ∧ (k + 1 + 1 ≤ 1099511627776) ∧ True) ∧ (∀ r2 : Int × Unit, (r2.1 ∈ ([(9 : Int), (-1 : Int), (9223372036854775807 : Int)] : List Int)) → (0 ≤ (0 : Int) ∧ (0 : Int) < ((s.vals.length : Nat) : Int)) ∧ (TF ∧ TF ∧ True ∧ ((112 : Nat) ∉ ([] : List Nat))) ∧ True ∧ (TF ∧ TF) ∧ ((⟨s.vals.set 0 r2.1, s.heap⟩ : GState).vals.length ≤ s.vals.length ∧ (⟨s.vals.set 0 r2.1, s.heap⟩ : GState).heap.length ≤ s.heap.length + 1) ∧ ((((112 : Nat) ≠ 113) ∧ True) ∧ True ∧ True) ∧ ((TF ∧ TF) ∧ (TF ∧ TF) ∧ True) ∧ True ∧ (True ∧ True ∧ True) ∧ (k + 1 + 1 ≤ k + 2))) (True ∧ (TF ∧ TF) ∧ (s.vals.length ≤ s.vals.length ∧ s.heap.length ≤ s.heap.length + 1) ∧ ((((112 : Nat) ≠ 113) ∧ True) ∧ True ∧ True) ∧ ((TF ∧ TF) ∧ (TF ∧ TF) ∧ True) ∧ True ∧ (True ∧ True ∧ True) ∧ (k + 1 ≤ k + 2)))) (True ∧ True ∧ (vcIf (r1.1 == (1 : Int)) (True ∧ True ∧ True ∧ True ∧ (vcIf (decide ((0 : Int) < ((s.heap.length : Nat) : Int))) (True ∧ True ∧ True ∧ (TN ∧ True) ∧ ((0 < ([(9 : Int), (-2 : Int), (-1 : Int)] : List Int).length ∧ ([(9 : Int), (-2 : Int), (-1 : Int)] : List Int).length ≤ 1000) ∧ (k + 1 + 1 ≤ 1099511627776) ∧ True) ∧ (∀ r3 : Int × Unit, (r3.1 ∈ ([(9 : Int), (-2 : Int), (-1 : Int)] : List Int)) → (0 ≤ (0 : Int) ∧ (0 : Int) < ((s.heap.length : Nat) : Int)) ∧ (TF ∧ TF ∧ True ∧ ((113 : Nat) ∉ ([] : List Nat))) ∧ True ∧ (TF ∧ TF) ∧ ((⟨s.vals, s.heap.set 0 r3.1⟩ : GState).vals.length ≤ s.vals.length ∧ (⟨s.vals, s.heap.set 0 r3.1⟩ : GState).heap.length ≤ s.heap.length + 1) ∧ ((((112 : Nat) ≠ 113) ∧ True) ∧ True ∧ True) ∧ ((TF ∧ TF) ∧ (TF ∧ TF) ∧ True) ∧ True ∧ (True ∧ True ∧ True) ∧ (k + 1 + 1 ≤ k + 2))) (True ∧ (TF ∧ TF) ∧ (s.vals.length ≤ s.vals.length ∧ s.heap.length ≤ s.heap.length + 1) ∧ ((((112 : Nat) ≠ 113) ∧ True) ∧ True ∧ True) ∧ ((TF ∧ TF) ∧ (TF ∧ TF) ∧ True) ∧ True ∧ (True ∧ True ∧ True) ∧ (k + 1 ≤ k + 2)))) (True ∧ True ∧ (vcIf (r1.1 == (2 : Int)) (True ∧ True ∧ (TN ∧ True) ∧ (TN ∧ TF ∧ TF ∧ (s.heap.length + ([(-1 : Int)] : List Int).length ≤ 4294967296)) ∧ True ∧ (TF ∧ TF) ∧ True ∧ (TF ∧ TF) ∧ ((⟨s.vals, s.heap ++ ([(-1 : Int)] : List Int)⟩ : GState).vals.length ≤ s.vals.length ∧ (⟨s.vals, s.heap ++ ([(-1 : Int)] : List Int)⟩ : GState).heap.length ≤ s.heap.length + 1) ∧ ((((112 : Nat) ≠ 624) ∧ True) ∧ True ∧ True) ∧ ((TF ∧ TF) ∧ (TF ∧ TF) ∧ True) ∧ True ∧ (True ∧ True ∧ True) ∧ (k + 1 ≤ k + 2)) (True ∧ True ∧ (vcIf (r1.1 == (3 : Int)) ((TN ∧ TN ∧ True) ∧ (TF ∧ TF) ∧ ((⟨([] : List Int), ([] : List Int)⟩ : GState).vals.length ≤ s.vals.length ∧ (⟨([] : List Int), ([] : List Int)⟩ : GState).heap.length ≤ s.heap.length + 1) ∧ ((((688 : Nat) ≠ 689) ∧ True) ∧ True ∧ True) ∧ ((TF ∧ TF) ∧ (TF ∧ TF) ∧ True) ∧ True ∧ (True ∧ True ∧ True) ∧ (k + 1 ≤ k + 2)) (True ∧ (TF ∧ TF) ∧ (s.vals.length ≤ s.vals.length ∧ s.heap.length ≤ s.heap.length + 1) ∧ ((((112 : Nat) ≠ 113) ∧ True) ∧ True ∧ True) ∧ ((TF ∧ TF) ∧ (TF ∧ TF) ∧ True) ∧ True ∧ (True ∧ True ∧ True) ∧ (k + 1 ≤ k + 2))))))))))
def VC_l2Mutate (rr : Unit) (s : GState) (k : Nat) : Prop := TN ∧ (TN ∧ TN ∧ TN ∧ True) ∧ True ∧ ((s.vals.length ≤ 1048576 ∧ s.heap.length ≤ 1048576) ∧ True ∧ TN ∧ TN ∧ True) ∧ (TN ∧ TN ∧ TN ∧ True) ∧ (TF ∧ TF) ∧ True ∧ (True ∧ (k + 1 ≤ 1099511627776) ∧ True) ∧ (∀ r1 : Int × Unit, (pickP (50 : Int) r1.1) → True ∧ (VC_l2Mutate_1 rr s k r1))
theorem vcn_l2Mutate (rr : Unit) (s : GState) (k : Nat) (hp : s.vals.length ≤ 1048576 ∧ s.heap.length ≤ 1048576) (hk : k + (2) ≤ 1099511627776) : VC_l2Mutate rr s k := by
  unfold VC_l2Mutate VC_l2Mutate_1
  simp only [cln, Nat.reduceEqDiff, Nat.reduceLeDiff, Nat.reduceAdd]
  all_goals (try simp only [opn])
  all_goals (repeat' (first | apply And.intro | intro _))
  all_goals (first | omega | (simp_all; done) | grind [])
theorem vce_l2Mutate (rr : Unit) (s : GState) (k : Nat) : VC_l2Mutate rr s k = vcQ tab (lookF L_l2Mutate) (lookP P_l2Mutate) (fun _ => false) (fun _ => none) (fun _ _ => none) (fun _ => []) (bodyOf Try.f87) (entry (encs c_l2Mutate.aks (rr, s, ())) (rdOf true k)) (retOk tab c_l2Mutate Try.f87.results.toList (rr, s, ()) k) := by kernel_rfl
theorem ok_l2Mutate : FnOk Try.prog E 87 c_l2Mutate :=
  fn_okQ (l := L_l2Mutate) (lp := P_l2Mutate) (hp := fun _ => false) (gcs := fun _ => none) (perm := fun _ => []) tabOk mix ⟨ok_pick, ok_num, ok_l2Copy, trivial⟩ trivial Try.func87 rfl (by kernel_rfl) (by decide) (by kernel_rfl) (anns := fun x _ => fun _ _ => none) (fun ⟨rr, s, _⟩ k hp hk => (vce_l2Mutate rr s k).mp (vcn_l2Mutate rr s k hp (hk rfl))) (fun ⟨_, s, _⟩ _ => ⟨(s, ()), ⟨Nat.le_refl _, Nat.le_succ _⟩⟩)
end Go.Proofs.Ytejcmcbpfnmlaaa

namespace Go.Proofs.Ytejcmcbpfnmlaaa
open Go.SE Go.RowKit
set_option linter.unusedSimpArgs false
set_option linter.unusedVariables false
set_option maxHeartbeats 1000000
set_option maxRecDepth 100000
/-! l2Blank -/
abbrev c_l2Blank : Con := ⟨[], [.state], fun _ => True, .inl fun _ => (⟨List.replicate 8 0, List.replicate 8 (-1)⟩, ()), fun _ => 0⟩
abbrev L_l2Blank : List (FuncId × Con) := []
def an_l2Blank  : Nat → Option Ann
  | 3 => some { α := Nat, ok := fun i => i ≤ 8, mu := fun i => 8 - i, i0 := fun _ => 0, nx := fun a _ => (fun i => i + 1) a, live := [0, 1], sets := fun i => [(2, sv (.int .i64 i))], mids := [15, 0, 1], blks := fun i => [(31, .blk [.own 7, .own 8])], owns := fun i => [⟨7, .cell 31 0, .int, List.replicate i 0⟩, ⟨8, .cell 31 1, .int, []⟩], rd := fun r _ => r, base := 100000 }
  | 7 => some { α := Nat, ok := fun i => i ≤ 8, mu := fun i => 8 - i, i0 := fun _ => 0, nx := fun a _ => (fun i => i + 1) a, live := [0, 1], sets := fun i => [(3, sv (.int .i64 i))], mids := [15, 0, 1], blks := fun i => [(31, .blk [.own 7, .own 8])], owns := fun i => [⟨7, .cell 31 0, .int, List.replicate 8 0⟩, ⟨8, .cell 31 1, .int, List.replicate i (-1)⟩], rd := fun r _ => r, base := 200000 }
  | _ => none
theorem vc_l2Blank  (k : Nat) : vc tab (lookF L_l2Blank) (an_l2Blank ) (fun _ => []) (bodyOf Try.f135) (entry (encs c_l2Blank.aks ()) (rdOf false k)) (retOk tab c_l2Blank Try.f135.results.toList () k) := by
  dsimp only [bodyOf, Try.f135, rdOf]
  simp (maxSteps := 10000000) only [c_l2Blank, L_l2Blank, an_l2Blank, SE.lookF, tab2, tab3, tab4, tab5, tab7, tab9, tab12, tab13, tab21, tab22, tab23, tab24, tab25, tab26, tab27, tab28, tab39, tab42, tab46, tab47, tab65, tab66, tab67, tab68, tab79, tab80, tab84, tab85, tab90, tab91, tab94, tab111, tab140, tab141, tab157, tab159, tab160, tab161, tab162, tab182, tab194, SE.entry, SE.envOf, SE.rdOf, Option.get_some, SE.vc, SE.vcReg, SE.vcLoop, SE.condK, SE.seqK, SE.blockK, SE.vcOps, SE.vcStep, SE.vcOp, SE.vcTr, SE.vcDet_some, SE.vcDet_none, SE.vcIf_true, SE.vcIf_false, SE.vcEach, SE.pickOps, SE.gslot, SE.trOp, SE.moveId, SE.trMove, SE.trPick, SE.trAlloc, SE.trBox, SE.trBuild, SE.trBuildSlice, SE.trLoad, SE.trStore, SE.trNilCheck, SE.trBin, SE.trUn, SE.trConvert, SE.trFieldAddr, SE.trField, SE.trIndexAddr, SE.trIndex, SE.trSlice, SE.trMakeSlice, SE.trExtract, SE.trLen, SE.trAppend, SE.trCopy, SE.trFn, SE.trCall, SE.argsS, SE.ev, SE.constS, SE.junk, SE.sv, SE.upd_app, SE.adds, SE.sets, SE.nid, SE.St.app, SE.St.put, SE.free, SE.freeL, SE.allFree, SE.rids, SE.AK.rids, SE.castL, SE.rdl, SE.AK.dec, SE.decs, SE.AK.enc, SE.encs, SE.AK.res, SE.ress, SE.pack1, SE.zcells, SE.zeroOf, SE.partCells, SE.putc, SE.fills, SE.datas, SE.elemOf, SE.elemsOf, SE.notSpent, SE.cellsAt, SE.weak, SE.dcellsAt, SE.slAt, SE.rdPlus, SE.intAt, SE.updElem, SE.kill, SE.noJunk, SE.inK, SE.binI, SE.shf, SE.isShift, SE.eqCells, SE.aggS, SE.intOp, SE.nested, SE.hasRdr, SE.refsC, SE.refsCs, SE.ownsC, SE.refsAr, SE.rdFits, SE.costIf, SE.Con.post, SE.Con.det, SE.Ty.cells, SE.Ty.sz, SE.Ty.zero, SE.Ty.flat, SE.Ty.dec, SE.retOk, SE.loadsS, SE.loadS, SE.decRs, SE.decR, SE.outC, SE.rdC, SE.allDiff, SE.notIn, SE.notFrozen, SE.apartL, SE.rdEnd, SE.firstReg, SE.headC, SE.fitsC, SE.idsC, SE.keepE, SE.keepM, SE.keepB, SE.inL, SE.puts, SE.ownRes, SE.ownEnv, SE.renL, SE.srcId, SE.lookR, SE.envSame, SE.envSets, SE.memSame, SE.memBlks, SE.memOwns, SE.famsOf, SE.allIn, SE.closedE, SE.closedV, SE.closedM, SE.closedR, SE.rdLe, SE.S.refs, SE.S0.refs, SE.CV.refs, SE.refsL, SE.refsT, SE.S.ren, SE.S0.ren, SE.CV.ren, SE.Res.refs, SE.Res.ren, min_i64, max_i64, min_u16, max_u16, min_u8, max_u8, min_u64, max_u64, S.s.injEq, S0.c.injEq, CV.d.injEq, DC.val.injEq, Value.int.injEq, Value.bool.injEq, Value.string.injEq, eta_fact, eta_atom, eta_asn, eta_state, List.mem_cons, List.mem_nil_iff, or_false, false_or, or_true, true_or, Option.map_some, Option.map_none, Option.bind_some, Option.getD_some, Option.getD_none, Nat.reduceEqDiff, Nat.reduceAdd, Nat.reduceMul, Nat.reduceLeDiff, ↓reduceIte, reduceCtorEq, true_and, and_true, and_self, forall_const, implies_true, true_implies, List.getElem?_toArray, List.getElem?_cons_succ, List.getElem?_cons_zero, List.append_nil, List.nil_append, List.cons_append, List.length_cons, List.length_nil, List.take_succ_cons, List.take_zero, List.drop_succ_cons, List.drop_zero, List.set_cons_zero, List.set_cons_succ, List.map_cons, List.map_nil, Nat.add_zero, Nat.zero_add, forall_eq, Prod.forall, Bool.not_true, Bool.not_false, Nat.lt_irrefl, Nat.zero_lt_succ, List.singleton_append, Prod.mk.injEq, Nat.zero_mul, Nat.one_mul, Nat.reducePow, Option.some.injEq, not_false_eq_true, Int.toNat_natCast, Nat.sub_zero, Nat.le_refl, Bool.or_false, Bool.false_or, Bool.or_true, Bool.true_or, Bool.and_true, Bool.true_and, Bool.and_false, Bool.false_and, Bool.or_self, Bool.and_self, List.append_eq, and_false, false_and]
  all_goals (try simp only [vcIf_iff, decide_eq_true_eq, decide_eq_false_iff_not, bne_iff_ne, ne_eq, beq_iff_eq, beq_eq_false_iff_ne, bne_eq_false_iff_eq, Bool.not_eq_true', Bool.not_eq_false', Int.ofNat_lt, Int.natCast_inj])
  all_goals (repeat' (first | apply And.intro | intro _))
  all_goals (first | omega | (simp_all; done) | grind [List.replicate_succ'])
theorem ok_l2Blank : FnOk Try.prog E 135 c_l2Blank :=
  fn_ok (l := L_l2Blank) (perm := fun _ => []) tabOk mix trivial Try.func135 rfl (by kernel_rfl) (by decide) (by kernel_rfl) (anns := fun x _ => an_l2Blank ) (fun _ k _ _ => vc_l2Blank  k) tot_fn
end Go.Proofs.Ytejcmcbpfnmlaaa

namespace Go.Proofs.Ytejcmcbpfnmlaaa
open Go.SE Go.RowKit
set_option linter.unusedSimpArgs false
set_option linter.unusedVariables false
set_option maxHeartbeats 1000000
set_option maxRecDepth 100000
/-! l2Draw -/
abbrev c_l2Draw : Con := ⟨[.rdr], [.state], fun _ => True, .inr fun (rr, _) r => r.1.vals.length = 8 ∧ r.1.heap.length = 8, fun (rr, _) => 25⟩
abbrev L_l2Draw : List (FuncId × Con) := [(82, c_pick), (83, c_num), (135, c_l2Blank)]
abbrev P_l2Draw : List (FuncId × PT) := []
def an_l2Draw (rr : Unit) : Nat → St → Option Ann
  | 3, se => some { α := Nat × List Int, ok := fun a => a.1 ≤ 8 ∧ a.2.length = 8, mu := fun a => 8 - a.1, i0 := fun _ => (0, List.replicate 8 0), nx := fun a st => (a.1 + 1, slAt .int st (.cell 63 0)), live := [0, 2, 3], sets := fun a => [(4, sv (.int .i64 a.1))], mids := [32, 33, 47], blks := fun a => [(63, .blk [.own 7, .own 8])], owns := fun a => [⟨7, .cell 63 0, .int, a.2⟩, ⟨8, .cell 63 1, .int, List.replicate 8 (-1)⟩], rd := fun r a => rdPlus r a.1, base := 100000 }
  | 7, se => some { α := Int × List Int × List Int, ok := fun a => 0 ≤ a.1 ∧ a.1 ≤ 8 ∧ a.2.1.length = 8 ∧ a.2.2.length = 8, mu := fun a => a.1.toNat, i0 := fun st => (intAt st 5, slAt .int st (.cell 63 0), slAt .int st (.cell 63 1)), nx := fun a st => (a.1 - 1, a.2.1, slAt .int st (.cell 63 1)), live := [0, 2, 3], sets := fun a => [(5, sv (.int .i64 a.1))], mids := [32, 33, 47], blks := fun a => [(63, .blk [.own 7, .own 8])], owns := fun a => [⟨7, .cell 63 0, .int, a.2.1⟩, ⟨8, .cell 63 1, .int, a.2.2⟩], rd := fun r a => rdPlus r (2 * (8 - a.1.toNat)), base := 200000 }
  | _, _ => none
def VC_l2Draw_1 (rr : Unit) (k : Nat) (a1 : Nat × List Int) (r3 : Int × Unit) : Prop := (((0 ≤ (r3.1, a1.2, (List.replicate 8 (-1))).1 ∧ (r3.1, a1.2, (List.replicate 8 (-1))).1 ≤ 8 ∧ (r3.1, a1.2, (List.replicate 8 (-1))).2.1.length = 8 ∧ (r3.1, a1.2, (List.replicate 8 (-1))).2.2.length = 8) ∧ TT ∧ (RL [.s (.c (.rdr)), .s (.c (.ptr 47 0)), .s (.c (.ptr 63 0))]) ∧ (([.s (.c (.d (.val (.int .i64 r3.1))))] : List S) = [.s (.c (.d (.val (.int .i64 ((r3.1, a1.2, (List.replicate 8 (-1))).1 : Int)))))]) ∧ (RM [some (.sl 32 .int ([] : List Int)), some (.sl 33 .int ([] : List Int)), some (.blk [.own 32, .own 33])]) ∧ (RM [some (.blk [.own 7, .own 8])]) ∧ (((some a1.2 : Option (List Int)) = some ((r3.1, a1.2, (List.replicate 8 (-1))).2.1)) ∧ ((some (List.replicate 8 (-1)) : Option (List Int)) = some ((r3.1, a1.2, (List.replicate 8 (-1))).2.2)) ∧ True) ∧ (k + a1.1 + 1 ≤ k + a1.1 + 1 + (2 * (8 - (r3.1, a1.2, (List.replicate 8 (-1))).1.toNat)) ∧ k + a1.1 + 1 + (2 * (8 - (r3.1, a1.2, (List.replicate 8 (-1))).1.toNat)) ≤ 1099511627776)) ∧ (∀ a4 : Int × List Int × List Int, (0 ≤ a4.1 ∧ a4.1 ≤ 8 ∧ a4.2.1.length = 8 ∧ a4.2.2.length = 8) → True ∧ True ∧ (vcIf (decide ((0 : Int) < (a4.1 : Int))) (True ∧ True ∧ True ∧ (True ∧ (k + a1.1 + 1 + (2 * (8 - a4.1.toNat)) + 1 ≤ 1099511627776) ∧ True) ∧ (∀ r5 : Int × Unit, (pickP (8 : Int) r5.1) → True ∧ (TN ∧ True) ∧ ((0 < ([(0 : Int), (2 : Int), (3 : Int), (1 : Int), (4 : Int), (5 : Int)] : List Int).length ∧ ([(0 : Int), (2 : Int), (3 : Int), (1 : Int), (4 : Int), (5 : Int)] : List Int).length ≤ 1000) ∧ (k + a1.1 + 1 + (2 * (8 - a4.1.toNat)) + 1 + 1 ≤ 1099511627776) ∧ True) ∧ (∀ r6 : Int × Unit, (r6.1 ∈ ([(0 : Int), (2 : Int), (3 : Int), (1 : Int), (4 : Int), (5 : Int)] : List Int)) → (0 ≤ r5.1 ∧ r5.1 < ((a4.2.2.length : Nat) : Int)) ∧ (TF ∧ TF ∧ True ∧ ((8 : Nat) ∉ ([] : List Nat))) ∧ True ∧ (inK .i64 ((a4.1 : Int) - (1 : Int))) ∧ True ∧ (0 ≤ (a4.1 - 1, a4.2.1, (a4.2.2.set r5.1.toNat r6.1)).1 ∧ (a4.1 - 1, a4.2.1, (a4.2.2.set r5.1.toNat r6.1)).1 ≤ 8 ∧ (a4.1 - 1, a4.2.1, (a4.2.2.set r5.1.toNat r6.1)).2.1.length = 8 ∧ (a4.1 - 1, a4.2.1, (a4.2.2.set r5.1.toNat r6.1)).2.2.length = 8) ∧ ((a4.1 - 1, a4.2.1, (a4.2.2.set r5.1.toNat r6.1)).1.toNat < a4.1.toNat) ∧ TT ∧ (RL [.s (.c (.rdr)), .s (.c (.ptr 47 0)), .s (.c (.ptr 63 0))]) ∧ (([.s (.c (.d (.val (.int .i64 ((a4.1 : Int) - (1 : Int))))))] : List S) = [.s (.c (.d (.val (.int .i64 ((a4.1 - 1, a4.2.1, (a4.2.2.set r5.1.toNat r6.1)).1 : Int)))))]) ∧ (RM [some (.sl 32 .int ([] : List Int)), some (.sl 33 .int ([] : List Int)), some (.blk [.own 32, .own 33])]) ∧ (RM [some (.blk [.own 7, .own 8])]) ∧ (((some a4.2.1 : Option (List Int)) = some ((a4.1 - 1, a4.2.1, (a4.2.2.set r5.1.toNat r6.1)).2.1)) ∧ ((some (a4.2.2.set r5.1.toNat r6.1) : Option (List Int)) = some ((a4.1 - 1, a4.2.1, (a4.2.2.set r5.1.toNat r6.1)).2.2)) ∧ True) ∧ (k + a1.1 + 1 + (2 * (8 - a4.1.toNat)) + 1 + 1 ≤ k + a1.1 + 1 + (2 * (8 - (a4.1 - 1, a4.2.1, (a4.2.2.set r5.1.toNat r6.1)).1.toNat)) ∧ k + a1.1 + 1 + (2 * (8 - (a4.1 - 1, a4.2.1, (a4.2.2.set r5.1.toNat r6.1)).1.toNat)) ≤ 1099511627776)))) (True ∧ (TF ∧ TF) ∧ ((⟨a4.2.1, a4.2.2⟩ : GState).vals.length = 8 ∧ (⟨a4.2.1, a4.2.2⟩ : GState).heap.length = 8) ∧ ((((7 : Nat) ≠ 8) ∧ True) ∧ True ∧ True) ∧ ((TF ∧ TF) ∧ (TF ∧ TF) ∧ True) ∧ True ∧ (True ∧ True ∧ True) ∧ (k + a1.1 + 1 + (2 * (8 - a4.1.toNat)) ≤ k + 25)))))
def VC_l2Draw (rr : Unit) (k : Nat) : Prop := (TN ∧ TN ∧ TN ∧ True) ∧ (True ∧ True ∧ TN ∧ TN ∧ True) ∧ (TN ∧ TN ∧ TN ∧ True) ∧ (TF ∧ TF) ∧ True ∧ (((0, List.replicate 8 0).1 ≤ 8 ∧ (0, List.replicate 8 0).2.length = 8) ∧ TT ∧ (RL [.s (.c (.rdr)), .s (.c (.ptr 47 0)), .s (.c (.ptr 63 0))]) ∧ (([.s (.c (.d (.val (.int .i64 (0 : Int)))))] : List S) = [.s (.c (.d (.val (.int .i64 ((0, List.replicate 8 0).1 : Int)))))]) ∧ (RM [some (.sl 32 .int ([] : List Int)), some (.sl 33 .int ([] : List Int)), some (.blk [.own 32, .own 33])]) ∧ (RM [some (.blk [.own 96, .own 97])]) ∧ (((some (List.replicate 8 0) : Option (List Int)) = some ((0, List.replicate 8 0).2)) ∧ ((some (List.replicate 8 (-1)) : Option (List Int)) = some (List.replicate 8 (-1))) ∧ True) ∧ (k ≤ k + ((0, List.replicate 8 0).1) ∧ k + ((0, List.replicate 8 0).1) ≤ 1099511627776)) ∧ (∀ a1 : Nat × List Int, (a1.1 ≤ 8 ∧ a1.2.length = 8) → True ∧ True ∧ (vcIf (decide ((a1.1 : Int) < (8 : Int))) (True ∧ True ∧ True ∧ True ∧ (TN ∧ True) ∧ ((0 < ([(1 : Int), (2 : Int), (0 : Int), (3 : Int), (4 : Int), (1 : Int), (5 : Int)] : List Int).length ∧ ([(1 : Int), (2 : Int), (0 : Int), (3 : Int), (4 : Int), (1 : Int), (5 : Int)] : List Int).length ≤ 1000) ∧ (k + a1.1 + 1 ≤ 1099511627776) ∧ True) ∧ (∀ r2 : Int × Unit, (r2.1 ∈ ([(1 : Int), (2 : Int), (0 : Int), (3 : Int), (4 : Int), (1 : Int), (5 : Int)] : List Int)) → (0 ≤ (a1.1 : Int) ∧ (a1.1 : Int) < ((a1.2.length : Nat) : Int)) ∧ (TF ∧ TF ∧ True ∧ ((7 : Nat) ∉ ([] : List Nat))) ∧ True ∧ (inK .i64 ((a1.1 : Int) + (1 : Int))) ∧ True ∧ ((a1.1 + 1, (a1.2.set (a1.1 : Int).toNat r2.1)).1 ≤ 8 ∧ (a1.1 + 1, (a1.2.set (a1.1 : Int).toNat r2.1)).2.length = 8) ∧ (8 - (a1.1 + 1, (a1.2.set (a1.1 : Int).toNat r2.1)).1 < 8 - a1.1) ∧ TT ∧ (RL [.s (.c (.rdr)), .s (.c (.ptr 47 0)), .s (.c (.ptr 63 0))]) ∧ (([.s (.c (.d (.val (.int .i64 ((a1.1 : Int) + (1 : Int))))))] : List S) = [.s (.c (.d (.val (.int .i64 ((a1.1 + 1, (a1.2.set (a1.1 : Int).toNat r2.1)).1 : Int)))))]) ∧ (RM [some (.sl 32 .int ([] : List Int)), some (.sl 33 .int ([] : List Int)), some (.blk [.own 32, .own 33])]) ∧ (RM [some (.blk [.own 7, .own 8])]) ∧ (((some (a1.2.set (a1.1 : Int).toNat r2.1) : Option (List Int)) = some ((a1.1 + 1, (a1.2.set (a1.1 : Int).toNat r2.1)).2)) ∧ ((some (List.replicate 8 (-1)) : Option (List Int)) = some (List.replicate 8 (-1))) ∧ True) ∧ (k + a1.1 + 1 ≤ k + ((a1.1 + 1, (a1.2.set (a1.1 : Int).toNat r2.1)).1) ∧ k + ((a1.1 + 1, (a1.2.set (a1.1 : Int).toNat r2.1)).1) ≤ 1099511627776))) (True ∧ (TN ∧ True) ∧ ((0 < ([(3 : Int), (4 : Int), (2 : Int), (5 : Int), (1 : Int), (0 : Int), (8 : Int)] : List Int).length ∧ ([(3 : Int), (4 : Int), (2 : Int), (5 : Int), (1 : Int), (0 : Int), (8 : Int)] : List Int).length ≤ 1000) ∧ (k + a1.1 + 1 ≤ 1099511627776) ∧ True) ∧ (∀ r3 : Int × Unit, (r3.1 ∈ ([(3 : Int), (4 : Int), (2 : Int), (5 : Int), (1 : Int), (0 : Int), (8 : Int)] : List Int)) → True ∧ (VC_l2Draw_1 rr k a1 r3)))))
theorem vcn_l2Draw (rr : Unit) (k : Nat) (hk : k + (25) ≤ 1099511627776) : VC_l2Draw rr k := by
  unfold VC_l2Draw VC_l2Draw_1
  simp only [cln, Nat.reduceEqDiff, Nat.reduceLeDiff, Nat.reduceAdd]
  all_goals (try simp only [opn])
  all_goals (repeat' (first | apply And.intro | intro _))
  all_goals (first | omega | (simp_all; done) | grind [pickP])
theorem vce_l2Draw (rr : Unit) (k : Nat) : VC_l2Draw rr k = vcQ tab (lookF L_l2Draw) (lookP P_l2Draw) (fun _ => false) (fun _ => none) (an_l2Draw rr) (fun _ => []) (bodyOf Try.f88) (entry (encs c_l2Draw.aks (rr, ())) (rdOf true k)) (retOk tab c_l2Draw Try.f88.results.toList (rr, ()) k) := by kernel_rfl
theorem ok_l2Draw : FnOk Try.prog E 88 c_l2Draw :=
  fn_okQ (l := L_l2Draw) (lp := P_l2Draw) (hp := fun _ => false) (gcs := fun _ => none) (perm := fun _ => []) tabOk mix ⟨ok_pick, ok_num, ok_l2Blank, trivial⟩ trivial Try.func88 rfl (by kernel_rfl) (by decide) (by kernel_rfl) (anns := fun x _ => an_l2Draw x.1) (fun ⟨rr, _⟩ k _ hk => (vce_l2Draw rr k).mp (vcn_l2Draw rr k (hk rfl))) (fun _ _ => ⟨((⟨List.replicate 8 0, List.replicate 8 0⟩ : GState), ()), ⟨rfl, rfl⟩⟩)
end Go.Proofs.Ytejcmcbpfnmlaaa

namespace Go.Proofs.Ytejcmcbpfnmlaaa
open Go.SE Go.RowKit
set_option linter.unusedSimpArgs false
set_option linter.unusedVariables false
set_option maxHeartbeats 1000000
set_option maxRecDepth 100000

/-! l4Value -/
abbrev L_l4Value : List (FuncId × Con) := []
abbrev P_l4Value : List (FuncId × PT) := []
abbrev pt_l4Value : PT := inl tab (lookF L_l4Value) (lookP P_l4Value) (fun _ => false) (fun _ _ => none) (fun _ _ _ _ => none) (fun _ => []) Try.f160.ntmps (bodyOf Try.f160) Try.f160.results.toList
theorem ptok_l4Value : PTOk Try.prog E 160 pt_l4Value :=
  pt_ok (l := L_l4Value) (lp := P_l4Value) tabOk mix trivial trivial Try.func160 rfl (by kernel_rfl) (by kernel_rfl)
end Go.Proofs.Ytejcmcbpfnmlaaa

namespace Go.Proofs.Ytejcmcbpfnmlaaa
open Go.SE Go.RowKit
set_option linter.unusedSimpArgs false
set_option linter.unusedVariables false
set_option maxHeartbeats 1000000
set_option maxRecDepth 100000
/-! l1Value -/
abbrev c_l1Value : Con := ⟨[.sl .int, .int], [.int], fun (l, t, _) => l.length = 8 ∧ isT t = true, .inl fun (l, t, _) => (tv l t, ()), fun _ => 0⟩
abbrev L_l1Value : List (FuncId × Con) := []
abbrev P_l1Value : List (FuncId × PT) := []
def VC_l1Value (l : List Int) (t : Int) (k : Nat) : Prop := True ∧ True ∧ True ∧ (vcIf (t == (0 : Int)) (True ∧ ((((0 : Int), ()) : Int × Unit) = (tv l t, ())) ∧ True ∧ True ∧ True ∧ True ∧ TF) (True ∧ True ∧ (inK .i64 (t - (1 : Int))) ∧ (0 ≤ (t - (1 : Int)) ∧ (t - (1 : Int)) < ((l.length : Nat) : Int)) ∧ True ∧ True ∧ ((((l.getD (t - (1 : Int)).toNat (0 : Int)), ()) : Int × Unit) = (tv l t, ())) ∧ True ∧ True ∧ True ∧ True ∧ TF))
theorem vcn_l1Value (l : List Int) (t : Int) (k : Nat) (hp : l.length = 8 ∧ isT t = true) : VC_l1Value l t k := by
  unfold VC_l1Value
  simp only [cln, Nat.reduceEqDiff, Nat.reduceLeDiff, Nat.reduceAdd]
  have h := isT_iff.1 hp.2
  by_cases h0 : t = 0 <;> simp [vcIf, tv, h0, inK_i64] <;> omega
theorem vce_l1Value (l : List Int) (t : Int) (k : Nat) : VC_l1Value l t k = vcQ tab (lookF L_l1Value) (lookP P_l1Value) (fun _ => false) (fun _ => none) (fun _ _ => none) (fun _ => []) (bodyOf Try.f161) (entry (encs c_l1Value.aks (l, t, ())) (rdOf false k)) (retOk tab c_l1Value Try.f161.results.toList (l, t, ()) k) := by kernel_rfl
theorem ok_l1Value : FnOk Try.prog E 161 c_l1Value :=
  fn_okQ (l := L_l1Value) (lp := P_l1Value) (hp := fun _ => false) (gcs := fun _ => none) (perm := fun _ => []) tabOk mix trivial trivial Try.func161 rfl (by kernel_rfl) (by decide) (by kernel_rfl) (anns := fun x _ => fun _ _ => none) (fun ⟨l, t, _⟩ k hp _ => (vce_l1Value l t k).mp (vcn_l1Value l t k hp)) tot_fn
end Go.Proofs.Ytejcmcbpfnmlaaa

namespace Go.Proofs.Ytejcmcbpfnmlaaa
open Go.SE Go.RowKit
set_option linter.unusedSimpArgs false
set_option linter.unusedVariables false
set_option maxHeartbeats 1000000
set_option maxRecDepth 100000
/-! l4Known -/
abbrev c_l4Known : Con := ⟨[.state, .int], [.bool], fun (s, n, _) => s.vals.length ≤ 281474976710656 ∧ s.heap.length ≤ 281474976710656, .inl fun (s, n, _) => (s.vals.contains n, ()), fun _ => 0⟩
abbrev L_l4Known : List (FuncId × Con) := []
abbrev P_l4Known : List (FuncId × PT) := []
def an_l4Known (s : GState) (n : Int) : Nat → St → Option Ann
  | 2, se => some { α := Nat, ok := fun i => i ≤ s.vals.length ∧ (s.vals.take i).contains n = false, mu := fun i => s.vals.length - i, i0 := fun _ => 0, nx := fun a _ => (fun i => i + 1) a, live := [1, 2], sets := fun i => [(5, sv (.int .i64 i))], mids := [47], blks := fun i => [], owns := fun i => [], rd := fun r _ => r, base := 100000 }
  | _, _ => none
def VC_l4Known (s : GState) (n : Int) (k : Nat) : Prop := TN ∧ True ∧ True ∧ ((0 ≤ s.vals.length ∧ (s.vals.take 0).contains n = false) ∧ TT ∧ (RL [.s (.c (.d (.val (.int .i64 n)))), .s (.c (.ptr 47 0))]) ∧ (([.s (.c (.d (.val (.int .i64 (0 : Int)))))] : List S) = [.s (.c (.d (.val (.int .i64 ((0 : Nat) : Int)))))]) ∧ (RM [some (.blk [.d (.arr .int s.vals), .d (.arr .int s.heap)])]) ∧ (RM []) ∧ True ∧ TT) ∧ (∀ i1 : Nat, (i1 ≤ s.vals.length ∧ (s.vals.take i1).contains n = false) → True ∧ True ∧ True ∧ True ∧ True ∧ (vcIf (decide (((i1 : Nat) : Int) < ((s.vals.length : Nat) : Int))) (True ∧ True ∧ True ∧ (0 ≤ ((i1 : Nat) : Int) ∧ ((i1 : Nat) : Int) < ((s.vals.length : Nat) : Int)) ∧ True ∧ True ∧ True ∧ (vcIf ((s.vals.getD i1 (0 : Int)) == n) (True ∧ (((true, ()) : Bool × Unit) = (s.vals.contains n, ())) ∧ True ∧ True ∧ True ∧ True ∧ TF) (True ∧ (inK .i64 (((i1 : Nat) : Int) + (1 : Int))) ∧ True ∧ ((i1 + 1) ≤ s.vals.length ∧ (s.vals.take (i1 + 1)).contains n = false) ∧ (s.vals.length - (i1 + 1) < s.vals.length - i1) ∧ TT ∧ (RL [.s (.c (.d (.val (.int .i64 n)))), .s (.c (.ptr 47 0))]) ∧ (([.s (.c (.d (.val (.int .i64 (((i1 : Nat) : Int) + (1 : Int))))))] : List S) = [.s (.c (.d (.val (.int .i64 (((i1 + 1) : Nat) : Int)))))]) ∧ (RM [some (.blk [.d (.arr .int s.vals), .d (.arr .int s.heap)])]) ∧ (RM []) ∧ True ∧ TT))) (True ∧ (((false, ()) : Bool × Unit) = (s.vals.contains n, ())) ∧ True ∧ True ∧ True ∧ True ∧ TF)))
theorem vcn_l4Known (s : GState) (n : Int) (k : Nat) (hp : s.vals.length ≤ 281474976710656 ∧ s.heap.length ≤ 281474976710656) : VC_l4Known s n k := by
  unfold VC_l4Known
  simp only [cln, Nat.reduceEqDiff, Nat.reduceLeDiff, Nat.reduceAdd]
  all_goals (try simp only [opn])
  all_goals (repeat' (first | apply And.intro | intro _))
  all_goals (repeat (cases ‹_ ∧ _›))
  all_goals (first | omega | assumption | (simp_all; done) | grind [has_step, has_get, take_full])
theorem vce_l4Known (s : GState) (n : Int) (k : Nat) : VC_l4Known s n k = vcQ tab (lookF L_l4Known) (lookP P_l4Known) (fun _ => false) (fun _ => none) (an_l4Known s n) (fun _ => []) (bodyOf Try.f162) (entry (encs c_l4Known.aks (s, n, ())) (rdOf false k)) (retOk tab c_l4Known Try.f162.results.toList (s, n, ()) k) := by kernel_rfl
theorem ok_l4Known : FnOk Try.prog E 162 c_l4Known :=
  fn_okQ (l := L_l4Known) (lp := P_l4Known) (hp := fun _ => false) (gcs := fun _ => none) (perm := fun _ => []) tabOk mix trivial trivial Try.func162 rfl (by kernel_rfl) (by decide) (by kernel_rfl) (anns := fun x _ => an_l4Known x.1 x.2.1) (fun ⟨s, n, _⟩ k hp _ => (vce_l4Known s n k).mp (vcn_l4Known s n k hp)) tot_fn
end Go.Proofs.Ytejcmcbpfnmlaaa
