/-
  Contracts of single functions of the program, each shown by the engine: what a call returns for arguments within the contract's bounds.
-/
import Derived.Test.YtejcmcbpfnmlaaaFFnHoldsSubsta
import Derived.Test.YtejcmcbpfnmlaaaFFnHoldsSubste
import Derived.Test.YtejcmcbpfnmlaaaEd
import Derived.Test.YtejcmcbpfnmlaaaFFnHoldsSubstb
import Derived.Test.YtejcmcbpfnmlaaaEe
import Derived.Test.YtejcmcbpfnmlaaaEf
set_option linter.unusedSimpArgs false
set_option linter.unusedVariables false
set_option linter.unusedSectionVars false

namespace Go.Proofs.Ytejcmcbpfnmlaaa
open Go.SE Go.RowKit
set_option linter.unusedSimpArgs false
set_option linter.unusedVariables false
set_option maxHeartbeats 1000000
set_option maxRecDepth 100000
/-! sFactValid -/
abbrev c_sFactValid : Con := ⟨[.fact], [.bool], fun _ => True, .inl fun (f, _) => (fV f, ()), fun _ => 0⟩
abbrev L_sFactValid : List (FuncId × Con) := [(104, c_l1Is)]
theorem vc_sFactValid (f : GFact) (k : Nat) : vc tab (lookF L_sFactValid) (fun _ => none) (fun _ => []) (bodyOf Try.f97) (entry (encs c_sFactValid.aks (f, ())) (rdOf false k)) (retOk tab c_sFactValid Try.f97.results.toList (f, ()) k) := by
  dsimp only [bodyOf, Try.f97, rdOf]
  simp (maxSteps := 10000000) only [c_sFactValid, L_sFactValid, SE.lookF, c_l1Is, tab2, tab3, tab4, tab5, tab7, tab9, tab12, tab13, tab21, tab22, tab23, tab24, tab25, tab26, tab27, tab28, tab39, tab42, tab46, tab47, tab65, tab66, tab67, tab68, tab79, tab80, tab84, tab85, tab90, tab91, tab94, tab111, tab140, tab141, tab157, tab159, tab160, tab161, tab162, tab182, tab194, SE.entry, SE.envOf, SE.rdOf, Option.get_some, SE.vc, SE.vcReg, SE.vcLoop, SE.condK, SE.seqK, SE.blockK, SE.vcOps, SE.vcStep, SE.vcOp, SE.vcTr, SE.vcDet_some, SE.vcDet_none, SE.vcIf_true, SE.vcIf_false, SE.vcEach, SE.pickOps, SE.gslot, SE.trOp, SE.moveId, SE.trMove, SE.trPick, SE.trAlloc, SE.trBox, SE.trBuild, SE.trBuildSlice, SE.trLoad, SE.trStore, SE.trNilCheck, SE.trBin, SE.trUn, SE.trConvert, SE.trFieldAddr, SE.trField, SE.trIndexAddr, SE.trIndex, SE.trSlice, SE.trMakeSlice, SE.trExtract, SE.trLen, SE.trAppend, SE.trCopy, SE.trFn, SE.trCall, SE.argsS, SE.ev, SE.constS, SE.junk, SE.sv, SE.upd_app, SE.adds, SE.sets, SE.nid, SE.St.app, SE.St.put, SE.free, SE.freeL, SE.allFree, SE.rids, SE.AK.rids, SE.castL, SE.rdl, SE.AK.dec, SE.decs, SE.AK.enc, SE.encs, SE.AK.res, SE.ress, SE.pack1, SE.zcells, SE.zeroOf, SE.partCells, SE.putc, SE.fills, SE.datas, SE.elemOf, SE.elemsOf, SE.notSpent, SE.cellsAt, SE.weak, SE.dcellsAt, SE.slAt, SE.rdPlus, SE.intAt, SE.updElem, SE.kill, SE.noJunk, SE.inK, SE.binI, SE.shf, SE.isShift, SE.eqCells, SE.aggS, SE.intOp, SE.nested, SE.hasRdr, SE.refsC, SE.refsCs, SE.ownsC, SE.refsAr, SE.rdFits, SE.costIf, SE.Con.post, SE.Con.det, SE.Ty.cells, SE.Ty.sz, SE.Ty.zero, SE.Ty.flat, SE.Ty.dec, SE.retOk, SE.loadsS, SE.loadS, SE.decRs, SE.decR, SE.outC, SE.rdC, SE.allDiff, SE.notIn, SE.notFrozen, SE.apartL, SE.rdEnd, SE.firstReg, SE.headC, SE.fitsC, SE.idsC, SE.keepE, SE.keepM, SE.keepB, SE.inL, SE.puts, SE.ownRes, SE.ownEnv, SE.renL, SE.srcId, SE.lookR, SE.envSame, SE.envSets, SE.memSame, SE.memBlks, SE.memOwns, SE.famsOf, SE.allIn, SE.closedE, SE.closedV, SE.closedM, SE.closedR, SE.rdLe, SE.S.refs, SE.S0.refs, SE.CV.refs, SE.refsL, SE.refsT, SE.S.ren, SE.S0.ren, SE.CV.ren, SE.Res.refs, SE.Res.ren, min_i64, max_i64, min_u16, max_u16, min_u8, max_u8, min_u64, max_u64, S.s.injEq, S0.c.injEq, CV.d.injEq, DC.val.injEq, Value.int.injEq, Value.bool.injEq, Value.string.injEq, eta_fact, eta_atom, eta_asn, eta_state, List.mem_cons, List.mem_nil_iff, or_false, false_or, or_true, true_or, Option.map_some, Option.map_none, Option.bind_some, Option.getD_some, Option.getD_none, Nat.reduceEqDiff, Nat.reduceAdd, Nat.reduceMul, Nat.reduceLeDiff, ↓reduceIte, reduceCtorEq, true_and, and_true, and_self, forall_const, implies_true, true_implies, List.getElem?_toArray, List.getElem?_cons_succ, List.getElem?_cons_zero, List.append_nil, List.nil_append, List.cons_append, List.length_cons, List.length_nil, List.take_succ_cons, List.take_zero, List.drop_succ_cons, List.drop_zero, List.set_cons_zero, List.set_cons_succ, List.map_cons, List.map_nil, Nat.add_zero, Nat.zero_add, forall_eq, Prod.forall, Bool.not_true, Bool.not_false, Nat.lt_irrefl, Nat.zero_lt_succ, List.singleton_append, Prod.mk.injEq, Nat.zero_mul, Nat.one_mul, Nat.reducePow, Option.some.injEq, not_false_eq_true, Int.toNat_natCast, Nat.sub_zero, Nat.le_refl, Bool.or_false, Bool.false_or, Bool.or_true, Bool.true_or, Bool.and_true, Bool.true_and, Bool.and_false, Bool.false_and, Bool.or_self, Bool.and_self, List.append_eq, and_false, false_and]
  cases h : isT f.a <;> simp [vcIf, fV, h]
theorem ok_sFactValid : FnOk Try.prog E 97 c_sFactValid :=
  fn_ok (l := L_sFactValid) (perm := fun _ => []) tabOk mix ⟨ok_l1Is, trivial⟩ Try.func97 rfl (by kernel_rfl) (by decide) (by kernel_rfl) (anns := fun x _ => fun _ => none) (fun ⟨f, _⟩ k _ _ => vc_sFactValid f k) tot_fn
end Go.Proofs.Ytejcmcbpfnmlaaa

namespace Go.Proofs.Ytejcmcbpfnmlaaa
open Go.SE Go.RowKit
set_option linter.unusedSimpArgs false
set_option linter.unusedVariables false
set_option maxHeartbeats 1000000
set_option maxRecDepth 100000
/-! sFactsValid -/
abbrev c_sFactsValid : Con := ⟨[.sl .fact], [.bool], fun (l, _) => l.length ≤ 281474976710656, .inl fun (l, _) => (fsV l, ()), fun _ => 0⟩
abbrev L_sFactsValid : List (FuncId × Con) := [(97, c_sFactValid)]
def an_sFactsValid (l : List GFact) : Nat → Option Ann
  | 2 => some { α := Nat, ok := fun i => i ≤ l.length ∧ (l.take i).all fV = true, mu := fun i => l.length - i, i0 := fun _ => 0, nx := fun a _ => (fun i => i + 1) a, live := [0], sets := fun i => [(3, sv (.int .i64 i))], mids := [], blks := fun i => [], owns := fun i => [], rd := fun r _ => r, base := 100000 }
  | _ => none
theorem vc_sFactsValid (l : List GFact) (k : Nat) (hp : l.length ≤ 281474976710656) : vc tab (lookF L_sFactsValid) (an_sFactsValid l) (fun _ => []) (bodyOf Try.f127) (entry (encs c_sFactsValid.aks (l, ())) (rdOf false k)) (retOk tab c_sFactsValid Try.f127.results.toList (l, ()) k) := by
  dsimp only [bodyOf, Try.f127, rdOf]
  simp (maxSteps := 10000000) only [c_sFactsValid, L_sFactsValid, an_sFactsValid, SE.lookF, c_sFactValid, tab2, tab3, tab4, tab5, tab7, tab9, tab12, tab13, tab21, tab22, tab23, tab24, tab25, tab26, tab27, tab28, tab39, tab42, tab46, tab47, tab65, tab66, tab67, tab68, tab79, tab80, tab84, tab85, tab90, tab91, tab94, tab111, tab140, tab141, tab157, tab159, tab160, tab161, tab162, tab182, tab194, SE.entry, SE.envOf, SE.rdOf, Option.get_some, SE.vc, SE.vcReg, SE.vcLoop, SE.condK, SE.seqK, SE.blockK, SE.vcOps, SE.vcStep, SE.vcOp, SE.vcTr, SE.vcDet_some, SE.vcDet_none, SE.vcIf_true, SE.vcIf_false, SE.vcEach, SE.pickOps, SE.gslot, SE.trOp, SE.moveId, SE.trMove, SE.trPick, SE.trAlloc, SE.trBox, SE.trBuild, SE.trBuildSlice, SE.trLoad, SE.trStore, SE.trNilCheck, SE.trBin, SE.trUn, SE.trConvert, SE.trFieldAddr, SE.trField, SE.trIndexAddr, SE.trIndex, SE.trSlice, SE.trMakeSlice, SE.trExtract, SE.trLen, SE.trAppend, SE.trCopy, SE.trFn, SE.trCall, SE.argsS, SE.ev, SE.constS, SE.junk, SE.sv, SE.upd_app, SE.adds, SE.sets, SE.nid, SE.St.app, SE.St.put, SE.free, SE.freeL, SE.allFree, SE.rids, SE.AK.rids, SE.castL, SE.rdl, SE.AK.dec, SE.decs, SE.AK.enc, SE.encs, SE.AK.res, SE.ress, SE.pack1, SE.zcells, SE.zeroOf, SE.partCells, SE.putc, SE.fills, SE.datas, SE.elemOf, SE.elemsOf, SE.notSpent, SE.cellsAt, SE.weak, SE.dcellsAt, SE.slAt, SE.rdPlus, SE.intAt, SE.updElem, SE.kill, SE.noJunk, SE.inK, SE.binI, SE.shf, SE.isShift, SE.eqCells, SE.aggS, SE.intOp, SE.nested, SE.hasRdr, SE.refsC, SE.refsCs, SE.ownsC, SE.refsAr, SE.rdFits, SE.costIf, SE.Con.post, SE.Con.det, SE.Ty.cells, SE.Ty.sz, SE.Ty.zero, SE.Ty.flat, SE.Ty.dec, SE.retOk, SE.loadsS, SE.loadS, SE.decRs, SE.decR, SE.outC, SE.rdC, SE.allDiff, SE.notIn, SE.notFrozen, SE.apartL, SE.rdEnd, SE.firstReg, SE.headC, SE.fitsC, SE.idsC, SE.keepE, SE.keepM, SE.keepB, SE.inL, SE.puts, SE.ownRes, SE.ownEnv, SE.renL, SE.srcId, SE.lookR, SE.envSame, SE.envSets, SE.memSame, SE.memBlks, SE.memOwns, SE.famsOf, SE.allIn, SE.closedE, SE.closedV, SE.closedM, SE.closedR, SE.rdLe, SE.S.refs, SE.S0.refs, SE.CV.refs, SE.refsL, SE.refsT, SE.S.ren, SE.S0.ren, SE.CV.ren, SE.Res.refs, SE.Res.ren, min_i64, max_i64, min_u16, max_u16, min_u8, max_u8, min_u64, max_u64, S.s.injEq, S0.c.injEq, CV.d.injEq, DC.val.injEq, Value.int.injEq, Value.bool.injEq, Value.string.injEq, eta_fact, eta_atom, eta_asn, eta_state, List.mem_cons, List.mem_nil_iff, or_false, false_or, or_true, true_or, Option.map_some, Option.map_none, Option.bind_some, Option.getD_some, Option.getD_none, Nat.reduceEqDiff, Nat.reduceAdd, Nat.reduceMul, Nat.reduceLeDiff, ↓reduceIte, reduceCtorEq, true_and, and_true, and_self, forall_const, implies_true, true_implies, List.getElem?_toArray, List.getElem?_cons_succ, List.getElem?_cons_zero, List.append_nil, List.nil_append, List.cons_append, List.length_cons, List.length_nil, List.take_succ_cons, List.take_zero, List.drop_succ_cons, List.drop_zero, List.set_cons_zero, List.set_cons_succ, List.map_cons, List.map_nil, Nat.add_zero, Nat.zero_add, forall_eq, Prod.forall, Bool.not_true, Bool.not_false, Nat.lt_irrefl, Nat.zero_lt_succ, List.singleton_append, Prod.mk.injEq, Nat.zero_mul, Nat.one_mul, Nat.reducePow, Option.some.injEq, not_false_eq_true, Int.toNat_natCast, Nat.sub_zero, Nat.le_refl, Bool.or_false, Bool.false_or, Bool.or_true, Bool.true_or, Bool.and_true, Bool.true_and, Bool.and_false, Bool.false_and, Bool.or_self, Bool.and_self, List.append_eq, and_false, false_and]
  all_goals (try simp only [vcIf_iff, decide_eq_true_eq, decide_eq_false_iff_not, bne_iff_ne, ne_eq, beq_iff_eq, beq_eq_false_iff_ne, bne_eq_false_iff_eq, Bool.not_eq_true', Bool.not_eq_false', Int.ofNat_lt, Int.natCast_inj])
  all_goals (repeat' (first | apply And.intro | intro _))
  all_goals (first | omega | (simp_all; done) | grind [fsV, take_all, all_take, take_full, Ty.zero])
theorem ok_sFactsValid : FnOk Try.prog E 127 c_sFactsValid :=
  fn_ok (l := L_sFactsValid) (perm := fun _ => []) tabOk mix ⟨ok_sFactValid, trivial⟩ Try.func127 rfl (by kernel_rfl) (by decide) (by kernel_rfl) (anns := fun x _ => an_sFactsValid x.1) (fun ⟨l, _⟩ k hp _ => vc_sFactsValid l k hp) tot_fn
end Go.Proofs.Ytejcmcbpfnmlaaa

namespace Go.Proofs.Ytejcmcbpfnmlaaa
open Go.SE Go.RowKit
set_option linter.unusedSimpArgs false
set_option linter.unusedVariables false
set_option maxHeartbeats 1000000
set_option maxRecDepth 100000
/-! sAssertionValid -/
abbrev c_sAssertionValid : Con := ⟨[.asn], [.bool], fun (a, _) => a.facts.length ≤ 281474976710656 ∧ a.atoms.length ≤ 281474976710656, .inl fun (a, _) => (asV a, ()), fun _ => 0⟩
abbrev L_sAssertionValid : List (FuncId × Con) := [(126, c_l3Atom), (127, c_sFactsValid)]
def an_sAssertionValid (a : GAsn) : Nat → Option Ann
  | 2 => some { α := Nat, ok := fun i => i ≤ a.atoms.length ∧ (a.atoms.take i).all atV = true, mu := fun i => a.atoms.length - i, i0 := fun _ => 0, nx := fun a _ => (fun i => i + 1) a, live := [1], sets := fun i => [(3, sv (.int .i64 i))], mids := [31], blks := fun i => [], owns := fun i => [], rd := fun r _ => r, base := 100000 }
  | _ => none
theorem vc_sAssertionValid (a : GAsn) (k : Nat) (hp : a.facts.length ≤ 281474976710656 ∧ a.atoms.length ≤ 281474976710656) : vc tab (lookF L_sAssertionValid) (an_sAssertionValid a) (fun _ => []) (bodyOf Try.f73) (entry (encs c_sAssertionValid.aks (a, ())) (rdOf false k)) (retOk tab c_sAssertionValid Try.f73.results.toList (a, ()) k) := by
  dsimp only [bodyOf, Try.f73, rdOf]
  simp (maxSteps := 10000000) only [c_sAssertionValid, L_sAssertionValid, an_sAssertionValid, SE.lookF, c_l3Atom, c_sFactsValid, tab2, tab3, tab4, tab5, tab7, tab9, tab12, tab13, tab21, tab22, tab23, tab24, tab25, tab26, tab27, tab28, tab39, tab42, tab46, tab47, tab65, tab66, tab67, tab68, tab79, tab80, tab84, tab85, tab90, tab91, tab94, tab111, tab140, tab141, tab157, tab159, tab160, tab161, tab162, tab182, tab194, SE.entry, SE.envOf, SE.rdOf, Option.get_some, SE.vc, SE.vcReg, SE.vcLoop, SE.condK, SE.seqK, SE.blockK, SE.vcOps, SE.vcStep, SE.vcOp, SE.vcTr, SE.vcDet_some, SE.vcDet_none, SE.vcIf_true, SE.vcIf_false, SE.vcEach, SE.pickOps, SE.gslot, SE.trOp, SE.moveId, SE.trMove, SE.trPick, SE.trAlloc, SE.trBox, SE.trBuild, SE.trBuildSlice, SE.trLoad, SE.trStore, SE.trNilCheck, SE.trBin, SE.trUn, SE.trConvert, SE.trFieldAddr, SE.trField, SE.trIndexAddr, SE.trIndex, SE.trSlice, SE.trMakeSlice, SE.trExtract, SE.trLen, SE.trAppend, SE.trCopy, SE.trFn, SE.trCall, SE.argsS, SE.ev, SE.constS, SE.junk, SE.sv, SE.upd_app, SE.adds, SE.sets, SE.nid, SE.St.app, SE.St.put, SE.free, SE.freeL, SE.allFree, SE.rids, SE.AK.rids, SE.castL, SE.rdl, SE.AK.dec, SE.decs, SE.AK.enc, SE.encs, SE.AK.res, SE.ress, SE.pack1, SE.zcells, SE.zeroOf, SE.partCells, SE.putc, SE.fills, SE.datas, SE.elemOf, SE.elemsOf, SE.notSpent, SE.cellsAt, SE.weak, SE.dcellsAt, SE.slAt, SE.rdPlus, SE.intAt, SE.updElem, SE.kill, SE.noJunk, SE.inK, SE.binI, SE.shf, SE.isShift, SE.eqCells, SE.aggS, SE.intOp, SE.nested, SE.hasRdr, SE.refsC, SE.refsCs, SE.ownsC, SE.refsAr, SE.rdFits, SE.costIf, SE.Con.post, SE.Con.det, SE.Ty.cells, SE.Ty.sz, SE.Ty.zero, SE.Ty.flat, SE.Ty.dec, SE.retOk, SE.loadsS, SE.loadS, SE.decRs, SE.decR, SE.outC, SE.rdC, SE.allDiff, SE.notIn, SE.notFrozen, SE.apartL, SE.rdEnd, SE.firstReg, SE.headC, SE.fitsC, SE.idsC, SE.keepE, SE.keepM, SE.keepB, SE.inL, SE.puts, SE.ownRes, SE.ownEnv, SE.renL, SE.srcId, SE.lookR, SE.envSame, SE.envSets, SE.memSame, SE.memBlks, SE.memOwns, SE.famsOf, SE.allIn, SE.closedE, SE.closedV, SE.closedM, SE.closedR, SE.rdLe, SE.S.refs, SE.S0.refs, SE.CV.refs, SE.refsL, SE.refsT, SE.S.ren, SE.S0.ren, SE.CV.ren, SE.Res.refs, SE.Res.ren, min_i64, max_i64, min_u16, max_u16, min_u8, max_u8, min_u64, max_u64, S.s.injEq, S0.c.injEq, CV.d.injEq, DC.val.injEq, Value.int.injEq, Value.bool.injEq, Value.string.injEq, eta_fact, eta_atom, eta_asn, eta_state, List.mem_cons, List.mem_nil_iff, or_false, false_or, or_true, true_or, Option.map_some, Option.map_none, Option.bind_some, Option.getD_some, Option.getD_none, Nat.reduceEqDiff, Nat.reduceAdd, Nat.reduceMul, Nat.reduceLeDiff, ↓reduceIte, reduceCtorEq, true_and, and_true, and_self, forall_const, implies_true, true_implies, List.getElem?_toArray, List.getElem?_cons_succ, List.getElem?_cons_zero, List.append_nil, List.nil_append, List.cons_append, List.length_cons, List.length_nil, List.take_succ_cons, List.take_zero, List.drop_succ_cons, List.drop_zero, List.set_cons_zero, List.set_cons_succ, List.map_cons, List.map_nil, Nat.add_zero, Nat.zero_add, forall_eq, Prod.forall, Bool.not_true, Bool.not_false, Nat.lt_irrefl, Nat.zero_lt_succ, List.singleton_append, Prod.mk.injEq, Nat.zero_mul, Nat.one_mul, Nat.reducePow, Option.some.injEq, not_false_eq_true, Int.toNat_natCast, Nat.sub_zero, Nat.le_refl, Bool.or_false, Bool.false_or, Bool.or_true, Bool.true_or, Bool.and_true, Bool.true_and, Bool.and_false, Bool.false_and, Bool.or_self, Bool.and_self, List.append_eq, and_false, false_and]
  all_goals (try simp only [vcIf_iff, decide_eq_true_eq, decide_eq_false_iff_not, bne_iff_ne, ne_eq, beq_iff_eq, beq_eq_false_iff_ne, bne_eq_false_iff_eq, Bool.not_eq_true', Bool.not_eq_false', Int.ofNat_lt, Int.natCast_inj])
  all_goals (repeat' (first | apply And.intro | intro _))
  all_goals (first | omega | (simp_all; done) | grind [asV, take_all, all_take, take_full, Ty.zero])
theorem ok_sAssertionValid : FnOk Try.prog E 73 c_sAssertionValid :=
  fn_ok (l := L_sAssertionValid) (perm := fun _ => []) tabOk mix ⟨ok_l3Atom, ok_sFactsValid, trivial⟩ Try.func73 rfl (by kernel_rfl) (by decide) (by kernel_rfl) (anns := fun x _ => an_sAssertionValid x.1) (fun ⟨a, _⟩ k hp _ => vc_sAssertionValid a k hp) tot_fn
end Go.Proofs.Ytejcmcbpfnmlaaa

namespace Go.Proofs.Ytejcmcbpfnmlaaa
open Go.SE Go.RowKit
set_option linter.unusedSimpArgs false
set_option linter.unusedVariables false
set_option maxHeartbeats 1000000
set_option maxRecDepth 100000
/-! l2Addr -/
abbrev c_l2Addr : Con := ⟨[.int], [.bool], fun _ => True, .inl fun (t, _) => (isT t, ()), fun _ => 0⟩
abbrev L_l2Addr : List (FuncId × Con) := []
theorem vc_l2Addr (t : Int) (k : Nat) : vc tab (lookF L_l2Addr) (fun _ => none) (fun _ => []) (bodyOf Try.f139) (entry (encs c_l2Addr.aks (t, ())) (rdOf false k)) (retOk tab c_l2Addr Try.f139.results.toList (t, ()) k) := by
  dsimp only [bodyOf, Try.f139, rdOf]
  simp (maxSteps := 10000000) only [c_l2Addr, L_l2Addr, SE.lookF, tab2, tab3, tab4, tab5, tab7, tab9, tab12, tab13, tab21, tab22, tab23, tab24, tab25, tab26, tab27, tab28, tab39, tab42, tab46, tab47, tab65, tab66, tab67, tab68, tab79, tab80, tab84, tab85, tab90, tab91, tab94, tab111, tab140, tab141, tab157, tab159, tab160, tab161, tab162, tab182, tab194, SE.entry, SE.envOf, SE.rdOf, Option.get_some, SE.vc, SE.vcReg, SE.vcLoop, SE.condK, SE.seqK, SE.blockK, SE.vcOps, SE.vcStep, SE.vcOp, SE.vcTr, SE.vcDet_some, SE.vcDet_none, SE.vcIf_true, SE.vcIf_false, SE.vcEach, SE.pickOps, SE.gslot, SE.trOp, SE.moveId, SE.trMove, SE.trPick, SE.trAlloc, SE.trBox, SE.trBuild, SE.trBuildSlice, SE.trLoad, SE.trStore, SE.trNilCheck, SE.trBin, SE.trUn, SE.trConvert, SE.trFieldAddr, SE.trField, SE.trIndexAddr, SE.trIndex, SE.trSlice, SE.trMakeSlice, SE.trExtract, SE.trLen, SE.trAppend, SE.trCopy, SE.trFn, SE.trCall, SE.argsS, SE.ev, SE.constS, SE.junk, SE.sv, SE.upd_app, SE.adds, SE.sets, SE.nid, SE.St.app, SE.St.put, SE.free, SE.freeL, SE.allFree, SE.rids, SE.AK.rids, SE.castL, SE.rdl, SE.AK.dec, SE.decs, SE.AK.enc, SE.encs, SE.AK.res, SE.ress, SE.pack1, SE.zcells, SE.zeroOf, SE.partCells, SE.putc, SE.fills, SE.datas, SE.elemOf, SE.elemsOf, SE.notSpent, SE.cellsAt, SE.weak, SE.dcellsAt, SE.slAt, SE.rdPlus, SE.intAt, SE.updElem, SE.kill, SE.noJunk, SE.inK, SE.binI, SE.shf, SE.isShift, SE.eqCells, SE.aggS, SE.intOp, SE.nested, SE.hasRdr, SE.refsC, SE.refsCs, SE.ownsC, SE.refsAr, SE.rdFits, SE.costIf, SE.Con.post, SE.Con.det, SE.Ty.cells, SE.Ty.sz, SE.Ty.zero, SE.Ty.flat, SE.Ty.dec, SE.retOk, SE.loadsS, SE.loadS, SE.decRs, SE.decR, SE.outC, SE.rdC, SE.allDiff, SE.notIn, SE.notFrozen, SE.apartL, SE.rdEnd, SE.firstReg, SE.headC, SE.fitsC, SE.idsC, SE.keepE, SE.keepM, SE.keepB, SE.inL, SE.puts, SE.ownRes, SE.ownEnv, SE.renL, SE.srcId, SE.lookR, SE.envSame, SE.envSets, SE.memSame, SE.memBlks, SE.memOwns, SE.famsOf, SE.allIn, SE.closedE, SE.closedV, SE.closedM, SE.closedR, SE.rdLe, SE.S.refs, SE.S0.refs, SE.CV.refs, SE.refsL, SE.refsT, SE.S.ren, SE.S0.ren, SE.CV.ren, SE.Res.refs, SE.Res.ren, min_i64, max_i64, min_u16, max_u16, min_u8, max_u8, min_u64, max_u64, S.s.injEq, S0.c.injEq, CV.d.injEq, DC.val.injEq, Value.int.injEq, Value.bool.injEq, Value.string.injEq, eta_fact, eta_atom, eta_asn, eta_state, List.mem_cons, List.mem_nil_iff, or_false, false_or, or_true, true_or, Option.map_some, Option.map_none, Option.bind_some, Option.getD_some, Option.getD_none, Nat.reduceEqDiff, Nat.reduceAdd, Nat.reduceMul, Nat.reduceLeDiff, ↓reduceIte, reduceCtorEq, true_and, and_true, and_self, forall_const, implies_true, true_implies, List.getElem?_toArray, List.getElem?_cons_succ, List.getElem?_cons_zero, List.append_nil, List.nil_append, List.cons_append, List.length_cons, List.length_nil, List.take_succ_cons, List.take_zero, List.drop_succ_cons, List.drop_zero, List.set_cons_zero, List.set_cons_succ, List.map_cons, List.map_nil, Nat.add_zero, Nat.zero_add, forall_eq, Prod.forall, Bool.not_true, Bool.not_false, Nat.lt_irrefl, Nat.zero_lt_succ, List.singleton_append, Prod.mk.injEq, Nat.zero_mul, Nat.one_mul, Nat.reducePow, Option.some.injEq, not_false_eq_true, Int.toNat_natCast, Nat.sub_zero, Nat.le_refl, Bool.or_false, Bool.false_or, Bool.or_true, Bool.true_or, Bool.and_true, Bool.true_and, Bool.and_false, Bool.false_and, Bool.or_self, Bool.and_self, List.append_eq, and_false, false_and]
  cases h : decide (0 ≤ t) <;> simp [vcIf, isT, h]
theorem ok_l2Addr : FnOk Try.prog E 139 c_l2Addr :=
  fn_ok (l := L_l2Addr) (perm := fun _ => []) tabOk mix trivial Try.func139 rfl (by kernel_rfl) (by decide) (by kernel_rfl) (anns := fun x _ => fun _ => none) (fun ⟨t, _⟩ k _ _ => vc_l2Addr t k) tot_fn
end Go.Proofs.Ytejcmcbpfnmlaaa

namespace Go.Proofs.Ytejcmcbpfnmlaaa
open Go.SE Go.RowKit
set_option linter.unusedSimpArgs false
set_option linter.unusedVariables false
set_option maxHeartbeats 1000000
set_option maxRecDepth 100000
/-! sStateValid -/
abbrev c_sStateValid : Con := ⟨[.state], [.bool], fun (s, _) => s.vals.length ≤ 281474976710656 ∧ s.heap.length ≤ 281474976710656, .inl fun (s, _) => (stV s, ()), fun _ => 0⟩
abbrev L_sStateValid : List (FuncId × Con) := [(139, c_l2Addr)]
def an_sStateValid (s : GState) : Nat → Option Ann
  | 2 => some { α := Nat, ok := fun i => i ≤ s.vals.length ∧ (s.vals.take i).all isT = true, mu := fun i => s.vals.length - i, i0 := fun _ => 0, nx := fun a _ => (fun i => i + 1) a, live := [1], sets := fun i => [(3, sv (.int .i64 i))], mids := [31], blks := fun i => [], owns := fun i => [], rd := fun r _ => r, base := 100000 }
  | 7 => some { α := Nat, ok := fun i => i ≤ s.heap.length ∧ s.vals.all isT = true ∧ (s.heap.take i).all hv = true, mu := fun i => s.heap.length - i, i0 := fun _ => 0, nx := fun a _ => (fun i => i + 1) a, live := [1], sets := fun i => [(4, sv (.int .i64 i))], mids := [31], blks := fun i => [], owns := fun i => [], rd := fun r _ => r, base := 200000 }
  | _ => none
theorem vc_sStateValid (s : GState) (k : Nat) (hp : s.vals.length ≤ 281474976710656 ∧ s.heap.length ≤ 281474976710656) : vc tab (lookF L_sStateValid) (an_sStateValid s) (fun _ => []) (bodyOf Try.f92) (entry (encs c_sStateValid.aks (s, ())) (rdOf false k)) (retOk tab c_sStateValid Try.f92.results.toList (s, ()) k) := by
  dsimp only [bodyOf, Try.f92, rdOf]
  simp (maxSteps := 10000000) only [c_sStateValid, L_sStateValid, an_sStateValid, SE.lookF, c_l2Addr, tab2, tab3, tab4, tab5, tab7, tab9, tab12, tab13, tab21, tab22, tab23, tab24, tab25, tab26, tab27, tab28, tab39, tab42, tab46, tab47, tab65, tab66, tab67, tab68, tab79, tab80, tab84, tab85, tab90, tab91, tab94, tab111, tab140, tab141, tab157, tab159, tab160, tab161, tab162, tab182, tab194, SE.entry, SE.envOf, SE.rdOf, Option.get_some, SE.vc, SE.vcReg, SE.vcLoop, SE.condK, SE.seqK, SE.blockK, SE.vcOps, SE.vcStep, SE.vcOp, SE.vcTr, SE.vcDet_some, SE.vcDet_none, SE.vcIf_true, SE.vcIf_false, SE.vcEach, SE.pickOps, SE.gslot, SE.trOp, SE.moveId, SE.trMove, SE.trPick, SE.trAlloc, SE.trBox, SE.trBuild, SE.trBuildSlice, SE.trLoad, SE.trStore, SE.trNilCheck, SE.trBin, SE.trUn, SE.trConvert, SE.trFieldAddr, SE.trField, SE.trIndexAddr, SE.trIndex, SE.trSlice, SE.trMakeSlice, SE.trExtract, SE.trLen, SE.trAppend, SE.trCopy, SE.trFn, SE.trCall, SE.argsS, SE.ev, SE.constS, SE.junk, SE.sv, SE.upd_app, SE.adds, SE.sets, SE.nid, SE.St.app, SE.St.put, SE.free, SE.freeL, SE.allFree, SE.rids, SE.AK.rids, SE.castL, SE.rdl, SE.AK.dec, SE.decs, SE.AK.enc, SE.encs, SE.AK.res, SE.ress, SE.pack1, SE.zcells, SE.zeroOf, SE.partCells, SE.putc, SE.fills, SE.datas, SE.elemOf, SE.elemsOf, SE.notSpent, SE.cellsAt, SE.weak, SE.dcellsAt, SE.slAt, SE.rdPlus, SE.intAt, SE.updElem, SE.kill, SE.noJunk, SE.inK, SE.binI, SE.shf, SE.isShift, SE.eqCells, SE.aggS, SE.intOp, SE.nested, SE.hasRdr, SE.refsC, SE.refsCs, SE.ownsC, SE.refsAr, SE.rdFits, SE.costIf, SE.Con.post, SE.Con.det, SE.Ty.cells, SE.Ty.sz, SE.Ty.zero, SE.Ty.flat, SE.Ty.dec, SE.retOk, SE.loadsS, SE.loadS, SE.decRs, SE.decR, SE.outC, SE.rdC, SE.allDiff, SE.notIn, SE.notFrozen, SE.apartL, SE.rdEnd, SE.firstReg, SE.headC, SE.fitsC, SE.idsC, SE.keepE, SE.keepM, SE.keepB, SE.inL, SE.puts, SE.ownRes, SE.ownEnv, SE.renL, SE.srcId, SE.lookR, SE.envSame, SE.envSets, SE.memSame, SE.memBlks, SE.memOwns, SE.famsOf, SE.allIn, SE.closedE, SE.closedV, SE.closedM, SE.closedR, SE.rdLe, SE.S.refs, SE.S0.refs, SE.CV.refs, SE.refsL, SE.refsT, SE.S.ren, SE.S0.ren, SE.CV.ren, SE.Res.refs, SE.Res.ren, min_i64, max_i64, min_u16, max_u16, min_u8, max_u8, min_u64, max_u64, S.s.injEq, S0.c.injEq, CV.d.injEq, DC.val.injEq, Value.int.injEq, Value.bool.injEq, Value.string.injEq, eta_fact, eta_atom, eta_asn, eta_state, List.mem_cons, List.mem_nil_iff, or_false, false_or, or_true, true_or, Option.map_some, Option.map_none, Option.bind_some, Option.getD_some, Option.getD_none, Nat.reduceEqDiff, Nat.reduceAdd, Nat.reduceMul, Nat.reduceLeDiff, ↓reduceIte, reduceCtorEq, true_and, and_true, and_self, forall_const, implies_true, true_implies, List.getElem?_toArray, List.getElem?_cons_succ, List.getElem?_cons_zero, List.append_nil, List.nil_append, List.cons_append, List.length_cons, List.length_nil, List.take_succ_cons, List.take_zero, List.drop_succ_cons, List.drop_zero, List.set_cons_zero, List.set_cons_succ, List.map_cons, List.map_nil, Nat.add_zero, Nat.zero_add, forall_eq, Prod.forall, Bool.not_true, Bool.not_false, Nat.lt_irrefl, Nat.zero_lt_succ, List.singleton_append, Prod.mk.injEq, Nat.zero_mul, Nat.one_mul, Nat.reducePow, Option.some.injEq, not_false_eq_true, Int.toNat_natCast, Nat.sub_zero, Nat.le_refl, Bool.or_false, Bool.false_or, Bool.or_true, Bool.true_or, Bool.and_true, Bool.true_and, Bool.and_false, Bool.false_and, Bool.or_self, Bool.and_self, List.append_eq, and_false, false_and]
  all_goals (try simp only [vcIf_iff, decide_eq_true_eq, decide_eq_false_iff_not, bne_iff_ne, ne_eq, beq_iff_eq, beq_eq_false_iff_ne, bne_eq_false_iff_eq, Bool.not_eq_true', Bool.not_eq_false', Int.ofNat_lt, Int.natCast_inj])
  all_goals (repeat' (first | apply And.intro | intro _))
  all_goals (first | omega | (simp_all; done) | grind [stV, hv, take_all, all_take, take_full])
theorem ok_sStateValid : FnOk Try.prog E 92 c_sStateValid :=
  fn_ok (l := L_sStateValid) (perm := fun _ => []) tabOk mix ⟨ok_l2Addr, trivial⟩ Try.func92 rfl (by kernel_rfl) (by decide) (by kernel_rfl) (anns := fun x _ => an_sStateValid x.1) (fun ⟨s, _⟩ k hp _ => vc_sStateValid s k hp) tot_fn
end Go.Proofs.Ytejcmcbpfnmlaaa

namespace Go.Proofs.Ytejcmcbpfnmlaaa
open Go.SE Go.RowKit
set_option linter.unusedSimpArgs false
set_option linter.unusedVariables false
set_option maxHeartbeats 1000000
set_option maxRecDepth 100000
/-! l1Hold -/
abbrev c_l1Hold : Con := ⟨[.sl .fact, .sl .int], [.bool], fun (l, v, _) => l.length ≤ 1048576 ∧ v.length = 8 ∧ l.all fV = true, .inl fun (l, v, _) => (l.all (holdF v), ()), fun _ => 0⟩
abbrev L_l1Hold : List (FuncId × Con) := [(161, c_l1Value)]
def an_l1Hold (l : List GFact) (v : List Int) : Nat → Option Ann
  | 2 => some { α := Nat, ok := fun i => i ≤ l.length ∧ (l.take i).all (holdF v) = true, mu := fun i => l.length - i, i0 := fun _ => 0, nx := fun a _ => (fun i => i + 1) a, live := [0, 1], sets := fun i => [(5, sv (.int .i64 i))], mids := [], blks := fun i => [], owns := fun i => [], rd := fun r _ => r, base := 100000 }
  | _ => none
theorem vc_l1Hold (l : List GFact) (v : List Int) (k : Nat) (hp : l.length ≤ 1048576 ∧ v.length = 8 ∧ l.all fV = true) : vc tab (lookF L_l1Hold) (an_l1Hold l v) (fun _ => []) (bodyOf Try.f164) (entry (encs c_l1Hold.aks (l, v, ())) (rdOf false k)) (retOk tab c_l1Hold Try.f164.results.toList (l, v, ()) k) := by
  dsimp only [bodyOf, Try.f164, rdOf]
  simp (maxSteps := 10000000) only [c_l1Hold, L_l1Hold, an_l1Hold, SE.lookF, c_l1Value, tab2, tab3, tab4, tab5, tab7, tab9, tab12, tab13, tab21, tab22, tab23, tab24, tab25, tab26, tab27, tab28, tab39, tab42, tab46, tab47, tab65, tab66, tab67, tab68, tab79, tab80, tab84, tab85, tab90, tab91, tab94, tab111, tab140, tab141, tab157, tab159, tab160, tab161, tab162, tab182, tab194, SE.entry, SE.envOf, SE.rdOf, Option.get_some, SE.vc, SE.vcReg, SE.vcLoop, SE.condK, SE.seqK, SE.blockK, SE.vcOps, SE.vcStep, SE.vcOp, SE.vcTr, SE.vcDet_some, SE.vcDet_none, SE.vcIf_true, SE.vcIf_false, SE.vcEach, SE.pickOps, SE.gslot, SE.trOp, SE.moveId, SE.trMove, SE.trPick, SE.trAlloc, SE.trBox, SE.trBuild, SE.trBuildSlice, SE.trLoad, SE.trStore, SE.trNilCheck, SE.trBin, SE.trUn, SE.trConvert, SE.trFieldAddr, SE.trField, SE.trIndexAddr, SE.trIndex, SE.trSlice, SE.trMakeSlice, SE.trExtract, SE.trLen, SE.trAppend, SE.trCopy, SE.trFn, SE.trCall, SE.argsS, SE.ev, SE.constS, SE.junk, SE.sv, SE.upd_app, SE.adds, SE.sets, SE.nid, SE.St.app, SE.St.put, SE.free, SE.freeL, SE.allFree, SE.rids, SE.AK.rids, SE.castL, SE.rdl, SE.AK.dec, SE.decs, SE.AK.enc, SE.encs, SE.AK.res, SE.ress, SE.pack1, SE.zcells, SE.zeroOf, SE.partCells, SE.putc, SE.fills, SE.datas, SE.elemOf, SE.elemsOf, SE.notSpent, SE.cellsAt, SE.weak, SE.dcellsAt, SE.slAt, SE.rdPlus, SE.intAt, SE.updElem, SE.kill, SE.noJunk, SE.inK, SE.binI, SE.shf, SE.isShift, SE.eqCells, SE.aggS, SE.intOp, SE.nested, SE.hasRdr, SE.refsC, SE.refsCs, SE.ownsC, SE.refsAr, SE.rdFits, SE.costIf, SE.Con.post, SE.Con.det, SE.Ty.cells, SE.Ty.sz, SE.Ty.zero, SE.Ty.flat, SE.Ty.dec, SE.retOk, SE.loadsS, SE.loadS, SE.decRs, SE.decR, SE.outC, SE.rdC, SE.allDiff, SE.notIn, SE.notFrozen, SE.apartL, SE.rdEnd, SE.firstReg, SE.headC, SE.fitsC, SE.idsC, SE.keepE, SE.keepM, SE.keepB, SE.inL, SE.puts, SE.ownRes, SE.ownEnv, SE.renL, SE.srcId, SE.lookR, SE.envSame, SE.envSets, SE.memSame, SE.memBlks, SE.memOwns, SE.famsOf, SE.allIn, SE.closedE, SE.closedV, SE.closedM, SE.closedR, SE.rdLe, SE.S.refs, SE.S0.refs, SE.CV.refs, SE.refsL, SE.refsT, SE.S.ren, SE.S0.ren, SE.CV.ren, SE.Res.refs, SE.Res.ren, min_i64, max_i64, min_u16, max_u16, min_u8, max_u8, min_u64, max_u64, S.s.injEq, S0.c.injEq, CV.d.injEq, DC.val.injEq, Value.int.injEq, Value.bool.injEq, Value.string.injEq, eta_fact, eta_atom, eta_asn, eta_state, List.mem_cons, List.mem_nil_iff, or_false, false_or, or_true, true_or, Option.map_some, Option.map_none, Option.bind_some, Option.getD_some, Option.getD_none, Nat.reduceEqDiff, Nat.reduceAdd, Nat.reduceMul, Nat.reduceLeDiff, ↓reduceIte, reduceCtorEq, true_and, and_true, and_self, forall_const, implies_true, true_implies, List.getElem?_toArray, List.getElem?_cons_succ, List.getElem?_cons_zero, List.append_nil, List.nil_append, List.cons_append, List.length_cons, List.length_nil, List.take_succ_cons, List.take_zero, List.drop_succ_cons, List.drop_zero, List.set_cons_zero, List.set_cons_succ, List.map_cons, List.map_nil, Nat.add_zero, Nat.zero_add, forall_eq, Prod.forall, Bool.not_true, Bool.not_false, Nat.lt_irrefl, Nat.zero_lt_succ, List.singleton_append, Prod.mk.injEq, Nat.zero_mul, Nat.one_mul, Nat.reducePow, Option.some.injEq, not_false_eq_true, Int.toNat_natCast, Nat.sub_zero, Nat.le_refl, Bool.or_false, Bool.false_or, Bool.or_true, Bool.true_or, Bool.and_true, Bool.true_and, Bool.and_false, Bool.false_and, Bool.or_self, Bool.and_self, List.append_eq, and_false, false_and]
  have hf := fun i (h : i < l.length) => all_get (d := Ty.fact.zero) hp.2.2 h
  all_goals (try simp only [vcIf_iff, decide_eq_true_eq, decide_eq_false_iff_not, bne_iff_ne, ne_eq, beq_iff_eq, beq_eq_false_iff_ne, bne_eq_false_iff_eq, Bool.not_eq_true', Bool.not_eq_false', Int.ofNat_lt, Int.natCast_inj])
  all_goals (repeat' (first | apply And.intro | intro _))
  all_goals (first | omega | (simp_all; done) | grind [holdF, fV, take_all, all_take, take_full, Ty.zero])
theorem ok_l1Hold : FnOk Try.prog E 164 c_l1Hold :=
  fn_ok (l := L_l1Hold) (perm := fun _ => []) tabOk mix ⟨ok_l1Value, trivial⟩ Try.func164 rfl (by kernel_rfl) (by decide) (by kernel_rfl) (anns := fun x _ => an_l1Hold x.1 x.2.1) (fun ⟨l, v, _⟩ k hp _ => vc_l1Hold l v k hp) tot_fn
end Go.Proofs.Ytejcmcbpfnmlaaa

namespace Go.Proofs.Ytejcmcbpfnmlaaa
open Go.SE Go.RowKit
set_option linter.unusedSimpArgs false
set_option linter.unusedVariables false
set_option maxHeartbeats 1000000
set_option maxRecDepth 100000
/-! l2Has -/
abbrev c_l2Has : Con := ⟨[.state, .int], [.bool], fun (s, n, _) => stV s = true, .inl fun (s, n, _) => (al s n, ()), fun _ => 0⟩
abbrev L_l2Has : List (FuncId × Con) := []
abbrev P_l2Has : List (FuncId × PT) := []
def VC_l2Has (s : GState) (n : Int) (k : Nat) : Prop := TN ∧ True ∧ True ∧ True ∧ True ∧ (vcIf (decide ((1 : Int) ≤ n)) (True ∧ True ∧ True ∧ True ∧ (vcIf (decide (n ≤ (8 : Int))) (True ∧ True ∧ True ∧ (inK .i64 (n - (1 : Int))) ∧ (0 ≤ (n - (1 : Int)) ∧ (n - (1 : Int)) < ((s.heap.length : Nat) : Int)) ∧ True ∧ True ∧ True ∧ True ∧ (((decide ((0 : Int) ≤ (s.heap.getD (n - (1 : Int)).toNat (0 : Int))), ()) : Bool × Unit) = (al s n, ())) ∧ True ∧ True ∧ True ∧ True ∧ TF) (True ∧ True ∧ (((false, ()) : Bool × Unit) = (al s n, ())) ∧ True ∧ True ∧ True ∧ True ∧ TF))) (True ∧ True ∧ True ∧ True ∧ (((false, ()) : Bool × Unit) = (al s n, ())) ∧ True ∧ True ∧ True ∧ True ∧ TF))
theorem vcn_l2Has (s : GState) (n : Int) (k : Nat) (hp : stV s = true) : VC_l2Has s n k := by
  unfold VC_l2Has
  simp only [TT, TF, TN, RL, RM, true_and, and_true, eq_self, implies_true, forall_const, List.cons.injEq, S.s.injEq, S0.c.injEq, S0.agg.injEq, CV.d.injEq, CV.own.injEq, CV.ptr.injEq, DC.val.injEq, Value.int.injEq, Value.bool.injEq, Option.some.injEq, Res.blk.injEq, Prod.mk.injEq, inK, min_i64, max_i64, min_u16, max_u16, min_u8, max_u8, min_u64, max_u64, vcIf_true, vcIf_false, List.mem_nil_iff, List.not_mem_nil, not_false_eq_true, Nat.reduceEqDiff, Nat.reduceLeDiff, ne_eq, Bool.and_true, Nat.add_zero, List.append_nil, List.nil_append, List.length_nil, List.length_cons, Nat.zero_add, Nat.reduceAdd, Int.toNat_natCast, Nat.sub_zero, List.drop_zero, List.map_nil, List.take_zero, forall_eq]
  all_goals (try simp only [vcIf_iff, decide_eq_true_eq, decide_eq_false_iff_not, bne_iff_ne, ne_eq, beq_iff_eq, beq_eq_false_iff_ne, bne_eq_false_iff_eq, Bool.not_eq_true', Bool.not_eq_false', Int.ofNat_lt, Int.natCast_inj])
  all_goals (repeat' (first | apply And.intro | intro _))
  all_goals (repeat (cases ‹_ ∧ _›))
  all_goals (first | omega | rfl | assumption | (simp_all; done) | skip)
  all_goals (try have h2 := stV_all hp)
  all_goals (first | omega | exact al_yes (by assumption) (by assumption) | exact al_no (by omega) | skip)
theorem vce_l2Has (s : GState) (n : Int) (k : Nat) : VC_l2Has s n k = vcQ tab (lookF L_l2Has) (lookP P_l2Has) (fun _ => false) (fun _ => none) (fun _ _ => none) (fun _ => []) (bodyOf Try.f166) (entry (encs c_l2Has.aks (s, n, ())) (rdOf false k)) (retOk tab c_l2Has Try.f166.results.toList (s, n, ()) k) := by kernel_rfl
theorem vc_l2Has (s : GState) (n : Int) (k : Nat) (hp : stV s = true) : vcQ tab (lookF L_l2Has) (lookP P_l2Has) (fun _ => false) (fun _ => none) (fun _ _ => none) (fun _ => []) (bodyOf Try.f166) (entry (encs c_l2Has.aks (s, n, ())) (rdOf false k)) (retOk tab c_l2Has Try.f166.results.toList (s, n, ()) k) := (vce_l2Has s n k).mp (vcn_l2Has s n k hp)
theorem ok_l2Has : FnOk Try.prog E 166 c_l2Has :=
  fn_okQ (l := L_l2Has) (lp := P_l2Has) (hp := fun _ => false) (gcs := fun _ => none) (perm := fun _ => []) tabOk mix trivial trivial Try.func166 rfl (by kernel_rfl) (by decide) (by kernel_rfl) (anns := fun x _ => fun _ _ => none) (fun ⟨s, n, _⟩ k hp _ => vc_l2Has s n k hp) tot_fn
end Go.Proofs.Ytejcmcbpfnmlaaa

namespace Go.Proofs.Ytejcmcbpfnmlaaa
open Go.SE Go.RowKit
set_option linter.unusedSimpArgs false
set_option linter.unusedVariables false
set_option maxHeartbeats 1000000
set_option maxRecDepth 100000
/-! l2Walk -/
abbrev c_l2Walk : Con := ⟨[.state, .int, .int], [.sl .int, .bool], fun (s, x, y, _) => stV s = true ∧ isT x = true ∧ isT y = true, .inl fun (s, x, y, _) => (wkL s x y, wkB s x y, ()), fun _ => 0⟩
abbrev L_l2Walk : List (FuncId × Con) := [(166, c_l2Has)]
abbrev P_l2Walk : List (FuncId × PT) := []
def an_l2Walk (s : GState) (x : Int) (y : Int) : Nat → St → Option Ann
  | 2, se => some { α := List Int × Int, ok := fun p => wkI s x y p.1 p.2, mu := fun p => 9 - p.1.length, i0 := fun st => (slAt .int st (.slot 8), intAt st 1), nx := fun p st => (slAt .int st (.slot 8), intAt st 1), live := [2, 3], sets := fun p => [(1, sv (.int .i64 p.2))], mids := [63], blks := fun p => [], owns := fun p => [⟨7, .slot 8, .int, p.1⟩], rd := fun r _ => r, base := 100000 }
  | _, _ => none
def VC_l2Walk (s : GState) (x : Int) (y : Int) (k : Nat) : Prop := TN ∧ TN ∧ True ∧ (TN ∧ True) ∧ True ∧ ((wkI s x y (([] : List Int), x).1 (([] : List Int), x).2) ∧ TT ∧ (RL [.s (.c (.d (.val (.int .i64 y)))), .s (.c (.ptr 63 0))]) ∧ (([.s (.c (.d (.val (.int .i64 x))))] : List S) = [.s (.c (.d (.val (.int .i64 ((([] : List Int), x).2 : Int)))))]) ∧ (RM [some (.blk [.d (.arr .int s.vals), .d (.arr .int s.heap)])]) ∧ (RM []) ∧ (((some ([] : List Int) : Option (List Int)) = some ((([] : List Int), x).1)) ∧ True) ∧ TT) ∧ (∀ p1 : List Int × Int, (wkI s x y p1.1 p1.2) → True ∧ True ∧ True ∧ (vcIf ((p1.2 : Int) != y) (True ∧ True ∧ ((stV s = true) ∧ True ∧ True) ∧ True ∧ True ∧ (vcIf (!(al s (p1.2 : Int))) (True ∧ (TN ∧ True) ∧ True ∧ True ∧ (((([] : List Int), false, ()) : (List Int) × Bool × Unit) = (wkL s x y, wkB s x y, ())) ∧ (True ∧ True) ∧ ((TF ∧ TF) ∧ True) ∧ True ∧ (True ∧ True) ∧ TF) (True ∧ True ∧ True ∧ True ∧ (vcIf (decide ((8 : Int) ≤ ((p1.1.length : Nat) : Int))) ((TN ∧ True) ∧ True ∧ True ∧ (((([] : List Int), false, ()) : (List Int) × Bool × Unit) = (wkL s x y, wkB s x y, ())) ∧ (True ∧ True) ∧ ((TF ∧ TF) ∧ True) ∧ True ∧ (True ∧ True) ∧ TF) (True ∧ True ∧ (TN ∧ True) ∧ (TN ∧ TF ∧ TF ∧ (p1.1.length + ([(p1.2 : Int)] : List Int).length ≤ 4294967296)) ∧ True ∧ True ∧ True ∧ True ∧ (inK .i64 ((p1.2 : Int) - (1 : Int))) ∧ (0 ≤ ((p1.2 : Int) - (1 : Int)) ∧ ((p1.2 : Int) - (1 : Int)) < ((s.heap.length : Nat) : Int)) ∧ True ∧ True ∧ (wkI s x y ((p1.1 ++ ([(p1.2 : Int)] : List Int)), (s.heap.getD ((p1.2 : Int) - (1 : Int)).toNat (0 : Int))).1 ((p1.1 ++ ([(p1.2 : Int)] : List Int)), (s.heap.getD ((p1.2 : Int) - (1 : Int)).toNat (0 : Int))).2) ∧ (9 - ((p1.1 ++ ([(p1.2 : Int)] : List Int)), (s.heap.getD ((p1.2 : Int) - (1 : Int)).toNat (0 : Int))).1.length < 9 - p1.1.length) ∧ TT ∧ (RL [.s (.c (.d (.val (.int .i64 y)))), .s (.c (.ptr 63 0))]) ∧ (([.s (.c (.d (.val (.int .i64 (s.heap.getD ((p1.2 : Int) - (1 : Int)).toNat (0 : Int))))))] : List S) = [.s (.c (.d (.val (.int .i64 (((p1.1 ++ ([(p1.2 : Int)] : List Int)), (s.heap.getD ((p1.2 : Int) - (1 : Int)).toNat (0 : Int))).2 : Int)))))]) ∧ (RM [some (.blk [.d (.arr .int s.vals), .d (.arr .int s.heap)])]) ∧ (RM []) ∧ (((some (p1.1 ++ ([(p1.2 : Int)] : List Int)) : Option (List Int)) = some (((p1.1 ++ ([(p1.2 : Int)] : List Int)), (s.heap.getD ((p1.2 : Int) - (1 : Int)).toNat (0 : Int))).1)) ∧ True) ∧ TT))))) (True ∧ True ∧ True ∧ (((p1.1, true, ()) : (List Int) × Bool × Unit) = (wkL s x y, wkB s x y, ())) ∧ (True ∧ True) ∧ ((TF ∧ TF) ∧ True) ∧ True ∧ (True ∧ True) ∧ TF)))
theorem vcn_l2Walk (s : GState) (x : Int) (y : Int) (k : Nat) (hp : stV s = true ∧ isT x = true ∧ isT y = true) : VC_l2Walk s x y k := by
  unfold VC_l2Walk
  simp only [TT, TF, TN, RL, RM, true_and, and_true, eq_self, implies_true, forall_const, List.cons.injEq, S.s.injEq, S0.c.injEq, S0.agg.injEq, CV.d.injEq, CV.own.injEq, CV.ptr.injEq, DC.val.injEq, Value.int.injEq, Value.bool.injEq, Option.some.injEq, Res.blk.injEq, Prod.mk.injEq, inK, min_i64, max_i64, min_u16, max_u16, min_u8, max_u8, min_u64, max_u64, vcIf_true, vcIf_false, List.mem_nil_iff, List.not_mem_nil, not_false_eq_true, Nat.reduceEqDiff, Nat.reduceLeDiff, ne_eq, Bool.and_true, Nat.add_zero, List.append_nil, List.nil_append, List.length_nil, List.length_cons, Nat.zero_add, Nat.reduceAdd, Int.toNat_natCast, Nat.sub_zero, List.drop_zero, List.map_nil, List.take_zero, forall_eq]
  all_goals (try simp only [vcIf_iff, decide_eq_true_eq, decide_eq_false_iff_not, bne_iff_ne, ne_eq, beq_iff_eq, beq_eq_false_iff_ne, bne_eq_false_iff_eq, Bool.not_eq_true', Bool.not_eq_false', Int.ofNat_lt, Int.natCast_inj])
  all_goals (repeat' (first | apply And.intro | intro _))
  all_goals (repeat (cases ‹_ ∧ _›))
  all_goals (try have h7 := ‹wkI _ _ _ _ _›)
  all_goals (try have h8 := h7.le)
  all_goals (try have h9 := al_dom (by assumption) ‹al _ _ = true›)
  all_goals (first | omega | rfl | assumption | (simp_all; done) | skip)
  all_goals (first
   | exact wkI_zero (by assumption)
   | exact (wk_none (wk_no h7 (by assumption) (by assumption)) (by assumption) (by assumption) (by assumption)).1.symm
   | exact (wk_none (wk_no h7 (by assumption) (by assumption)) (by assumption) (by assumption) (by assumption)).2.symm
   | exact (wk_none (wk_full h7 (by assumption) (by omega)) (by assumption) (by assumption) (by assumption)).1.symm
   | exact (wk_none (wk_full h7 (by assumption) (by omega)) (by assumption) (by assumption) (by assumption)).2.symm
   | exact (wk_some (wk_end h7 (by assumption)) (by assumption) (by assumption) (by assumption)).1.symm
   | exact (wk_some (wk_end h7 (by assumption)) (by assumption) (by assumption) (by assumption)).2.symm
   | exact wk_go2 (by assumption) h7 (by assumption) (by assumption) (by omega)
   | (rw [List.length_append, List.length_singleton]; omega)
   | skip)
theorem vce_l2Walk (s : GState) (x : Int) (y : Int) (k : Nat) : VC_l2Walk s x y k = vcQ tab (lookF L_l2Walk) (lookP P_l2Walk) (fun _ => false) (fun _ => none) (an_l2Walk s x y) (fun _ => []) (bodyOf Try.f171) (entry (encs c_l2Walk.aks (s, x, y, ())) (rdOf false k)) (retOk tab c_l2Walk Try.f171.results.toList (s, x, y, ()) k) := by kernel_rfl
theorem vc_l2Walk (s : GState) (x : Int) (y : Int) (k : Nat) (hp : stV s = true ∧ isT x = true ∧ isT y = true) : vcQ tab (lookF L_l2Walk) (lookP P_l2Walk) (fun _ => false) (fun _ => none) (an_l2Walk s x y) (fun _ => []) (bodyOf Try.f171) (entry (encs c_l2Walk.aks (s, x, y, ())) (rdOf false k)) (retOk tab c_l2Walk Try.f171.results.toList (s, x, y, ()) k) := (vce_l2Walk s x y k).mp (vcn_l2Walk s x y k hp)
theorem ok_l2Walk : FnOk Try.prog E 171 c_l2Walk :=
  fn_okQ (l := L_l2Walk) (lp := P_l2Walk) (hp := fun _ => false) (gcs := fun _ => none) (perm := fun _ => []) tabOk mix ⟨ok_l2Has, trivial⟩ trivial Try.func171 rfl (by kernel_rfl) (by decide) (by kernel_rfl) (anns := fun x _ => an_l2Walk x.1 x.2.1 x.2.2.1) (fun ⟨s, x, y, _⟩ k hp _ => vc_l2Walk s x y k hp) tot_fn
end Go.Proofs.Ytejcmcbpfnmlaaa

namespace Go.Proofs.Ytejcmcbpfnmlaaa
open Go.SE Go.RowKit
set_option linter.unusedSimpArgs false
set_option linter.unusedVariables false
set_option maxHeartbeats 1000000
set_option maxRecDepth 100000
/-! l4Cells -/
abbrev c_l4Cells : Con := ⟨[.state, .atom], [.sl .int, .bool], fun (s, x, _) => stV s = true ∧ atV x = true, .inl fun (s, x, _) => (acL s x, acB s x, ()), fun _ => 0⟩
abbrev L_l4Cells : List (FuncId × Con) := [(161, c_l1Value), (166, c_l2Has), (171, c_l2Walk)]
abbrev P_l4Cells : List (FuncId × PT) := []
def VC_l4Cells (s : GState) (x : GAtom) (k : Nat) : Prop := TN ∧ TN ∧ TN ∧ True ∧ True ∧ True ∧ True ∧ True ∧ ((s.vals.length = 8 ∧ isT x.a = true) ∧ True ∧ True) ∧ True ∧ True ∧ True ∧ True ∧ True ∧ ((s.vals.length = 8 ∧ isT x.b = true) ∧ True ∧ True) ∧ True ∧ True ∧ True ∧ True ∧ (vcIf (x.kind == (2 : Int)) (True ∧ True ∧ True ∧ ((stV s = true ∧ isT (tv s.vals x.a) = true ∧ isT (tv s.vals x.b) = true) ∧ True ∧ TN ∧ True) ∧ True ∧ True ∧ True ∧ True ∧ ((((wkL s (tv s.vals x.a) (tv s.vals x.b)), (wkB s (tv s.vals x.a) (tv s.vals x.b)), ()) : (List Int) × Bool × Unit) = (acL s x, acB s x, ())) ∧ (True ∧ True) ∧ ((TF ∧ TF) ∧ True) ∧ True ∧ (True ∧ True) ∧ TF) (True ∧ True ∧ ((stV s = true) ∧ True ∧ True) ∧ True ∧ True ∧ (vcIf (!(al s (tv s.vals x.a))) (True ∧ (TN ∧ True) ∧ True ∧ True ∧ (((([] : List Int), false, ()) : (List Int) × Bool × Unit) = (acL s x, acB s x, ())) ∧ (True ∧ True) ∧ ((TF ∧ TF) ∧ True) ∧ True ∧ (True ∧ True) ∧ TF) (True ∧ True ∧ True ∧ (inK .i64 ((tv s.vals x.a) - (1 : Int))) ∧ (0 ≤ ((tv s.vals x.a) - (1 : Int)) ∧ ((tv s.vals x.a) - (1 : Int)) < ((s.heap.length : Nat) : Int)) ∧ True ∧ True ∧ True ∧ True ∧ (vcIf ((s.heap.getD ((tv s.vals x.a) - (1 : Int)).toNat (0 : Int)) != (tv s.vals x.b)) ((TN ∧ True) ∧ True ∧ True ∧ (((([] : List Int), false, ()) : (List Int) × Bool × Unit) = (acL s x, acB s x, ())) ∧ (True ∧ True) ∧ ((TF ∧ TF) ∧ True) ∧ True ∧ (True ∧ True) ∧ TF) (True ∧ (TN ∧ True) ∧ True ∧ True ∧ (((([(tv s.vals x.a)] : List Int), true, ()) : (List Int) × Bool × Unit) = (acL s x, acB s x, ())) ∧ (True ∧ True) ∧ ((TF ∧ TF) ∧ True) ∧ True ∧ (True ∧ True) ∧ TF))))))
theorem vcn_l4Cells (s : GState) (x : GAtom) (k : Nat) (hp : stV s = true ∧ atV x = true) : VC_l4Cells s x k := by
  unfold VC_l4Cells
  simp only [TT, TF, TN, RL, RM, true_and, and_true, eq_self, implies_true, forall_const, List.cons.injEq, S.s.injEq, S0.c.injEq, S0.agg.injEq, CV.d.injEq, CV.own.injEq, CV.ptr.injEq, DC.val.injEq, Value.int.injEq, Value.bool.injEq, Option.some.injEq, Res.blk.injEq, Prod.mk.injEq, inK, min_i64, max_i64, min_u16, max_u16, min_u8, max_u8, min_u64, max_u64, vcIf_true, vcIf_false, List.mem_nil_iff, List.not_mem_nil, not_false_eq_true, Nat.reduceEqDiff, Nat.reduceLeDiff, ne_eq, Bool.and_true, Nat.add_zero, List.append_nil, List.nil_append, List.length_nil, List.length_cons, Nat.zero_add, Nat.reduceAdd, Int.toNat_natCast, Nat.sub_zero, List.drop_zero, List.map_nil, List.take_zero, forall_eq]
  all_goals (try simp only [vcIf_iff, decide_eq_true_eq, decide_eq_false_iff_not, bne_iff_ne, ne_eq, beq_iff_eq, beq_eq_false_iff_ne, bne_eq_false_iff_eq, Bool.not_eq_true', Bool.not_eq_false', Int.ofNat_lt, Int.natCast_inj])
  all_goals (repeat' (first | apply And.intro | intro _))
  all_goals (repeat (cases ‹_ ∧ _›))
  all_goals (try have h9 := al_dom (by assumption) ‹al _ _ = true›)
  all_goals (first | omega | rfl | assumption | (simp_all; done) | skip)
  all_goals (first
   | exact (stV_all (by assumption)).1
   | exact (atV_isT (by assumption)).1
   | exact (atV_isT (by assumption)).2
   | exact (ac_tv (by assumption) (by assumption)).1
   | exact (ac_tv (by assumption) (by assumption)).2
   | exact (ac_list (by assumption) (by assumption) (by assumption)).1.symm
   | exact (ac_list (by assumption) (by assumption) (by assumption)).2.symm
   | exact (ac_no2 (by assumption) (by assumption) (by assumption) (by assumption)).1.symm
   | exact (ac_no2 (by assumption) (by assumption) (by assumption) (by assumption)).2.symm
   | exact (ac_no3 (by assumption) (by assumption) (by assumption) (by assumption) (by assumption)).1.symm
   | exact (ac_no3 (by assumption) (by assumption) (by assumption) (by assumption) (by assumption)).2.symm
   | exact (ac_yes2 (by assumption) (by assumption) (by assumption) (by assumption) (by assumption)).1.symm
   | exact (ac_yes2 (by assumption) (by assumption) (by assumption) (by assumption) (by assumption)).2.symm
   | skip)
theorem vce_l4Cells (s : GState) (x : GAtom) (k : Nat) : VC_l4Cells s x k = vcQ tab (lookF L_l4Cells) (lookP P_l4Cells) (fun _ => false) (fun _ => none) (fun _ _ => none) (fun _ => []) (bodyOf Try.f165) (entry (encs c_l4Cells.aks (s, x, ())) (rdOf false k)) (retOk tab c_l4Cells Try.f165.results.toList (s, x, ()) k) := by kernel_rfl
theorem vc_l4Cells (s : GState) (x : GAtom) (k : Nat) (hp : stV s = true ∧ atV x = true) : vcQ tab (lookF L_l4Cells) (lookP P_l4Cells) (fun _ => false) (fun _ => none) (fun _ _ => none) (fun _ => []) (bodyOf Try.f165) (entry (encs c_l4Cells.aks (s, x, ())) (rdOf false k)) (retOk tab c_l4Cells Try.f165.results.toList (s, x, ()) k) := (vce_l4Cells s x k).mp (vcn_l4Cells s x k hp)
theorem ok_l4Cells : FnOk Try.prog E 165 c_l4Cells :=
  fn_okQ (l := L_l4Cells) (lp := P_l4Cells) (hp := fun _ => false) (gcs := fun _ => none) (perm := fun _ => []) tabOk mix ⟨ok_l1Value, ok_l2Has, ok_l2Walk, trivial⟩ trivial Try.func165 rfl (by kernel_rfl) (by decide) (by kernel_rfl) (anns := fun x _ => fun _ _ => none) (fun ⟨s, x, _⟩ k hp _ => vc_l4Cells s x k hp) tot_fn
end Go.Proofs.Ytejcmcbpfnmlaaa
