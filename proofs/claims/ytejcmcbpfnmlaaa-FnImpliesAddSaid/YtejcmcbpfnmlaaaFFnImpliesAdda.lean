/-
  Contracts of single functions of the program, each shown by the engine: what a call returns for arguments within the contract's bounds.
-/
import Derived.Test.YtejcmcbpfnmlaaaProg
import Derived.KernelRfl
import Derived.Test.YtejcmcbpfnmlaaaEd
import Derived.Test.YtejcmcbpfnmlaaaEe
import Derived.Test.YtejcmcbpfnmlaaaEf
set_option linter.unusedSimpArgs false
set_option linter.unusedVariables false
set_option linter.unusedSectionVars false

namespace Go.Proofs.Ytejcmcbpfnmlaaa
open Go.SE Go.RowKit
def E : Ty → TypeId
  | .int => 3
  | .bool => 4
  | .u8 => 5
  | .fact => 28
  | .atom => 80
  | .cmd => 0
  | .ints => 42
def tabL : List (TypeId × TI) := [
  (2, ⟨1, 8, .sc (.int .i64 0)⟩),
  (3, ⟨1, 8, .sc (.int .i64 0)⟩),
  (4, ⟨1, 1, .sc (.bool false)⟩),
  (5, ⟨1, 1, .sc (.int .u8 0)⟩),
  (7, ⟨4, 24, .st [.sc (.int .i64 0), .sc (.int .i64 0), .sc (.bool false), .sc (.int .u8 0)] [(0, 1, false), (1, 1, false), (2, 1, false), (3, 1, false)]⟩),
  (9, ⟨1, 16, .sc (.string ⟨#[]⟩)⟩),
  (12, ⟨1, 8, .sc (.int .u64 0)⟩),
  (13, ⟨2, 24, .st [.sc (.string ⟨#[]⟩), .sc (.int .u64 0)] [(0, 1, false), (1, 1, false)]⟩),
  (21, ⟨1, 4, .sc (.int .i32 0)⟩),
  (22, ⟨1, 24, .sl true 5 .u8⟩),
  (23, ⟨1, 24, .sl true 28 .fact⟩),
  (24, ⟨1, 24, .sl true 80 .atom⟩),
  (25, ⟨2, 48, .st [.sl .fact, .sl .atom] [(0, 1, false), (1, 1, false)]⟩),
  (26, ⟨2, 48, .st [.sl .fact, .sl .atom] [(0, 1, false), (1, 1, false)]⟩),
  (27, ⟨3, 24, .st [.sc (.bool false), .sc (.int .i64 0), .sc (.int .i64 0)] [(0, 1, false), (1, 1, false), (2, 1, false)]⟩),
  (28, ⟨3, 24, .st [.sc (.bool false), .sc (.int .i64 0), .sc (.int .i64 0)] [(0, 1, false), (1, 1, false), (2, 1, false)]⟩),
  (39, ⟨1, 24, .sl true 42 .ints⟩),
  (42, ⟨1, 24, .sl true 3 .int⟩),
  (46, ⟨2, 48, .st [.sl .int, .sl .int] [(0, 1, false), (1, 1, false)]⟩),
  (47, ⟨2, 48, .st [.sl .int, .sl .int] [(0, 1, false), (1, 1, false)]⟩),
  (65, ⟨1, 24, .sl false 157 .fact⟩),
  (66, ⟨1, 24, .sl false 159 .atom⟩),
  (67, ⟨2, 48, .st [.sl .fact, .sl .atom] [(0, 1, false), (1, 1, false)]⟩),
  (68, ⟨2, 48, .st [.sl .fact, .sl .atom] [(0, 1, false), (1, 1, false)]⟩),
  (79, ⟨3, 24, .st [.sc (.int .i64 0), .sc (.int .i64 0), .sc (.int .i64 0)] [(0, 1, false), (1, 1, false), (2, 1, false)]⟩),
  (80, ⟨3, 24, .st [.sc (.int .i64 0), .sc (.int .i64 0), .sc (.int .i64 0)] [(0, 1, false), (1, 1, false), (2, 1, false)]⟩),
  (84, ⟨1, 2, .sc (.int .u16 0)⟩),
  (85, ⟨1, 2, .sc (.int .u16 0)⟩),
  (90, ⟨9, 72, .ar 9 3 .int⟩),
  (91, ⟨9, 72, .ar 9 3 .int⟩),
  (94, ⟨1, 24, .sl true 4 .bool⟩),
  (111, ⟨1, 2, .sc (.int .u16 0)⟩),
  (140, ⟨2, 32, .st [.sl .u8, .sc (.int .i64 0)] [(0, 1, false), (1, 1, false)]⟩),
  (141, ⟨2, 32, .st [.sl .u8, .sc (.int .i64 0)] [(0, 1, false), (1, 1, false)]⟩),
  (157, ⟨3, 24, .st [.sc (.bool false), .sc (.int .i64 0), .sc (.int .i64 0)] [(0, 1, false), (1, 1, false), (2, 1, false)]⟩),
  (159, ⟨3, 24, .st [.sc (.int .i64 0), .sc (.int .i64 0), .sc (.int .i64 0)] [(0, 1, false), (1, 1, false), (2, 1, false)]⟩),
  (160, ⟨6, 6, .ar 6 4 .bool⟩),
  (161, ⟨8, 40, .st [.sl .atom, .sc (.bool false), .sc (.bool false), .sc (.bool false), .sc (.bool false), .sc (.bool false), .sc (.bool false), .sc (.int .i64 0)] [(0, 1, false), (1, 6, true), (7, 1, false)]⟩),
  (162, ⟨8, 40, .st [.sl .atom, .sc (.bool false), .sc (.bool false), .sc (.bool false), .sc (.bool false), .sc (.bool false), .sc (.bool false), .sc (.int .i64 0)] [(0, 1, false), (1, 6, true), (7, 1, false)]⟩),
  (182, ⟨1, 4, .sc (.int .u32 0)⟩),
  (194, ⟨1, 8, .sc (.int .u64 0)⟩)]
def tab : TypeId → Option TI := lookT tabL
theorem tab2 : tab 2 = some ⟨1, 8, .sc (.int .i64 0)⟩ := rfl
theorem tab3 : tab 3 = some ⟨1, 8, .sc (.int .i64 0)⟩ := rfl
theorem tab4 : tab 4 = some ⟨1, 1, .sc (.bool false)⟩ := rfl
theorem tab5 : tab 5 = some ⟨1, 1, .sc (.int .u8 0)⟩ := rfl
theorem tab7 : tab 7 = some ⟨4, 24, .st [.sc (.int .i64 0), .sc (.int .i64 0), .sc (.bool false), .sc (.int .u8 0)] [(0, 1, false), (1, 1, false), (2, 1, false), (3, 1, false)]⟩ := rfl
theorem tab9 : tab 9 = some ⟨1, 16, .sc (.string ⟨#[]⟩)⟩ := rfl
theorem tab12 : tab 12 = some ⟨1, 8, .sc (.int .u64 0)⟩ := rfl
theorem tab13 : tab 13 = some ⟨2, 24, .st [.sc (.string ⟨#[]⟩), .sc (.int .u64 0)] [(0, 1, false), (1, 1, false)]⟩ := rfl
theorem tab21 : tab 21 = some ⟨1, 4, .sc (.int .i32 0)⟩ := rfl
theorem tab22 : tab 22 = some ⟨1, 24, .sl true 5 .u8⟩ := rfl
theorem tab23 : tab 23 = some ⟨1, 24, .sl true 28 .fact⟩ := rfl
theorem tab24 : tab 24 = some ⟨1, 24, .sl true 80 .atom⟩ := rfl
theorem tab25 : tab 25 = some ⟨2, 48, .st [.sl .fact, .sl .atom] [(0, 1, false), (1, 1, false)]⟩ := rfl
theorem tab26 : tab 26 = some ⟨2, 48, .st [.sl .fact, .sl .atom] [(0, 1, false), (1, 1, false)]⟩ := rfl
theorem tab27 : tab 27 = some ⟨3, 24, .st [.sc (.bool false), .sc (.int .i64 0), .sc (.int .i64 0)] [(0, 1, false), (1, 1, false), (2, 1, false)]⟩ := rfl
theorem tab28 : tab 28 = some ⟨3, 24, .st [.sc (.bool false), .sc (.int .i64 0), .sc (.int .i64 0)] [(0, 1, false), (1, 1, false), (2, 1, false)]⟩ := rfl
theorem tab39 : tab 39 = some ⟨1, 24, .sl true 42 .ints⟩ := rfl
theorem tab42 : tab 42 = some ⟨1, 24, .sl true 3 .int⟩ := rfl
theorem tab46 : tab 46 = some ⟨2, 48, .st [.sl .int, .sl .int] [(0, 1, false), (1, 1, false)]⟩ := rfl
theorem tab47 : tab 47 = some ⟨2, 48, .st [.sl .int, .sl .int] [(0, 1, false), (1, 1, false)]⟩ := rfl
theorem tab65 : tab 65 = some ⟨1, 24, .sl false 157 .fact⟩ := rfl
theorem tab66 : tab 66 = some ⟨1, 24, .sl false 159 .atom⟩ := rfl
theorem tab67 : tab 67 = some ⟨2, 48, .st [.sl .fact, .sl .atom] [(0, 1, false), (1, 1, false)]⟩ := rfl
theorem tab68 : tab 68 = some ⟨2, 48, .st [.sl .fact, .sl .atom] [(0, 1, false), (1, 1, false)]⟩ := rfl
theorem tab79 : tab 79 = some ⟨3, 24, .st [.sc (.int .i64 0), .sc (.int .i64 0), .sc (.int .i64 0)] [(0, 1, false), (1, 1, false), (2, 1, false)]⟩ := rfl
theorem tab80 : tab 80 = some ⟨3, 24, .st [.sc (.int .i64 0), .sc (.int .i64 0), .sc (.int .i64 0)] [(0, 1, false), (1, 1, false), (2, 1, false)]⟩ := rfl
theorem tab84 : tab 84 = some ⟨1, 2, .sc (.int .u16 0)⟩ := rfl
theorem tab85 : tab 85 = some ⟨1, 2, .sc (.int .u16 0)⟩ := rfl
theorem tab90 : tab 90 = some ⟨9, 72, .ar 9 3 .int⟩ := rfl
theorem tab91 : tab 91 = some ⟨9, 72, .ar 9 3 .int⟩ := rfl
theorem tab94 : tab 94 = some ⟨1, 24, .sl true 4 .bool⟩ := rfl
theorem tab111 : tab 111 = some ⟨1, 2, .sc (.int .u16 0)⟩ := rfl
theorem tab140 : tab 140 = some ⟨2, 32, .st [.sl .u8, .sc (.int .i64 0)] [(0, 1, false), (1, 1, false)]⟩ := rfl
theorem tab141 : tab 141 = some ⟨2, 32, .st [.sl .u8, .sc (.int .i64 0)] [(0, 1, false), (1, 1, false)]⟩ := rfl
theorem tab157 : tab 157 = some ⟨3, 24, .st [.sc (.bool false), .sc (.int .i64 0), .sc (.int .i64 0)] [(0, 1, false), (1, 1, false), (2, 1, false)]⟩ := rfl
theorem tab159 : tab 159 = some ⟨3, 24, .st [.sc (.int .i64 0), .sc (.int .i64 0), .sc (.int .i64 0)] [(0, 1, false), (1, 1, false), (2, 1, false)]⟩ := rfl
theorem tab160 : tab 160 = some ⟨6, 6, .ar 6 4 .bool⟩ := rfl
theorem tab161 : tab 161 = some ⟨8, 40, .st [.sl .atom, .sc (.bool false), .sc (.bool false), .sc (.bool false), .sc (.bool false), .sc (.bool false), .sc (.bool false), .sc (.int .i64 0)] [(0, 1, false), (1, 6, true), (7, 1, false)]⟩ := rfl
theorem tab162 : tab 162 = some ⟨8, 40, .st [.sl .atom, .sc (.bool false), .sc (.bool false), .sc (.bool false), .sc (.bool false), .sc (.bool false), .sc (.bool false), .sc (.int .i64 0)] [(0, 1, false), (1, 6, true), (7, 1, false)]⟩ := rfl
theorem tab182 : tab 182 = some ⟨1, 4, .sc (.int .u32 0)⟩ := rfl
theorem tab194 : tab 194 = some ⟨1, 8, .sc (.int .u64 0)⟩ := rfl
theorem tabOk : TabOk Try.prog E tab := tab_ok (by kernel_rfl)
theorem mix : Try.prog.follows .mixedOrders = true := by kernel_rfl
end Go.Proofs.Ytejcmcbpfnmlaaa

namespace Go.Proofs.Ytejcmcbpfnmlaaa
open Go.SE Go.RowKit
set_option linter.unusedSimpArgs false
set_option linter.unusedVariables false
set_option maxHeartbeats 1000000
set_option maxRecDepth 100000
/-! isTerm -/
abbrev c_isTerm : Con := ⟨[.int], [.bool], fun _ => True, .inl fun (t, _) => (isT t, ()), fun _ => 0⟩
abbrev L_isTerm : List (FuncId × Con) := []
theorem vc_isTerm (t : Int) (k : Nat) : vc tab (lookF L_isTerm) (fun _ => none) (fun _ => []) (bodyOf Try.f66) (entry (encs c_isTerm.aks (t, ())) (rdOf false k)) (retOk tab c_isTerm Try.f66.results.toList (t, ()) k) := by
  dsimp only [bodyOf, Try.f66, rdOf]
  simp (maxSteps := 10000000) only [c_isTerm, L_isTerm, SE.lookF, tab2, tab3, tab4, tab5, tab7, tab9, tab12, tab13, tab21, tab22, tab23, tab24, tab25, tab26, tab27, tab28, tab39, tab42, tab46, tab47, tab65, tab66, tab67, tab68, tab79, tab80, tab84, tab85, tab90, tab91, tab94, tab111, tab140, tab141, tab157, tab159, tab160, tab161, tab162, tab182, tab194, SE.entry, SE.envOf, SE.rdOf, Option.get_some, SE.vc, SE.vcReg, SE.vcLoop, SE.condK, SE.seqK, SE.blockK, SE.vcOps, SE.vcStep, SE.vcOp, SE.vcTr, SE.vcDet_some, SE.vcDet_none, SE.vcIf_true, SE.vcIf_false, SE.vcEach, SE.pickOps, SE.gslot, SE.trOp, SE.moveId, SE.trMove, SE.trPick, SE.trAlloc, SE.trBox, SE.trBuild, SE.trBuildSlice, SE.trLoad, SE.trStore, SE.trNilCheck, SE.trBin, SE.trUn, SE.trConvert, SE.trFieldAddr, SE.trField, SE.trIndexAddr, SE.trIndex, SE.trSlice, SE.trMakeSlice, SE.trExtract, SE.trLen, SE.trAppend, SE.trCopy, SE.trFn, SE.trCall, SE.argsS, SE.ev, SE.constS, SE.junk, SE.sv, SE.upd_app, SE.adds, SE.sets, SE.nid, SE.St.app, SE.St.put, SE.free, SE.freeL, SE.allFree, SE.rids, SE.AK.rids, SE.castL, SE.rdl, SE.AK.dec, SE.decs, SE.AK.enc, SE.encs, SE.AK.res, SE.ress, SE.pack1, SE.zcells, SE.zeroOf, SE.partCells, SE.putc, SE.fills, SE.datas, SE.elemOf, SE.elemsOf, SE.notSpent, SE.cellsAt, SE.weak, SE.dcellsAt, SE.slAt, SE.rdPlus, SE.intAt, SE.updElem, SE.kill, SE.noJunk, SE.inK, SE.binI, SE.shf, SE.isShift, SE.eqCells, SE.aggS, SE.intOp, SE.nested, SE.hasRdr, SE.refsC, SE.refsCs, SE.ownsC, SE.refsAr, SE.rdFits, SE.costIf, SE.Con.post, SE.Con.det, SE.Ty.cells, SE.Ty.sz, SE.Ty.zero, SE.Ty.flat, SE.Ty.dec, SE.retOk, SE.loadsS, SE.loadS, SE.decRs, SE.decR, SE.outC, SE.rdC, SE.allDiff, SE.notIn, SE.notFrozen, SE.apartL, SE.rdEnd, SE.firstReg, SE.headC, SE.fitsC, SE.idsC, SE.keepE, SE.keepM, SE.keepB, SE.inL, SE.puts, SE.ownRes, SE.ownEnv, SE.renL, SE.srcId, SE.lookR, SE.envSame, SE.envSets, SE.memSame, SE.memBlks, SE.memOwns, SE.famsOf, SE.allIn, SE.closedE, SE.closedV, SE.closedM, SE.closedR, SE.rdLe, SE.S.refs, SE.S0.refs, SE.CV.refs, SE.refsL, SE.refsT, SE.S.ren, SE.S0.ren, SE.CV.ren, SE.Res.refs, SE.Res.ren, min_i64, max_i64, min_u16, max_u16, min_u8, max_u8, min_u64, max_u64, S.s.injEq, S0.c.injEq, CV.d.injEq, DC.val.injEq, Value.int.injEq, Value.bool.injEq, Value.string.injEq, eta_fact, eta_atom, eta_asn, eta_state, List.mem_cons, List.mem_nil_iff, or_false, false_or, or_true, true_or, Option.map_some, Option.map_none, Option.bind_some, Option.getD_some, Option.getD_none, Nat.reduceEqDiff, Nat.reduceAdd, Nat.reduceMul, Nat.reduceLeDiff, ↓reduceIte, reduceCtorEq, true_and, and_true, and_self, forall_const, implies_true, true_implies, List.getElem?_toArray, List.getElem?_cons_succ, List.getElem?_cons_zero, List.append_nil, List.nil_append, List.cons_append, List.length_cons, List.length_nil, List.take_succ_cons, List.take_zero, List.drop_succ_cons, List.drop_zero, List.set_cons_zero, List.set_cons_succ, List.map_cons, List.map_nil, Nat.add_zero, Nat.zero_add, forall_eq, Prod.forall, Bool.not_true, Bool.not_false, Nat.lt_irrefl, Nat.zero_lt_succ, List.singleton_append, Prod.mk.injEq, Nat.zero_mul, Nat.one_mul, Nat.reducePow, Option.some.injEq, not_false_eq_true, Int.toNat_natCast, Nat.sub_zero, Nat.le_refl, Bool.or_false, Bool.false_or, Bool.or_true, Bool.true_or, Bool.and_true, Bool.true_and, Bool.and_false, Bool.false_and, Bool.or_self, Bool.and_self, List.append_eq, and_false, false_and]
  cases h : decide (0 ≤ t) <;> simp [vcIf, isT, h]
theorem ok_isTerm : FnOk Try.prog E 66 c_isTerm :=
  fn_ok (l := L_isTerm) (perm := fun _ => []) tabOk mix trivial Try.func66 rfl (by kernel_rfl) (by decide) (by kernel_rfl) (anns := fun x _ => fun _ => none) (fun ⟨t, _⟩ k _ _ => vc_isTerm t k) tot_fn
end Go.Proofs.Ytejcmcbpfnmlaaa

namespace Go.Proofs.Ytejcmcbpfnmlaaa
open Go.SE Go.RowKit
set_option linter.unusedSimpArgs false
set_option linter.unusedVariables false
set_option maxHeartbeats 1000000
set_option maxRecDepth 100000
/-! iFactValid -/
abbrev c_iFactValid : Con := ⟨[.fact], [.bool], fun _ => True, .inl fun (f, _) => (fV f, ()), fun _ => 0⟩
abbrev L_iFactValid : List (FuncId × Con) := [(66, c_isTerm)]
theorem vc_iFactValid (f : GFact) (k : Nat) : vc tab (lookF L_iFactValid) (fun _ => none) (fun _ => []) (bodyOf Try.f20) (entry (encs c_iFactValid.aks (f, ())) (rdOf false k)) (retOk tab c_iFactValid Try.f20.results.toList (f, ()) k) := by
  dsimp only [bodyOf, Try.f20, rdOf]
  simp (maxSteps := 10000000) only [c_iFactValid, L_iFactValid, SE.lookF, c_isTerm, tab2, tab3, tab4, tab5, tab7, tab9, tab12, tab13, tab21, tab22, tab23, tab24, tab25, tab26, tab27, tab28, tab39, tab42, tab46, tab47, tab65, tab66, tab67, tab68, tab79, tab80, tab84, tab85, tab90, tab91, tab94, tab111, tab140, tab141, tab157, tab159, tab160, tab161, tab162, tab182, tab194, SE.entry, SE.envOf, SE.rdOf, Option.get_some, SE.vc, SE.vcReg, SE.vcLoop, SE.condK, SE.seqK, SE.blockK, SE.vcOps, SE.vcStep, SE.vcOp, SE.vcTr, SE.vcDet_some, SE.vcDet_none, SE.vcIf_true, SE.vcIf_false, SE.vcEach, SE.pickOps, SE.gslot, SE.trOp, SE.moveId, SE.trMove, SE.trPick, SE.trAlloc, SE.trBox, SE.trBuild, SE.trBuildSlice, SE.trLoad, SE.trStore, SE.trNilCheck, SE.trBin, SE.trUn, SE.trConvert, SE.trFieldAddr, SE.trField, SE.trIndexAddr, SE.trIndex, SE.trSlice, SE.trMakeSlice, SE.trExtract, SE.trLen, SE.trAppend, SE.trCopy, SE.trFn, SE.trCall, SE.argsS, SE.ev, SE.constS, SE.junk, SE.sv, SE.upd_app, SE.adds, SE.sets, SE.nid, SE.St.app, SE.St.put, SE.free, SE.freeL, SE.allFree, SE.rids, SE.AK.rids, SE.castL, SE.rdl, SE.AK.dec, SE.decs, SE.AK.enc, SE.encs, SE.AK.res, SE.ress, SE.pack1, SE.zcells, SE.zeroOf, SE.partCells, SE.putc, SE.fills, SE.datas, SE.elemOf, SE.elemsOf, SE.notSpent, SE.cellsAt, SE.weak, SE.dcellsAt, SE.slAt, SE.rdPlus, SE.intAt, SE.updElem, SE.kill, SE.noJunk, SE.inK, SE.binI, SE.shf, SE.isShift, SE.eqCells, SE.aggS, SE.intOp, SE.nested, SE.hasRdr, SE.refsC, SE.refsCs, SE.ownsC, SE.refsAr, SE.rdFits, SE.costIf, SE.Con.post, SE.Con.det, SE.Ty.cells, SE.Ty.sz, SE.Ty.zero, SE.Ty.flat, SE.Ty.dec, SE.retOk, SE.loadsS, SE.loadS, SE.decRs, SE.decR, SE.outC, SE.rdC, SE.allDiff, SE.notIn, SE.notFrozen, SE.apartL, SE.rdEnd, SE.firstReg, SE.headC, SE.fitsC, SE.idsC, SE.keepE, SE.keepM, SE.keepB, SE.inL, SE.puts, SE.ownRes, SE.ownEnv, SE.renL, SE.srcId, SE.lookR, SE.envSame, SE.envSets, SE.memSame, SE.memBlks, SE.memOwns, SE.famsOf, SE.allIn, SE.closedE, SE.closedV, SE.closedM, SE.closedR, SE.rdLe, SE.S.refs, SE.S0.refs, SE.CV.refs, SE.refsL, SE.refsT, SE.S.ren, SE.S0.ren, SE.CV.ren, SE.Res.refs, SE.Res.ren, min_i64, max_i64, min_u16, max_u16, min_u8, max_u8, min_u64, max_u64, S.s.injEq, S0.c.injEq, CV.d.injEq, DC.val.injEq, Value.int.injEq, Value.bool.injEq, Value.string.injEq, eta_fact, eta_atom, eta_asn, eta_state, List.mem_cons, List.mem_nil_iff, or_false, false_or, or_true, true_or, Option.map_some, Option.map_none, Option.bind_some, Option.getD_some, Option.getD_none, Nat.reduceEqDiff, Nat.reduceAdd, Nat.reduceMul, Nat.reduceLeDiff, ↓reduceIte, reduceCtorEq, true_and, and_true, and_self, forall_const, implies_true, true_implies, List.getElem?_toArray, List.getElem?_cons_succ, List.getElem?_cons_zero, List.append_nil, List.nil_append, List.cons_append, List.length_cons, List.length_nil, List.take_succ_cons, List.take_zero, List.drop_succ_cons, List.drop_zero, List.set_cons_zero, List.set_cons_succ, List.map_cons, List.map_nil, Nat.add_zero, Nat.zero_add, forall_eq, Prod.forall, Bool.not_true, Bool.not_false, Nat.lt_irrefl, Nat.zero_lt_succ, List.singleton_append, Prod.mk.injEq, Nat.zero_mul, Nat.one_mul, Nat.reducePow, Option.some.injEq, not_false_eq_true, Int.toNat_natCast, Nat.sub_zero, Nat.le_refl, Bool.or_false, Bool.false_or, Bool.or_true, Bool.true_or, Bool.and_true, Bool.true_and, Bool.and_false, Bool.false_and, Bool.or_self, Bool.and_self, List.append_eq, and_false, false_and]
  cases h : isT f.a <;> simp [vcIf, fV, h]
theorem ok_iFactValid : FnOk Try.prog E 20 c_iFactValid :=
  fn_ok (l := L_iFactValid) (perm := fun _ => []) tabOk mix ⟨ok_isTerm, trivial⟩ Try.func20 rfl (by kernel_rfl) (by decide) (by kernel_rfl) (anns := fun x _ => fun _ => none) (fun ⟨f, _⟩ k _ _ => vc_iFactValid f k) tot_fn
end Go.Proofs.Ytejcmcbpfnmlaaa

namespace Go.Proofs.Ytejcmcbpfnmlaaa
open Go.SE Go.RowKit
set_option linter.unusedSimpArgs false
set_option linter.unusedVariables false
set_option maxHeartbeats 1000000
set_option maxRecDepth 100000
/-! iFactsValid -/
abbrev c_iFactsValid : Con := ⟨[.sl .fact], [.bool], fun (l, _) => l.length ≤ 281474976710656, .inl fun (l, _) => (fsV l, ()), fun _ => 0⟩
abbrev L_iFactsValid : List (FuncId × Con) := [(20, c_iFactValid)]
def an_iFactsValid (l : List GFact) : Nat → Option Ann
  | 4 => some { α := Nat, ok := fun i => i ≤ l.length ∧ l.length ≤ 12 ∧ (l.take i).all fV = true, mu := fun i => l.length - i, i0 := fun _ => 0, nx := fun a _ => (fun i => i + 1) a, live := [8, 9], sets := fun i => [(10, sv (.int .i64 i))], mids := [], blks := fun i => [], owns := fun i => [], rd := fun r _ => r, base := 100000 }
  | _ => none
theorem vc_iFactsValid (l : List GFact) (k : Nat) (hp : l.length ≤ 281474976710656) : vc tab (lookF L_iFactsValid) (an_iFactsValid l) (fun _ => []) (bodyOf Try.f64) (entry (encs c_iFactsValid.aks (l, ())) (rdOf false k)) (retOk tab c_iFactsValid Try.f64.results.toList (l, ()) k) := by
  dsimp only [bodyOf, Try.f64, rdOf]
  simp (maxSteps := 10000000) only [c_iFactsValid, L_iFactsValid, an_iFactsValid, SE.lookF, c_iFactValid, tab2, tab3, tab4, tab5, tab7, tab9, tab12, tab13, tab21, tab22, tab23, tab24, tab25, tab26, tab27, tab28, tab39, tab42, tab46, tab47, tab65, tab66, tab67, tab68, tab79, tab80, tab84, tab85, tab90, tab91, tab94, tab111, tab140, tab141, tab157, tab159, tab160, tab161, tab162, tab182, tab194, SE.entry, SE.envOf, SE.rdOf, Option.get_some, SE.vc, SE.vcReg, SE.vcLoop, SE.condK, SE.seqK, SE.blockK, SE.vcOps, SE.vcStep, SE.vcOp, SE.vcTr, SE.vcDet_some, SE.vcDet_none, SE.vcIf_true, SE.vcIf_false, SE.vcEach, SE.pickOps, SE.gslot, SE.trOp, SE.moveId, SE.trMove, SE.trPick, SE.trAlloc, SE.trBox, SE.trBuild, SE.trBuildSlice, SE.trLoad, SE.trStore, SE.trNilCheck, SE.trBin, SE.trUn, SE.trConvert, SE.trFieldAddr, SE.trField, SE.trIndexAddr, SE.trIndex, SE.trSlice, SE.trMakeSlice, SE.trExtract, SE.trLen, SE.trAppend, SE.trCopy, SE.trFn, SE.trCall, SE.argsS, SE.ev, SE.constS, SE.junk, SE.sv, SE.upd_app, SE.adds, SE.sets, SE.nid, SE.St.app, SE.St.put, SE.free, SE.freeL, SE.allFree, SE.rids, SE.AK.rids, SE.castL, SE.rdl, SE.AK.dec, SE.decs, SE.AK.enc, SE.encs, SE.AK.res, SE.ress, SE.pack1, SE.zcells, SE.zeroOf, SE.partCells, SE.putc, SE.fills, SE.datas, SE.elemOf, SE.elemsOf, SE.notSpent, SE.cellsAt, SE.weak, SE.dcellsAt, SE.slAt, SE.rdPlus, SE.intAt, SE.updElem, SE.kill, SE.noJunk, SE.inK, SE.binI, SE.shf, SE.isShift, SE.eqCells, SE.aggS, SE.intOp, SE.nested, SE.hasRdr, SE.refsC, SE.refsCs, SE.ownsC, SE.refsAr, SE.rdFits, SE.costIf, SE.Con.post, SE.Con.det, SE.Ty.cells, SE.Ty.sz, SE.Ty.zero, SE.Ty.flat, SE.Ty.dec, SE.retOk, SE.loadsS, SE.loadS, SE.decRs, SE.decR, SE.outC, SE.rdC, SE.allDiff, SE.notIn, SE.notFrozen, SE.apartL, SE.rdEnd, SE.firstReg, SE.headC, SE.fitsC, SE.idsC, SE.keepE, SE.keepM, SE.keepB, SE.inL, SE.puts, SE.ownRes, SE.ownEnv, SE.renL, SE.srcId, SE.lookR, SE.envSame, SE.envSets, SE.memSame, SE.memBlks, SE.memOwns, SE.famsOf, SE.allIn, SE.closedE, SE.closedV, SE.closedM, SE.closedR, SE.rdLe, SE.S.refs, SE.S0.refs, SE.CV.refs, SE.refsL, SE.refsT, SE.S.ren, SE.S0.ren, SE.CV.ren, SE.Res.refs, SE.Res.ren, min_i64, max_i64, min_u16, max_u16, min_u8, max_u8, min_u64, max_u64, S.s.injEq, S0.c.injEq, CV.d.injEq, DC.val.injEq, Value.int.injEq, Value.bool.injEq, Value.string.injEq, eta_fact, eta_atom, eta_asn, eta_state, List.mem_cons, List.mem_nil_iff, or_false, false_or, or_true, true_or, Option.map_some, Option.map_none, Option.bind_some, Option.getD_some, Option.getD_none, Nat.reduceEqDiff, Nat.reduceAdd, Nat.reduceMul, Nat.reduceLeDiff, ↓reduceIte, reduceCtorEq, true_and, and_true, and_self, forall_const, implies_true, true_implies, List.getElem?_toArray, List.getElem?_cons_succ, List.getElem?_cons_zero, List.append_nil, List.nil_append, List.cons_append, List.length_cons, List.length_nil, List.take_succ_cons, List.take_zero, List.drop_succ_cons, List.drop_zero, List.set_cons_zero, List.set_cons_succ, List.map_cons, List.map_nil, Nat.add_zero, Nat.zero_add, forall_eq, Prod.forall, Bool.not_true, Bool.not_false, Nat.lt_irrefl, Nat.zero_lt_succ, List.singleton_append, Prod.mk.injEq, Nat.zero_mul, Nat.one_mul, Nat.reducePow, Option.some.injEq, not_false_eq_true, Int.toNat_natCast, Nat.sub_zero, Nat.le_refl, Bool.or_false, Bool.false_or, Bool.or_true, Bool.true_or, Bool.and_true, Bool.true_and, Bool.and_false, Bool.false_and, Bool.or_self, Bool.and_self, List.append_eq, and_false, false_and]
  all_goals (try simp only [vcIf_iff, decide_eq_true_eq, decide_eq_false_iff_not, bne_iff_ne, ne_eq, beq_iff_eq, beq_eq_false_iff_ne, bne_eq_false_iff_eq, Bool.not_eq_true', Bool.not_eq_false', Int.ofNat_lt, Int.natCast_inj])
  all_goals (repeat' (first | apply And.intro | intro _))
  all_goals (first | omega | (simp_all; done) | grind [fsV, take_all, all_take, take_full, Ty.zero])
theorem ok_iFactsValid : FnOk Try.prog E 64 c_iFactsValid :=
  fn_ok (l := L_iFactsValid) (perm := fun _ => []) tabOk mix ⟨ok_iFactValid, trivial⟩ Try.func64 rfl (by kernel_rfl) (by decide) (by kernel_rfl) (anns := fun x _ => an_iFactsValid x.1) (fun ⟨l, _⟩ k hp _ => vc_iFactsValid l k hp) tot_fn
end Go.Proofs.Ytejcmcbpfnmlaaa

namespace Go.Proofs.Ytejcmcbpfnmlaaa
open Go.SE Go.RowKit
set_option linter.unusedSimpArgs false
set_option linter.unusedVariables false
set_option maxHeartbeats 1000000
set_option maxRecDepth 100000
/-! iAtomValid -/
abbrev c_iAtomValid : Con := ⟨[.atom], [.bool], fun _ => True, .inl fun (x, _) => (atV x, ()), fun _ => 0⟩
abbrev L_iAtomValid : List (FuncId × Con) := [(66, c_isTerm)]
theorem vc_iAtomValid (x : GAtom) (k : Nat) : vc tab (lookF L_iAtomValid) (fun _ => none) (fun _ => []) (bodyOf Try.f65) (entry (encs c_iAtomValid.aks (x, ())) (rdOf false k)) (retOk tab c_iAtomValid Try.f65.results.toList (x, ()) k) := by
  dsimp only [bodyOf, Try.f65, rdOf]
  simp (maxSteps := 10000000) only [c_iAtomValid, L_iAtomValid, SE.lookF, c_isTerm, tab2, tab3, tab4, tab5, tab7, tab9, tab12, tab13, tab21, tab22, tab23, tab24, tab25, tab26, tab27, tab28, tab39, tab42, tab46, tab47, tab65, tab66, tab67, tab68, tab79, tab80, tab84, tab85, tab90, tab91, tab94, tab111, tab140, tab141, tab157, tab159, tab160, tab161, tab162, tab182, tab194, SE.entry, SE.envOf, SE.rdOf, Option.get_some, SE.vc, SE.vcReg, SE.vcLoop, SE.condK, SE.seqK, SE.blockK, SE.vcOps, SE.vcStep, SE.vcOp, SE.vcTr, SE.vcDet_some, SE.vcDet_none, SE.vcIf_true, SE.vcIf_false, SE.vcEach, SE.pickOps, SE.gslot, SE.trOp, SE.moveId, SE.trMove, SE.trPick, SE.trAlloc, SE.trBox, SE.trBuild, SE.trBuildSlice, SE.trLoad, SE.trStore, SE.trNilCheck, SE.trBin, SE.trUn, SE.trConvert, SE.trFieldAddr, SE.trField, SE.trIndexAddr, SE.trIndex, SE.trSlice, SE.trMakeSlice, SE.trExtract, SE.trLen, SE.trAppend, SE.trCopy, SE.trFn, SE.trCall, SE.argsS, SE.ev, SE.constS, SE.junk, SE.sv, SE.upd_app, SE.adds, SE.sets, SE.nid, SE.St.app, SE.St.put, SE.free, SE.freeL, SE.allFree, SE.rids, SE.AK.rids, SE.castL, SE.rdl, SE.AK.dec, SE.decs, SE.AK.enc, SE.encs, SE.AK.res, SE.ress, SE.pack1, SE.zcells, SE.zeroOf, SE.partCells, SE.putc, SE.fills, SE.datas, SE.elemOf, SE.elemsOf, SE.notSpent, SE.cellsAt, SE.weak, SE.dcellsAt, SE.slAt, SE.rdPlus, SE.intAt, SE.updElem, SE.kill, SE.noJunk, SE.inK, SE.binI, SE.shf, SE.isShift, SE.eqCells, SE.aggS, SE.intOp, SE.nested, SE.hasRdr, SE.refsC, SE.refsCs, SE.ownsC, SE.refsAr, SE.rdFits, SE.costIf, SE.Con.post, SE.Con.det, SE.Ty.cells, SE.Ty.sz, SE.Ty.zero, SE.Ty.flat, SE.Ty.dec, SE.retOk, SE.loadsS, SE.loadS, SE.decRs, SE.decR, SE.outC, SE.rdC, SE.allDiff, SE.notIn, SE.notFrozen, SE.apartL, SE.rdEnd, SE.firstReg, SE.headC, SE.fitsC, SE.idsC, SE.keepE, SE.keepM, SE.keepB, SE.inL, SE.puts, SE.ownRes, SE.ownEnv, SE.renL, SE.srcId, SE.lookR, SE.envSame, SE.envSets, SE.memSame, SE.memBlks, SE.memOwns, SE.famsOf, SE.allIn, SE.closedE, SE.closedV, SE.closedM, SE.closedR, SE.rdLe, SE.S.refs, SE.S0.refs, SE.CV.refs, SE.refsL, SE.refsT, SE.S.ren, SE.S0.ren, SE.CV.ren, SE.Res.refs, SE.Res.ren, min_i64, max_i64, min_u16, max_u16, min_u8, max_u8, min_u64, max_u64, S.s.injEq, S0.c.injEq, CV.d.injEq, DC.val.injEq, Value.int.injEq, Value.bool.injEq, Value.string.injEq, eta_fact, eta_atom, eta_asn, eta_state, List.mem_cons, List.mem_nil_iff, or_false, false_or, or_true, true_or, Option.map_some, Option.map_none, Option.bind_some, Option.getD_some, Option.getD_none, Nat.reduceEqDiff, Nat.reduceAdd, Nat.reduceMul, Nat.reduceLeDiff, ↓reduceIte, reduceCtorEq, true_and, and_true, and_self, forall_const, implies_true, true_implies, List.getElem?_toArray, List.getElem?_cons_succ, List.getElem?_cons_zero, List.append_nil, List.nil_append, List.cons_append, List.length_cons, List.length_nil, List.take_succ_cons, List.take_zero, List.drop_succ_cons, List.drop_zero, List.set_cons_zero, List.set_cons_succ, List.map_cons, List.map_nil, Nat.add_zero, Nat.zero_add, forall_eq, Prod.forall, Bool.not_true, Bool.not_false, Nat.lt_irrefl, Nat.zero_lt_succ, List.singleton_append, Prod.mk.injEq, Nat.zero_mul, Nat.one_mul, Nat.reducePow, Option.some.injEq, not_false_eq_true, Int.toNat_natCast, Nat.sub_zero, Nat.le_refl, Bool.or_false, Bool.false_or, Bool.or_true, Bool.true_or, Bool.and_true, Bool.true_and, Bool.and_false, Bool.false_and, Bool.or_self, Bool.and_self, List.append_eq, and_false, false_and]
  all_goals (try simp only [vcIf_iff, decide_eq_true_eq, decide_eq_false_iff_not, bne_iff_ne, ne_eq, beq_iff_eq, beq_eq_false_iff_ne, bne_eq_false_iff_eq, Bool.not_eq_true', Bool.not_eq_false', Int.ofNat_lt, Int.natCast_inj])
  all_goals (repeat' (first | apply And.intro | intro _))
  all_goals (first | omega | (simp_all; done) | grind [atV])
theorem ok_iAtomValid : FnOk Try.prog E 65 c_iAtomValid :=
  fn_ok (l := L_iAtomValid) (perm := fun _ => []) tabOk mix ⟨ok_isTerm, trivial⟩ Try.func65 rfl (by kernel_rfl) (by decide) (by kernel_rfl) (anns := fun x _ => fun _ => none) (fun ⟨x, _⟩ k _ _ => vc_iAtomValid x k) tot_fn
end Go.Proofs.Ytejcmcbpfnmlaaa

namespace Go.Proofs.Ytejcmcbpfnmlaaa
open Go.SE Go.RowKit
set_option linter.unusedSimpArgs false
set_option linter.unusedVariables false
set_option maxHeartbeats 1000000
set_option maxRecDepth 100000
/-! iAssertionValid -/
abbrev c_iAssertionValid : Con := ⟨[.asn], [.bool], fun (a, _) => a.facts.length ≤ 281474976710656 ∧ a.atoms.length ≤ 281474976710656, .inl fun (a, _) => (asV a, ()), fun _ => 0⟩
abbrev L_iAssertionValid : List (FuncId × Con) := [(64, c_iFactsValid), (65, c_iAtomValid)]
def an_iAssertionValid (a : GAsn) : Nat → Option Ann
  | 4 => some { α := Nat, ok := fun i => i ≤ a.atoms.length ∧ a.atoms.length ≤ 6 ∧ fsV a.facts = true ∧ (a.atoms.take i).all atV = true, mu := fun i => a.atoms.length - i, i0 := fun _ => 0, nx := fun a _ => (fun i => i + 1) a, live := [16, 17], sets := fun i => [(18, sv (.int .i64 i))], mids := [], blks := fun i => [], owns := fun i => [], rd := fun r _ => r, base := 100000 }
  | _ => none
theorem vc_iAssertionValid (a : GAsn) (k : Nat) (hp : a.facts.length ≤ 281474976710656 ∧ a.atoms.length ≤ 281474976710656) : vc tab (lookF L_iAssertionValid) (an_iAssertionValid a) (fun _ => []) (bodyOf Try.f19) (entry (encs c_iAssertionValid.aks (a, ())) (rdOf false k)) (retOk tab c_iAssertionValid Try.f19.results.toList (a, ()) k) := by
  dsimp only [bodyOf, Try.f19, rdOf]
  simp (maxSteps := 10000000) only [c_iAssertionValid, L_iAssertionValid, an_iAssertionValid, SE.lookF, c_iFactsValid, c_iAtomValid, tab2, tab3, tab4, tab5, tab7, tab9, tab12, tab13, tab21, tab22, tab23, tab24, tab25, tab26, tab27, tab28, tab39, tab42, tab46, tab47, tab65, tab66, tab67, tab68, tab79, tab80, tab84, tab85, tab90, tab91, tab94, tab111, tab140, tab141, tab157, tab159, tab160, tab161, tab162, tab182, tab194, SE.entry, SE.envOf, SE.rdOf, Option.get_some, SE.vc, SE.vcReg, SE.vcLoop, SE.condK, SE.seqK, SE.blockK, SE.vcOps, SE.vcStep, SE.vcOp, SE.vcTr, SE.vcDet_some, SE.vcDet_none, SE.vcIf_true, SE.vcIf_false, SE.vcEach, SE.pickOps, SE.gslot, SE.trOp, SE.moveId, SE.trMove, SE.trPick, SE.trAlloc, SE.trBox, SE.trBuild, SE.trBuildSlice, SE.trLoad, SE.trStore, SE.trNilCheck, SE.trBin, SE.trUn, SE.trConvert, SE.trFieldAddr, SE.trField, SE.trIndexAddr, SE.trIndex, SE.trSlice, SE.trMakeSlice, SE.trExtract, SE.trLen, SE.trAppend, SE.trCopy, SE.trFn, SE.trCall, SE.argsS, SE.ev, SE.constS, SE.junk, SE.sv, SE.upd_app, SE.adds, SE.sets, SE.nid, SE.St.app, SE.St.put, SE.free, SE.freeL, SE.allFree, SE.rids, SE.AK.rids, SE.castL, SE.rdl, SE.AK.dec, SE.decs, SE.AK.enc, SE.encs, SE.AK.res, SE.ress, SE.pack1, SE.zcells, SE.zeroOf, SE.partCells, SE.putc, SE.fills, SE.datas, SE.elemOf, SE.elemsOf, SE.notSpent, SE.cellsAt, SE.weak, SE.dcellsAt, SE.slAt, SE.rdPlus, SE.intAt, SE.updElem, SE.kill, SE.noJunk, SE.inK, SE.binI, SE.shf, SE.isShift, SE.eqCells, SE.aggS, SE.intOp, SE.nested, SE.hasRdr, SE.refsC, SE.refsCs, SE.ownsC, SE.refsAr, SE.rdFits, SE.costIf, SE.Con.post, SE.Con.det, SE.Ty.cells, SE.Ty.sz, SE.Ty.zero, SE.Ty.flat, SE.Ty.dec, SE.retOk, SE.loadsS, SE.loadS, SE.decRs, SE.decR, SE.outC, SE.rdC, SE.allDiff, SE.notIn, SE.notFrozen, SE.apartL, SE.rdEnd, SE.firstReg, SE.headC, SE.fitsC, SE.idsC, SE.keepE, SE.keepM, SE.keepB, SE.inL, SE.puts, SE.ownRes, SE.ownEnv, SE.renL, SE.srcId, SE.lookR, SE.envSame, SE.envSets, SE.memSame, SE.memBlks, SE.memOwns, SE.famsOf, SE.allIn, SE.closedE, SE.closedV, SE.closedM, SE.closedR, SE.rdLe, SE.S.refs, SE.S0.refs, SE.CV.refs, SE.refsL, SE.refsT, SE.S.ren, SE.S0.ren, SE.CV.ren, SE.Res.refs, SE.Res.ren, min_i64, max_i64, min_u16, max_u16, min_u8, max_u8, min_u64, max_u64, S.s.injEq, S0.c.injEq, CV.d.injEq, DC.val.injEq, Value.int.injEq, Value.bool.injEq, Value.string.injEq, eta_fact, eta_atom, eta_asn, eta_state, List.mem_cons, List.mem_nil_iff, or_false, false_or, or_true, true_or, Option.map_some, Option.map_none, Option.bind_some, Option.getD_some, Option.getD_none, Nat.reduceEqDiff, Nat.reduceAdd, Nat.reduceMul, Nat.reduceLeDiff, ↓reduceIte, reduceCtorEq, true_and, and_true, and_self, forall_const, implies_true, true_implies, List.getElem?_toArray, List.getElem?_cons_succ, List.getElem?_cons_zero, List.append_nil, List.nil_append, List.cons_append, List.length_cons, List.length_nil, List.take_succ_cons, List.take_zero, List.drop_succ_cons, List.drop_zero, List.set_cons_zero, List.set_cons_succ, List.map_cons, List.map_nil, Nat.add_zero, Nat.zero_add, forall_eq, Prod.forall, Bool.not_true, Bool.not_false, Nat.lt_irrefl, Nat.zero_lt_succ, List.singleton_append, Prod.mk.injEq, Nat.zero_mul, Nat.one_mul, Nat.reducePow, Option.some.injEq, not_false_eq_true, Int.toNat_natCast, Nat.sub_zero, Nat.le_refl, Bool.or_false, Bool.false_or, Bool.or_true, Bool.true_or, Bool.and_true, Bool.true_and, Bool.and_false, Bool.false_and, Bool.or_self, Bool.and_self, List.append_eq, and_false, false_and]
  all_goals (try simp only [vcIf_iff, decide_eq_true_eq, decide_eq_false_iff_not, bne_iff_ne, ne_eq, beq_iff_eq, beq_eq_false_iff_ne, bne_eq_false_iff_eq, Bool.not_eq_true', Bool.not_eq_false', Int.ofNat_lt, Int.natCast_inj])
  all_goals (repeat' (first | apply And.intro | intro _))
  all_goals (first | omega | (simp_all; done) | grind [asV, take_all, all_take, take_full, Ty.zero])
theorem ok_iAssertionValid : FnOk Try.prog E 19 c_iAssertionValid :=
  fn_ok (l := L_iAssertionValid) (perm := fun _ => []) tabOk mix ⟨ok_iFactsValid, ok_iAtomValid, trivial⟩ Try.func19 rfl (by kernel_rfl) (by decide) (by kernel_rfl) (anns := fun x _ => an_iAssertionValid x.1) (fun ⟨a, _⟩ k hp _ => vc_iAssertionValid a k hp) tot_fn
end Go.Proofs.Ytejcmcbpfnmlaaa

namespace Go.Proofs.Ytejcmcbpfnmlaaa
open Go.SE Go.RowKit
set_option linter.unusedSimpArgs false
set_option linter.unusedVariables false
set_option maxHeartbeats 1000000
set_option maxRecDepth 100000
/-! tsWith -/
abbrev c_tsWith : Con := ⟨[.u16, .int], [.u16], fun (s, t, _) => 0 ≤ s ∧ s < 512, .inl fun (s, t, _) => (tsWith s t, ()), fun _ => 0⟩
abbrev L_tsWith : List (FuncId × Con) := [(66, c_isTerm)]
theorem vc_tsWith (s : Int) (t : Int) (k : Nat) (hp : 0 ≤ s ∧ s < 512) : vc tab (lookF L_tsWith) (fun _ => none) (fun _ => []) (bodyOf Try.f68) (entry (encs c_tsWith.aks (s, t, ())) (rdOf false k)) (retOk tab c_tsWith Try.f68.results.toList (s, t, ()) k) := by
  dsimp only [bodyOf, Try.f68, rdOf]
  simp (maxSteps := 10000000) only [c_tsWith, L_tsWith, SE.lookF, c_isTerm, tab2, tab3, tab4, tab5, tab7, tab9, tab12, tab13, tab21, tab22, tab23, tab24, tab25, tab26, tab27, tab28, tab39, tab42, tab46, tab47, tab65, tab66, tab67, tab68, tab79, tab80, tab84, tab85, tab90, tab91, tab94, tab111, tab140, tab141, tab157, tab159, tab160, tab161, tab162, tab182, tab194, SE.entry, SE.envOf, SE.rdOf, Option.get_some, SE.vc, SE.vcReg, SE.vcLoop, SE.condK, SE.seqK, SE.blockK, SE.vcOps, SE.vcStep, SE.vcOp, SE.vcTr, SE.vcDet_some, SE.vcDet_none, SE.vcIf_true, SE.vcIf_false, SE.vcEach, SE.pickOps, SE.gslot, SE.trOp, SE.moveId, SE.trMove, SE.trPick, SE.trAlloc, SE.trBox, SE.trBuild, SE.trBuildSlice, SE.trLoad, SE.trStore, SE.trNilCheck, SE.trBin, SE.trUn, SE.trConvert, SE.trFieldAddr, SE.trField, SE.trIndexAddr, SE.trIndex, SE.trSlice, SE.trMakeSlice, SE.trExtract, SE.trLen, SE.trAppend, SE.trCopy, SE.trFn, SE.trCall, SE.argsS, SE.ev, SE.constS, SE.junk, SE.sv, SE.upd_app, SE.adds, SE.sets, SE.nid, SE.St.app, SE.St.put, SE.free, SE.freeL, SE.allFree, SE.rids, SE.AK.rids, SE.castL, SE.rdl, SE.AK.dec, SE.decs, SE.AK.enc, SE.encs, SE.AK.res, SE.ress, SE.pack1, SE.zcells, SE.zeroOf, SE.partCells, SE.putc, SE.fills, SE.datas, SE.elemOf, SE.elemsOf, SE.notSpent, SE.cellsAt, SE.weak, SE.dcellsAt, SE.slAt, SE.rdPlus, SE.intAt, SE.updElem, SE.kill, SE.noJunk, SE.inK, SE.binI, SE.shf, SE.isShift, SE.eqCells, SE.aggS, SE.intOp, SE.nested, SE.hasRdr, SE.refsC, SE.refsCs, SE.ownsC, SE.refsAr, SE.rdFits, SE.costIf, SE.Con.post, SE.Con.det, SE.Ty.cells, SE.Ty.sz, SE.Ty.zero, SE.Ty.flat, SE.Ty.dec, SE.retOk, SE.loadsS, SE.loadS, SE.decRs, SE.decR, SE.outC, SE.rdC, SE.allDiff, SE.notIn, SE.notFrozen, SE.apartL, SE.rdEnd, SE.firstReg, SE.headC, SE.fitsC, SE.idsC, SE.keepE, SE.keepM, SE.keepB, SE.inL, SE.puts, SE.ownRes, SE.ownEnv, SE.renL, SE.srcId, SE.lookR, SE.envSame, SE.envSets, SE.memSame, SE.memBlks, SE.memOwns, SE.famsOf, SE.allIn, SE.closedE, SE.closedV, SE.closedM, SE.closedR, SE.rdLe, SE.S.refs, SE.S0.refs, SE.CV.refs, SE.refsL, SE.refsT, SE.S.ren, SE.S0.ren, SE.CV.ren, SE.Res.refs, SE.Res.ren, min_i64, max_i64, min_u16, max_u16, min_u8, max_u8, min_u64, max_u64, S.s.injEq, S0.c.injEq, CV.d.injEq, DC.val.injEq, Value.int.injEq, Value.bool.injEq, Value.string.injEq, eta_fact, eta_atom, eta_asn, eta_state, List.mem_cons, List.mem_nil_iff, or_false, false_or, or_true, true_or, Option.map_some, Option.map_none, Option.bind_some, Option.getD_some, Option.getD_none, Nat.reduceEqDiff, Nat.reduceAdd, Nat.reduceMul, Nat.reduceLeDiff, ↓reduceIte, reduceCtorEq, true_and, and_true, and_self, forall_const, implies_true, true_implies, List.getElem?_toArray, List.getElem?_cons_succ, List.getElem?_cons_zero, List.append_nil, List.nil_append, List.cons_append, List.length_cons, List.length_nil, List.take_succ_cons, List.take_zero, List.drop_succ_cons, List.drop_zero, List.set_cons_zero, List.set_cons_succ, List.map_cons, List.map_nil, Nat.add_zero, Nat.zero_add, forall_eq, Prod.forall, Bool.not_true, Bool.not_false, Nat.lt_irrefl, Nat.zero_lt_succ, List.singleton_append, Prod.mk.injEq, Nat.zero_mul, Nat.one_mul, Nat.reducePow, Option.some.injEq, not_false_eq_true, Int.toNat_natCast, Nat.sub_zero, Nat.le_refl, Bool.or_false, Bool.false_or, Bool.or_true, Bool.true_or, Bool.and_true, Bool.true_and, Bool.and_false, Bool.false_and, Bool.or_self, Bool.and_self, List.append_eq, and_false, false_and]
  simp only [vcIf_iff]
  exact ⟨fun h => (tsWith_no (by simpa using h)).symm, fun h => ⟨(isT_iff.1 (by simpa using h)).1, tsWith_eq hp.1 hp.2 (by simpa using h)⟩⟩
theorem ok_tsWith : FnOk Try.prog E 68 c_tsWith :=
  fn_ok (l := L_tsWith) (perm := fun _ => []) tabOk mix ⟨ok_isTerm, trivial⟩ Try.func68 rfl (by kernel_rfl) (by decide) (by kernel_rfl) (anns := fun x _ => fun _ => none) (fun ⟨s, t, _⟩ k hp _ => vc_tsWith s t k hp) tot_fn
end Go.Proofs.Ytejcmcbpfnmlaaa

namespace Go.Proofs.Ytejcmcbpfnmlaaa
open Go.SE Go.RowKit
set_option linter.unusedSimpArgs false
set_option linter.unusedVariables false
set_option maxHeartbeats 1000000
set_option maxRecDepth 100000
/-! termsIn -/
abbrev c_termsIn : Con := ⟨[.asn], [.u16], fun (a, _) => a.facts.length ≤ 281474976710656 ∧ a.atoms.length ≤ 281474976710656, .inl fun (a, _) => (tsA a, ()), fun _ => 0⟩
abbrev L_termsIn : List (FuncId × Con) := [(68, c_tsWith)]
def an_termsIn (a : GAsn) : Nat → Option Ann
  | 3 => some { α := Nat, ok := fun i => i ≤ a.facts.length, mu := fun i => a.facts.length - i, i0 := fun _ => 0, nx := fun a _ => (fun i => i + 1) a, live := [1, 9, 10], sets := fun i => [(11, sv (.int .i64 i)), (3, sv (.int .u16 (tsF (a.facts.take i))))], mids := [31], blks := fun i => [], owns := fun i => [], rd := fun r _ => r, base := 100000 }
  | 8 => some { α := Nat, ok := fun i => i ≤ a.atoms.length, mu := fun i => a.atoms.length - i, i0 := fun _ => 0, nx := fun a _ => (fun i => i + 1) a, live := [24, 25], sets := fun i => [(26, sv (.int .i64 i)), (3, sv (.int .u16 (tsG (tsF a.facts) (a.atoms.take i))))], mids := [], blks := fun i => [], owns := fun i => [], rd := fun r _ => r, base := 200000 }
  | _ => none
theorem vc_termsIn (a : GAsn) (k : Nat) (hp : a.facts.length ≤ 281474976710656 ∧ a.atoms.length ≤ 281474976710656) : vc tab (lookF L_termsIn) (an_termsIn a) (fun _ => []) (bodyOf Try.f76) (entry (encs c_termsIn.aks (a, ())) (rdOf false k)) (retOk tab c_termsIn Try.f76.results.toList (a, ()) k) := by
  dsimp only [bodyOf, Try.f76, rdOf]
  simp (maxSteps := 10000000) only [c_termsIn, L_termsIn, an_termsIn, SE.lookF, c_tsWith, tab2, tab3, tab4, tab5, tab7, tab9, tab12, tab13, tab21, tab22, tab23, tab24, tab25, tab26, tab27, tab28, tab39, tab42, tab46, tab47, tab65, tab66, tab67, tab68, tab79, tab80, tab84, tab85, tab90, tab91, tab94, tab111, tab140, tab141, tab157, tab159, tab160, tab161, tab162, tab182, tab194, SE.entry, SE.envOf, SE.rdOf, Option.get_some, SE.vc, SE.vcReg, SE.vcLoop, SE.condK, SE.seqK, SE.blockK, SE.vcOps, SE.vcStep, SE.vcOp, SE.vcTr, SE.vcDet_some, SE.vcDet_none, SE.vcIf_true, SE.vcIf_false, SE.vcEach, SE.pickOps, SE.gslot, SE.trOp, SE.moveId, SE.trMove, SE.trPick, SE.trAlloc, SE.trBox, SE.trBuild, SE.trBuildSlice, SE.trLoad, SE.trStore, SE.trNilCheck, SE.trBin, SE.trUn, SE.trConvert, SE.trFieldAddr, SE.trField, SE.trIndexAddr, SE.trIndex, SE.trSlice, SE.trMakeSlice, SE.trExtract, SE.trLen, SE.trAppend, SE.trCopy, SE.trFn, SE.trCall, SE.argsS, SE.ev, SE.constS, SE.junk, SE.sv, SE.upd_app, SE.adds, SE.sets, SE.nid, SE.St.app, SE.St.put, SE.free, SE.freeL, SE.allFree, SE.rids, SE.AK.rids, SE.castL, SE.rdl, SE.AK.dec, SE.decs, SE.AK.enc, SE.encs, SE.AK.res, SE.ress, SE.pack1, SE.zcells, SE.zeroOf, SE.partCells, SE.putc, SE.fills, SE.datas, SE.elemOf, SE.elemsOf, SE.notSpent, SE.cellsAt, SE.weak, SE.dcellsAt, SE.slAt, SE.rdPlus, SE.intAt, SE.updElem, SE.kill, SE.noJunk, SE.inK, SE.binI, SE.shf, SE.isShift, SE.eqCells, SE.aggS, SE.intOp, SE.nested, SE.hasRdr, SE.refsC, SE.refsCs, SE.ownsC, SE.refsAr, SE.rdFits, SE.costIf, SE.Con.post, SE.Con.det, SE.Ty.cells, SE.Ty.sz, SE.Ty.zero, SE.Ty.flat, SE.Ty.dec, SE.retOk, SE.loadsS, SE.loadS, SE.decRs, SE.decR, SE.outC, SE.rdC, SE.allDiff, SE.notIn, SE.notFrozen, SE.apartL, SE.rdEnd, SE.firstReg, SE.headC, SE.fitsC, SE.idsC, SE.keepE, SE.keepM, SE.keepB, SE.inL, SE.puts, SE.ownRes, SE.ownEnv, SE.renL, SE.srcId, SE.lookR, SE.envSame, SE.envSets, SE.memSame, SE.memBlks, SE.memOwns, SE.famsOf, SE.allIn, SE.closedE, SE.closedV, SE.closedM, SE.closedR, SE.rdLe, SE.S.refs, SE.S0.refs, SE.CV.refs, SE.refsL, SE.refsT, SE.S.ren, SE.S0.ren, SE.CV.ren, SE.Res.refs, SE.Res.ren, min_i64, max_i64, min_u16, max_u16, min_u8, max_u8, min_u64, max_u64, S.s.injEq, S0.c.injEq, CV.d.injEq, DC.val.injEq, Value.int.injEq, Value.bool.injEq, Value.string.injEq, eta_fact, eta_atom, eta_asn, eta_state, List.mem_cons, List.mem_nil_iff, or_false, false_or, or_true, true_or, Option.map_some, Option.map_none, Option.bind_some, Option.getD_some, Option.getD_none, Nat.reduceEqDiff, Nat.reduceAdd, Nat.reduceMul, Nat.reduceLeDiff, ↓reduceIte, reduceCtorEq, true_and, and_true, and_self, forall_const, implies_true, true_implies, List.getElem?_toArray, List.getElem?_cons_succ, List.getElem?_cons_zero, List.append_nil, List.nil_append, List.cons_append, List.length_cons, List.length_nil, List.take_succ_cons, List.take_zero, List.drop_succ_cons, List.drop_zero, List.set_cons_zero, List.set_cons_succ, List.map_cons, List.map_nil, Nat.add_zero, Nat.zero_add, forall_eq, Prod.forall, Bool.not_true, Bool.not_false, Nat.lt_irrefl, Nat.zero_lt_succ, List.singleton_append, Prod.mk.injEq, Nat.zero_mul, Nat.one_mul, Nat.reducePow, Option.some.injEq, not_false_eq_true, Int.toNat_natCast, Nat.sub_zero, Nat.le_refl, Bool.or_false, Bool.false_or, Bool.or_true, Bool.true_or, Bool.and_true, Bool.true_and, Bool.and_false, Bool.false_and, Bool.or_self, Bool.and_self, List.append_eq, and_false, false_and]
  have hF := tsF_bd
  have hW1 : ∀ s t, 0 ≤ s → s < 512 → 0 ≤ tsWith s t := fun _ _ h0 h1 => (tsWith_bd h0 h1).1
  have hW2 : ∀ s t, 0 ≤ s → s < 512 → tsWith s t < 512 := fun _ _ h0 h1 => (tsWith_bd h0 h1).2
  have hF0 : tsF [] = 0 := rfl
  have hG0 : ∀ z, tsG z [] = z := fun _ => rfl
  have hG := fun l => tsG_bd l _ (tsF_bd a.facts)
  all_goals (try simp only [vcIf_iff, decide_eq_true_eq, decide_eq_false_iff_not, bne_iff_ne, ne_eq, beq_iff_eq, beq_eq_false_iff_ne, bne_eq_false_iff_eq, Bool.not_eq_true', Bool.not_eq_false', Int.ofNat_lt, Int.natCast_inj])
  all_goals (repeat' (first | apply And.intro | intro _))
  all_goals (first | omega | (simp_all; done) | grind [tsF_step, tsG_step, tsA, take_full, Ty.zero])
theorem ok_termsIn : FnOk Try.prog E 76 c_termsIn :=
  fn_ok (l := L_termsIn) (perm := fun _ => []) tabOk mix ⟨ok_tsWith, trivial⟩ Try.func76 rfl (by kernel_rfl) (by decide) (by kernel_rfl) (anns := fun x _ => an_termsIn x.1) (fun ⟨a, _⟩ k hp _ => vc_termsIn a k hp) tot_fn
end Go.Proofs.Ytejcmcbpfnmlaaa

namespace Go.Proofs.Ytejcmcbpfnmlaaa
open Go.SE Go.RowKit
set_option linter.unusedSimpArgs false
set_option linter.unusedVariables false
set_option maxHeartbeats 1000000
set_option maxRecDepth 100000
/-! tsHas -/
abbrev c_tsHas : Con := ⟨[.u16, .int], [.bool], fun (s, t, _) => 0 ≤ s ∧ s < 512, .inl fun (s, t, _) => (tsHas s t, ()), fun _ => 0⟩
abbrev L_tsHas : List (FuncId × Con) := [(66, c_isTerm)]
theorem vc_tsHas (s : Int) (t : Int) (k : Nat) (hp : 0 ≤ s ∧ s < 512) : vc tab (lookF L_tsHas) (fun _ => none) (fun _ => []) (bodyOf Try.f129) (entry (encs c_tsHas.aks (s, t, ())) (rdOf false k)) (retOk tab c_tsHas Try.f129.results.toList (s, t, ()) k) := by
  dsimp only [bodyOf, Try.f129, rdOf]
  simp (maxSteps := 10000000) only [c_tsHas, L_tsHas, SE.lookF, c_isTerm, tab2, tab3, tab4, tab5, tab7, tab9, tab12, tab13, tab21, tab22, tab23, tab24, tab25, tab26, tab27, tab28, tab39, tab42, tab46, tab47, tab65, tab66, tab67, tab68, tab79, tab80, tab84, tab85, tab90, tab91, tab94, tab111, tab140, tab141, tab157, tab159, tab160, tab161, tab162, tab182, tab194, SE.entry, SE.envOf, SE.rdOf, Option.get_some, SE.vc, SE.vcReg, SE.vcLoop, SE.condK, SE.seqK, SE.blockK, SE.vcOps, SE.vcStep, SE.vcOp, SE.vcTr, SE.vcDet_some, SE.vcDet_none, SE.vcIf_true, SE.vcIf_false, SE.vcEach, SE.pickOps, SE.gslot, SE.trOp, SE.moveId, SE.trMove, SE.trPick, SE.trAlloc, SE.trBox, SE.trBuild, SE.trBuildSlice, SE.trLoad, SE.trStore, SE.trNilCheck, SE.trBin, SE.trUn, SE.trConvert, SE.trFieldAddr, SE.trField, SE.trIndexAddr, SE.trIndex, SE.trSlice, SE.trMakeSlice, SE.trExtract, SE.trLen, SE.trAppend, SE.trCopy, SE.trFn, SE.trCall, SE.argsS, SE.ev, SE.constS, SE.junk, SE.sv, SE.upd_app, SE.adds, SE.sets, SE.nid, SE.St.app, SE.St.put, SE.free, SE.freeL, SE.allFree, SE.rids, SE.AK.rids, SE.castL, SE.rdl, SE.AK.dec, SE.decs, SE.AK.enc, SE.encs, SE.AK.res, SE.ress, SE.pack1, SE.zcells, SE.zeroOf, SE.partCells, SE.putc, SE.fills, SE.datas, SE.elemOf, SE.elemsOf, SE.notSpent, SE.cellsAt, SE.weak, SE.dcellsAt, SE.slAt, SE.rdPlus, SE.intAt, SE.updElem, SE.kill, SE.noJunk, SE.inK, SE.binI, SE.shf, SE.isShift, SE.eqCells, SE.aggS, SE.intOp, SE.nested, SE.hasRdr, SE.refsC, SE.refsCs, SE.ownsC, SE.refsAr, SE.rdFits, SE.costIf, SE.Con.post, SE.Con.det, SE.Ty.cells, SE.Ty.sz, SE.Ty.zero, SE.Ty.flat, SE.Ty.dec, SE.retOk, SE.loadsS, SE.loadS, SE.decRs, SE.decR, SE.outC, SE.rdC, SE.allDiff, SE.notIn, SE.notFrozen, SE.apartL, SE.rdEnd, SE.firstReg, SE.headC, SE.fitsC, SE.idsC, SE.keepE, SE.keepM, SE.keepB, SE.inL, SE.puts, SE.ownRes, SE.ownEnv, SE.renL, SE.srcId, SE.lookR, SE.envSame, SE.envSets, SE.memSame, SE.memBlks, SE.memOwns, SE.famsOf, SE.allIn, SE.closedE, SE.closedV, SE.closedM, SE.closedR, SE.rdLe, SE.S.refs, SE.S0.refs, SE.CV.refs, SE.refsL, SE.refsT, SE.S.ren, SE.S0.ren, SE.CV.ren, SE.Res.refs, SE.Res.ren, min_i64, max_i64, min_u16, max_u16, min_u8, max_u8, min_u64, max_u64, S.s.injEq, S0.c.injEq, CV.d.injEq, DC.val.injEq, Value.int.injEq, Value.bool.injEq, Value.string.injEq, eta_fact, eta_atom, eta_asn, eta_state, List.mem_cons, List.mem_nil_iff, or_false, false_or, or_true, true_or, Option.map_some, Option.map_none, Option.bind_some, Option.getD_some, Option.getD_none, Nat.reduceEqDiff, Nat.reduceAdd, Nat.reduceMul, Nat.reduceLeDiff, ↓reduceIte, reduceCtorEq, true_and, and_true, and_self, forall_const, implies_true, true_implies, List.getElem?_toArray, List.getElem?_cons_succ, List.getElem?_cons_zero, List.append_nil, List.nil_append, List.cons_append, List.length_cons, List.length_nil, List.take_succ_cons, List.take_zero, List.drop_succ_cons, List.drop_zero, List.set_cons_zero, List.set_cons_succ, List.map_cons, List.map_nil, Nat.add_zero, Nat.zero_add, forall_eq, Prod.forall, Bool.not_true, Bool.not_false, Nat.lt_irrefl, Nat.zero_lt_succ, List.singleton_append, Prod.mk.injEq, Nat.zero_mul, Nat.one_mul, Nat.reducePow, Option.some.injEq, not_false_eq_true, Int.toNat_natCast, Nat.sub_zero, Nat.le_refl, Bool.or_false, Bool.false_or, Bool.or_true, Bool.true_or, Bool.and_true, Bool.true_and, Bool.and_false, Bool.false_and, Bool.or_self, Bool.and_self, List.append_eq, and_false, false_and]
  simp only [vcIf_iff]
  exact ⟨fun h => ⟨(isT_iff.1 h).1, tsHas_eq hp.1 hp.2 h⟩, fun h => by simp [tsHas, h]⟩
theorem ok_tsHas : FnOk Try.prog E 129 c_tsHas :=
  fn_ok (l := L_tsHas) (perm := fun _ => []) tabOk mix ⟨ok_isTerm, trivial⟩ Try.func129 rfl (by kernel_rfl) (by decide) (by kernel_rfl) (anns := fun x _ => fun _ => none) (fun ⟨s, t, _⟩ k hp _ => vc_tsHas s t k hp) tot_fn
end Go.Proofs.Ytejcmcbpfnmlaaa

namespace Go.Proofs.Ytejcmcbpfnmlaaa
open Go.SE Go.RowKit
set_option linter.unusedSimpArgs false
set_option linter.unusedVariables false
set_option maxHeartbeats 1000000
set_option maxRecDepth 100000
/-! factHolds -/
abbrev c_factHolds : Con := ⟨[.pkase, .fact], [.bool], fun (c, f, _) => c.length = 9 ∧ fV f = true, .inl fun (c, f, _) => (fh c f, ()), fun _ => 0⟩
abbrev L_factHolds : List (FuncId × Con) := []
abbrev P_factHolds : List (FuncId × PT) := []
def VC_factHolds (c : List Int) (f : GFact) (k : Nat) : Prop := TN ∧ True ∧ True ∧ True ∧ True ∧ True ∧ (0 ≤ f.a ∧ f.a < ((9 : Nat) : Int) ∧ c.length = 9) ∧ True ∧ True ∧ True ∧ True ∧ True ∧ (0 ≤ f.b ∧ f.b < ((9 : Nat) : Int) ∧ c.length = 9) ∧ True ∧ True ∧ True ∧ True ∧ True ∧ True ∧ (((((c.getD f.a.toNat (0 : Int)) == (c.getD f.b.toNat (0 : Int))) == f.eq, ()) : Bool × Unit) = (fh c f, ())) ∧ True ∧ True ∧ True ∧ True ∧ TF
theorem vcn_factHolds (c : List Int) (f : GFact) (k : Nat) (hp : c.length = 9 ∧ fV f = true) : VC_factHolds c f k := by
  unfold VC_factHolds
  simp only [TT, TF, TN, RL, RM, true_and, and_true, eq_self, implies_true, forall_const, List.cons.injEq, S.s.injEq, S0.c.injEq, S0.agg.injEq, CV.d.injEq, CV.own.injEq, CV.ptr.injEq, DC.val.injEq, Value.int.injEq, Value.bool.injEq, Option.some.injEq, Res.blk.injEq, Prod.mk.injEq, inK, min_i64, max_i64, min_u16, max_u16, min_u8, max_u8, min_u64, max_u64, vcIf_true, vcIf_false, List.mem_nil_iff, List.not_mem_nil, not_false_eq_true, Nat.reduceEqDiff, Nat.reduceLeDiff, ne_eq, Bool.and_true, Nat.add_zero, List.append_nil, List.nil_append, List.length_nil, List.length_cons, Nat.zero_add, Nat.reduceAdd, Int.toNat_natCast, Nat.sub_zero, List.drop_zero, List.map_nil, List.take_zero, forall_eq]
  have h1 := fV_isT hp.2
  have h2 := isT_iff.1 h1.1
  have h3 := isT_iff.1 h1.2
  all_goals (try simp only [vcIf_iff, decide_eq_true_eq, decide_eq_false_iff_not, bne_iff_ne, ne_eq, beq_iff_eq, beq_eq_false_iff_ne, bne_eq_false_iff_eq, Bool.not_eq_true', Bool.not_eq_false', Int.ofNat_lt, Int.natCast_inj])
  all_goals (repeat' (first | apply And.intro | intro _))
  all_goals (first | omega | (simp_all; done) | grind [fh, cl])
theorem vce_factHolds (c : List Int) (f : GFact) (k : Nat) : VC_factHolds c f k = vcQ tab (lookF L_factHolds) (lookP P_factHolds) (fun _ => false) (fun _ => none) (fun _ _ => none) (fun _ => []) (bodyOf Try.f69) (entry (encs c_factHolds.aks (c, f, ())) (rdOf false k)) (retOk tab c_factHolds Try.f69.results.toList (c, f, ()) k) := by kernel_rfl
theorem vc_factHolds (c : List Int) (f : GFact) (k : Nat) (hp : c.length = 9 ∧ fV f = true) : vcQ tab (lookF L_factHolds) (lookP P_factHolds) (fun _ => false) (fun _ => none) (fun _ _ => none) (fun _ => []) (bodyOf Try.f69) (entry (encs c_factHolds.aks (c, f, ())) (rdOf false k)) (retOk tab c_factHolds Try.f69.results.toList (c, f, ()) k) := (vce_factHolds c f k).mp (vcn_factHolds c f k hp)
theorem ok_factHolds : FnOk Try.prog E 69 c_factHolds :=
  fn_okQ (l := L_factHolds) (lp := P_factHolds) (hp := fun _ => false) (gcs := fun _ => none) (perm := fun _ => []) tabOk mix trivial trivial Try.func69 rfl (by kernel_rfl) (by decide) (by kernel_rfl) (anns := fun x _ => fun _ _ => none) (fun ⟨c, f, _⟩ k hp _ => vc_factHolds c f k hp) tot_fn
end Go.Proofs.Ytejcmcbpfnmlaaa

namespace Go.Proofs.Ytejcmcbpfnmlaaa
open Go.SE Go.RowKit
set_option linter.unusedSimpArgs false
set_option linter.unusedVariables false
set_option maxHeartbeats 1000000
set_option maxRecDepth 100000
/-! isFilled -/
abbrev c_isFilled : Con := ⟨[.pkase, .atom], [.bool], fun (c, x, _) => c.length = 9 ∧ atV x = true, .inl fun (c, x, _) => (filB c x, ()), fun _ => 0⟩
abbrev L_isFilled : List (FuncId × Con) := []
abbrev P_isFilled : List (FuncId × PT) := []
def VC_isFilled (c : List Int) (x : GAtom) (k : Nat) : Prop := TN ∧ True ∧ True ∧ True ∧ True ∧ True ∧ (vcIf (x.kind == (1 : Int)) (True ∧ True ∧ (((true, ()) : Bool × Unit) = (filB c x, ())) ∧ True ∧ True ∧ True ∧ True ∧ TF) (True ∧ True ∧ True ∧ True ∧ (0 ≤ x.a ∧ x.a < ((9 : Nat) : Int) ∧ c.length = 9) ∧ True ∧ True ∧ True ∧ True ∧ True ∧ (0 ≤ x.b ∧ x.b < ((9 : Nat) : Int) ∧ c.length = 9) ∧ True ∧ True ∧ True ∧ True ∧ ((((c.getD x.a.toNat (0 : Int)) != (c.getD x.b.toNat (0 : Int)), ()) : Bool × Unit) = (filB c x, ())) ∧ True ∧ True ∧ True ∧ True ∧ TF))
theorem vcn_isFilled (c : List Int) (x : GAtom) (k : Nat) (hp : c.length = 9 ∧ atV x = true) : VC_isFilled c x k := by
  unfold VC_isFilled
  simp only [TT, TF, TN, RL, RM, true_and, and_true, eq_self, implies_true, forall_const, List.cons.injEq, S.s.injEq, S0.c.injEq, S0.agg.injEq, CV.d.injEq, CV.own.injEq, CV.ptr.injEq, DC.val.injEq, Value.int.injEq, Value.bool.injEq, Option.some.injEq, Res.blk.injEq, Prod.mk.injEq, inK, min_i64, max_i64, min_u16, max_u16, min_u8, max_u8, min_u64, max_u64, vcIf_true, vcIf_false, List.mem_nil_iff, List.not_mem_nil, not_false_eq_true, Nat.reduceEqDiff, Nat.reduceLeDiff, ne_eq, Bool.and_true, Nat.add_zero, List.append_nil, List.nil_append, List.length_nil, List.length_cons, Nat.zero_add, Nat.reduceAdd, Int.toNat_natCast, Nat.sub_zero, List.drop_zero, List.map_nil, List.take_zero, forall_eq]
  have h1 := atV_isT hp.2
  have h2 := isT_iff.1 h1.1
  have h3 := isT_iff.1 h1.2
  all_goals (try simp only [vcIf_iff, decide_eq_true_eq, decide_eq_false_iff_not, bne_iff_ne, ne_eq, beq_iff_eq, beq_eq_false_iff_ne, bne_eq_false_iff_eq, Bool.not_eq_true', Bool.not_eq_false', Int.ofNat_lt, Int.natCast_inj])
  all_goals (repeat' (first | apply And.intro | intro _))
  all_goals (first | omega | (simp_all; done) | grind [filB, cl])
theorem vce_isFilled (c : List Int) (x : GAtom) (k : Nat) : VC_isFilled c x k = vcQ tab (lookF L_isFilled) (lookP P_isFilled) (fun _ => false) (fun _ => none) (fun _ _ => none) (fun _ => []) (bodyOf Try.f148) (entry (encs c_isFilled.aks (c, x, ())) (rdOf false k)) (retOk tab c_isFilled Try.f148.results.toList (c, x, ()) k) := by kernel_rfl
theorem vc_isFilled (c : List Int) (x : GAtom) (k : Nat) (hp : c.length = 9 ∧ atV x = true) : vcQ tab (lookF L_isFilled) (lookP P_isFilled) (fun _ => false) (fun _ => none) (fun _ _ => none) (fun _ => []) (bodyOf Try.f148) (entry (encs c_isFilled.aks (c, x, ())) (rdOf false k)) (retOk tab c_isFilled Try.f148.results.toList (c, x, ()) k) := (vce_isFilled c x k).mp (vcn_isFilled c x k hp)
theorem ok_isFilled : FnOk Try.prog E 148 c_isFilled :=
  fn_okQ (l := L_isFilled) (lp := P_isFilled) (hp := fun _ => false) (gcs := fun _ => none) (perm := fun _ => []) tabOk mix trivial trivial Try.func148 rfl (by kernel_rfl) (by decide) (by kernel_rfl) (anns := fun x _ => fun _ _ => none) (fun ⟨c, x, _⟩ k hp _ => vc_isFilled c x k hp) tot_fn
end Go.Proofs.Ytejcmcbpfnmlaaa
