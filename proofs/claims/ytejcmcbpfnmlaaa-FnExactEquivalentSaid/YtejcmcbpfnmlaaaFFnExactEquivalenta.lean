/-
  Contracts of single functions of the program, each shown by the engine: what a call returns for arguments within the contract's bounds.
-/
import Derived.Test.YtejcmcbpfnmlaaaProg
import Derived.KernelRfl
import Derived.Test.YtejcmcbpfnmlaaaEd
import Derived.Test.YtejcmcbpfnmlaaaEe
set_option linter.unusedSimpArgs false
set_option linter.unusedVariables false
set_option linter.unusedSectionVars false

namespace Go.Proofs.Ytejcmcbpfnmlaaa
open Go.SE Go.RowKit
def E : Ty → TypeId
  | .int => 3
  | .bool => 4
  | .u8 => 5
  | .fact => 28
  | .atom => 80
  | .cmd => 0
  | .ints => 42
def tabL : List (TypeId × TI) := [
  (2, ⟨1, 8, .sc (.int .i64 0)⟩),
  (3, ⟨1, 8, .sc (.int .i64 0)⟩),
  (4, ⟨1, 1, .sc (.bool false)⟩),
  (5, ⟨1, 1, .sc (.int .u8 0)⟩),
  (7, ⟨4, 24, .st [.sc (.int .i64 0), .sc (.int .i64 0), .sc (.bool false), .sc (.int .u8 0)] [(0, 1, false), (1, 1, false), (2, 1, false), (3, 1, false)]⟩),
  (9, ⟨1, 16, .sc (.string ⟨#[]⟩)⟩),
  (12, ⟨1, 8, .sc (.int .u64 0)⟩),
  (13, ⟨2, 24, .st [.sc (.string ⟨#[]⟩), .sc (.int .u64 0)] [(0, 1, false), (1, 1, false)]⟩),
  (21, ⟨1, 4, .sc (.int .i32 0)⟩),
  (22, ⟨1, 24, .sl true 5 .u8⟩),
  (23, ⟨1, 24, .sl true 28 .fact⟩),
  (24, ⟨1, 24, .sl true 80 .atom⟩),
  (25, ⟨2, 48, .st [.sl .fact, .sl .atom] [(0, 1, false), (1, 1, false)]⟩),
  (26, ⟨2, 48, .st [.sl .fact, .sl .atom] [(0, 1, false), (1, 1, false)]⟩),
  (27, ⟨3, 24, .st [.sc (.bool false), .sc (.int .i64 0), .sc (.int .i64 0)] [(0, 1, false), (1, 1, false), (2, 1, false)]⟩),
  (28, ⟨3, 24, .st [.sc (.bool false), .sc (.int .i64 0), .sc (.int .i64 0)] [(0, 1, false), (1, 1, false), (2, 1, false)]⟩),
  (39, ⟨1, 24, .sl true 42 .ints⟩),
  (42, ⟨1, 24, .sl true 3 .int⟩),
  (46, ⟨2, 48, .st [.sl .int, .sl .int] [(0, 1, false), (1, 1, false)]⟩),
  (47, ⟨2, 48, .st [.sl .int, .sl .int] [(0, 1, false), (1, 1, false)]⟩),
  (65, ⟨1, 24, .sl false 157 .fact⟩),
  (66, ⟨1, 24, .sl false 159 .atom⟩),
  (67, ⟨2, 48, .st [.sl .fact, .sl .atom] [(0, 1, false), (1, 1, false)]⟩),
  (68, ⟨2, 48, .st [.sl .fact, .sl .atom] [(0, 1, false), (1, 1, false)]⟩),
  (79, ⟨3, 24, .st [.sc (.int .i64 0), .sc (.int .i64 0), .sc (.int .i64 0)] [(0, 1, false), (1, 1, false), (2, 1, false)]⟩),
  (80, ⟨3, 24, .st [.sc (.int .i64 0), .sc (.int .i64 0), .sc (.int .i64 0)] [(0, 1, false), (1, 1, false), (2, 1, false)]⟩),
  (84, ⟨1, 2, .sc (.int .u16 0)⟩),
  (85, ⟨1, 2, .sc (.int .u16 0)⟩),
  (90, ⟨9, 72, .ar 9 3 .int⟩),
  (91, ⟨9, 72, .ar 9 3 .int⟩),
  (94, ⟨1, 24, .sl true 4 .bool⟩),
  (111, ⟨1, 2, .sc (.int .u16 0)⟩),
  (140, ⟨2, 32, .st [.sl .u8, .sc (.int .i64 0)] [(0, 1, false), (1, 1, false)]⟩),
  (141, ⟨2, 32, .st [.sl .u8, .sc (.int .i64 0)] [(0, 1, false), (1, 1, false)]⟩),
  (157, ⟨3, 24, .st [.sc (.bool false), .sc (.int .i64 0), .sc (.int .i64 0)] [(0, 1, false), (1, 1, false), (2, 1, false)]⟩),
  (159, ⟨3, 24, .st [.sc (.int .i64 0), .sc (.int .i64 0), .sc (.int .i64 0)] [(0, 1, false), (1, 1, false), (2, 1, false)]⟩),
  (160, ⟨6, 6, .ar 6 4 .bool⟩),
  (161, ⟨8, 40, .st [.sl .atom, .sc (.bool false), .sc (.bool false), .sc (.bool false), .sc (.bool false), .sc (.bool false), .sc (.bool false), .sc (.int .i64 0)] [(0, 1, false), (1, 6, true), (7, 1, false)]⟩),
  (162, ⟨8, 40, .st [.sl .atom, .sc (.bool false), .sc (.bool false), .sc (.bool false), .sc (.bool false), .sc (.bool false), .sc (.bool false), .sc (.int .i64 0)] [(0, 1, false), (1, 6, true), (7, 1, false)]⟩),
  (182, ⟨1, 4, .sc (.int .u32 0)⟩),
  (194, ⟨1, 8, .sc (.int .u64 0)⟩)]
def tab : TypeId → Option TI := lookT tabL
theorem tab2 : tab 2 = some ⟨1, 8, .sc (.int .i64 0)⟩ := rfl
theorem tab3 : tab 3 = some ⟨1, 8, .sc (.int .i64 0)⟩ := rfl
theorem tab4 : tab 4 = some ⟨1, 1, .sc (.bool false)⟩ := rfl
theorem tab5 : tab 5 = some ⟨1, 1, .sc (.int .u8 0)⟩ := rfl
theorem tab7 : tab 7 = some ⟨4, 24, .st [.sc (.int .i64 0), .sc (.int .i64 0), .sc (.bool false), .sc (.int .u8 0)] [(0, 1, false), (1, 1, false), (2, 1, false), (3, 1, false)]⟩ := rfl
theorem tab9 : tab 9 = some ⟨1, 16, .sc (.string ⟨#[]⟩)⟩ := rfl
theorem tab12 : tab 12 = some ⟨1, 8, .sc (.int .u64 0)⟩ := rfl
theorem tab13 : tab 13 = some ⟨2, 24, .st [.sc (.string ⟨#[]⟩), .sc (.int .u64 0)] [(0, 1, false), (1, 1, false)]⟩ := rfl
theorem tab21 : tab 21 = some ⟨1, 4, .sc (.int .i32 0)⟩ := rfl
theorem tab22 : tab 22 = some ⟨1, 24, .sl true 5 .u8⟩ := rfl
theorem tab23 : tab 23 = some ⟨1, 24, .sl true 28 .fact⟩ := rfl
theorem tab24 : tab 24 = some ⟨1, 24, .sl true 80 .atom⟩ := rfl
theorem tab25 : tab 25 = some ⟨2, 48, .st [.sl .fact, .sl .atom] [(0, 1, false), (1, 1, false)]⟩ := rfl
theorem tab26 : tab 26 = some ⟨2, 48, .st [.sl .fact, .sl .atom] [(0, 1, false), (1, 1, false)]⟩ := rfl
theorem tab27 : tab 27 = some ⟨3, 24, .st [.sc (.bool false), .sc (.int .i64 0), .sc (.int .i64 0)] [(0, 1, false), (1, 1, false), (2, 1, false)]⟩ := rfl
theorem tab28 : tab 28 = some ⟨3, 24, .st [.sc (.bool false), .sc (.int .i64 0), .sc (.int .i64 0)] [(0, 1, false), (1, 1, false), (2, 1, false)]⟩ := rfl
theorem tab39 : tab 39 = some ⟨1, 24, .sl true 42 .ints⟩ := rfl
theorem tab42 : tab 42 = some ⟨1, 24, .sl true 3 .int⟩ := rfl
theorem tab46 : tab 46 = some ⟨2, 48, .st [.sl .int, .sl .int] [(0, 1, false), (1, 1, false)]⟩ := rfl
theorem tab47 : tab 47 = some ⟨2, 48, .st [.sl .int, .sl .int] [(0, 1, false), (1, 1, false)]⟩ := rfl
theorem tab65 : tab 65 = some ⟨1, 24, .sl false 157 .fact⟩ := rfl
theorem tab66 : tab 66 = some ⟨1, 24, .sl false 159 .atom⟩ := rfl
theorem tab67 : tab 67 = some ⟨2, 48, .st [.sl .fact, .sl .atom] [(0, 1, false), (1, 1, false)]⟩ := rfl
theorem tab68 : tab 68 = some ⟨2, 48, .st [.sl .fact, .sl .atom] [(0, 1, false), (1, 1, false)]⟩ := rfl
theorem tab79 : tab 79 = some ⟨3, 24, .st [.sc (.int .i64 0), .sc (.int .i64 0), .sc (.int .i64 0)] [(0, 1, false), (1, 1, false), (2, 1, false)]⟩ := rfl
theorem tab80 : tab 80 = some ⟨3, 24, .st [.sc (.int .i64 0), .sc (.int .i64 0), .sc (.int .i64 0)] [(0, 1, false), (1, 1, false), (2, 1, false)]⟩ := rfl
theorem tab84 : tab 84 = some ⟨1, 2, .sc (.int .u16 0)⟩ := rfl
theorem tab85 : tab 85 = some ⟨1, 2, .sc (.int .u16 0)⟩ := rfl
theorem tab90 : tab 90 = some ⟨9, 72, .ar 9 3 .int⟩ := rfl
theorem tab91 : tab 91 = some ⟨9, 72, .ar 9 3 .int⟩ := rfl
theorem tab94 : tab 94 = some ⟨1, 24, .sl true 4 .bool⟩ := rfl
theorem tab111 : tab 111 = some ⟨1, 2, .sc (.int .u16 0)⟩ := rfl
theorem tab140 : tab 140 = some ⟨2, 32, .st [.sl .u8, .sc (.int .i64 0)] [(0, 1, false), (1, 1, false)]⟩ := rfl
theorem tab141 : tab 141 = some ⟨2, 32, .st [.sl .u8, .sc (.int .i64 0)] [(0, 1, false), (1, 1, false)]⟩ := rfl
theorem tab157 : tab 157 = some ⟨3, 24, .st [.sc (.bool false), .sc (.int .i64 0), .sc (.int .i64 0)] [(0, 1, false), (1, 1, false), (2, 1, false)]⟩ := rfl
theorem tab159 : tab 159 = some ⟨3, 24, .st [.sc (.int .i64 0), .sc (.int .i64 0), .sc (.int .i64 0)] [(0, 1, false), (1, 1, false), (2, 1, false)]⟩ := rfl
theorem tab160 : tab 160 = some ⟨6, 6, .ar 6 4 .bool⟩ := rfl
theorem tab161 : tab 161 = some ⟨8, 40, .st [.sl .atom, .sc (.bool false), .sc (.bool false), .sc (.bool false), .sc (.bool false), .sc (.bool false), .sc (.bool false), .sc (.int .i64 0)] [(0, 1, false), (1, 6, true), (7, 1, false)]⟩ := rfl
theorem tab162 : tab 162 = some ⟨8, 40, .st [.sl .atom, .sc (.bool false), .sc (.bool false), .sc (.bool false), .sc (.bool false), .sc (.bool false), .sc (.bool false), .sc (.int .i64 0)] [(0, 1, false), (1, 6, true), (7, 1, false)]⟩ := rfl
theorem tab182 : tab 182 = some ⟨1, 4, .sc (.int .u32 0)⟩ := rfl
theorem tab194 : tab 194 = some ⟨1, 8, .sc (.int .u64 0)⟩ := rfl
theorem tabOk : TabOk Try.prog E tab := tab_ok (by kernel_rfl)
theorem mix : Try.prog.follows .mixedOrders = true := by kernel_rfl
end Go.Proofs.Ytejcmcbpfnmlaaa

namespace Go.Proofs.Ytejcmcbpfnmlaaa
open Go.SE Go.RowKit
set_option linter.unusedSimpArgs false
set_option linter.unusedVariables false
set_option maxHeartbeats 1000000
set_option maxRecDepth 100000
/-! szFactS -/
abbrev c_szFactS : Con := ⟨[.sl .fact, .int], [.int], fun (l, left, _) => l.length ≤ 281474976710656 ∧ 0 ≤ left ∧ left ≤ 1048576, .inl fun (l, left, _) => (sz1 left l.length, ()), fun _ => 0⟩
abbrev L_szFactS : List (FuncId × Con) := []
theorem vc_szFactS (l : List GFact) (left : Int) (k : Nat) (hp : l.length ≤ 281474976710656 ∧ 0 ≤ left ∧ left ≤ 1048576) : vc tab (lookF L_szFactS) (fun _ => none) (fun _ => []) (bodyOf Try.f109) (entry (encs c_szFactS.aks (l, left, ())) (rdOf false k)) (retOk tab c_szFactS Try.f109.results.toList (l, left, ()) k) := by
  dsimp only [bodyOf, Try.f109, rdOf]
  simp (maxSteps := 10000000) only [c_szFactS, L_szFactS, SE.lookF, tab2, tab3, tab4, tab5, tab7, tab9, tab12, tab13, tab21, tab22, tab23, tab24, tab25, tab26, tab27, tab28, tab39, tab42, tab46, tab47, tab65, tab66, tab67, tab68, tab79, tab80, tab84, tab85, tab90, tab91, tab94, tab111, tab140, tab141, tab157, tab159, tab160, tab161, tab162, tab182, tab194, SE.entry, SE.envOf, SE.rdOf, Option.get_some, SE.vc, SE.vcReg, SE.vcLoop, SE.condK, SE.seqK, SE.blockK, SE.vcOps, SE.vcStep, SE.vcOp, SE.vcTr, SE.vcDet_some, SE.vcDet_none, SE.vcIf_true, SE.vcIf_false, SE.vcEach, SE.pickOps, SE.gslot, SE.trOp, SE.moveId, SE.trMove, SE.trPick, SE.trAlloc, SE.trBox, SE.trBuild, SE.trBuildSlice, SE.trLoad, SE.trStore, SE.trNilCheck, SE.trBin, SE.trUn, SE.trConvert, SE.trFieldAddr, SE.trField, SE.trIndexAddr, SE.trIndex, SE.trSlice, SE.trMakeSlice, SE.trExtract, SE.trLen, SE.trAppend, SE.trCopy, SE.trFn, SE.trCall, SE.argsS, SE.ev, SE.constS, SE.junk, SE.sv, SE.upd_app, SE.adds, SE.sets, SE.nid, SE.St.app, SE.St.put, SE.free, SE.freeL, SE.allFree, SE.rids, SE.AK.rids, SE.castL, SE.rdl, SE.AK.dec, SE.decs, SE.AK.enc, SE.encs, SE.AK.res, SE.ress, SE.pack1, SE.zcells, SE.zeroOf, SE.partCells, SE.putc, SE.fills, SE.datas, SE.elemOf, SE.elemsOf, SE.notSpent, SE.cellsAt, SE.weak, SE.dcellsAt, SE.slAt, SE.rdPlus, SE.intAt, SE.updElem, SE.kill, SE.noJunk, SE.inK, SE.binI, SE.shf, SE.isShift, SE.eqCells, SE.aggS, SE.intOp, SE.nested, SE.hasRdr, SE.refsC, SE.refsCs, SE.ownsC, SE.refsAr, SE.rdFits, SE.costIf, SE.Con.post, SE.Con.det, SE.Ty.cells, SE.Ty.sz, SE.Ty.zero, SE.Ty.flat, SE.Ty.dec, SE.retOk, SE.loadsS, SE.loadS, SE.decRs, SE.decR, SE.outC, SE.rdC, SE.allDiff, SE.notIn, SE.notFrozen, SE.apartL, SE.rdEnd, SE.firstReg, SE.headC, SE.fitsC, SE.idsC, SE.keepE, SE.keepM, SE.keepB, SE.inL, SE.puts, SE.ownRes, SE.ownEnv, SE.renL, SE.srcId, SE.lookR, SE.envSame, SE.envSets, SE.memSame, SE.memBlks, SE.memOwns, SE.famsOf, SE.allIn, SE.closedE, SE.closedV, SE.closedM, SE.closedR, SE.rdLe, SE.S.refs, SE.S0.refs, SE.CV.refs, SE.refsL, SE.refsT, SE.S.ren, SE.S0.ren, SE.CV.ren, SE.Res.refs, SE.Res.ren, min_i64, max_i64, min_u16, max_u16, min_u8, max_u8, min_u64, max_u64, S.s.injEq, S0.c.injEq, CV.d.injEq, DC.val.injEq, Value.int.injEq, Value.bool.injEq, Value.string.injEq, eta_fact, eta_atom, eta_asn, eta_state, List.mem_cons, List.mem_nil_iff, or_false, false_or, or_true, true_or, Option.map_some, Option.map_none, Option.bind_some, Option.getD_some, Option.getD_none, Nat.reduceEqDiff, Nat.reduceAdd, Nat.reduceMul, Nat.reduceLeDiff, ↓reduceIte, reduceCtorEq, true_and, and_true, and_self, forall_const, implies_true, true_implies, List.getElem?_toArray, List.getElem?_cons_succ, List.getElem?_cons_zero, List.append_nil, List.nil_append, List.cons_append, List.length_cons, List.length_nil, List.take_succ_cons, List.take_zero, List.drop_succ_cons, List.drop_zero, List.set_cons_zero, List.set_cons_succ, List.map_cons, List.map_nil, Nat.add_zero, Nat.zero_add, forall_eq, Prod.forall, Bool.not_true, Bool.not_false, Nat.lt_irrefl, Nat.zero_lt_succ, List.singleton_append, Prod.mk.injEq, Nat.zero_mul, Nat.one_mul, Nat.reducePow, Option.some.injEq, not_false_eq_true, Int.toNat_natCast, Nat.sub_zero, Nat.le_refl, Bool.or_false, Bool.false_or, Bool.or_true, Bool.true_or, Bool.and_true, Bool.true_and, Bool.and_false, Bool.false_and, Bool.or_self, Bool.and_self, List.append_eq, and_false, false_and]
  unfold sz1
  by_cases h : left - l.length < 0 <;> simp [vcIf, h] <;> omega
theorem ok_szFactS : FnOk Try.prog E 109 c_szFactS :=
  fn_ok (l := L_szFactS) (perm := fun _ => []) tabOk mix trivial Try.func109 rfl (by kernel_rfl) (by decide) (by kernel_rfl) (anns := fun x _ => fun _ => none) (fun ⟨l, left, _⟩ k hp _ => vc_szFactS l left k hp) tot_fn
end Go.Proofs.Ytejcmcbpfnmlaaa

namespace Go.Proofs.Ytejcmcbpfnmlaaa
open Go.SE Go.RowKit
set_option linter.unusedSimpArgs false
set_option linter.unusedVariables false
set_option maxHeartbeats 1000000
set_option maxRecDepth 100000
/-! szAtomS -/
abbrev c_szAtomS : Con := ⟨[.sl .atom, .int], [.int], fun (l, left, _) => l.length ≤ 281474976710656 ∧ 0 ≤ left ∧ left ≤ 1048576, .inl fun (l, left, _) => (sz1 left l.length, ()), fun _ => 0⟩
abbrev L_szAtomS : List (FuncId × Con) := []
theorem vc_szAtomS (l : List GAtom) (left : Int) (k : Nat) (hp : l.length ≤ 281474976710656 ∧ 0 ≤ left ∧ left ≤ 1048576) : vc tab (lookF L_szAtomS) (fun _ => none) (fun _ => []) (bodyOf Try.f110) (entry (encs c_szAtomS.aks (l, left, ())) (rdOf false k)) (retOk tab c_szAtomS Try.f110.results.toList (l, left, ()) k) := by
  dsimp only [bodyOf, Try.f110, rdOf]
  simp (maxSteps := 10000000) only [c_szAtomS, L_szAtomS, SE.lookF, tab2, tab3, tab4, tab5, tab7, tab9, tab12, tab13, tab21, tab22, tab23, tab24, tab25, tab26, tab27, tab28, tab39, tab42, tab46, tab47, tab65, tab66, tab67, tab68, tab79, tab80, tab84, tab85, tab90, tab91, tab94, tab111, tab140, tab141, tab157, tab159, tab160, tab161, tab162, tab182, tab194, SE.entry, SE.envOf, SE.rdOf, Option.get_some, SE.vc, SE.vcReg, SE.vcLoop, SE.condK, SE.seqK, SE.blockK, SE.vcOps, SE.vcStep, SE.vcOp, SE.vcTr, SE.vcDet_some, SE.vcDet_none, SE.vcIf_true, SE.vcIf_false, SE.vcEach, SE.pickOps, SE.gslot, SE.trOp, SE.moveId, SE.trMove, SE.trPick, SE.trAlloc, SE.trBox, SE.trBuild, SE.trBuildSlice, SE.trLoad, SE.trStore, SE.trNilCheck, SE.trBin, SE.trUn, SE.trConvert, SE.trFieldAddr, SE.trField, SE.trIndexAddr, SE.trIndex, SE.trSlice, SE.trMakeSlice, SE.trExtract, SE.trLen, SE.trAppend, SE.trCopy, SE.trFn, SE.trCall, SE.argsS, SE.ev, SE.constS, SE.junk, SE.sv, SE.upd_app, SE.adds, SE.sets, SE.nid, SE.St.app, SE.St.put, SE.free, SE.freeL, SE.allFree, SE.rids, SE.AK.rids, SE.castL, SE.rdl, SE.AK.dec, SE.decs, SE.AK.enc, SE.encs, SE.AK.res, SE.ress, SE.pack1, SE.zcells, SE.zeroOf, SE.partCells, SE.putc, SE.fills, SE.datas, SE.elemOf, SE.elemsOf, SE.notSpent, SE.cellsAt, SE.weak, SE.dcellsAt, SE.slAt, SE.rdPlus, SE.intAt, SE.updElem, SE.kill, SE.noJunk, SE.inK, SE.binI, SE.shf, SE.isShift, SE.eqCells, SE.aggS, SE.intOp, SE.nested, SE.hasRdr, SE.refsC, SE.refsCs, SE.ownsC, SE.refsAr, SE.rdFits, SE.costIf, SE.Con.post, SE.Con.det, SE.Ty.cells, SE.Ty.sz, SE.Ty.zero, SE.Ty.flat, SE.Ty.dec, SE.retOk, SE.loadsS, SE.loadS, SE.decRs, SE.decR, SE.outC, SE.rdC, SE.allDiff, SE.notIn, SE.notFrozen, SE.apartL, SE.rdEnd, SE.firstReg, SE.headC, SE.fitsC, SE.idsC, SE.keepE, SE.keepM, SE.keepB, SE.inL, SE.puts, SE.ownRes, SE.ownEnv, SE.renL, SE.srcId, SE.lookR, SE.envSame, SE.envSets, SE.memSame, SE.memBlks, SE.memOwns, SE.famsOf, SE.allIn, SE.closedE, SE.closedV, SE.closedM, SE.closedR, SE.rdLe, SE.S.refs, SE.S0.refs, SE.CV.refs, SE.refsL, SE.refsT, SE.S.ren, SE.S0.ren, SE.CV.ren, SE.Res.refs, SE.Res.ren, min_i64, max_i64, min_u16, max_u16, min_u8, max_u8, min_u64, max_u64, S.s.injEq, S0.c.injEq, CV.d.injEq, DC.val.injEq, Value.int.injEq, Value.bool.injEq, Value.string.injEq, eta_fact, eta_atom, eta_asn, eta_state, List.mem_cons, List.mem_nil_iff, or_false, false_or, or_true, true_or, Option.map_some, Option.map_none, Option.bind_some, Option.getD_some, Option.getD_none, Nat.reduceEqDiff, Nat.reduceAdd, Nat.reduceMul, Nat.reduceLeDiff, ↓reduceIte, reduceCtorEq, true_and, and_true, and_self, forall_const, implies_true, true_implies, List.getElem?_toArray, List.getElem?_cons_succ, List.getElem?_cons_zero, List.append_nil, List.nil_append, List.cons_append, List.length_cons, List.length_nil, List.take_succ_cons, List.take_zero, List.drop_succ_cons, List.drop_zero, List.set_cons_zero, List.set_cons_succ, List.map_cons, List.map_nil, Nat.add_zero, Nat.zero_add, forall_eq, Prod.forall, Bool.not_true, Bool.not_false, Nat.lt_irrefl, Nat.zero_lt_succ, List.singleton_append, Prod.mk.injEq, Nat.zero_mul, Nat.one_mul, Nat.reducePow, Option.some.injEq, not_false_eq_true, Int.toNat_natCast, Nat.sub_zero, Nat.le_refl, Bool.or_false, Bool.false_or, Bool.or_true, Bool.true_or, Bool.and_true, Bool.true_and, Bool.and_false, Bool.false_and, Bool.or_self, Bool.and_self, List.append_eq, and_false, false_and]
  unfold sz1
  by_cases h : left - l.length < 0 <;> simp [vcIf, h] <;> omega
theorem ok_szAtomS : FnOk Try.prog E 110 c_szAtomS :=
  fn_ok (l := L_szAtomS) (perm := fun _ => []) tabOk mix trivial Try.func110 rfl (by kernel_rfl) (by decide) (by kernel_rfl) (anns := fun x _ => fun _ => none) (fun ⟨l, left, _⟩ k hp _ => vc_szAtomS l left k hp) tot_fn
end Go.Proofs.Ytejcmcbpfnmlaaa

namespace Go.Proofs.Ytejcmcbpfnmlaaa
open Go.SE Go.RowKit
set_option linter.unusedSimpArgs false
set_option linter.unusedVariables false
set_option maxHeartbeats 1000000
set_option maxRecDepth 100000
/-! szAssertion -/
abbrev c_szAssertion : Con := ⟨[.asn, .int], [.int], fun (a, left, _) => a.facts.length ≤ 281474976710656 ∧ a.atoms.length ≤ 281474976710656 ∧ 0 ≤ left ∧ left ≤ 1048576, .inl fun (a, left, _) => (szA a left, ()), fun _ => 0⟩
abbrev L_szAssertion : List (FuncId × Con) := [(109, c_szFactS), (110, c_szAtomS)]
abbrev P_szAssertion : List (FuncId × PT) := []
def VC_szAssertion (a : GAsn) (left : Int) (k : Nat) : Prop := TN ∧ True ∧ True ∧ True ∧ True ∧ ((a.facts.length ≤ 281474976710656 ∧ 0 ≤ left ∧ left ≤ 1048576) ∧ True ∧ True) ∧ True ∧ True ∧ True ∧ (vcIf (decide ((sz1 left a.facts.length) < (0 : Int))) (True ∧ ((((-1 : Int), ()) : Int × Unit) = (szA a left, ())) ∧ True ∧ True ∧ True ∧ True ∧ TF) (True ∧ True ∧ True ∧ ((a.atoms.length ≤ 281474976710656 ∧ 0 ≤ (sz1 left a.facts.length) ∧ (sz1 left a.facts.length) ≤ 1048576) ∧ True ∧ True) ∧ True ∧ True ∧ True ∧ (vcIf (decide ((sz1 (sz1 left a.facts.length) a.atoms.length) < (0 : Int))) (True ∧ ((((-1 : Int), ()) : Int × Unit) = (szA a left, ())) ∧ True ∧ True ∧ True ∧ True ∧ TF) (True ∧ True ∧ ((((sz1 (sz1 left a.facts.length) a.atoms.length), ()) : Int × Unit) = (szA a left, ())) ∧ True ∧ True ∧ True ∧ True ∧ TF))))
theorem vcn_szAssertion (a : GAsn) (left : Int) (k : Nat) (hp : a.facts.length ≤ 281474976710656 ∧ a.atoms.length ≤ 281474976710656 ∧ 0 ≤ left ∧ left ≤ 1048576) : VC_szAssertion a left k := by
  unfold VC_szAssertion
  simp only [TT, TF, TN, RL, RM, true_and, and_true, eq_self, implies_true, forall_const, List.cons.injEq, S.s.injEq, S0.c.injEq, S0.agg.injEq, CV.d.injEq, CV.own.injEq, CV.ptr.injEq, DC.val.injEq, Value.int.injEq, Value.bool.injEq, Option.some.injEq, Res.blk.injEq, Prod.mk.injEq, inK, min_i64, max_i64, min_u16, max_u16, min_u8, max_u8, min_u64, max_u64, vcIf_true, vcIf_false, List.mem_nil_iff, List.not_mem_nil, not_false_eq_true, Nat.reduceEqDiff, Nat.reduceLeDiff, ne_eq, Bool.and_true, Nat.add_zero, List.append_nil, List.nil_append, List.length_nil, List.length_cons, Nat.zero_add, Nat.reduceAdd, Int.toNat_natCast, Nat.sub_zero, List.drop_zero, List.map_nil, List.take_zero, forall_eq]
  all_goals (try simp only [vcIf_iff, decide_eq_true_eq, decide_eq_false_iff_not, bne_iff_ne, ne_eq, beq_iff_eq, beq_eq_false_iff_ne, bne_eq_false_iff_eq, Bool.not_eq_true', Bool.not_eq_false', Int.ofNat_lt, Int.natCast_inj])
  all_goals (repeat' (first | apply And.intro | intro _))
  all_goals (first | omega | (simp_all; done) | grind [szA, sz1])
theorem vce_szAssertion (a : GAsn) (left : Int) (k : Nat) : VC_szAssertion a left k = vcQ tab (lookF L_szAssertion) (lookP P_szAssertion) (fun _ => false) (fun _ => none) (fun _ _ => none) (fun _ => []) (bodyOf Try.f48) (entry (encs c_szAssertion.aks (a, left, ())) (rdOf false k)) (retOk tab c_szAssertion Try.f48.results.toList (a, left, ()) k) := by kernel_rfl
theorem vc_szAssertion (a : GAsn) (left : Int) (k : Nat) (hp : a.facts.length ≤ 281474976710656 ∧ a.atoms.length ≤ 281474976710656 ∧ 0 ≤ left ∧ left ≤ 1048576) : vcQ tab (lookF L_szAssertion) (lookP P_szAssertion) (fun _ => false) (fun _ => none) (fun _ _ => none) (fun _ => []) (bodyOf Try.f48) (entry (encs c_szAssertion.aks (a, left, ())) (rdOf false k)) (retOk tab c_szAssertion Try.f48.results.toList (a, left, ()) k) := (vce_szAssertion a left k).mp (vcn_szAssertion a left k hp)
theorem ok_szAssertion : FnOk Try.prog E 48 c_szAssertion :=
  fn_okQ (l := L_szAssertion) (lp := P_szAssertion) (hp := fun _ => false) (gcs := fun _ => none) (perm := fun _ => []) tabOk mix ⟨ok_szFactS, ok_szAtomS, trivial⟩ trivial Try.func48 rfl (by kernel_rfl) (by decide) (by kernel_rfl) (anns := fun x _ => fun _ _ => none) (fun ⟨a, left, _⟩ k hp _ => vc_szAssertion a left k hp) tot_fn
end Go.Proofs.Ytejcmcbpfnmlaaa

namespace Go.Proofs.Ytejcmcbpfnmlaaa
open Go.SE Go.RowKit
set_option linter.unusedSimpArgs false
set_option linter.unusedVariables false
set_option maxHeartbeats 1000000
set_option maxRecDepth 100000
/-! toFact -/
abbrev c_toFact : Con := ⟨[.fact], [.fact], fun _ => True, .inl fun (f, _) => (f, ()), fun _ => 0⟩
abbrev L_toFact : List (FuncId × Con) := []
theorem vc_toFact (f : GFact) (k : Nat) : vc tab (lookF L_toFact) (fun _ => none) (fun _ => []) (bodyOf Try.f151) (entry (encs c_toFact.aks (f, ())) (rdOf false k)) (retOk tab c_toFact Try.f151.results.toList (f, ()) k) := by
  dsimp only [bodyOf, Try.f151, rdOf]
  simp (maxSteps := 10000000) only [c_toFact, L_toFact, SE.lookF, tab2, tab3, tab4, tab5, tab7, tab9, tab12, tab13, tab21, tab22, tab23, tab24, tab25, tab26, tab27, tab28, tab39, tab42, tab46, tab47, tab65, tab66, tab67, tab68, tab79, tab80, tab84, tab85, tab90, tab91, tab94, tab111, tab140, tab141, tab157, tab159, tab160, tab161, tab162, tab182, tab194, SE.entry, SE.envOf, SE.rdOf, Option.get_some, SE.vc, SE.vcReg, SE.vcLoop, SE.condK, SE.seqK, SE.blockK, SE.vcOps, SE.vcStep, SE.vcOp, SE.vcTr, SE.vcDet_some, SE.vcDet_none, SE.vcIf_true, SE.vcIf_false, SE.vcEach, SE.pickOps, SE.gslot, SE.trOp, SE.moveId, SE.trMove, SE.trPick, SE.trAlloc, SE.trBox, SE.trBuild, SE.trBuildSlice, SE.trLoad, SE.trStore, SE.trNilCheck, SE.trBin, SE.trUn, SE.trConvert, SE.trFieldAddr, SE.trField, SE.trIndexAddr, SE.trIndex, SE.trSlice, SE.trMakeSlice, SE.trExtract, SE.trLen, SE.trAppend, SE.trCopy, SE.trFn, SE.trCall, SE.argsS, SE.ev, SE.constS, SE.junk, SE.sv, SE.upd_app, SE.adds, SE.sets, SE.nid, SE.St.app, SE.St.put, SE.free, SE.freeL, SE.allFree, SE.rids, SE.AK.rids, SE.castL, SE.rdl, SE.AK.dec, SE.decs, SE.AK.enc, SE.encs, SE.AK.res, SE.ress, SE.pack1, SE.zcells, SE.zeroOf, SE.partCells, SE.putc, SE.fills, SE.datas, SE.elemOf, SE.elemsOf, SE.notSpent, SE.cellsAt, SE.weak, SE.dcellsAt, SE.slAt, SE.rdPlus, SE.intAt, SE.updElem, SE.kill, SE.noJunk, SE.inK, SE.binI, SE.shf, SE.isShift, SE.eqCells, SE.aggS, SE.intOp, SE.nested, SE.hasRdr, SE.refsC, SE.refsCs, SE.ownsC, SE.refsAr, SE.rdFits, SE.costIf, SE.Con.post, SE.Con.det, SE.Ty.cells, SE.Ty.sz, SE.Ty.zero, SE.Ty.flat, SE.Ty.dec, SE.retOk, SE.loadsS, SE.loadS, SE.decRs, SE.decR, SE.outC, SE.rdC, SE.allDiff, SE.notIn, SE.notFrozen, SE.apartL, SE.rdEnd, SE.firstReg, SE.headC, SE.fitsC, SE.idsC, SE.keepE, SE.keepM, SE.keepB, SE.inL, SE.puts, SE.ownRes, SE.ownEnv, SE.renL, SE.srcId, SE.lookR, SE.envSame, SE.envSets, SE.memSame, SE.memBlks, SE.memOwns, SE.famsOf, SE.allIn, SE.closedE, SE.closedV, SE.closedM, SE.closedR, SE.rdLe, SE.S.refs, SE.S0.refs, SE.CV.refs, SE.refsL, SE.refsT, SE.S.ren, SE.S0.ren, SE.CV.ren, SE.Res.refs, SE.Res.ren, min_i64, max_i64, min_u16, max_u16, min_u8, max_u8, min_u64, max_u64, S.s.injEq, S0.c.injEq, CV.d.injEq, DC.val.injEq, Value.int.injEq, Value.bool.injEq, Value.string.injEq, eta_fact, eta_atom, eta_asn, eta_state, List.mem_cons, List.mem_nil_iff, or_false, false_or, or_true, true_or, Option.map_some, Option.map_none, Option.bind_some, Option.getD_some, Option.getD_none, Nat.reduceEqDiff, Nat.reduceAdd, Nat.reduceMul, Nat.reduceLeDiff, ↓reduceIte, reduceCtorEq, true_and, and_true, and_self, forall_const, implies_true, true_implies, List.getElem?_toArray, List.getElem?_cons_succ, List.getElem?_cons_zero, List.append_nil, List.nil_append, List.cons_append, List.length_cons, List.length_nil, List.take_succ_cons, List.take_zero, List.drop_succ_cons, List.drop_zero, List.set_cons_zero, List.set_cons_succ, List.map_cons, List.map_nil, Nat.add_zero, Nat.zero_add, forall_eq, Prod.forall, Bool.not_true, Bool.not_false, Nat.lt_irrefl, Nat.zero_lt_succ, List.singleton_append, Prod.mk.injEq, Nat.zero_mul, Nat.one_mul, Nat.reducePow, Option.some.injEq, not_false_eq_true, Int.toNat_natCast, Nat.sub_zero, Nat.le_refl, Bool.or_false, Bool.false_or, Bool.or_true, Bool.true_or, Bool.and_true, Bool.true_and, Bool.and_false, Bool.false_and, Bool.or_self, Bool.and_self, List.append_eq, and_false, false_and]
  all_goals (try simp only [vcIf_iff, decide_eq_true_eq, decide_eq_false_iff_not, bne_iff_ne, ne_eq, beq_iff_eq, beq_eq_false_iff_ne, bne_eq_false_iff_eq, Bool.not_eq_true', Bool.not_eq_false', Int.ofNat_lt, Int.natCast_inj])
  all_goals (repeat' (first | apply And.intro | intro _))
  all_goals (first | omega | (simp_all; done) | grind [])
theorem ok_toFact : FnOk Try.prog E 151 c_toFact :=
  fn_ok (l := L_toFact) (perm := fun _ => []) tabOk mix trivial Try.func151 rfl (by kernel_rfl) (by decide) (by kernel_rfl) (anns := fun x _ => fun _ => none) (fun ⟨f, _⟩ k _ _ => vc_toFact f k) tot_fn
end Go.Proofs.Ytejcmcbpfnmlaaa

namespace Go.Proofs.Ytejcmcbpfnmlaaa
open Go.SE Go.RowKit
set_option linter.unusedSimpArgs false
set_option linter.unusedVariables false
set_option maxHeartbeats 1000000
set_option maxRecDepth 100000
/-! toFactS -/
abbrev c_toFactS : Con := ⟨[.sl .fact], [.sl .fact], fun (l, _) => l.length ≤ 1048576, .inl fun (l, _) => (l, ()), fun _ => 0⟩
abbrev L_toFactS : List (FuncId × Con) := [(151, c_toFact)]
abbrev P_toFactS : List (FuncId × PT) := []
def an_toFactS (l : List GFact) : Nat → St → Option Ann
  | 3, se => some { α := Nat, ok := fun i => i ≤ l.length, mu := fun i => l.length - i, i0 := fun _ => 0, nx := fun a _ => (fun i => i + 1) a, live := [0, 2], sets := fun i => [(4, sv (.int .i64 i))], mids := [32], blks := fun i => [], owns := fun i => [⟨7, .slot 3, .fact, l.take i ++ List.replicate (l.length - i) (⟨false, 0, 0⟩ : GFact)⟩], rd := fun r _ => r, base := 100000 }
  | _, _ => none
def VC_toFactS (l : List GFact) (k : Nat) : Prop := TN ∧ True ∧ True ∧ (TN ∧ (0 ≤ ((l.length : Nat) : Int) ∧ ((l.length : Nat) : Int) ≤ ((l.length : Nat) : Int) ∧ ((l.length : Nat) : Int) ≤ 4294967296)) ∧ True ∧ True ∧ ((0 ≤ l.length) ∧ TT ∧ (RL [.s (.c (.d (.arr .fact l))), .s (.c (.own 32))]) ∧ (([.s (.c (.d (.val (.int .i64 (0 : Int)))))] : List S) = [.s (.c (.d (.val (.int .i64 ((0 : Nat) : Int)))))]) ∧ (RM [some (.sl 32 .fact ([] : List GFact))]) ∧ (RM []) ∧ (((some (List.replicate l.length (⟨false, 0, 0⟩ : GFact)) : Option (List GFact)) = some (l.take 0 ++ List.replicate (l.length - 0) (⟨false, 0, 0⟩ : GFact))) ∧ True) ∧ TT) ∧ (∀ i1 : Nat, (i1 ≤ l.length) → True ∧ True ∧ True ∧ True ∧ (vcIf (decide (((i1 : Nat) : Int) < ((l.length : Nat) : Int))) (True ∧ True ∧ True ∧ True ∧ (0 ≤ ((i1 : Nat) : Int) ∧ ((i1 : Nat) : Int) < ((l.length : Nat) : Int)) ∧ True ∧ (True ∧ True ∧ True) ∧ (0 ≤ ((i1 : Nat) : Int) ∧ ((i1 : Nat) : Int) < (((l.take i1 ++ List.replicate (l.length - i1) (⟨false, 0, 0⟩ : GFact)).length : Nat) : Int)) ∧ (TF ∧ TF ∧ True ∧ ((7 : Nat) ∉ ([] : List Nat))) ∧ True ∧ (inK .i64 (((i1 : Nat) : Int) + (1 : Int))) ∧ True ∧ ((i1 + 1) ≤ l.length) ∧ (l.length - (i1 + 1) < l.length - i1) ∧ TT ∧ (RL [.s (.c (.d (.arr .fact l))), .s (.c (.own 32))]) ∧ (([.s (.c (.d (.val (.int .i64 (((i1 : Nat) : Int) + (1 : Int))))))] : List S) = [.s (.c (.d (.val (.int .i64 (((i1 + 1) : Nat) : Int)))))]) ∧ (RM [some (.sl 32 .fact ([] : List GFact))]) ∧ (RM []) ∧ (((some ((l.take i1 ++ List.replicate (l.length - i1) (⟨false, 0, 0⟩ : GFact)).set i1 (l.getD i1 (⟨false, 0, 0⟩ : GFact))) : Option (List GFact)) = some (l.take (i1 + 1) ++ List.replicate (l.length - (i1 + 1)) (⟨false, 0, 0⟩ : GFact))) ∧ True) ∧ TT) (True ∧ True ∧ (((l.take i1 ++ List.replicate (l.length - i1) (⟨false, 0, 0⟩ : GFact), ()) : (List GFact) × Unit) = (l, ())) ∧ (True ∧ True) ∧ ((TF ∧ TF) ∧ True) ∧ True ∧ (True ∧ True) ∧ TF)))
theorem vcn_toFactS (l : List GFact) (k : Nat) (hp : l.length ≤ 1048576) : VC_toFactS l k := by
  unfold VC_toFactS
  simp only [TT, TF, TN, RL, RM, true_and, and_true, eq_self, implies_true, forall_const, List.cons.injEq, S.s.injEq, S0.c.injEq, S0.agg.injEq, CV.d.injEq, CV.own.injEq, CV.ptr.injEq, DC.val.injEq, Value.int.injEq, Value.bool.injEq, Option.some.injEq, Res.blk.injEq, Prod.mk.injEq, inK, min_i64, max_i64, min_u16, max_u16, min_u8, max_u8, min_u64, max_u64, vcIf_true, vcIf_false, List.mem_nil_iff, List.not_mem_nil, not_false_eq_true, Nat.reduceEqDiff, Nat.reduceLeDiff, ne_eq, Bool.and_true, Nat.add_zero, List.append_nil, List.nil_append, List.length_nil, List.length_cons, Nat.zero_add, Nat.reduceAdd, Int.toNat_natCast, Nat.sub_zero, List.drop_zero, List.map_nil, List.take_zero, forall_eq]
  all_goals (try simp only [vcIf_iff, decide_eq_true_eq, decide_eq_false_iff_not, bne_iff_ne, ne_eq, beq_iff_eq, beq_eq_false_iff_ne, bne_eq_false_iff_eq, Bool.not_eq_true', Bool.not_eq_false', Int.ofNat_lt, Int.natCast_inj])
  all_goals (repeat' (first | apply And.intro | intro _))
  all_goals (first | omega | (simp_all; done) | grind [copy_step, take_full])
theorem vce_toFactS (l : List GFact) (k : Nat) : VC_toFactS l k = vcQ tab (lookF L_toFactS) (lookP P_toFactS) (fun _ => false) (fun _ => none) (an_toFactS l) (fun _ => []) (bodyOf Try.f114) (entry (encs c_toFactS.aks (l, ())) (rdOf false k)) (retOk tab c_toFactS Try.f114.results.toList (l, ()) k) := by kernel_rfl
theorem vc_toFactS (l : List GFact) (k : Nat) (hp : l.length ≤ 1048576) : vcQ tab (lookF L_toFactS) (lookP P_toFactS) (fun _ => false) (fun _ => none) (an_toFactS l) (fun _ => []) (bodyOf Try.f114) (entry (encs c_toFactS.aks (l, ())) (rdOf false k)) (retOk tab c_toFactS Try.f114.results.toList (l, ()) k) := (vce_toFactS l k).mp (vcn_toFactS l k hp)
theorem ok_toFactS : FnOk Try.prog E 114 c_toFactS :=
  fn_okQ (l := L_toFactS) (lp := P_toFactS) (hp := fun _ => false) (gcs := fun _ => none) (perm := fun _ => []) tabOk mix ⟨ok_toFact, trivial⟩ trivial Try.func114 rfl (by kernel_rfl) (by decide) (by kernel_rfl) (anns := fun x _ => an_toFactS x.1) (fun ⟨l, _⟩ k hp _ => vc_toFactS l k hp) tot_fn
end Go.Proofs.Ytejcmcbpfnmlaaa

namespace Go.Proofs.Ytejcmcbpfnmlaaa
open Go.SE Go.RowKit
set_option linter.unusedSimpArgs false
set_option linter.unusedVariables false
set_option maxHeartbeats 1000000
set_option maxRecDepth 100000
/-! toAtom -/
abbrev c_toAtom : Con := ⟨[.atom], [.atom], fun _ => True, .inl fun (f, _) => (f, ()), fun _ => 0⟩
abbrev L_toAtom : List (FuncId × Con) := []
theorem vc_toAtom (f : GAtom) (k : Nat) : vc tab (lookF L_toAtom) (fun _ => none) (fun _ => []) (bodyOf Try.f152) (entry (encs c_toAtom.aks (f, ())) (rdOf false k)) (retOk tab c_toAtom Try.f152.results.toList (f, ()) k) := by
  dsimp only [bodyOf, Try.f152, rdOf]
  simp (maxSteps := 10000000) only [c_toAtom, L_toAtom, SE.lookF, tab2, tab3, tab4, tab5, tab7, tab9, tab12, tab13, tab21, tab22, tab23, tab24, tab25, tab26, tab27, tab28, tab39, tab42, tab46, tab47, tab65, tab66, tab67, tab68, tab79, tab80, tab84, tab85, tab90, tab91, tab94, tab111, tab140, tab141, tab157, tab159, tab160, tab161, tab162, tab182, tab194, SE.entry, SE.envOf, SE.rdOf, Option.get_some, SE.vc, SE.vcReg, SE.vcLoop, SE.condK, SE.seqK, SE.blockK, SE.vcOps, SE.vcStep, SE.vcOp, SE.vcTr, SE.vcDet_some, SE.vcDet_none, SE.vcIf_true, SE.vcIf_false, SE.vcEach, SE.pickOps, SE.gslot, SE.trOp, SE.moveId, SE.trMove, SE.trPick, SE.trAlloc, SE.trBox, SE.trBuild, SE.trBuildSlice, SE.trLoad, SE.trStore, SE.trNilCheck, SE.trBin, SE.trUn, SE.trConvert, SE.trFieldAddr, SE.trField, SE.trIndexAddr, SE.trIndex, SE.trSlice, SE.trMakeSlice, SE.trExtract, SE.trLen, SE.trAppend, SE.trCopy, SE.trFn, SE.trCall, SE.argsS, SE.ev, SE.constS, SE.junk, SE.sv, SE.upd_app, SE.adds, SE.sets, SE.nid, SE.St.app, SE.St.put, SE.free, SE.freeL, SE.allFree, SE.rids, SE.AK.rids, SE.castL, SE.rdl, SE.AK.dec, SE.decs, SE.AK.enc, SE.encs, SE.AK.res, SE.ress, SE.pack1, SE.zcells, SE.zeroOf, SE.partCells, SE.putc, SE.fills, SE.datas, SE.elemOf, SE.elemsOf, SE.notSpent, SE.cellsAt, SE.weak, SE.dcellsAt, SE.slAt, SE.rdPlus, SE.intAt, SE.updElem, SE.kill, SE.noJunk, SE.inK, SE.binI, SE.shf, SE.isShift, SE.eqCells, SE.aggS, SE.intOp, SE.nested, SE.hasRdr, SE.refsC, SE.refsCs, SE.ownsC, SE.refsAr, SE.rdFits, SE.costIf, SE.Con.post, SE.Con.det, SE.Ty.cells, SE.Ty.sz, SE.Ty.zero, SE.Ty.flat, SE.Ty.dec, SE.retOk, SE.loadsS, SE.loadS, SE.decRs, SE.decR, SE.outC, SE.rdC, SE.allDiff, SE.notIn, SE.notFrozen, SE.apartL, SE.rdEnd, SE.firstReg, SE.headC, SE.fitsC, SE.idsC, SE.keepE, SE.keepM, SE.keepB, SE.inL, SE.puts, SE.ownRes, SE.ownEnv, SE.renL, SE.srcId, SE.lookR, SE.envSame, SE.envSets, SE.memSame, SE.memBlks, SE.memOwns, SE.famsOf, SE.allIn, SE.closedE, SE.closedV, SE.closedM, SE.closedR, SE.rdLe, SE.S.refs, SE.S0.refs, SE.CV.refs, SE.refsL, SE.refsT, SE.S.ren, SE.S0.ren, SE.CV.ren, SE.Res.refs, SE.Res.ren, min_i64, max_i64, min_u16, max_u16, min_u8, max_u8, min_u64, max_u64, S.s.injEq, S0.c.injEq, CV.d.injEq, DC.val.injEq, Value.int.injEq, Value.bool.injEq, Value.string.injEq, eta_fact, eta_atom, eta_asn, eta_state, List.mem_cons, List.mem_nil_iff, or_false, false_or, or_true, true_or, Option.map_some, Option.map_none, Option.bind_some, Option.getD_some, Option.getD_none, Nat.reduceEqDiff, Nat.reduceAdd, Nat.reduceMul, Nat.reduceLeDiff, ↓reduceIte, reduceCtorEq, true_and, and_true, and_self, forall_const, implies_true, true_implies, List.getElem?_toArray, List.getElem?_cons_succ, List.getElem?_cons_zero, List.append_nil, List.nil_append, List.cons_append, List.length_cons, List.length_nil, List.take_succ_cons, List.take_zero, List.drop_succ_cons, List.drop_zero, List.set_cons_zero, List.set_cons_succ, List.map_cons, List.map_nil, Nat.add_zero, Nat.zero_add, forall_eq, Prod.forall, Bool.not_true, Bool.not_false, Nat.lt_irrefl, Nat.zero_lt_succ, List.singleton_append, Prod.mk.injEq, Nat.zero_mul, Nat.one_mul, Nat.reducePow, Option.some.injEq, not_false_eq_true, Int.toNat_natCast, Nat.sub_zero, Nat.le_refl, Bool.or_false, Bool.false_or, Bool.or_true, Bool.true_or, Bool.and_true, Bool.true_and, Bool.and_false, Bool.false_and, Bool.or_self, Bool.and_self, List.append_eq, and_false, false_and]
  all_goals (try simp only [vcIf_iff, decide_eq_true_eq, decide_eq_false_iff_not, bne_iff_ne, ne_eq, beq_iff_eq, beq_eq_false_iff_ne, bne_eq_false_iff_eq, Bool.not_eq_true', Bool.not_eq_false', Int.ofNat_lt, Int.natCast_inj])
  all_goals (repeat' (first | apply And.intro | intro _))
  all_goals (first | omega | (simp_all; done) | grind [])
theorem ok_toAtom : FnOk Try.prog E 152 c_toAtom :=
  fn_ok (l := L_toAtom) (perm := fun _ => []) tabOk mix trivial Try.func152 rfl (by kernel_rfl) (by decide) (by kernel_rfl) (anns := fun x _ => fun _ => none) (fun ⟨f, _⟩ k _ _ => vc_toAtom f k) tot_fn
end Go.Proofs.Ytejcmcbpfnmlaaa

namespace Go.Proofs.Ytejcmcbpfnmlaaa
open Go.SE Go.RowKit
set_option linter.unusedSimpArgs false
set_option linter.unusedVariables false
set_option maxHeartbeats 1000000
set_option maxRecDepth 100000
/-! toAtomS -/
abbrev c_toAtomS : Con := ⟨[.sl .atom], [.sl .atom], fun (l, _) => l.length ≤ 1048576, .inl fun (l, _) => (l, ()), fun _ => 0⟩
abbrev L_toAtomS : List (FuncId × Con) := [(152, c_toAtom)]
abbrev P_toAtomS : List (FuncId × PT) := []
def an_toAtomS (l : List GAtom) : Nat → St → Option Ann
  | 3, se => some { α := Nat, ok := fun i => i ≤ l.length, mu := fun i => l.length - i, i0 := fun _ => 0, nx := fun a _ => (fun i => i + 1) a, live := [0, 2], sets := fun i => [(4, sv (.int .i64 i))], mids := [32], blks := fun i => [], owns := fun i => [⟨7, .slot 3, .atom, l.take i ++ List.replicate (l.length - i) (⟨0, 0, 0⟩ : GAtom)⟩], rd := fun r _ => r, base := 100000 }
  | _, _ => none
def VC_toAtomS (l : List GAtom) (k : Nat) : Prop := TN ∧ True ∧ True ∧ (TN ∧ (0 ≤ ((l.length : Nat) : Int) ∧ ((l.length : Nat) : Int) ≤ ((l.length : Nat) : Int) ∧ ((l.length : Nat) : Int) ≤ 4294967296)) ∧ True ∧ True ∧ ((0 ≤ l.length) ∧ TT ∧ (RL [.s (.c (.d (.arr .atom l))), .s (.c (.own 32))]) ∧ (([.s (.c (.d (.val (.int .i64 (0 : Int)))))] : List S) = [.s (.c (.d (.val (.int .i64 ((0 : Nat) : Int)))))]) ∧ (RM [some (.sl 32 .atom ([] : List GAtom))]) ∧ (RM []) ∧ (((some (List.replicate l.length (⟨0, 0, 0⟩ : GAtom)) : Option (List GAtom)) = some (l.take 0 ++ List.replicate (l.length - 0) (⟨0, 0, 0⟩ : GAtom))) ∧ True) ∧ TT) ∧ (∀ i1 : Nat, (i1 ≤ l.length) → True ∧ True ∧ True ∧ True ∧ (vcIf (decide (((i1 : Nat) : Int) < ((l.length : Nat) : Int))) (True ∧ True ∧ True ∧ True ∧ (0 ≤ ((i1 : Nat) : Int) ∧ ((i1 : Nat) : Int) < ((l.length : Nat) : Int)) ∧ True ∧ (True ∧ True ∧ True) ∧ (0 ≤ ((i1 : Nat) : Int) ∧ ((i1 : Nat) : Int) < (((l.take i1 ++ List.replicate (l.length - i1) (⟨0, 0, 0⟩ : GAtom)).length : Nat) : Int)) ∧ (TF ∧ TF ∧ True ∧ ((7 : Nat) ∉ ([] : List Nat))) ∧ True ∧ (inK .i64 (((i1 : Nat) : Int) + (1 : Int))) ∧ True ∧ ((i1 + 1) ≤ l.length) ∧ (l.length - (i1 + 1) < l.length - i1) ∧ TT ∧ (RL [.s (.c (.d (.arr .atom l))), .s (.c (.own 32))]) ∧ (([.s (.c (.d (.val (.int .i64 (((i1 : Nat) : Int) + (1 : Int))))))] : List S) = [.s (.c (.d (.val (.int .i64 (((i1 + 1) : Nat) : Int)))))]) ∧ (RM [some (.sl 32 .atom ([] : List GAtom))]) ∧ (RM []) ∧ (((some ((l.take i1 ++ List.replicate (l.length - i1) (⟨0, 0, 0⟩ : GAtom)).set i1 (l.getD i1 (⟨0, 0, 0⟩ : GAtom))) : Option (List GAtom)) = some (l.take (i1 + 1) ++ List.replicate (l.length - (i1 + 1)) (⟨0, 0, 0⟩ : GAtom))) ∧ True) ∧ TT) (True ∧ True ∧ (((l.take i1 ++ List.replicate (l.length - i1) (⟨0, 0, 0⟩ : GAtom), ()) : (List GAtom) × Unit) = (l, ())) ∧ (True ∧ True) ∧ ((TF ∧ TF) ∧ True) ∧ True ∧ (True ∧ True) ∧ TF)))
theorem vcn_toAtomS (l : List GAtom) (k : Nat) (hp : l.length ≤ 1048576) : VC_toAtomS l k := by
  unfold VC_toAtomS
  simp only [TT, TF, TN, RL, RM, true_and, and_true, eq_self, implies_true, forall_const, List.cons.injEq, S.s.injEq, S0.c.injEq, S0.agg.injEq, CV.d.injEq, CV.own.injEq, CV.ptr.injEq, DC.val.injEq, Value.int.injEq, Value.bool.injEq, Option.some.injEq, Res.blk.injEq, Prod.mk.injEq, inK, min_i64, max_i64, min_u16, max_u16, min_u8, max_u8, min_u64, max_u64, vcIf_true, vcIf_false, List.mem_nil_iff, List.not_mem_nil, not_false_eq_true, Nat.reduceEqDiff, Nat.reduceLeDiff, ne_eq, Bool.and_true, Nat.add_zero, List.append_nil, List.nil_append, List.length_nil, List.length_cons, Nat.zero_add, Nat.reduceAdd, Int.toNat_natCast, Nat.sub_zero, List.drop_zero, List.map_nil, List.take_zero, forall_eq]
  all_goals (try simp only [vcIf_iff, decide_eq_true_eq, decide_eq_false_iff_not, bne_iff_ne, ne_eq, beq_iff_eq, beq_eq_false_iff_ne, bne_eq_false_iff_eq, Bool.not_eq_true', Bool.not_eq_false', Int.ofNat_lt, Int.natCast_inj])
  all_goals (repeat' (first | apply And.intro | intro _))
  all_goals (first | omega | (simp_all; done) | grind [copy_step, take_full])
theorem vce_toAtomS (l : List GAtom) (k : Nat) : VC_toAtomS l k = vcQ tab (lookF L_toAtomS) (lookP P_toAtomS) (fun _ => false) (fun _ => none) (an_toAtomS l) (fun _ => []) (bodyOf Try.f115) (entry (encs c_toAtomS.aks (l, ())) (rdOf false k)) (retOk tab c_toAtomS Try.f115.results.toList (l, ()) k) := by kernel_rfl
theorem vc_toAtomS (l : List GAtom) (k : Nat) (hp : l.length ≤ 1048576) : vcQ tab (lookF L_toAtomS) (lookP P_toAtomS) (fun _ => false) (fun _ => none) (an_toAtomS l) (fun _ => []) (bodyOf Try.f115) (entry (encs c_toAtomS.aks (l, ())) (rdOf false k)) (retOk tab c_toAtomS Try.f115.results.toList (l, ()) k) := (vce_toAtomS l k).mp (vcn_toAtomS l k hp)
theorem ok_toAtomS : FnOk Try.prog E 115 c_toAtomS :=
  fn_okQ (l := L_toAtomS) (lp := P_toAtomS) (hp := fun _ => false) (gcs := fun _ => none) (perm := fun _ => []) tabOk mix ⟨ok_toAtom, trivial⟩ trivial Try.func115 rfl (by kernel_rfl) (by decide) (by kernel_rfl) (anns := fun x _ => an_toAtomS x.1) (fun ⟨l, _⟩ k hp _ => vc_toAtomS l k hp) tot_fn
end Go.Proofs.Ytejcmcbpfnmlaaa

namespace Go.Proofs.Ytejcmcbpfnmlaaa
open Go.SE Go.RowKit
set_option linter.unusedSimpArgs false
set_option linter.unusedVariables false
set_option maxHeartbeats 1000000
set_option maxRecDepth 100000
/-! toAssertion -/
abbrev c_toAssertion : Con := ⟨[.asn], [.asn], fun (a, _) => a.facts.length ≤ 1048576 ∧ a.atoms.length ≤ 1048576, .inl fun (a, _) => (a, ()), fun _ => 0⟩
abbrev L_toAssertion : List (FuncId × Con) := [(114, c_toFactS), (115, c_toAtomS)]
abbrev P_toAssertion : List (FuncId × PT) := []
def VC_toAssertion (a : GAsn) (k : Nat) : Prop := TN ∧ (TN ∧ TN ∧ TN ∧ True) ∧ (TN ∧ TN ∧ TN ∧ True) ∧ True ∧ True ∧ ((a.facts.length ≤ 1048576) ∧ True ∧ TN ∧ True) ∧ True ∧ (TF ∧ TF) ∧ True ∧ True ∧ ((a.atoms.length ≤ 1048576) ∧ True ∧ TN ∧ True) ∧ True ∧ (TF ∧ TF) ∧ True ∧ (TF ∧ TF) ∧ (((a, ()) : GAsn × Unit) = (a, ())) ∧ ((((96 : Nat) ≠ 160) ∧ True) ∧ True ∧ True) ∧ ((TF ∧ TF) ∧ (TF ∧ TF) ∧ True) ∧ True ∧ (True ∧ True ∧ True) ∧ TF
theorem vcn_toAssertion (a : GAsn) (k : Nat) (hp : a.facts.length ≤ 1048576 ∧ a.atoms.length ≤ 1048576) : VC_toAssertion a k := by
  unfold VC_toAssertion
  simp only [TT, TF, TN, RL, RM, true_and, and_true, eq_self, implies_true, forall_const, List.cons.injEq, S.s.injEq, S0.c.injEq, S0.agg.injEq, CV.d.injEq, CV.own.injEq, CV.ptr.injEq, DC.val.injEq, Value.int.injEq, Value.bool.injEq, Option.some.injEq, Res.blk.injEq, Prod.mk.injEq, inK, min_i64, max_i64, min_u16, max_u16, min_u8, max_u8, min_u64, max_u64, vcIf_true, vcIf_false, List.mem_nil_iff, List.not_mem_nil, not_false_eq_true, Nat.reduceEqDiff, Nat.reduceLeDiff, ne_eq, Bool.and_true, Nat.add_zero, List.append_nil, List.nil_append, List.length_nil, List.length_cons, Nat.zero_add, Nat.reduceAdd, Int.toNat_natCast, Nat.sub_zero, List.drop_zero, List.map_nil, List.take_zero, forall_eq]
  all_goals (try simp only [vcIf_iff, decide_eq_true_eq, decide_eq_false_iff_not, bne_iff_ne, ne_eq, beq_iff_eq, beq_eq_false_iff_ne, bne_eq_false_iff_eq, Bool.not_eq_true', Bool.not_eq_false', Int.ofNat_lt, Int.natCast_inj])
  all_goals (repeat' (first | apply And.intro | intro _))
  all_goals (first | omega | (simp_all; done) | grind [])
theorem vce_toAssertion (a : GAsn) (k : Nat) : VC_toAssertion a k = vcQ tab (lookF L_toAssertion) (lookP P_toAssertion) (fun _ => false) (fun _ => none) (fun _ _ => none) (fun _ => []) (bodyOf Try.f50) (entry (encs c_toAssertion.aks (a, ())) (rdOf false k)) (retOk tab c_toAssertion Try.f50.results.toList (a, ()) k) := by kernel_rfl
theorem vc_toAssertion (a : GAsn) (k : Nat) (hp : a.facts.length ≤ 1048576 ∧ a.atoms.length ≤ 1048576) : vcQ tab (lookF L_toAssertion) (lookP P_toAssertion) (fun _ => false) (fun _ => none) (fun _ _ => none) (fun _ => []) (bodyOf Try.f50) (entry (encs c_toAssertion.aks (a, ())) (rdOf false k)) (retOk tab c_toAssertion Try.f50.results.toList (a, ()) k) := (vce_toAssertion a k).mp (vcn_toAssertion a k hp)
theorem ok_toAssertion : FnOk Try.prog E 50 c_toAssertion :=
  fn_okQ (l := L_toAssertion) (lp := P_toAssertion) (hp := fun _ => false) (gcs := fun _ => none) (perm := fun _ => []) tabOk mix ⟨ok_toFactS, ok_toAtomS, trivial⟩ trivial Try.func50 rfl (by kernel_rfl) (by decide) (by kernel_rfl) (anns := fun x _ => fun _ _ => none) (fun ⟨a, _⟩ k hp _ => vc_toAssertion a k hp) tot_fn
end Go.Proofs.Ytejcmcbpfnmlaaa

namespace Go.Proofs.Ytejcmcbpfnmlaaa
open Go.SE Go.RowKit
set_option linter.unusedSimpArgs false
set_option linter.unusedVariables false
set_option maxHeartbeats 1000000
set_option maxRecDepth 100000
/-! eqFact -/
abbrev c_eqFact : Con := ⟨[.fact, .fact], [.bool], fun _ => True, .inl fun (f, g, _) => (decide (f = g), ()), fun _ => 0⟩
abbrev L_eqFact : List (FuncId × Con) := []
abbrev P_eqFact : List (FuncId × PT) := []
def VC_eqFact (f : GFact) (g : GFact) (k : Nat) : Prop := TN ∧ TN ∧ True ∧ True ∧ True ∧ True ∧ True ∧ True ∧ (vcIf (f.eq != g.eq) (True ∧ (((false, ()) : Bool × Unit) = (decide (f = g), ())) ∧ True ∧ True ∧ True ∧ True ∧ TF) (True ∧ True ∧ True ∧ True ∧ True ∧ (vcIf (f.a != g.a) (True ∧ (((false, ()) : Bool × Unit) = (decide (f = g), ())) ∧ True ∧ True ∧ True ∧ True ∧ TF) (True ∧ True ∧ True ∧ True ∧ True ∧ (vcIf (f.b != g.b) (True ∧ (((false, ()) : Bool × Unit) = (decide (f = g), ())) ∧ True ∧ True ∧ True ∧ True ∧ TF) (True ∧ (((true, ()) : Bool × Unit) = (decide (f = g), ())) ∧ True ∧ True ∧ True ∧ True ∧ TF))))))
theorem vcn_eqFact (f : GFact) (g : GFact) (k : Nat) : VC_eqFact f g k := by
  unfold VC_eqFact
  simp only [TT, TF, TN, RL, RM, true_and, and_true, eq_self, implies_true, forall_const, List.cons.injEq, S.s.injEq, S0.c.injEq, S0.agg.injEq, CV.d.injEq, CV.own.injEq, CV.ptr.injEq, DC.val.injEq, Value.int.injEq, Value.bool.injEq, Option.some.injEq, Res.blk.injEq, Prod.mk.injEq, inK, min_i64, max_i64, min_u16, max_u16, min_u8, max_u8, min_u64, max_u64, vcIf_true, vcIf_false, List.mem_nil_iff, List.not_mem_nil, not_false_eq_true, Nat.reduceEqDiff, Nat.reduceLeDiff, ne_eq, Bool.and_true, Nat.add_zero, List.append_nil, List.nil_append, List.length_nil, List.length_cons, Nat.zero_add, Nat.reduceAdd, Int.toNat_natCast, Nat.sub_zero, List.drop_zero, List.map_nil, List.take_zero, forall_eq]
  obtain ⟨f1, f2, f3⟩ := f; obtain ⟨g1, g2, g3⟩ := g
  all_goals (try simp only [vcIf_iff, decide_eq_true_eq, decide_eq_false_iff_not, bne_iff_ne, ne_eq, beq_iff_eq, beq_eq_false_iff_ne, bne_eq_false_iff_eq, Bool.not_eq_true', Bool.not_eq_false', Int.ofNat_lt, Int.natCast_inj])
  all_goals (repeat' (first | apply And.intro | intro _))
  all_goals (first | omega | (simp_all; done) | grind [])
theorem vce_eqFact (f : GFact) (g : GFact) (k : Nat) : VC_eqFact f g k = vcQ tab (lookF L_eqFact) (lookP P_eqFact) (fun _ => false) (fun _ => none) (fun _ _ => none) (fun _ => []) (bodyOf Try.f157) (entry (encs c_eqFact.aks (f, g, ())) (rdOf false k)) (retOk tab c_eqFact Try.f157.results.toList (f, g, ()) k) := by kernel_rfl
theorem vc_eqFact (f : GFact) (g : GFact) (k : Nat) : vcQ tab (lookF L_eqFact) (lookP P_eqFact) (fun _ => false) (fun _ => none) (fun _ _ => none) (fun _ => []) (bodyOf Try.f157) (entry (encs c_eqFact.aks (f, g, ())) (rdOf false k)) (retOk tab c_eqFact Try.f157.results.toList (f, g, ()) k) := (vce_eqFact f g k).mp (vcn_eqFact f g k)
theorem ok_eqFact : FnOk Try.prog E 157 c_eqFact :=
  fn_okQ (l := L_eqFact) (lp := P_eqFact) (hp := fun _ => false) (gcs := fun _ => none) (perm := fun _ => []) tabOk mix trivial trivial Try.func157 rfl (by kernel_rfl) (by decide) (by kernel_rfl) (anns := fun x _ => fun _ _ => none) (fun ⟨f, g, _⟩ k _ _ => vc_eqFact f g k) tot_fn
end Go.Proofs.Ytejcmcbpfnmlaaa

namespace Go.Proofs.Ytejcmcbpfnmlaaa
open Go.SE Go.RowKit
set_option linter.unusedSimpArgs false
set_option linter.unusedVariables false
set_option maxHeartbeats 1000000
set_option maxRecDepth 100000
/-! eqFactS -/
abbrev c_eqFactS : Con := ⟨[.sl .fact, .sl .fact], [.bool], fun (a, b, _) => a.length ≤ 281474976710656 ∧ b.length ≤ 281474976710656, .inl fun (a, b, _) => (decide (a = b), ()), fun _ => 0⟩
abbrev L_eqFactS : List (FuncId × Con) := [(157, c_eqFact)]
abbrev P_eqFactS : List (FuncId × PT) := []
def an_eqFactS (a : List GFact) (b : List GFact) : Nat → St → Option Ann
  | 4, se => some { α := Nat, ok := fun i => i ≤ a.length ∧ a.length = b.length ∧ a.take i = b.take i, mu := fun i => a.length - i, i0 := fun _ => 0, nx := fun a _ => (fun i => i + 1) a, live := [0, 1], sets := fun i => [(5, sv (.int .i64 i))], mids := [], blks := fun i => [], owns := fun i => [], rd := fun r _ => r, base := 100000 }
  | _, _ => none
def VC_eqFactS (a : List GFact) (b : List GFact) (k : Nat) : Prop := True ∧ True ∧ True ∧ True ∧ True ∧ True ∧ (vcIf (((a.length : Nat) : Int) != ((b.length : Nat) : Int)) (True ∧ (((false, ()) : Bool × Unit) = (decide (a = b), ())) ∧ True ∧ True ∧ True ∧ True ∧ TF) (True ∧ ((0 ≤ a.length ∧ a.length = b.length ∧ a.take 0 = b.take 0) ∧ TT ∧ (RL [.s (.c (.d (.arr .fact a))), .s (.c (.d (.arr .fact b)))]) ∧ (([.s (.c (.d (.val (.int .i64 (0 : Int)))))] : List S) = [.s (.c (.d (.val (.int .i64 ((0 : Nat) : Int)))))]) ∧ (RM []) ∧ (RM []) ∧ True ∧ TT) ∧ (∀ i1 : Nat, (i1 ≤ a.length ∧ a.length = b.length ∧ a.take i1 = b.take i1) → True ∧ True ∧ True ∧ True ∧ (vcIf (decide (((i1 : Nat) : Int) < ((a.length : Nat) : Int))) (True ∧ True ∧ (0 ≤ ((i1 : Nat) : Int) ∧ ((i1 : Nat) : Int) < ((a.length : Nat) : Int)) ∧ True ∧ True ∧ True ∧ (0 ≤ ((i1 : Nat) : Int) ∧ ((i1 : Nat) : Int) < ((b.length : Nat) : Int)) ∧ True ∧ (True ∧ True ∧ True) ∧ True ∧ (vcIf (!(decide ((a.getD i1 (⟨false, 0, 0⟩ : GFact)) = (b.getD i1 (⟨false, 0, 0⟩ : GFact))))) (True ∧ (((false, ()) : Bool × Unit) = (decide (a = b), ())) ∧ True ∧ True ∧ True ∧ True ∧ TF) (True ∧ (inK .i64 (((i1 : Nat) : Int) + (1 : Int))) ∧ True ∧ ((i1 + 1) ≤ a.length ∧ a.length = b.length ∧ a.take (i1 + 1) = b.take (i1 + 1)) ∧ (a.length - (i1 + 1) < a.length - i1) ∧ TT ∧ (RL [.s (.c (.d (.arr .fact a))), .s (.c (.d (.arr .fact b)))]) ∧ (([.s (.c (.d (.val (.int .i64 (((i1 : Nat) : Int) + (1 : Int))))))] : List S) = [.s (.c (.d (.val (.int .i64 (((i1 + 1) : Nat) : Int)))))]) ∧ (RM []) ∧ (RM []) ∧ True ∧ TT))) (True ∧ (((true, ()) : Bool × Unit) = (decide (a = b), ())) ∧ True ∧ True ∧ True ∧ True ∧ TF)))))
theorem vcn_eqFactS (a : List GFact) (b : List GFact) (k : Nat) (hp : a.length ≤ 281474976710656 ∧ b.length ≤ 281474976710656) : VC_eqFactS a b k := by
  unfold VC_eqFactS
  simp only [TT, TF, TN, RL, RM, true_and, and_true, eq_self, implies_true, forall_const, List.cons.injEq, S.s.injEq, S0.c.injEq, S0.agg.injEq, CV.d.injEq, CV.own.injEq, CV.ptr.injEq, DC.val.injEq, Value.int.injEq, Value.bool.injEq, Option.some.injEq, Res.blk.injEq, Prod.mk.injEq, inK, min_i64, max_i64, min_u16, max_u16, min_u8, max_u8, min_u64, max_u64, vcIf_true, vcIf_false, List.mem_nil_iff, List.not_mem_nil, not_false_eq_true, Nat.reduceEqDiff, Nat.reduceLeDiff, ne_eq, Bool.and_true, Nat.add_zero, List.append_nil, List.nil_append, List.length_nil, List.length_cons, Nat.zero_add, Nat.reduceAdd, Int.toNat_natCast, Nat.sub_zero, List.drop_zero, List.map_nil, List.take_zero, forall_eq]
  all_goals (try simp only [vcIf_iff, decide_eq_true_eq, decide_eq_false_iff_not, bne_iff_ne, ne_eq, beq_iff_eq, beq_eq_false_iff_ne, bne_eq_false_iff_eq, Bool.not_eq_true', Bool.not_eq_false', Int.ofNat_lt, Int.natCast_inj])
  all_goals (repeat' (first | apply And.intro | intro _))
  all_goals (first | omega | (simp_all; done) | grind [same_step, same_not, take_full])
theorem vce_eqFactS (a : List GFact) (b : List GFact) (k : Nat) : VC_eqFactS a b k = vcQ tab (lookF L_eqFactS) (lookP P_eqFactS) (fun _ => false) (fun _ => none) (an_eqFactS a b) (fun _ => []) (bodyOf Try.f118) (entry (encs c_eqFactS.aks (a, b, ())) (rdOf false k)) (retOk tab c_eqFactS Try.f118.results.toList (a, b, ()) k) := by kernel_rfl
theorem vc_eqFactS (a : List GFact) (b : List GFact) (k : Nat) (hp : a.length ≤ 281474976710656 ∧ b.length ≤ 281474976710656) : vcQ tab (lookF L_eqFactS) (lookP P_eqFactS) (fun _ => false) (fun _ => none) (an_eqFactS a b) (fun _ => []) (bodyOf Try.f118) (entry (encs c_eqFactS.aks (a, b, ())) (rdOf false k)) (retOk tab c_eqFactS Try.f118.results.toList (a, b, ()) k) := (vce_eqFactS a b k).mp (vcn_eqFactS a b k hp)
theorem ok_eqFactS : FnOk Try.prog E 118 c_eqFactS :=
  fn_okQ (l := L_eqFactS) (lp := P_eqFactS) (hp := fun _ => false) (gcs := fun _ => none) (perm := fun _ => []) tabOk mix ⟨ok_eqFact, trivial⟩ trivial Try.func118 rfl (by kernel_rfl) (by decide) (by kernel_rfl) (anns := fun x _ => an_eqFactS x.1 x.2.1) (fun ⟨a, b, _⟩ k hp _ => vc_eqFactS a b k hp) tot_fn
end Go.Proofs.Ytejcmcbpfnmlaaa

namespace Go.Proofs.Ytejcmcbpfnmlaaa
open Go.SE Go.RowKit
set_option linter.unusedSimpArgs false
set_option linter.unusedVariables false
set_option maxHeartbeats 1000000
set_option maxRecDepth 100000
/-! eqAtom -/
abbrev c_eqAtom : Con := ⟨[.atom, .atom], [.bool], fun _ => True, .inl fun (f, g, _) => (decide (f = g), ()), fun _ => 0⟩
abbrev L_eqAtom : List (FuncId × Con) := []
abbrev P_eqAtom : List (FuncId × PT) := []
def VC_eqAtom (f : GAtom) (g : GAtom) (k : Nat) : Prop := TN ∧ TN ∧ True ∧ True ∧ True ∧ True ∧ True ∧ True ∧ (vcIf (f.kind != g.kind) (True ∧ (((false, ()) : Bool × Unit) = (decide (f = g), ())) ∧ True ∧ True ∧ True ∧ True ∧ TF) (True ∧ True ∧ True ∧ True ∧ True ∧ (vcIf (f.a != g.a) (True ∧ (((false, ()) : Bool × Unit) = (decide (f = g), ())) ∧ True ∧ True ∧ True ∧ True ∧ TF) (True ∧ True ∧ True ∧ True ∧ True ∧ (vcIf (f.b != g.b) (True ∧ (((false, ()) : Bool × Unit) = (decide (f = g), ())) ∧ True ∧ True ∧ True ∧ True ∧ TF) (True ∧ (((true, ()) : Bool × Unit) = (decide (f = g), ())) ∧ True ∧ True ∧ True ∧ True ∧ TF))))))
theorem vcn_eqAtom (f : GAtom) (g : GAtom) (k : Nat) : VC_eqAtom f g k := by
  unfold VC_eqAtom
  simp only [TT, TF, TN, RL, RM, true_and, and_true, eq_self, implies_true, forall_const, List.cons.injEq, S.s.injEq, S0.c.injEq, S0.agg.injEq, CV.d.injEq, CV.own.injEq, CV.ptr.injEq, DC.val.injEq, Value.int.injEq, Value.bool.injEq, Option.some.injEq, Res.blk.injEq, Prod.mk.injEq, inK, min_i64, max_i64, min_u16, max_u16, min_u8, max_u8, min_u64, max_u64, vcIf_true, vcIf_false, List.mem_nil_iff, List.not_mem_nil, not_false_eq_true, Nat.reduceEqDiff, Nat.reduceLeDiff, ne_eq, Bool.and_true, Nat.add_zero, List.append_nil, List.nil_append, List.length_nil, List.length_cons, Nat.zero_add, Nat.reduceAdd, Int.toNat_natCast, Nat.sub_zero, List.drop_zero, List.map_nil, List.take_zero, forall_eq]
  obtain ⟨f1, f2, f3⟩ := f; obtain ⟨g1, g2, g3⟩ := g
  all_goals (try simp only [vcIf_iff, decide_eq_true_eq, decide_eq_false_iff_not, bne_iff_ne, ne_eq, beq_iff_eq, beq_eq_false_iff_ne, bne_eq_false_iff_eq, Bool.not_eq_true', Bool.not_eq_false', Int.ofNat_lt, Int.natCast_inj])
  all_goals (repeat' (first | apply And.intro | intro _))
  all_goals (first | omega | (simp_all; done) | grind [])
theorem vce_eqAtom (f : GAtom) (g : GAtom) (k : Nat) : VC_eqAtom f g k = vcQ tab (lookF L_eqAtom) (lookP P_eqAtom) (fun _ => false) (fun _ => none) (fun _ _ => none) (fun _ => []) (bodyOf Try.f158) (entry (encs c_eqAtom.aks (f, g, ())) (rdOf false k)) (retOk tab c_eqAtom Try.f158.results.toList (f, g, ()) k) := by kernel_rfl
theorem vc_eqAtom (f : GAtom) (g : GAtom) (k : Nat) : vcQ tab (lookF L_eqAtom) (lookP P_eqAtom) (fun _ => false) (fun _ => none) (fun _ _ => none) (fun _ => []) (bodyOf Try.f158) (entry (encs c_eqAtom.aks (f, g, ())) (rdOf false k)) (retOk tab c_eqAtom Try.f158.results.toList (f, g, ()) k) := (vce_eqAtom f g k).mp (vcn_eqAtom f g k)
theorem ok_eqAtom : FnOk Try.prog E 158 c_eqAtom :=
  fn_okQ (l := L_eqAtom) (lp := P_eqAtom) (hp := fun _ => false) (gcs := fun _ => none) (perm := fun _ => []) tabOk mix trivial trivial Try.func158 rfl (by kernel_rfl) (by decide) (by kernel_rfl) (anns := fun x _ => fun _ _ => none) (fun ⟨f, g, _⟩ k _ _ => vc_eqAtom f g k) tot_fn
end Go.Proofs.Ytejcmcbpfnmlaaa
