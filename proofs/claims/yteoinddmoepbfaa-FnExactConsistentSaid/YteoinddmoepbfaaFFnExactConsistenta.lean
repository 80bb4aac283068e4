/-
  Contracts of single functions of the program, each shown by the engine: what a call returns for arguments within the contract's bounds.
-/
import Derived.Test.YteoinddmoepbfaaProg
import Derived.KernelRfl
import Derived.Test.YteoinddmoepbfaaEd
import Derived.Test.YteoinddmoepbfaaEe
import Derived.Test.YteoinddmoepbfaaEf
set_option linter.unusedSimpArgs false
set_option linter.unusedVariables false
set_option linter.unusedSectionVars false

namespace Go.Proofs.Yteoinddmoepbfaa
open Go.SE Go.RowKit
def E : Ty → TypeId
  | .int => 3
  | .bool => 4
  | .u8 => 5
  | .fact => 28
  | .atom => 75
  | .cmd => 0
  | .ints => 51
def tabL : List (TypeId × TI) := [
  (2, ⟨1, 8, .sc (.int .i64 0)⟩),
  (3, ⟨1, 8, .sc (.int .i64 0)⟩),
  (4, ⟨1, 1, .sc (.bool false)⟩),
  (5, ⟨1, 1, .sc (.int .u8 0)⟩),
  (7, ⟨4, 24, .st [.sc (.int .i64 0), .sc (.int .i64 0), .sc (.bool false), .sc (.int .u8 0)] [(0, 1, false), (1, 1, false), (2, 1, false), (3, 1, false)]⟩),
  (9, ⟨1, 16, .sc (.string ⟨#[]⟩)⟩),
  (12, ⟨1, 8, .sc (.int .u64 0)⟩),
  (13, ⟨2, 24, .st [.sc (.string ⟨#[]⟩), .sc (.int .u64 0)] [(0, 1, false), (1, 1, false)]⟩),
  (21, ⟨1, 4, .sc (.int .i32 0)⟩),
  (22, ⟨1, 24, .sl true 5 .u8⟩),
  (23, ⟨1, 24, .sl true 28 .fact⟩),
  (24, ⟨1, 24, .sl true 75 .atom⟩),
  (25, ⟨2, 48, .st [.sl .fact, .sl .atom] [(0, 1, false), (1, 1, false)]⟩),
  (26, ⟨2, 48, .st [.sl .fact, .sl .atom] [(0, 1, false), (1, 1, false)]⟩),
  (27, ⟨3, 24, .st [.sc (.bool false), .sc (.int .i64 0), .sc (.int .i64 0)] [(0, 1, false), (1, 1, false), (2, 1, false)]⟩),
  (28, ⟨3, 24, .st [.sc (.bool false), .sc (.int .i64 0), .sc (.int .i64 0)] [(0, 1, false), (1, 1, false), (2, 1, false)]⟩),
  (35, ⟨1, 24, .sl false 43 .fact⟩),
  (36, ⟨1, 24, .sl false 143 .atom⟩),
  (37, ⟨2, 48, .st [.sl .fact, .sl .atom] [(0, 1, false), (1, 1, false)]⟩),
  (38, ⟨2, 48, .st [.sl .fact, .sl .atom] [(0, 1, false), (1, 1, false)]⟩),
  (43, ⟨3, 24, .st [.sc (.bool false), .sc (.int .i64 0), .sc (.int .i64 0)] [(0, 1, false), (1, 1, false), (2, 1, false)]⟩),
  (51, ⟨1, 24, .sl true 3 .int⟩),
  (52, ⟨2, 48, .st [.sl .int, .sl .int] [(0, 1, false), (1, 1, false)]⟩),
  (53, ⟨2, 48, .st [.sl .int, .sl .int] [(0, 1, false), (1, 1, false)]⟩),
  (57, ⟨2, 48, .st [.sl .int, .sl .int] [(0, 1, false), (1, 1, false)]⟩),
  (74, ⟨3, 24, .st [.sc (.int .i64 0), .sc (.int .i64 0), .sc (.int .i64 0)] [(0, 1, false), (1, 1, false), (2, 1, false)]⟩),
  (75, ⟨3, 24, .st [.sc (.int .i64 0), .sc (.int .i64 0), .sc (.int .i64 0)] [(0, 1, false), (1, 1, false), (2, 1, false)]⟩),
  (82, ⟨1, 2, .sc (.int .u16 0)⟩),
  (83, ⟨1, 2, .sc (.int .u16 0)⟩),
  (88, ⟨9, 72, .ar 9 3 .int⟩),
  (89, ⟨9, 72, .ar 9 3 .int⟩),
  (90, ⟨1, 24, .sl true 4 .bool⟩),
  (112, ⟨1, 24, .sl true 51 .ints⟩),
  (128, ⟨9, 72, .ar 9 3 .int⟩),
  (131, ⟨2, 32, .st [.sl .u8, .sc (.int .i64 0)] [(0, 1, false), (1, 1, false)]⟩),
  (132, ⟨2, 32, .st [.sl .u8, .sc (.int .i64 0)] [(0, 1, false), (1, 1, false)]⟩),
  (143, ⟨3, 24, .st [.sc (.int .i64 0), .sc (.int .i64 0), .sc (.int .i64 0)] [(0, 1, false), (1, 1, false), (2, 1, false)]⟩),
  (148, ⟨6, 6, .ar 6 4 .bool⟩),
  (149, ⟨8, 40, .st [.sl .atom, .sc (.bool false), .sc (.bool false), .sc (.bool false), .sc (.bool false), .sc (.bool false), .sc (.bool false), .sc (.int .i64 0)] [(0, 1, false), (1, 6, true), (7, 1, false)]⟩),
  (150, ⟨8, 40, .st [.sl .atom, .sc (.bool false), .sc (.bool false), .sc (.bool false), .sc (.bool false), .sc (.bool false), .sc (.bool false), .sc (.int .i64 0)] [(0, 1, false), (1, 6, true), (7, 1, false)]⟩),
  (168, ⟨1, 4, .sc (.int .u32 0)⟩),
  (180, ⟨1, 8, .sc (.int .u64 0)⟩)]
def tab : TypeId → Option TI := lookT tabL
theorem tab2 : tab 2 = some ⟨1, 8, .sc (.int .i64 0)⟩ := rfl
theorem tab3 : tab 3 = some ⟨1, 8, .sc (.int .i64 0)⟩ := rfl
theorem tab4 : tab 4 = some ⟨1, 1, .sc (.bool false)⟩ := rfl
theorem tab5 : tab 5 = some ⟨1, 1, .sc (.int .u8 0)⟩ := rfl
theorem tab7 : tab 7 = some ⟨4, 24, .st [.sc (.int .i64 0), .sc (.int .i64 0), .sc (.bool false), .sc (.int .u8 0)] [(0, 1, false), (1, 1, false), (2, 1, false), (3, 1, false)]⟩ := rfl
theorem tab9 : tab 9 = some ⟨1, 16, .sc (.string ⟨#[]⟩)⟩ := rfl
theorem tab12 : tab 12 = some ⟨1, 8, .sc (.int .u64 0)⟩ := rfl
theorem tab13 : tab 13 = some ⟨2, 24, .st [.sc (.string ⟨#[]⟩), .sc (.int .u64 0)] [(0, 1, false), (1, 1, false)]⟩ := rfl
theorem tab21 : tab 21 = some ⟨1, 4, .sc (.int .i32 0)⟩ := rfl
theorem tab22 : tab 22 = some ⟨1, 24, .sl true 5 .u8⟩ := rfl
theorem tab23 : tab 23 = some ⟨1, 24, .sl true 28 .fact⟩ := rfl
theorem tab24 : tab 24 = some ⟨1, 24, .sl true 75 .atom⟩ := rfl
theorem tab25 : tab 25 = some ⟨2, 48, .st [.sl .fact, .sl .atom] [(0, 1, false), (1, 1, false)]⟩ := rfl
theorem tab26 : tab 26 = some ⟨2, 48, .st [.sl .fact, .sl .atom] [(0, 1, false), (1, 1, false)]⟩ := rfl
theorem tab27 : tab 27 = some ⟨3, 24, .st [.sc (.bool false), .sc (.int .i64 0), .sc (.int .i64 0)] [(0, 1, false), (1, 1, false), (2, 1, false)]⟩ := rfl
theorem tab28 : tab 28 = some ⟨3, 24, .st [.sc (.bool false), .sc (.int .i64 0), .sc (.int .i64 0)] [(0, 1, false), (1, 1, false), (2, 1, false)]⟩ := rfl
theorem tab35 : tab 35 = some ⟨1, 24, .sl false 43 .fact⟩ := rfl
theorem tab36 : tab 36 = some ⟨1, 24, .sl false 143 .atom⟩ := rfl
theorem tab37 : tab 37 = some ⟨2, 48, .st [.sl .fact, .sl .atom] [(0, 1, false), (1, 1, false)]⟩ := rfl
theorem tab38 : tab 38 = some ⟨2, 48, .st [.sl .fact, .sl .atom] [(0, 1, false), (1, 1, false)]⟩ := rfl
theorem tab43 : tab 43 = some ⟨3, 24, .st [.sc (.bool false), .sc (.int .i64 0), .sc (.int .i64 0)] [(0, 1, false), (1, 1, false), (2, 1, false)]⟩ := rfl
theorem tab51 : tab 51 = some ⟨1, 24, .sl true 3 .int⟩ := rfl
theorem tab52 : tab 52 = some ⟨2, 48, .st [.sl .int, .sl .int] [(0, 1, false), (1, 1, false)]⟩ := rfl
theorem tab53 : tab 53 = some ⟨2, 48, .st [.sl .int, .sl .int] [(0, 1, false), (1, 1, false)]⟩ := rfl
theorem tab57 : tab 57 = some ⟨2, 48, .st [.sl .int, .sl .int] [(0, 1, false), (1, 1, false)]⟩ := rfl
theorem tab74 : tab 74 = some ⟨3, 24, .st [.sc (.int .i64 0), .sc (.int .i64 0), .sc (.int .i64 0)] [(0, 1, false), (1, 1, false), (2, 1, false)]⟩ := rfl
theorem tab75 : tab 75 = some ⟨3, 24, .st [.sc (.int .i64 0), .sc (.int .i64 0), .sc (.int .i64 0)] [(0, 1, false), (1, 1, false), (2, 1, false)]⟩ := rfl
theorem tab82 : tab 82 = some ⟨1, 2, .sc (.int .u16 0)⟩ := rfl
theorem tab83 : tab 83 = some ⟨1, 2, .sc (.int .u16 0)⟩ := rfl
theorem tab88 : tab 88 = some ⟨9, 72, .ar 9 3 .int⟩ := rfl
theorem tab89 : tab 89 = some ⟨9, 72, .ar 9 3 .int⟩ := rfl
theorem tab90 : tab 90 = some ⟨1, 24, .sl true 4 .bool⟩ := rfl
theorem tab112 : tab 112 = some ⟨1, 24, .sl true 51 .ints⟩ := rfl
theorem tab128 : tab 128 = some ⟨9, 72, .ar 9 3 .int⟩ := rfl
theorem tab131 : tab 131 = some ⟨2, 32, .st [.sl .u8, .sc (.int .i64 0)] [(0, 1, false), (1, 1, false)]⟩ := rfl
theorem tab132 : tab 132 = some ⟨2, 32, .st [.sl .u8, .sc (.int .i64 0)] [(0, 1, false), (1, 1, false)]⟩ := rfl
theorem tab143 : tab 143 = some ⟨3, 24, .st [.sc (.int .i64 0), .sc (.int .i64 0), .sc (.int .i64 0)] [(0, 1, false), (1, 1, false), (2, 1, false)]⟩ := rfl
theorem tab148 : tab 148 = some ⟨6, 6, .ar 6 4 .bool⟩ := rfl
theorem tab149 : tab 149 = some ⟨8, 40, .st [.sl .atom, .sc (.bool false), .sc (.bool false), .sc (.bool false), .sc (.bool false), .sc (.bool false), .sc (.bool false), .sc (.int .i64 0)] [(0, 1, false), (1, 6, true), (7, 1, false)]⟩ := rfl
theorem tab150 : tab 150 = some ⟨8, 40, .st [.sl .atom, .sc (.bool false), .sc (.bool false), .sc (.bool false), .sc (.bool false), .sc (.bool false), .sc (.bool false), .sc (.int .i64 0)] [(0, 1, false), (1, 6, true), (7, 1, false)]⟩ := rfl
theorem tab168 : tab 168 = some ⟨1, 4, .sc (.int .u32 0)⟩ := rfl
theorem tab180 : tab 180 = some ⟨1, 8, .sc (.int .u64 0)⟩ := rfl
theorem tabOk : TabOk Try.prog E tab := tab_ok (by kernel_rfl)
theorem mix : Try.prog.follows .mixedOrders = true := by kernel_rfl
end Go.Proofs.Yteoinddmoepbfaa

namespace Go.Proofs.Yteoinddmoepbfaa
open Go.SE Go.RowKit
set_option linter.unusedSimpArgs false
set_option linter.unusedVariables false
set_option maxHeartbeats 1000000
set_option maxRecDepth 100000
/-! szFactS -/
abbrev c_szFactS : Con := ⟨[.sl .fact, .int], [.int], fun (l, left, _) => l.length ≤ 281474976710656 ∧ 0 ≤ left ∧ left ≤ 1048576, .inl fun (l, left, _) => (sz1 left l.length, ()), fun _ => 0⟩
abbrev L_szFactS : List (FuncId × Con) := []
theorem vc_szFactS (l : List GFact) (left : Int) (k : Nat) (hp : l.length ≤ 281474976710656 ∧ 0 ≤ left ∧ left ≤ 1048576) : vc tab (lookF L_szFactS) (fun _ => none) (fun _ => []) (bodyOf Try.f69) (entry (encs c_szFactS.aks (l, left, ())) (rdOf false k)) (retOk tab c_szFactS Try.f69.results.toList (l, left, ()) k) := by
  dsimp only [bodyOf, Try.f69, rdOf]
  simp (maxSteps := 10000000) only [c_szFactS, L_szFactS, SE.lookF, tab2, tab3, tab4, tab5, tab7, tab9, tab12, tab13, tab21, tab22, tab23, tab24, tab25, tab26, tab27, tab28, tab35, tab36, tab37, tab38, tab43, tab51, tab52, tab53, tab57, tab74, tab75, tab82, tab83, tab88, tab89, tab90, tab112, tab128, tab131, tab132, tab143, tab148, tab149, tab150, tab168, tab180, SE.entry, SE.envOf, SE.rdOf, Option.get_some, SE.vc, SE.vcReg, SE.vcLoop, SE.condK, SE.seqK, SE.blockK, SE.vcOps, SE.vcStep, SE.vcOp, SE.vcTr, SE.vcDet_some, SE.vcDet_none, SE.vcIf_true, SE.vcIf_false, SE.vcEach, SE.pickOps, SE.gslot, SE.trOp, SE.moveId, SE.trMove, SE.trPick, SE.trAlloc, SE.trBox, SE.trBuild, SE.trBuildSlice, SE.trLoad, SE.trStore, SE.trNilCheck, SE.trBin, SE.trUn, SE.trConvert, SE.trFieldAddr, SE.trField, SE.trIndexAddr, SE.trIndex, SE.trSlice, SE.trMakeSlice, SE.trExtract, SE.trLen, SE.trAppend, SE.trCopy, SE.trFn, SE.trCall, SE.argsS, SE.ev, SE.constS, SE.junk, SE.sv, SE.upd_app, SE.adds, SE.sets, SE.nid, SE.St.app, SE.St.put, SE.free, SE.freeL, SE.allFree, SE.rids, SE.AK.rids, SE.castL, SE.rdl, SE.AK.dec, SE.decs, SE.AK.enc, SE.encs, SE.AK.res, SE.ress, SE.pack1, SE.zcells, SE.zeroOf, SE.partCells, SE.putc, SE.fills, SE.datas, SE.elemOf, SE.elemsOf, SE.notSpent, SE.cellsAt, SE.weak, SE.dcellsAt, SE.slAt, SE.rdPlus, SE.intAt, SE.updElem, SE.kill, SE.noJunk, SE.inK, SE.binI, SE.shf, SE.isShift, SE.eqCells, SE.aggS, SE.intOp, SE.nested, SE.hasRdr, SE.refsC, SE.refsCs, SE.ownsC, SE.refsAr, SE.rdFits, SE.costIf, SE.Con.post, SE.Con.det, SE.Ty.cells, SE.Ty.sz, SE.Ty.zero, SE.Ty.flat, SE.Ty.dec, SE.retOk, SE.loadsS, SE.loadS, SE.decRs, SE.decR, SE.outC, SE.rdC, SE.allDiff, SE.notIn, SE.notFrozen, SE.apartL, SE.rdEnd, SE.firstReg, SE.headC, SE.fitsC, SE.idsC, SE.keepE, SE.keepM, SE.keepB, SE.inL, SE.puts, SE.ownRes, SE.ownEnv, SE.renL, SE.srcId, SE.lookR, SE.envSame, SE.envSets, SE.memSame, SE.memBlks, SE.memOwns, SE.famsOf, SE.allIn, SE.closedE, SE.closedV, SE.closedM, SE.closedR, SE.rdLe, SE.S.refs, SE.S0.refs, SE.CV.refs, SE.refsL, SE.refsT, SE.S.ren, SE.S0.ren, SE.CV.ren, SE.Res.refs, SE.Res.ren, min_i64, max_i64, min_u16, max_u16, min_u8, max_u8, min_u64, max_u64, S.s.injEq, S0.c.injEq, CV.d.injEq, DC.val.injEq, Value.int.injEq, Value.bool.injEq, Value.string.injEq, eta_fact, eta_atom, eta_asn, eta_state, List.mem_cons, List.mem_nil_iff, or_false, false_or, or_true, true_or, Option.map_some, Option.map_none, Option.bind_some, Option.getD_some, Option.getD_none, Nat.reduceEqDiff, Nat.reduceAdd, Nat.reduceMul, Nat.reduceLeDiff, ↓reduceIte, reduceCtorEq, true_and, and_true, and_self, forall_const, implies_true, true_implies, List.getElem?_toArray, List.getElem?_cons_succ, List.getElem?_cons_zero, List.append_nil, List.nil_append, List.cons_append, List.length_cons, List.length_nil, List.take_succ_cons, List.take_zero, List.drop_succ_cons, List.drop_zero, List.set_cons_zero, List.set_cons_succ, List.map_cons, List.map_nil, Nat.add_zero, Nat.zero_add, forall_eq, Prod.forall, Bool.not_true, Bool.not_false, Nat.lt_irrefl, Nat.zero_lt_succ, List.singleton_append, Prod.mk.injEq, Nat.zero_mul, Nat.one_mul, Nat.reducePow, Option.some.injEq, not_false_eq_true, Int.toNat_natCast, Nat.sub_zero, Nat.le_refl, Bool.or_false, Bool.false_or, Bool.or_true, Bool.true_or, Bool.and_true, Bool.true_and, Bool.and_false, Bool.false_and, Bool.or_self, Bool.and_self, List.append_eq, and_false, false_and]
  unfold sz1
  by_cases h : left - l.length < 0 <;> simp [vcIf, h] <;> omega
theorem ok_szFactS : FnOk Try.prog E 69 c_szFactS :=
  fn_ok (l := L_szFactS) (perm := fun _ => []) tabOk mix trivial Try.func69 rfl (by kernel_rfl) (by decide) (by kernel_rfl) (anns := fun x _ => fun _ => none) (fun ⟨l, left, _⟩ k hp _ => vc_szFactS l left k hp) tot_fn
end Go.Proofs.Yteoinddmoepbfaa

namespace Go.Proofs.Yteoinddmoepbfaa
open Go.SE Go.RowKit
set_option linter.unusedSimpArgs false
set_option linter.unusedVariables false
set_option maxHeartbeats 1000000
set_option maxRecDepth 100000
/-! szAtomS -/
abbrev c_szAtomS : Con := ⟨[.sl .atom, .int], [.int], fun (l, left, _) => l.length ≤ 281474976710656 ∧ 0 ≤ left ∧ left ≤ 1048576, .inl fun (l, left, _) => (sz1 left l.length, ()), fun _ => 0⟩
abbrev L_szAtomS : List (FuncId × Con) := []
theorem vc_szAtomS (l : List GAtom) (left : Int) (k : Nat) (hp : l.length ≤ 281474976710656 ∧ 0 ≤ left ∧ left ≤ 1048576) : vc tab (lookF L_szAtomS) (fun _ => none) (fun _ => []) (bodyOf Try.f70) (entry (encs c_szAtomS.aks (l, left, ())) (rdOf false k)) (retOk tab c_szAtomS Try.f70.results.toList (l, left, ()) k) := by
  dsimp only [bodyOf, Try.f70, rdOf]
  simp (maxSteps := 10000000) only [c_szAtomS, L_szAtomS, SE.lookF, tab2, tab3, tab4, tab5, tab7, tab9, tab12, tab13, tab21, tab22, tab23, tab24, tab25, tab26, tab27, tab28, tab35, tab36, tab37, tab38, tab43, tab51, tab52, tab53, tab57, tab74, tab75, tab82, tab83, tab88, tab89, tab90, tab112, tab128, tab131, tab132, tab143, tab148, tab149, tab150, tab168, tab180, SE.entry, SE.envOf, SE.rdOf, Option.get_some, SE.vc, SE.vcReg, SE.vcLoop, SE.condK, SE.seqK, SE.blockK, SE.vcOps, SE.vcStep, SE.vcOp, SE.vcTr, SE.vcDet_some, SE.vcDet_none, SE.vcIf_true, SE.vcIf_false, SE.vcEach, SE.pickOps, SE.gslot, SE.trOp, SE.moveId, SE.trMove, SE.trPick, SE.trAlloc, SE.trBox, SE.trBuild, SE.trBuildSlice, SE.trLoad, SE.trStore, SE.trNilCheck, SE.trBin, SE.trUn, SE.trConvert, SE.trFieldAddr, SE.trField, SE.trIndexAddr, SE.trIndex, SE.trSlice, SE.trMakeSlice, SE.trExtract, SE.trLen, SE.trAppend, SE.trCopy, SE.trFn, SE.trCall, SE.argsS, SE.ev, SE.constS, SE.junk, SE.sv, SE.upd_app, SE.adds, SE.sets, SE.nid, SE.St.app, SE.St.put, SE.free, SE.freeL, SE.allFree, SE.rids, SE.AK.rids, SE.castL, SE.rdl, SE.AK.dec, SE.decs, SE.AK.enc, SE.encs, SE.AK.res, SE.ress, SE.pack1, SE.zcells, SE.zeroOf, SE.partCells, SE.putc, SE.fills, SE.datas, SE.elemOf, SE.elemsOf, SE.notSpent, SE.cellsAt, SE.weak, SE.dcellsAt, SE.slAt, SE.rdPlus, SE.intAt, SE.updElem, SE.kill, SE.noJunk, SE.inK, SE.binI, SE.shf, SE.isShift, SE.eqCells, SE.aggS, SE.intOp, SE.nested, SE.hasRdr, SE.refsC, SE.refsCs, SE.ownsC, SE.refsAr, SE.rdFits, SE.costIf, SE.Con.post, SE.Con.det, SE.Ty.cells, SE.Ty.sz, SE.Ty.zero, SE.Ty.flat, SE.Ty.dec, SE.retOk, SE.loadsS, SE.loadS, SE.decRs, SE.decR, SE.outC, SE.rdC, SE.allDiff, SE.notIn, SE.notFrozen, SE.apartL, SE.rdEnd, SE.firstReg, SE.headC, SE.fitsC, SE.idsC, SE.keepE, SE.keepM, SE.keepB, SE.inL, SE.puts, SE.ownRes, SE.ownEnv, SE.renL, SE.srcId, SE.lookR, SE.envSame, SE.envSets, SE.memSame, SE.memBlks, SE.memOwns, SE.famsOf, SE.allIn, SE.closedE, SE.closedV, SE.closedM, SE.closedR, SE.rdLe, SE.S.refs, SE.S0.refs, SE.CV.refs, SE.refsL, SE.refsT, SE.S.ren, SE.S0.ren, SE.CV.ren, SE.Res.refs, SE.Res.ren, min_i64, max_i64, min_u16, max_u16, min_u8, max_u8, min_u64, max_u64, S.s.injEq, S0.c.injEq, CV.d.injEq, DC.val.injEq, Value.int.injEq, Value.bool.injEq, Value.string.injEq, eta_fact, eta_atom, eta_asn, eta_state, List.mem_cons, List.mem_nil_iff, or_false, false_or, or_true, true_or, Option.map_some, Option.map_none, Option.bind_some, Option.getD_some, Option.getD_none, Nat.reduceEqDiff, Nat.reduceAdd, Nat.reduceMul, Nat.reduceLeDiff, ↓reduceIte, reduceCtorEq, true_and, and_true, and_self, forall_const, implies_true, true_implies, List.getElem?_toArray, List.getElem?_cons_succ, List.getElem?_cons_zero, List.append_nil, List.nil_append, List.cons_append, List.length_cons, List.length_nil, List.take_succ_cons, List.take_zero, List.drop_succ_cons, List.drop_zero, List.set_cons_zero, List.set_cons_succ, List.map_cons, List.map_nil, Nat.add_zero, Nat.zero_add, forall_eq, Prod.forall, Bool.not_true, Bool.not_false, Nat.lt_irrefl, Nat.zero_lt_succ, List.singleton_append, Prod.mk.injEq, Nat.zero_mul, Nat.one_mul, Nat.reducePow, Option.some.injEq, not_false_eq_true, Int.toNat_natCast, Nat.sub_zero, Nat.le_refl, Bool.or_false, Bool.false_or, Bool.or_true, Bool.true_or, Bool.and_true, Bool.true_and, Bool.and_false, Bool.false_and, Bool.or_self, Bool.and_self, List.append_eq, and_false, false_and]
  unfold sz1
  by_cases h : left - l.length < 0 <;> simp [vcIf, h] <;> omega
theorem ok_szAtomS : FnOk Try.prog E 70 c_szAtomS :=
  fn_ok (l := L_szAtomS) (perm := fun _ => []) tabOk mix trivial Try.func70 rfl (by kernel_rfl) (by decide) (by kernel_rfl) (anns := fun x _ => fun _ => none) (fun ⟨l, left, _⟩ k hp _ => vc_szAtomS l left k hp) tot_fn
end Go.Proofs.Yteoinddmoepbfaa

namespace Go.Proofs.Yteoinddmoepbfaa
open Go.SE Go.RowKit
set_option linter.unusedSimpArgs false
set_option linter.unusedVariables false
set_option maxHeartbeats 1000000
set_option maxRecDepth 100000
/-! szAssertion -/
abbrev c_szAssertion : Con := ⟨[.asn, .int], [.int], fun (a, left, _) => a.facts.length ≤ 281474976710656 ∧ a.atoms.length ≤ 281474976710656 ∧ 0 ≤ left ∧ left ≤ 1048576, .inl fun (a, left, _) => (szA a left, ()), fun _ => 0⟩
abbrev L_szAssertion : List (FuncId × Con) := [(69, c_szFactS), (70, c_szAtomS)]
abbrev P_szAssertion : List (FuncId × PT) := []
def VC_szAssertion (a : GAsn) (left : Int) (k : Nat) : Prop := TN ∧ True ∧ True ∧ True ∧ True ∧ ((a.facts.length ≤ 281474976710656 ∧ 0 ≤ left ∧ left ≤ 1048576) ∧ True ∧ True) ∧ True ∧ True ∧ True ∧ (vcIf (decide ((sz1 left a.facts.length) < (0 : Int))) (True ∧ ((((-1 : Int), ()) : Int × Unit) = (szA a left, ())) ∧ True ∧ True ∧ True ∧ True ∧ TF) (True ∧ True ∧ True ∧ ((a.atoms.length ≤ 281474976710656 ∧ 0 ≤ (sz1 left a.facts.length) ∧ (sz1 left a.facts.length) ≤ 1048576) ∧ True ∧ True) ∧ True ∧ True ∧ True ∧ (vcIf (decide ((sz1 (sz1 left a.facts.length) a.atoms.length) < (0 : Int))) (True ∧ ((((-1 : Int), ()) : Int × Unit) = (szA a left, ())) ∧ True ∧ True ∧ True ∧ True ∧ TF) (True ∧ True ∧ ((((sz1 (sz1 left a.facts.length) a.atoms.length), ()) : Int × Unit) = (szA a left, ())) ∧ True ∧ True ∧ True ∧ True ∧ TF))))
theorem vcn_szAssertion (a : GAsn) (left : Int) (k : Nat) (hp : a.facts.length ≤ 281474976710656 ∧ a.atoms.length ≤ 281474976710656 ∧ 0 ≤ left ∧ left ≤ 1048576) : VC_szAssertion a left k := by
  unfold VC_szAssertion
  simp only [TT, TF, TN, RL, RM, true_and, and_true, eq_self, implies_true, forall_const, List.cons.injEq, S.s.injEq, S0.c.injEq, S0.agg.injEq, CV.d.injEq, CV.own.injEq, CV.ptr.injEq, DC.val.injEq, Value.int.injEq, Value.bool.injEq, Option.some.injEq, Res.blk.injEq, Prod.mk.injEq, inK, min_i64, max_i64, min_u16, max_u16, min_u8, max_u8, min_u64, max_u64, vcIf_true, vcIf_false, List.mem_nil_iff, List.not_mem_nil, not_false_eq_true, Nat.reduceEqDiff, Nat.reduceLeDiff, ne_eq, Bool.and_true, Nat.add_zero, List.append_nil, List.nil_append, List.length_nil, List.length_cons, Nat.zero_add, Nat.reduceAdd, Int.toNat_natCast, Nat.sub_zero, List.drop_zero, List.map_nil, List.take_zero, forall_eq]
  all_goals (try simp only [vcIf_iff, decide_eq_true_eq, decide_eq_false_iff_not, bne_iff_ne, ne_eq, beq_iff_eq, beq_eq_false_iff_ne, bne_eq_false_iff_eq, Bool.not_eq_true', Bool.not_eq_false', Int.ofNat_lt, Int.natCast_inj])
  all_goals (repeat' (first | apply And.intro | intro _))
  all_goals (first | omega | (simp_all; done) | grind [szA, sz1])
theorem vce_szAssertion (a : GAsn) (left : Int) (k : Nat) : VC_szAssertion a left k = vcQ tab (lookF L_szAssertion) (lookP P_szAssertion) (fun _ => false) (fun _ => none) (fun _ _ => none) (fun _ => []) (bodyOf Try.f20) (entry (encs c_szAssertion.aks (a, left, ())) (rdOf false k)) (retOk tab c_szAssertion Try.f20.results.toList (a, left, ()) k) := by kernel_rfl
theorem vc_szAssertion (a : GAsn) (left : Int) (k : Nat) (hp : a.facts.length ≤ 281474976710656 ∧ a.atoms.length ≤ 281474976710656 ∧ 0 ≤ left ∧ left ≤ 1048576) : vcQ tab (lookF L_szAssertion) (lookP P_szAssertion) (fun _ => false) (fun _ => none) (fun _ _ => none) (fun _ => []) (bodyOf Try.f20) (entry (encs c_szAssertion.aks (a, left, ())) (rdOf false k)) (retOk tab c_szAssertion Try.f20.results.toList (a, left, ()) k) := (vce_szAssertion a left k).mp (vcn_szAssertion a left k hp)
theorem ok_szAssertion : FnOk Try.prog E 20 c_szAssertion :=
  fn_okQ (l := L_szAssertion) (lp := P_szAssertion) (hp := fun _ => false) (gcs := fun _ => none) (perm := fun _ => []) tabOk mix ⟨ok_szFactS, ok_szAtomS, trivial⟩ trivial Try.func20 rfl (by kernel_rfl) (by decide) (by kernel_rfl) (anns := fun x _ => fun _ _ => none) (fun ⟨a, left, _⟩ k hp _ => vc_szAssertion a left k hp) tot_fn
end Go.Proofs.Yteoinddmoepbfaa

namespace Go.Proofs.Yteoinddmoepbfaa
open Go.SE Go.RowKit
set_option linter.unusedSimpArgs false
set_option linter.unusedVariables false
set_option maxHeartbeats 1000000
set_option maxRecDepth 100000
/-! l1Is -/
abbrev c_l1Is : Con := ⟨[.int], [.bool], fun _ => True, .inl fun (t, _) => (isT t, ()), fun _ => 0⟩
abbrev L_l1Is : List (FuncId × Con) := []
theorem vc_l1Is (t : Int) (k : Nat) : vc tab (lookF L_l1Is) (fun _ => none) (fun _ => []) (bodyOf Try.f85) (entry (encs c_l1Is.aks (t, ())) (rdOf false k)) (retOk tab c_l1Is Try.f85.results.toList (t, ()) k) := by
  dsimp only [bodyOf, Try.f85, rdOf]
  simp (maxSteps := 10000000) only [c_l1Is, L_l1Is, SE.lookF, tab2, tab3, tab4, tab5, tab7, tab9, tab12, tab13, tab21, tab22, tab23, tab24, tab25, tab26, tab27, tab28, tab35, tab36, tab37, tab38, tab43, tab51, tab52, tab53, tab57, tab74, tab75, tab82, tab83, tab88, tab89, tab90, tab112, tab128, tab131, tab132, tab143, tab148, tab149, tab150, tab168, tab180, SE.entry, SE.envOf, SE.rdOf, Option.get_some, SE.vc, SE.vcReg, SE.vcLoop, SE.condK, SE.seqK, SE.blockK, SE.vcOps, SE.vcStep, SE.vcOp, SE.vcTr, SE.vcDet_some, SE.vcDet_none, SE.vcIf_true, SE.vcIf_false, SE.vcEach, SE.pickOps, SE.gslot, SE.trOp, SE.moveId, SE.trMove, SE.trPick, SE.trAlloc, SE.trBox, SE.trBuild, SE.trBuildSlice, SE.trLoad, SE.trStore, SE.trNilCheck, SE.trBin, SE.trUn, SE.trConvert, SE.trFieldAddr, SE.trField, SE.trIndexAddr, SE.trIndex, SE.trSlice, SE.trMakeSlice, SE.trExtract, SE.trLen, SE.trAppend, SE.trCopy, SE.trFn, SE.trCall, SE.argsS, SE.ev, SE.constS, SE.junk, SE.sv, SE.upd_app, SE.adds, SE.sets, SE.nid, SE.St.app, SE.St.put, SE.free, SE.freeL, SE.allFree, SE.rids, SE.AK.rids, SE.castL, SE.rdl, SE.AK.dec, SE.decs, SE.AK.enc, SE.encs, SE.AK.res, SE.ress, SE.pack1, SE.zcells, SE.zeroOf, SE.partCells, SE.putc, SE.fills, SE.datas, SE.elemOf, SE.elemsOf, SE.notSpent, SE.cellsAt, SE.weak, SE.dcellsAt, SE.slAt, SE.rdPlus, SE.intAt, SE.updElem, SE.kill, SE.noJunk, SE.inK, SE.binI, SE.shf, SE.isShift, SE.eqCells, SE.aggS, SE.intOp, SE.nested, SE.hasRdr, SE.refsC, SE.refsCs, SE.ownsC, SE.refsAr, SE.rdFits, SE.costIf, SE.Con.post, SE.Con.det, SE.Ty.cells, SE.Ty.sz, SE.Ty.zero, SE.Ty.flat, SE.Ty.dec, SE.retOk, SE.loadsS, SE.loadS, SE.decRs, SE.decR, SE.outC, SE.rdC, SE.allDiff, SE.notIn, SE.notFrozen, SE.apartL, SE.rdEnd, SE.firstReg, SE.headC, SE.fitsC, SE.idsC, SE.keepE, SE.keepM, SE.keepB, SE.inL, SE.puts, SE.ownRes, SE.ownEnv, SE.renL, SE.srcId, SE.lookR, SE.envSame, SE.envSets, SE.memSame, SE.memBlks, SE.memOwns, SE.famsOf, SE.allIn, SE.closedE, SE.closedV, SE.closedM, SE.closedR, SE.rdLe, SE.S.refs, SE.S0.refs, SE.CV.refs, SE.refsL, SE.refsT, SE.S.ren, SE.S0.ren, SE.CV.ren, SE.Res.refs, SE.Res.ren, min_i64, max_i64, min_u16, max_u16, min_u8, max_u8, min_u64, max_u64, S.s.injEq, S0.c.injEq, CV.d.injEq, DC.val.injEq, Value.int.injEq, Value.bool.injEq, Value.string.injEq, eta_fact, eta_atom, eta_asn, eta_state, List.mem_cons, List.mem_nil_iff, or_false, false_or, or_true, true_or, Option.map_some, Option.map_none, Option.bind_some, Option.getD_some, Option.getD_none, Nat.reduceEqDiff, Nat.reduceAdd, Nat.reduceMul, Nat.reduceLeDiff, ↓reduceIte, reduceCtorEq, true_and, and_true, and_self, forall_const, implies_true, true_implies, List.getElem?_toArray, List.getElem?_cons_succ, List.getElem?_cons_zero, List.append_nil, List.nil_append, List.cons_append, List.length_cons, List.length_nil, List.take_succ_cons, List.take_zero, List.drop_succ_cons, List.drop_zero, List.set_cons_zero, List.set_cons_succ, List.map_cons, List.map_nil, Nat.add_zero, Nat.zero_add, forall_eq, Prod.forall, Bool.not_true, Bool.not_false, Nat.lt_irrefl, Nat.zero_lt_succ, List.singleton_append, Prod.mk.injEq, Nat.zero_mul, Nat.one_mul, Nat.reducePow, Option.some.injEq, not_false_eq_true, Int.toNat_natCast, Nat.sub_zero, Nat.le_refl, Bool.or_false, Bool.false_or, Bool.or_true, Bool.true_or, Bool.and_true, Bool.true_and, Bool.and_false, Bool.false_and, Bool.or_self, Bool.and_self, List.append_eq, and_false, false_and]
  cases h : decide (0 ≤ t) <;> simp [vcIf, isT, h]
theorem ok_l1Is : FnOk Try.prog E 85 c_l1Is :=
  fn_ok (l := L_l1Is) (perm := fun _ => []) tabOk mix trivial Try.func85 rfl (by kernel_rfl) (by decide) (by kernel_rfl) (anns := fun x _ => fun _ => none) (fun ⟨t, _⟩ k _ _ => vc_l1Is t k) tot_fn
end Go.Proofs.Yteoinddmoepbfaa

namespace Go.Proofs.Yteoinddmoepbfaa
open Go.SE Go.RowKit
set_option linter.unusedSimpArgs false
set_option linter.unusedVariables false
set_option maxHeartbeats 1000000
set_option maxRecDepth 100000
/-! l3Atom -/
abbrev c_l3Atom : Con := ⟨[.atom], [.bool], fun _ => True, .inl fun (x, _) => (atV x, ()), fun _ => 0⟩
abbrev L_l3Atom : List (FuncId × Con) := [(85, c_l1Is)]
theorem vc_l3Atom (x : GAtom) (k : Nat) : vc tab (lookF L_l3Atom) (fun _ => none) (fun _ => []) (bodyOf Try.f116) (entry (encs c_l3Atom.aks (x, ())) (rdOf false k)) (retOk tab c_l3Atom Try.f116.results.toList (x, ()) k) := by
  dsimp only [bodyOf, Try.f116, rdOf]
  simp (maxSteps := 10000000) only [c_l3Atom, L_l3Atom, SE.lookF, c_l1Is, tab2, tab3, tab4, tab5, tab7, tab9, tab12, tab13, tab21, tab22, tab23, tab24, tab25, tab26, tab27, tab28, tab35, tab36, tab37, tab38, tab43, tab51, tab52, tab53, tab57, tab74, tab75, tab82, tab83, tab88, tab89, tab90, tab112, tab128, tab131, tab132, tab143, tab148, tab149, tab150, tab168, tab180, SE.entry, SE.envOf, SE.rdOf, Option.get_some, SE.vc, SE.vcReg, SE.vcLoop, SE.condK, SE.seqK, SE.blockK, SE.vcOps, SE.vcStep, SE.vcOp, SE.vcTr, SE.vcDet_some, SE.vcDet_none, SE.vcIf_true, SE.vcIf_false, SE.vcEach, SE.pickOps, SE.gslot, SE.trOp, SE.moveId, SE.trMove, SE.trPick, SE.trAlloc, SE.trBox, SE.trBuild, SE.trBuildSlice, SE.trLoad, SE.trStore, SE.trNilCheck, SE.trBin, SE.trUn, SE.trConvert, SE.trFieldAddr, SE.trField, SE.trIndexAddr, SE.trIndex, SE.trSlice, SE.trMakeSlice, SE.trExtract, SE.trLen, SE.trAppend, SE.trCopy, SE.trFn, SE.trCall, SE.argsS, SE.ev, SE.constS, SE.junk, SE.sv, SE.upd_app, SE.adds, SE.sets, SE.nid, SE.St.app, SE.St.put, SE.free, SE.freeL, SE.allFree, SE.rids, SE.AK.rids, SE.castL, SE.rdl, SE.AK.dec, SE.decs, SE.AK.enc, SE.encs, SE.AK.res, SE.ress, SE.pack1, SE.zcells, SE.zeroOf, SE.partCells, SE.putc, SE.fills, SE.datas, SE.elemOf, SE.elemsOf, SE.notSpent, SE.cellsAt, SE.weak, SE.dcellsAt, SE.slAt, SE.rdPlus, SE.intAt, SE.updElem, SE.kill, SE.noJunk, SE.inK, SE.binI, SE.shf, SE.isShift, SE.eqCells, SE.aggS, SE.intOp, SE.nested, SE.hasRdr, SE.refsC, SE.refsCs, SE.ownsC, SE.refsAr, SE.rdFits, SE.costIf, SE.Con.post, SE.Con.det, SE.Ty.cells, SE.Ty.sz, SE.Ty.zero, SE.Ty.flat, SE.Ty.dec, SE.retOk, SE.loadsS, SE.loadS, SE.decRs, SE.decR, SE.outC, SE.rdC, SE.allDiff, SE.notIn, SE.notFrozen, SE.apartL, SE.rdEnd, SE.firstReg, SE.headC, SE.fitsC, SE.idsC, SE.keepE, SE.keepM, SE.keepB, SE.inL, SE.puts, SE.ownRes, SE.ownEnv, SE.renL, SE.srcId, SE.lookR, SE.envSame, SE.envSets, SE.memSame, SE.memBlks, SE.memOwns, SE.famsOf, SE.allIn, SE.closedE, SE.closedV, SE.closedM, SE.closedR, SE.rdLe, SE.S.refs, SE.S0.refs, SE.CV.refs, SE.refsL, SE.refsT, SE.S.ren, SE.S0.ren, SE.CV.ren, SE.Res.refs, SE.Res.ren, min_i64, max_i64, min_u16, max_u16, min_u8, max_u8, min_u64, max_u64, S.s.injEq, S0.c.injEq, CV.d.injEq, DC.val.injEq, Value.int.injEq, Value.bool.injEq, Value.string.injEq, eta_fact, eta_atom, eta_asn, eta_state, List.mem_cons, List.mem_nil_iff, or_false, false_or, or_true, true_or, Option.map_some, Option.map_none, Option.bind_some, Option.getD_some, Option.getD_none, Nat.reduceEqDiff, Nat.reduceAdd, Nat.reduceMul, Nat.reduceLeDiff, ↓reduceIte, reduceCtorEq, true_and, and_true, and_self, forall_const, implies_true, true_implies, List.getElem?_toArray, List.getElem?_cons_succ, List.getElem?_cons_zero, List.append_nil, List.nil_append, List.cons_append, List.length_cons, List.length_nil, List.take_succ_cons, List.take_zero, List.drop_succ_cons, List.drop_zero, List.set_cons_zero, List.set_cons_succ, List.map_cons, List.map_nil, Nat.add_zero, Nat.zero_add, forall_eq, Prod.forall, Bool.not_true, Bool.not_false, Nat.lt_irrefl, Nat.zero_lt_succ, List.singleton_append, Prod.mk.injEq, Nat.zero_mul, Nat.one_mul, Nat.reducePow, Option.some.injEq, not_false_eq_true, Int.toNat_natCast, Nat.sub_zero, Nat.le_refl, Bool.or_false, Bool.false_or, Bool.or_true, Bool.true_or, Bool.and_true, Bool.true_and, Bool.and_false, Bool.false_and, Bool.or_self, Bool.and_self, List.append_eq, and_false, false_and]
  all_goals (try simp only [vcIf_iff, decide_eq_true_eq, decide_eq_false_iff_not, bne_iff_ne, ne_eq, beq_iff_eq, beq_eq_false_iff_ne, bne_eq_false_iff_eq, Bool.not_eq_true', Bool.not_eq_false', Int.ofNat_lt, Int.natCast_inj])
  all_goals (repeat' (first | apply And.intro | intro _))
  all_goals (first | omega | (simp_all; done) | grind [atV])
theorem ok_l3Atom : FnOk Try.prog E 116 c_l3Atom :=
  fn_ok (l := L_l3Atom) (perm := fun _ => []) tabOk mix ⟨ok_l1Is, trivial⟩ Try.func116 rfl (by kernel_rfl) (by decide) (by kernel_rfl) (anns := fun x _ => fun _ => none) (fun ⟨x, _⟩ k _ _ => vc_l3Atom x k) tot_fn
end Go.Proofs.Yteoinddmoepbfaa

namespace Go.Proofs.Yteoinddmoepbfaa
open Go.SE Go.RowKit
set_option linter.unusedSimpArgs false
set_option linter.unusedVariables false
set_option maxHeartbeats 1000000
set_option maxRecDepth 100000
/-! sFactValid -/
abbrev c_sFactValid : Con := ⟨[.fact], [.bool], fun _ => True, .inl fun (f, _) => (fV f, ()), fun _ => 0⟩
abbrev L_sFactValid : List (FuncId × Con) := [(85, c_l1Is)]
theorem vc_sFactValid (f : GFact) (k : Nat) : vc tab (lookF L_sFactValid) (fun _ => none) (fun _ => []) (bodyOf Try.f62) (entry (encs c_sFactValid.aks (f, ())) (rdOf false k)) (retOk tab c_sFactValid Try.f62.results.toList (f, ()) k) := by
  dsimp only [bodyOf, Try.f62, rdOf]
  simp (maxSteps := 10000000) only [c_sFactValid, L_sFactValid, SE.lookF, c_l1Is, tab2, tab3, tab4, tab5, tab7, tab9, tab12, tab13, tab21, tab22, tab23, tab24, tab25, tab26, tab27, tab28, tab35, tab36, tab37, tab38, tab43, tab51, tab52, tab53, tab57, tab74, tab75, tab82, tab83, tab88, tab89, tab90, tab112, tab128, tab131, tab132, tab143, tab148, tab149, tab150, tab168, tab180, SE.entry, SE.envOf, SE.rdOf, Option.get_some, SE.vc, SE.vcReg, SE.vcLoop, SE.condK, SE.seqK, SE.blockK, SE.vcOps, SE.vcStep, SE.vcOp, SE.vcTr, SE.vcDet_some, SE.vcDet_none, SE.vcIf_true, SE.vcIf_false, SE.vcEach, SE.pickOps, SE.gslot, SE.trOp, SE.moveId, SE.trMove, SE.trPick, SE.trAlloc, SE.trBox, SE.trBuild, SE.trBuildSlice, SE.trLoad, SE.trStore, SE.trNilCheck, SE.trBin, SE.trUn, SE.trConvert, SE.trFieldAddr, SE.trField, SE.trIndexAddr, SE.trIndex, SE.trSlice, SE.trMakeSlice, SE.trExtract, SE.trLen, SE.trAppend, SE.trCopy, SE.trFn, SE.trCall, SE.argsS, SE.ev, SE.constS, SE.junk, SE.sv, SE.upd_app, SE.adds, SE.sets, SE.nid, SE.St.app, SE.St.put, SE.free, SE.freeL, SE.allFree, SE.rids, SE.AK.rids, SE.castL, SE.rdl, SE.AK.dec, SE.decs, SE.AK.enc, SE.encs, SE.AK.res, SE.ress, SE.pack1, SE.zcells, SE.zeroOf, SE.partCells, SE.putc, SE.fills, SE.datas, SE.elemOf, SE.elemsOf, SE.notSpent, SE.cellsAt, SE.weak, SE.dcellsAt, SE.slAt, SE.rdPlus, SE.intAt, SE.updElem, SE.kill, SE.noJunk, SE.inK, SE.binI, SE.shf, SE.isShift, SE.eqCells, SE.aggS, SE.intOp, SE.nested, SE.hasRdr, SE.refsC, SE.refsCs, SE.ownsC, SE.refsAr, SE.rdFits, SE.costIf, SE.Con.post, SE.Con.det, SE.Ty.cells, SE.Ty.sz, SE.Ty.zero, SE.Ty.flat, SE.Ty.dec, SE.retOk, SE.loadsS, SE.loadS, SE.decRs, SE.decR, SE.outC, SE.rdC, SE.allDiff, SE.notIn, SE.notFrozen, SE.apartL, SE.rdEnd, SE.firstReg, SE.headC, SE.fitsC, SE.idsC, SE.keepE, SE.keepM, SE.keepB, SE.inL, SE.puts, SE.ownRes, SE.ownEnv, SE.renL, SE.srcId, SE.lookR, SE.envSame, SE.envSets, SE.memSame, SE.memBlks, SE.memOwns, SE.famsOf, SE.allIn, SE.closedE, SE.closedV, SE.closedM, SE.closedR, SE.rdLe, SE.S.refs, SE.S0.refs, SE.CV.refs, SE.refsL, SE.refsT, SE.S.ren, SE.S0.ren, SE.CV.ren, SE.Res.refs, SE.Res.ren, min_i64, max_i64, min_u16, max_u16, min_u8, max_u8, min_u64, max_u64, S.s.injEq, S0.c.injEq, CV.d.injEq, DC.val.injEq, Value.int.injEq, Value.bool.injEq, Value.string.injEq, eta_fact, eta_atom, eta_asn, eta_state, List.mem_cons, List.mem_nil_iff, or_false, false_or, or_true, true_or, Option.map_some, Option.map_none, Option.bind_some, Option.getD_some, Option.getD_none, Nat.reduceEqDiff, Nat.reduceAdd, Nat.reduceMul, Nat.reduceLeDiff, ↓reduceIte, reduceCtorEq, true_and, and_true, and_self, forall_const, implies_true, true_implies, List.getElem?_toArray, List.getElem?_cons_succ, List.getElem?_cons_zero, List.append_nil, List.nil_append, List.cons_append, List.length_cons, List.length_nil, List.take_succ_cons, List.take_zero, List.drop_succ_cons, List.drop_zero, List.set_cons_zero, List.set_cons_succ, List.map_cons, List.map_nil, Nat.add_zero, Nat.zero_add, forall_eq, Prod.forall, Bool.not_true, Bool.not_false, Nat.lt_irrefl, Nat.zero_lt_succ, List.singleton_append, Prod.mk.injEq, Nat.zero_mul, Nat.one_mul, Nat.reducePow, Option.some.injEq, not_false_eq_true, Int.toNat_natCast, Nat.sub_zero, Nat.le_refl, Bool.or_false, Bool.false_or, Bool.or_true, Bool.true_or, Bool.and_true, Bool.true_and, Bool.and_false, Bool.false_and, Bool.or_self, Bool.and_self, List.append_eq, and_false, false_and]
  cases h : isT f.a <;> simp [vcIf, fV, h]
theorem ok_sFactValid : FnOk Try.prog E 62 c_sFactValid :=
  fn_ok (l := L_sFactValid) (perm := fun _ => []) tabOk mix ⟨ok_l1Is, trivial⟩ Try.func62 rfl (by kernel_rfl) (by decide) (by kernel_rfl) (anns := fun x _ => fun _ => none) (fun ⟨f, _⟩ k _ _ => vc_sFactValid f k) tot_fn
end Go.Proofs.Yteoinddmoepbfaa

namespace Go.Proofs.Yteoinddmoepbfaa
open Go.SE Go.RowKit
set_option linter.unusedSimpArgs false
set_option linter.unusedVariables false
set_option maxHeartbeats 1000000
set_option maxRecDepth 100000
/-! sFactsValid -/
abbrev c_sFactsValid : Con := ⟨[.sl .fact], [.bool], fun (l, _) => l.length ≤ 281474976710656, .inl fun (l, _) => (fsV l, ()), fun _ => 0⟩
abbrev L_sFactsValid : List (FuncId × Con) := [(62, c_sFactValid)]
def an_sFactsValid (l : List GFact) : Nat → Option Ann
  | 2 => some { α := Nat, ok := fun i => i ≤ l.length ∧ (l.take i).all fV = true, mu := fun i => l.length - i, i0 := fun _ => 0, nx := fun a _ => (fun i => i + 1) a, live := [0], sets := fun i => [(3, sv (.int .i64 i))], mids := [], blks := fun i => [], owns := fun i => [], rd := fun r _ => r, base := 100000 }
  | _ => none
theorem vc_sFactsValid (l : List GFact) (k : Nat) (hp : l.length ≤ 281474976710656) : vc tab (lookF L_sFactsValid) (an_sFactsValid l) (fun _ => []) (bodyOf Try.f117) (entry (encs c_sFactsValid.aks (l, ())) (rdOf false k)) (retOk tab c_sFactsValid Try.f117.results.toList (l, ()) k) := by
  dsimp only [bodyOf, Try.f117, rdOf]
  simp (maxSteps := 10000000) only [c_sFactsValid, L_sFactsValid, an_sFactsValid, SE.lookF, c_sFactValid, tab2, tab3, tab4, tab5, tab7, tab9, tab12, tab13, tab21, tab22, tab23, tab24, tab25, tab26, tab27, tab28, tab35, tab36, tab37, tab38, tab43, tab51, tab52, tab53, tab57, tab74, tab75, tab82, tab83, tab88, tab89, tab90, tab112, tab128, tab131, tab132, tab143, tab148, tab149, tab150, tab168, tab180, SE.entry, SE.envOf, SE.rdOf, Option.get_some, SE.vc, SE.vcReg, SE.vcLoop, SE.condK, SE.seqK, SE.blockK, SE.vcOps, SE.vcStep, SE.vcOp, SE.vcTr, SE.vcDet_some, SE.vcDet_none, SE.vcIf_true, SE.vcIf_false, SE.vcEach, SE.pickOps, SE.gslot, SE.trOp, SE.moveId, SE.trMove, SE.trPick, SE.trAlloc, SE.trBox, SE.trBuild, SE.trBuildSlice, SE.trLoad, SE.trStore, SE.trNilCheck, SE.trBin, SE.trUn, SE.trConvert, SE.trFieldAddr, SE.trField, SE.trIndexAddr, SE.trIndex, SE.trSlice, SE.trMakeSlice, SE.trExtract, SE.trLen, SE.trAppend, SE.trCopy, SE.trFn, SE.trCall, SE.argsS, SE.ev, SE.constS, SE.junk, SE.sv, SE.upd_app, SE.adds, SE.sets, SE.nid, SE.St.app, SE.St.put, SE.free, SE.freeL, SE.allFree, SE.rids, SE.AK.rids, SE.castL, SE.rdl, SE.AK.dec, SE.decs, SE.AK.enc, SE.encs, SE.AK.res, SE.ress, SE.pack1, SE.zcells, SE.zeroOf, SE.partCells, SE.putc, SE.fills, SE.datas, SE.elemOf, SE.elemsOf, SE.notSpent, SE.cellsAt, SE.weak, SE.dcellsAt, SE.slAt, SE.rdPlus, SE.intAt, SE.updElem, SE.kill, SE.noJunk, SE.inK, SE.binI, SE.shf, SE.isShift, SE.eqCells, SE.aggS, SE.intOp, SE.nested, SE.hasRdr, SE.refsC, SE.refsCs, SE.ownsC, SE.refsAr, SE.rdFits, SE.costIf, SE.Con.post, SE.Con.det, SE.Ty.cells, SE.Ty.sz, SE.Ty.zero, SE.Ty.flat, SE.Ty.dec, SE.retOk, SE.loadsS, SE.loadS, SE.decRs, SE.decR, SE.outC, SE.rdC, SE.allDiff, SE.notIn, SE.notFrozen, SE.apartL, SE.rdEnd, SE.firstReg, SE.headC, SE.fitsC, SE.idsC, SE.keepE, SE.keepM, SE.keepB, SE.inL, SE.puts, SE.ownRes, SE.ownEnv, SE.renL, SE.srcId, SE.lookR, SE.envSame, SE.envSets, SE.memSame, SE.memBlks, SE.memOwns, SE.famsOf, SE.allIn, SE.closedE, SE.closedV, SE.closedM, SE.closedR, SE.rdLe, SE.S.refs, SE.S0.refs, SE.CV.refs, SE.refsL, SE.refsT, SE.S.ren, SE.S0.ren, SE.CV.ren, SE.Res.refs, SE.Res.ren, min_i64, max_i64, min_u16, max_u16, min_u8, max_u8, min_u64, max_u64, S.s.injEq, S0.c.injEq, CV.d.injEq, DC.val.injEq, Value.int.injEq, Value.bool.injEq, Value.string.injEq, eta_fact, eta_atom, eta_asn, eta_state, List.mem_cons, List.mem_nil_iff, or_false, false_or, or_true, true_or, Option.map_some, Option.map_none, Option.bind_some, Option.getD_some, Option.getD_none, Nat.reduceEqDiff, Nat.reduceAdd, Nat.reduceMul, Nat.reduceLeDiff, ↓reduceIte, reduceCtorEq, true_and, and_true, and_self, forall_const, implies_true, true_implies, List.getElem?_toArray, List.getElem?_cons_succ, List.getElem?_cons_zero, List.append_nil, List.nil_append, List.cons_append, List.length_cons, List.length_nil, List.take_succ_cons, List.take_zero, List.drop_succ_cons, List.drop_zero, List.set_cons_zero, List.set_cons_succ, List.map_cons, List.map_nil, Nat.add_zero, Nat.zero_add, forall_eq, Prod.forall, Bool.not_true, Bool.not_false, Nat.lt_irrefl, Nat.zero_lt_succ, List.singleton_append, Prod.mk.injEq, Nat.zero_mul, Nat.one_mul, Nat.reducePow, Option.some.injEq, not_false_eq_true, Int.toNat_natCast, Nat.sub_zero, Nat.le_refl, Bool.or_false, Bool.false_or, Bool.or_true, Bool.true_or, Bool.and_true, Bool.true_and, Bool.and_false, Bool.false_and, Bool.or_self, Bool.and_self, List.append_eq, and_false, false_and]
  all_goals (try simp only [vcIf_iff, decide_eq_true_eq, decide_eq_false_iff_not, bne_iff_ne, ne_eq, beq_iff_eq, beq_eq_false_iff_ne, bne_eq_false_iff_eq, Bool.not_eq_true', Bool.not_eq_false', Int.ofNat_lt, Int.natCast_inj])
  all_goals (repeat' (first | apply And.intro | intro _))
  all_goals (first | omega | (simp_all; done) | grind [fsV, take_all, all_take, take_full, Ty.zero])
theorem ok_sFactsValid : FnOk Try.prog E 117 c_sFactsValid :=
  fn_ok (l := L_sFactsValid) (perm := fun _ => []) tabOk mix ⟨ok_sFactValid, trivial⟩ Try.func117 rfl (by kernel_rfl) (by decide) (by kernel_rfl) (anns := fun x _ => an_sFactsValid x.1) (fun ⟨l, _⟩ k hp _ => vc_sFactsValid l k hp) tot_fn
end Go.Proofs.Yteoinddmoepbfaa

namespace Go.Proofs.Yteoinddmoepbfaa
open Go.SE Go.RowKit
set_option linter.unusedSimpArgs false
set_option linter.unusedVariables false
set_option maxHeartbeats 1000000
set_option maxRecDepth 100000
/-! sAssertionValid -/
abbrev c_sAssertionValid : Con := ⟨[.asn], [.bool], fun (a, _) => a.facts.length ≤ 281474976710656 ∧ a.atoms.length ≤ 281474976710656, .inl fun (a, _) => (asV a, ()), fun _ => 0⟩
abbrev L_sAssertionValid : List (FuncId × Con) := [(116, c_l3Atom), (117, c_sFactsValid)]
def an_sAssertionValid (a : GAsn) : Nat → Option Ann
  | 2 => some { α := Nat, ok := fun i => i ≤ a.atoms.length ∧ (a.atoms.take i).all atV = true, mu := fun i => a.atoms.length - i, i0 := fun _ => 0, nx := fun a _ => (fun i => i + 1) a, live := [1], sets := fun i => [(3, sv (.int .i64 i))], mids := [31], blks := fun i => [], owns := fun i => [], rd := fun r _ => r, base := 100000 }
  | _ => none
theorem vc_sAssertionValid (a : GAsn) (k : Nat) (hp : a.facts.length ≤ 281474976710656 ∧ a.atoms.length ≤ 281474976710656) : vc tab (lookF L_sAssertionValid) (an_sAssertionValid a) (fun _ => []) (bodyOf Try.f61) (entry (encs c_sAssertionValid.aks (a, ())) (rdOf false k)) (retOk tab c_sAssertionValid Try.f61.results.toList (a, ()) k) := by
  dsimp only [bodyOf, Try.f61, rdOf]
  simp (maxSteps := 10000000) only [c_sAssertionValid, L_sAssertionValid, an_sAssertionValid, SE.lookF, c_l3Atom, c_sFactsValid, tab2, tab3, tab4, tab5, tab7, tab9, tab12, tab13, tab21, tab22, tab23, tab24, tab25, tab26, tab27, tab28, tab35, tab36, tab37, tab38, tab43, tab51, tab52, tab53, tab57, tab74, tab75, tab82, tab83, tab88, tab89, tab90, tab112, tab128, tab131, tab132, tab143, tab148, tab149, tab150, tab168, tab180, SE.entry, SE.envOf, SE.rdOf, Option.get_some, SE.vc, SE.vcReg, SE.vcLoop, SE.condK, SE.seqK, SE.blockK, SE.vcOps, SE.vcStep, SE.vcOp, SE.vcTr, SE.vcDet_some, SE.vcDet_none, SE.vcIf_true, SE.vcIf_false, SE.vcEach, SE.pickOps, SE.gslot, SE.trOp, SE.moveId, SE.trMove, SE.trPick, SE.trAlloc, SE.trBox, SE.trBuild, SE.trBuildSlice, SE.trLoad, SE.trStore, SE.trNilCheck, SE.trBin, SE.trUn, SE.trConvert, SE.trFieldAddr, SE.trField, SE.trIndexAddr, SE.trIndex, SE.trSlice, SE.trMakeSlice, SE.trExtract, SE.trLen, SE.trAppend, SE.trCopy, SE.trFn, SE.trCall, SE.argsS, SE.ev, SE.constS, SE.junk, SE.sv, SE.upd_app, SE.adds, SE.sets, SE.nid, SE.St.app, SE.St.put, SE.free, SE.freeL, SE.allFree, SE.rids, SE.AK.rids, SE.castL, SE.rdl, SE.AK.dec, SE.decs, SE.AK.enc, SE.encs, SE.AK.res, SE.ress, SE.pack1, SE.zcells, SE.zeroOf, SE.partCells, SE.putc, SE.fills, SE.datas, SE.elemOf, SE.elemsOf, SE.notSpent, SE.cellsAt, SE.weak, SE.dcellsAt, SE.slAt, SE.rdPlus, SE.intAt, SE.updElem, SE.kill, SE.noJunk, SE.inK, SE.binI, SE.shf, SE.isShift, SE.eqCells, SE.aggS, SE.intOp, SE.nested, SE.hasRdr, SE.refsC, SE.refsCs, SE.ownsC, SE.refsAr, SE.rdFits, SE.costIf, SE.Con.post, SE.Con.det, SE.Ty.cells, SE.Ty.sz, SE.Ty.zero, SE.Ty.flat, SE.Ty.dec, SE.retOk, SE.loadsS, SE.loadS, SE.decRs, SE.decR, SE.outC, SE.rdC, SE.allDiff, SE.notIn, SE.notFrozen, SE.apartL, SE.rdEnd, SE.firstReg, SE.headC, SE.fitsC, SE.idsC, SE.keepE, SE.keepM, SE.keepB, SE.inL, SE.puts, SE.ownRes, SE.ownEnv, SE.renL, SE.srcId, SE.lookR, SE.envSame, SE.envSets, SE.memSame, SE.memBlks, SE.memOwns, SE.famsOf, SE.allIn, SE.closedE, SE.closedV, SE.closedM, SE.closedR, SE.rdLe, SE.S.refs, SE.S0.refs, SE.CV.refs, SE.refsL, SE.refsT, SE.S.ren, SE.S0.ren, SE.CV.ren, SE.Res.refs, SE.Res.ren, min_i64, max_i64, min_u16, max_u16, min_u8, max_u8, min_u64, max_u64, S.s.injEq, S0.c.injEq, CV.d.injEq, DC.val.injEq, Value.int.injEq, Value.bool.injEq, Value.string.injEq, eta_fact, eta_atom, eta_asn, eta_state, List.mem_cons, List.mem_nil_iff, or_false, false_or, or_true, true_or, Option.map_some, Option.map_none, Option.bind_some, Option.getD_some, Option.getD_none, Nat.reduceEqDiff, Nat.reduceAdd, Nat.reduceMul, Nat.reduceLeDiff, ↓reduceIte, reduceCtorEq, true_and, and_true, and_self, forall_const, implies_true, true_implies, List.getElem?_toArray, List.getElem?_cons_succ, List.getElem?_cons_zero, List.append_nil, List.nil_append, List.cons_append, List.length_cons, List.length_nil, List.take_succ_cons, List.take_zero, List.drop_succ_cons, List.drop_zero, List.set_cons_zero, List.set_cons_succ, List.map_cons, List.map_nil, Nat.add_zero, Nat.zero_add, forall_eq, Prod.forall, Bool.not_true, Bool.not_false, Nat.lt_irrefl, Nat.zero_lt_succ, List.singleton_append, Prod.mk.injEq, Nat.zero_mul, Nat.one_mul, Nat.reducePow, Option.some.injEq, not_false_eq_true, Int.toNat_natCast, Nat.sub_zero, Nat.le_refl, Bool.or_false, Bool.false_or, Bool.or_true, Bool.true_or, Bool.and_true, Bool.true_and, Bool.and_false, Bool.false_and, Bool.or_self, Bool.and_self, List.append_eq, and_false, false_and]
  all_goals (try simp only [vcIf_iff, decide_eq_true_eq, decide_eq_false_iff_not, bne_iff_ne, ne_eq, beq_iff_eq, beq_eq_false_iff_ne, bne_eq_false_iff_eq, Bool.not_eq_true', Bool.not_eq_false', Int.ofNat_lt, Int.natCast_inj])
  all_goals (repeat' (first | apply And.intro | intro _))
  all_goals (first | omega | (simp_all; done) | grind [asV, take_all, all_take, take_full, Ty.zero])
theorem ok_sAssertionValid : FnOk Try.prog E 61 c_sAssertionValid :=
  fn_ok (l := L_sAssertionValid) (perm := fun _ => []) tabOk mix ⟨ok_l3Atom, ok_sFactsValid, trivial⟩ Try.func61 rfl (by kernel_rfl) (by decide) (by kernel_rfl) (anns := fun x _ => an_sAssertionValid x.1) (fun ⟨a, _⟩ k hp _ => vc_sAssertionValid a k hp) tot_fn
end Go.Proofs.Yteoinddmoepbfaa

namespace Go.Proofs.Yteoinddmoepbfaa
open Go.SE Go.RowKit
set_option linter.unusedSimpArgs false
set_option linter.unusedVariables false
set_option maxHeartbeats 1000000
set_option maxRecDepth 100000
/-! l3Terms -/
abbrev c_l3Terms : Con := ⟨[.asn], [.sl .bool], fun (a, _) => asV a = true, .inl fun (a, _) => (fl9 (occ a), ()), fun _ => 0⟩
abbrev L_l3Terms : List (FuncId × Con) := []
abbrev P_l3Terms : List (FuncId × PT) := []
def an_l3Terms (a : GAsn) : Nat → St → Option Ann
  | 3, se => some { α := Nat, ok := fun i => i ≤ a.facts.length, mu := fun i => a.facts.length - i, i0 := fun _ => 0, nx := fun a _ => (fun i => i + 1) a, live := [1, 2], sets := fun i => [(4, sv (.int .i64 i))], mids := [31, 32], blks := fun i => [], owns := fun i => [⟨7, .slot 3, .bool, fl9 (occF (a.facts.take i))⟩], rd := fun r _ => r, base := 100000 }
  | 8, se => some { α := Nat, ok := fun i => i ≤ a.atoms.length, mu := fun i => a.atoms.length - i, i0 := fun _ => 0, nx := fun a _ => (fun i => i + 1) a, live := [1, 2], sets := fun i => [(5, sv (.int .i64 i))], mids := [31, 32], blks := fun i => [], owns := fun i => [⟨7, .slot 3, .bool, fl9 (fun t => occF a.facts t || occG (a.atoms.take i) t)⟩], rd := fun r _ => r, base := 200000 }
  | _, _ => none
def VC_l3Terms_1 (a : GAsn) (k : Nat) (i1 : Nat) : Prop := (True ∧ (vcIf (decide (((i1 : Nat) : Int) < ((a.facts.length : Nat) : Int))) (True ∧ True ∧ True ∧ True ∧ (0 ≤ ((i1 : Nat) : Int) ∧ ((i1 : Nat) : Int) < ((a.facts.length : Nat) : Int)) ∧ True ∧ True ∧ (0 ≤ ((a.facts.getD i1 (⟨false, 0, 0⟩ : GFact)).a) ∧ ((a.facts.getD i1 (⟨false, 0, 0⟩ : GFact)).a) < (((fl9 (occF (a.facts.take i1))).length : Nat) : Int)) ∧ (TF ∧ TF ∧ True ∧ ((7 : Nat) ∉ ([] : List Nat))) ∧ True ∧ True ∧ True ∧ True ∧ (0 ≤ ((i1 : Nat) : Int) ∧ ((i1 : Nat) : Int) < ((a.facts.length : Nat) : Int)) ∧ True ∧ True ∧ (0 ≤ ((a.facts.getD i1 (⟨false, 0, 0⟩ : GFact)).b) ∧ ((a.facts.getD i1 (⟨false, 0, 0⟩ : GFact)).b) < ((((fl9 (occF (a.facts.take i1))).set ((a.facts.getD i1 (⟨false, 0, 0⟩ : GFact)).a).toNat true).length : Nat) : Int)) ∧ (TF ∧ TF ∧ True ∧ ((7 : Nat) ∉ ([] : List Nat))) ∧ True ∧ (inK .i64 (((i1 : Nat) : Int) + (1 : Int))) ∧ True ∧ ((i1 + 1) ≤ a.facts.length) ∧ (a.facts.length - (i1 + 1) < a.facts.length - i1) ∧ TT ∧ (RL [.s (.c (.ptr 31 0)), .s (.c (.own 32))]) ∧ (([.s (.c (.d (.val (.int .i64 (((i1 : Nat) : Int) + (1 : Int))))))] : List S) = [.s (.c (.d (.val (.int .i64 (((i1 + 1) : Nat) : Int)))))]) ∧ (RM [some (.blk [.d (.arr .fact a.facts), .d (.arr .atom a.atoms)]), some (.sl 32 .bool ([] : List Bool))]) ∧ (RM []) ∧ (((some (((fl9 (occF (a.facts.take i1))).set ((a.facts.getD i1 (⟨false, 0, 0⟩ : GFact)).a).toNat true).set ((a.facts.getD i1 (⟨false, 0, 0⟩ : GFact)).b).toNat true) : Option (List Bool)) = some (fl9 (occF (a.facts.take (i1 + 1))))) ∧ True) ∧ TT) (True ∧ ((0 ≤ a.atoms.length) ∧ TT ∧ (RL [.s (.c (.ptr 31 0)), .s (.c (.own 32))]) ∧ (([.s (.c (.d (.val (.int .i64 (0 : Int)))))] : List S) = [.s (.c (.d (.val (.int .i64 ((0 : Nat) : Int)))))]) ∧ (RM [some (.blk [.d (.arr .fact a.facts), .d (.arr .atom a.atoms)]), some (.sl 32 .bool ([] : List Bool))]) ∧ (RM []) ∧ (((some (fl9 (occF (a.facts.take i1))) : Option (List Bool)) = some (fl9 (fun t => occF a.facts t || occG (a.atoms.take 0) t))) ∧ True) ∧ TT) ∧ (∀ i2 : Nat, (i2 ≤ a.atoms.length) → True ∧ True ∧ True ∧ True ∧ True ∧ (vcIf (decide (((i2 : Nat) : Int) < ((a.atoms.length : Nat) : Int))) (True ∧ True ∧ True ∧ True ∧ (0 ≤ ((i2 : Nat) : Int) ∧ ((i2 : Nat) : Int) < ((a.atoms.length : Nat) : Int)) ∧ True ∧ True ∧ (0 ≤ ((a.atoms.getD i2 (⟨0, 0, 0⟩ : GAtom)).a) ∧ ((a.atoms.getD i2 (⟨0, 0, 0⟩ : GAtom)).a) < (((fl9 (fun t => occF a.facts t || occG (a.atoms.take i2) t)).length : Nat) : Int)) ∧ (TF ∧ TF ∧ True ∧ ((7 : Nat) ∉ ([] : List Nat))) ∧ True ∧ True ∧ True ∧ True ∧ (0 ≤ ((i2 : Nat) : Int) ∧ ((i2 : Nat) : Int) < ((a.atoms.length : Nat) : Int)) ∧ True ∧ True ∧ (0 ≤ ((a.atoms.getD i2 (⟨0, 0, 0⟩ : GAtom)).b) ∧ ((a.atoms.getD i2 (⟨0, 0, 0⟩ : GAtom)).b) < ((((fl9 (fun t => occF a.facts t || occG (a.atoms.take i2) t)).set ((a.atoms.getD i2 (⟨0, 0, 0⟩ : GAtom)).a).toNat true).length : Nat) : Int)) ∧ (TF ∧ TF ∧ True ∧ ((7 : Nat) ∉ ([] : List Nat))) ∧ True ∧ (inK .i64 (((i2 : Nat) : Int) + (1 : Int))) ∧ True ∧ ((i2 + 1) ≤ a.atoms.length) ∧ (a.atoms.length - (i2 + 1) < a.atoms.length - i2) ∧ TT ∧ (RL [.s (.c (.ptr 31 0)), .s (.c (.own 32))]) ∧ (([.s (.c (.d (.val (.int .i64 (((i2 : Nat) : Int) + (1 : Int))))))] : List S) = [.s (.c (.d (.val (.int .i64 (((i2 + 1) : Nat) : Int)))))]) ∧ (RM [some (.blk [.d (.arr .fact a.facts), .d (.arr .atom a.atoms)]), some (.sl 32 .bool ([] : List Bool))]) ∧ (RM []) ∧ (((some (((fl9 (fun t => occF a.facts t || occG (a.atoms.take i2) t)).set ((a.atoms.getD i2 (⟨0, 0, 0⟩ : GAtom)).a).toNat true).set ((a.atoms.getD i2 (⟨0, 0, 0⟩ : GAtom)).b).toNat true) : Option (List Bool)) = some (fl9 (fun t => occF a.facts t || occG (a.atoms.take (i2 + 1)) t))) ∧ True) ∧ TT) (True ∧ True ∧ (((fl9 (fun t => occF a.facts t || occG (a.atoms.take i2) t), ()) : (List Bool) × Unit) = (fl9 (occ a), ())) ∧ (True ∧ True) ∧ ((TF ∧ TF) ∧ True) ∧ True ∧ (True ∧ True) ∧ TF))))))
def VC_l3Terms (a : GAsn) (k : Nat) : Prop := TN ∧ TN ∧ (TN ∧ (0 ≤ (9 : Int) ∧ (9 : Int) ≤ (9 : Int) ∧ (9 : Int) ≤ 4294967296)) ∧ True ∧ True ∧ ((0 ≤ a.facts.length) ∧ TT ∧ (RL [.s (.c (.ptr 31 0)), .s (.c (.own 32))]) ∧ (([.s (.c (.d (.val (.int .i64 (0 : Int)))))] : List S) = [.s (.c (.d (.val (.int .i64 ((0 : Nat) : Int)))))]) ∧ (RM [some (.blk [.d (.arr .fact a.facts), .d (.arr .atom a.atoms)]), some (.sl 32 .bool ([] : List Bool))]) ∧ (RM []) ∧ (((some (List.replicate 9 false) : Option (List Bool)) = some (fl9 (occF (a.facts.take 0)))) ∧ True) ∧ TT) ∧ (∀ i1 : Nat, (i1 ≤ a.facts.length) → True ∧ True ∧ True ∧ True ∧ (VC_l3Terms_1 a k i1))
theorem vcn_l3Terms (a : GAsn) (k : Nat) (hp : asV a = true) : VC_l3Terms a k := by
  unfold VC_l3Terms VC_l3Terms_1
  simp only [TT, TF, TN, RL, RM, true_and, and_true, eq_self, implies_true, forall_const, List.cons.injEq, S.s.injEq, S0.c.injEq, S0.agg.injEq, CV.d.injEq, CV.own.injEq, CV.ptr.injEq, DC.val.injEq, Value.int.injEq, Value.bool.injEq, Option.some.injEq, Res.blk.injEq, Prod.mk.injEq, inK, min_i64, max_i64, min_u16, max_u16, min_u8, max_u8, min_u64, max_u64, vcIf_true, vcIf_false, List.mem_nil_iff, List.not_mem_nil, not_false_eq_true, Nat.reduceEqDiff, Nat.reduceLeDiff, ne_eq, Bool.and_true, Nat.add_zero, List.append_nil, List.nil_append, List.length_nil, List.length_cons, Nat.zero_add, Nat.reduceAdd, Int.toNat_natCast, Nat.sub_zero, List.drop_zero, List.map_nil, List.take_zero, forall_eq]
  have hl := asV_facts hp
  have hF := fun i (h : i < a.facts.length) => asV_fact (d := ⟨false, 0, 0⟩) hp h
  have hG := fun i (h : i < a.atoms.length) => asV_atom (d := ⟨0, 0, 0⟩) hp h
  have hi : ∀ t, isT t = true → 0 ≤ t ∧ t ≤ 8 := fun t h => isT_iff.1 h
  have hL := fl9_len
  all_goals (try simp only [vcIf_iff, decide_eq_true_eq, decide_eq_false_iff_not, bne_iff_ne, ne_eq, beq_iff_eq, beq_eq_false_iff_ne, bne_eq_false_iff_eq, Bool.not_eq_true', Bool.not_eq_false', Int.ofNat_lt, Int.natCast_inj])
  all_goals (repeat' (first | apply And.intro | intro _))
  all_goals (first | omega | rfl | (simp_all; done) | (exact flF_step (by assumption) (hF _ (by assumption)).1 (hF _ (by assumption)).2) | (exact flG_step (by assumption) (hG _ (by assumption)).1 (hG _ (by assumption)).2) | skip)
  all_goals (first | (have h1 := hF _ (by assumption); have h2 := hi _ h1.1; have h3 := hi _ h1.2; simp only [List.length_set, hL]; omega) | (have h1 := hG _ (by assumption); have h2 := hi _ h1.1; have h3 := hi _ h1.2; simp only [List.length_set, hL]; omega) | (rw [take_full (by assumption)]; done) | (rw [take_full (by assumption)]; apply fl9_congr; intro t; simp [occF, occG, occ]; done) | (rw [take_full (by assumption)]; rfl) | grind)
theorem vce_l3Terms (a : GAsn) (k : Nat) : VC_l3Terms a k = vcQ tab (lookF L_l3Terms) (lookP P_l3Terms) (fun _ => false) (fun _ => none) (an_l3Terms a) (fun _ => []) (bodyOf Try.f63) (entry (encs c_l3Terms.aks (a, ())) (rdOf false k)) (retOk tab c_l3Terms Try.f63.results.toList (a, ()) k) := by kernel_rfl
theorem vc_l3Terms (a : GAsn) (k : Nat) (hp : asV a = true) : vcQ tab (lookF L_l3Terms) (lookP P_l3Terms) (fun _ => false) (fun _ => none) (an_l3Terms a) (fun _ => []) (bodyOf Try.f63) (entry (encs c_l3Terms.aks (a, ())) (rdOf false k)) (retOk tab c_l3Terms Try.f63.results.toList (a, ()) k) := (vce_l3Terms a k).mp (vcn_l3Terms a k hp)
theorem ok_l3Terms : FnOk Try.prog E 63 c_l3Terms :=
  fn_okQ (l := L_l3Terms) (lp := P_l3Terms) (hp := fun _ => false) (gcs := fun _ => none) (perm := fun _ => []) tabOk mix trivial trivial Try.func63 rfl (by kernel_rfl) (by decide) (by kernel_rfl) (anns := fun x _ => an_l3Terms x.1) (fun ⟨a, _⟩ k hp _ => vc_l3Terms a k hp) tot_fn
end Go.Proofs.Yteoinddmoepbfaa
