/-
  Contracts of single functions of the program, each shown by the engine: what a call returns for arguments within the contract's bounds.
-/
import Derived.Test.YtcnjahaoecngbaaProg
import Derived.KernelRfl
import Derived.Test.YtcnjahaoecngbaaEd
set_option linter.unusedSimpArgs false
set_option linter.unusedVariables false
set_option linter.unusedSectionVars false

namespace Go.Proofs.Ytcnjahaoecngbaa
open Go.SE Go.RowKit
def E : Ty → TypeId
  | .int => 3
  | .bool => 4
  | .u8 => 5
  | .fact => 31
  | .atom => 103
  | .cmd => 133
  | .ints => 22
def tabL : List (TypeId × TI) := [
  (2, ⟨1, 8, .sc (.int .i64 0)⟩),
  (3, ⟨1, 8, .sc (.int .i64 0)⟩),
  (4, ⟨1, 1, .sc (.bool false)⟩),
  (5, ⟨1, 1, .sc (.int .u8 0)⟩),
  (7, ⟨4, 24, .st [.sc (.int .i64 0), .sc (.int .i64 0), .sc (.bool false), .sc (.int .u8 0)] [(0, 1, false), (1, 1, false), (2, 1, false), (3, 1, false)]⟩),
  (9, ⟨1, 16, .sc (.string ⟨#[]⟩)⟩),
  (12, ⟨1, 8, .sc (.int .u64 0)⟩),
  (13, ⟨2, 24, .st [.sc (.string ⟨#[]⟩), .sc (.int .u64 0)] [(0, 1, false), (1, 1, false)]⟩),
  (21, ⟨1, 4, .sc (.int .i32 0)⟩),
  (22, ⟨1, 24, .sl true 3 .int⟩),
  (23, ⟨2, 48, .st [.sl .int, .sl .int] [(0, 1, false), (1, 1, false)]⟩),
  (24, ⟨2, 48, .st [.sl .int, .sl .int] [(0, 1, false), (1, 1, false)]⟩),
  (25, ⟨3, 24, .st [.sc (.bool false), .sc (.int .i64 0), .sc (.int .i64 0)] [(0, 1, false), (1, 1, false), (2, 1, false)]⟩),
  (26, ⟨3, 24, .st [.sc (.bool false), .sc (.int .i64 0), .sc (.int .i64 0)] [(0, 1, false), (1, 1, false), (2, 1, false)]⟩),
  (29, ⟨2, 48, .st [.sl .int, .sl .int] [(0, 1, false), (1, 1, false)]⟩),
  (31, ⟨3, 24, .st [.sc (.bool false), .sc (.int .i64 0), .sc (.int .i64 0)] [(0, 1, false), (1, 1, false), (2, 1, false)]⟩),
  (35, ⟨1, 24, .sl true 5 .u8⟩),
  (41, ⟨1, 24, .sl true 31 .fact⟩),
  (42, ⟨1, 24, .sl true 103 .atom⟩),
  (43, ⟨2, 48, .st [.sl .fact, .sl .atom] [(0, 1, false), (1, 1, false)]⟩),
  (44, ⟨2, 48, .st [.sl .fact, .sl .atom] [(0, 1, false), (1, 1, false)]⟩),
  (60, ⟨1, 24, .sl false 26 .fact⟩),
  (61, ⟨1, 24, .sl false 170 .atom⟩),
  (62, ⟨2, 48, .st [.sl .fact, .sl .atom] [(0, 1, false), (1, 1, false)]⟩),
  (63, ⟨2, 48, .st [.sl .fact, .sl .atom] [(0, 1, false), (1, 1, false)]⟩),
  (69, ⟨1, 24, .sl true 133 .cmd⟩),
  (78, ⟨1, 24, .sl false 152 .cmd⟩),
  (102, ⟨3, 24, .st [.sc (.int .i64 0), .sc (.int .i64 0), .sc (.int .i64 0)] [(0, 1, false), (1, 1, false), (2, 1, false)]⟩),
  (103, ⟨3, 24, .st [.sc (.int .i64 0), .sc (.int .i64 0), .sc (.int .i64 0)] [(0, 1, false), (1, 1, false), (2, 1, false)]⟩),
  (107, ⟨1, 2, .sc (.int .u16 0)⟩),
  (108, ⟨1, 2, .sc (.int .u16 0)⟩),
  (116, ⟨1, 24, .sl true 4 .bool⟩),
  (127, ⟨2, 48, .st [.sl .cmd, .sl .cmd] [(0, 1, false), (1, 1, false)]⟩),
  (128, ⟨2, 48, .st [.sl .cmd, .sl .cmd] [(0, 1, false), (1, 1, false)]⟩),
  (132, ⟨10, 144, .st [.sc (.int .i64 0), .sc (.int .i64 0), .sc (.int .i64 0), .sc (.bool false), .sc (.int .i64 0), .sc (.int .i64 0), .sl .fact, .sl .atom, .sl .cmd, .sl .cmd] [(0, 1, false), (1, 1, false), (2, 1, false), (3, 3, true), (6, 2, true), (8, 1, false), (9, 1, false)]⟩),
  (133, ⟨10, 144, .st [.sc (.int .i64 0), .sc (.int .i64 0), .sc (.int .i64 0), .sc (.bool false), .sc (.int .i64 0), .sc (.int .i64 0), .sl .fact, .sl .atom, .sl .cmd, .sl .cmd] [(0, 1, false), (1, 1, false), (2, 1, false), (3, 3, true), (6, 2, true), (8, 1, false), (9, 1, false)]⟩),
  (137, ⟨9, 72, .ar 9 3 .int⟩),
  (138, ⟨9, 72, .ar 9 3 .int⟩),
  (146, ⟨1, 2, .sc (.int .u16 0)⟩),
  (151, ⟨10, 144, .st [.sc (.int .i64 0), .sc (.int .i64 0), .sc (.int .i64 0), .sc (.bool false), .sc (.int .i64 0), .sc (.int .i64 0), .sl .fact, .sl .atom, .sl .cmd, .sl .cmd] [(0, 1, false), (1, 1, false), (2, 1, false), (3, 3, true), (6, 2, true), (8, 1, false), (9, 1, false)]⟩),
  (152, ⟨10, 144, .st [.sc (.int .i64 0), .sc (.int .i64 0), .sc (.int .i64 0), .sc (.bool false), .sc (.int .i64 0), .sc (.int .i64 0), .sl .fact, .sl .atom, .sl .cmd, .sl .cmd] [(0, 1, false), (1, 1, false), (2, 1, false), (3, 3, true), (6, 2, true), (8, 1, false), (9, 1, false)]⟩),
  (161, ⟨2, 32, .st [.sl .u8, .sc (.int .i64 0)] [(0, 1, false), (1, 1, false)]⟩),
  (162, ⟨2, 32, .st [.sl .u8, .sc (.int .i64 0)] [(0, 1, false), (1, 1, false)]⟩),
  (170, ⟨3, 24, .st [.sc (.int .i64 0), .sc (.int .i64 0), .sc (.int .i64 0)] [(0, 1, false), (1, 1, false), (2, 1, false)]⟩),
  (176, ⟨1, 24, .sl true 22 .ints⟩),
  (194, ⟨6, 6, .ar 6 4 .bool⟩),
  (195, ⟨8, 40, .st [.sl .atom, .sc (.bool false), .sc (.bool false), .sc (.bool false), .sc (.bool false), .sc (.bool false), .sc (.bool false), .sc (.int .i64 0)] [(0, 1, false), (1, 6, true), (7, 1, false)]⟩),
  (196, ⟨8, 40, .st [.sl .atom, .sc (.bool false), .sc (.bool false), .sc (.bool false), .sc (.bool false), .sc (.bool false), .sc (.bool false), .sc (.int .i64 0)] [(0, 1, false), (1, 6, true), (7, 1, false)]⟩),
  (217, ⟨1, 4, .sc (.int .u32 0)⟩),
  (230, ⟨1, 8, .sc (.int .u64 0)⟩)]
def tab : TypeId → Option TI := lookT tabL
theorem tab2 : tab 2 = some ⟨1, 8, .sc (.int .i64 0)⟩ := rfl
theorem tab3 : tab 3 = some ⟨1, 8, .sc (.int .i64 0)⟩ := rfl
theorem tab4 : tab 4 = some ⟨1, 1, .sc (.bool false)⟩ := rfl
theorem tab5 : tab 5 = some ⟨1, 1, .sc (.int .u8 0)⟩ := rfl
theorem tab7 : tab 7 = some ⟨4, 24, .st [.sc (.int .i64 0), .sc (.int .i64 0), .sc (.bool false), .sc (.int .u8 0)] [(0, 1, false), (1, 1, false), (2, 1, false), (3, 1, false)]⟩ := rfl
theorem tab9 : tab 9 = some ⟨1, 16, .sc (.string ⟨#[]⟩)⟩ := rfl
theorem tab12 : tab 12 = some ⟨1, 8, .sc (.int .u64 0)⟩ := rfl
theorem tab13 : tab 13 = some ⟨2, 24, .st [.sc (.string ⟨#[]⟩), .sc (.int .u64 0)] [(0, 1, false), (1, 1, false)]⟩ := rfl
theorem tab21 : tab 21 = some ⟨1, 4, .sc (.int .i32 0)⟩ := rfl
theorem tab22 : tab 22 = some ⟨1, 24, .sl true 3 .int⟩ := rfl
theorem tab23 : tab 23 = some ⟨2, 48, .st [.sl .int, .sl .int] [(0, 1, false), (1, 1, false)]⟩ := rfl
theorem tab24 : tab 24 = some ⟨2, 48, .st [.sl .int, .sl .int] [(0, 1, false), (1, 1, false)]⟩ := rfl
theorem tab25 : tab 25 = some ⟨3, 24, .st [.sc (.bool false), .sc (.int .i64 0), .sc (.int .i64 0)] [(0, 1, false), (1, 1, false), (2, 1, false)]⟩ := rfl
theorem tab26 : tab 26 = some ⟨3, 24, .st [.sc (.bool false), .sc (.int .i64 0), .sc (.int .i64 0)] [(0, 1, false), (1, 1, false), (2, 1, false)]⟩ := rfl
theorem tab29 : tab 29 = some ⟨2, 48, .st [.sl .int, .sl .int] [(0, 1, false), (1, 1, false)]⟩ := rfl
theorem tab31 : tab 31 = some ⟨3, 24, .st [.sc (.bool false), .sc (.int .i64 0), .sc (.int .i64 0)] [(0, 1, false), (1, 1, false), (2, 1, false)]⟩ := rfl
theorem tab35 : tab 35 = some ⟨1, 24, .sl true 5 .u8⟩ := rfl
theorem tab41 : tab 41 = some ⟨1, 24, .sl true 31 .fact⟩ := rfl
theorem tab42 : tab 42 = some ⟨1, 24, .sl true 103 .atom⟩ := rfl
theorem tab43 : tab 43 = some ⟨2, 48, .st [.sl .fact, .sl .atom] [(0, 1, false), (1, 1, false)]⟩ := rfl
theorem tab44 : tab 44 = some ⟨2, 48, .st [.sl .fact, .sl .atom] [(0, 1, false), (1, 1, false)]⟩ := rfl
theorem tab60 : tab 60 = some ⟨1, 24, .sl false 26 .fact⟩ := rfl
theorem tab61 : tab 61 = some ⟨1, 24, .sl false 170 .atom⟩ := rfl
theorem tab62 : tab 62 = some ⟨2, 48, .st [.sl .fact, .sl .atom] [(0, 1, false), (1, 1, false)]⟩ := rfl
theorem tab63 : tab 63 = some ⟨2, 48, .st [.sl .fact, .sl .atom] [(0, 1, false), (1, 1, false)]⟩ := rfl
theorem tab69 : tab 69 = some ⟨1, 24, .sl true 133 .cmd⟩ := rfl
theorem tab78 : tab 78 = some ⟨1, 24, .sl false 152 .cmd⟩ := rfl
theorem tab102 : tab 102 = some ⟨3, 24, .st [.sc (.int .i64 0), .sc (.int .i64 0), .sc (.int .i64 0)] [(0, 1, false), (1, 1, false), (2, 1, false)]⟩ := rfl
theorem tab103 : tab 103 = some ⟨3, 24, .st [.sc (.int .i64 0), .sc (.int .i64 0), .sc (.int .i64 0)] [(0, 1, false), (1, 1, false), (2, 1, false)]⟩ := rfl
theorem tab107 : tab 107 = some ⟨1, 2, .sc (.int .u16 0)⟩ := rfl
theorem tab108 : tab 108 = some ⟨1, 2, .sc (.int .u16 0)⟩ := rfl
theorem tab116 : tab 116 = some ⟨1, 24, .sl true 4 .bool⟩ := rfl
theorem tab127 : tab 127 = some ⟨2, 48, .st [.sl .cmd, .sl .cmd] [(0, 1, false), (1, 1, false)]⟩ := rfl
theorem tab128 : tab 128 = some ⟨2, 48, .st [.sl .cmd, .sl .cmd] [(0, 1, false), (1, 1, false)]⟩ := rfl
theorem tab132 : tab 132 = some ⟨10, 144, .st [.sc (.int .i64 0), .sc (.int .i64 0), .sc (.int .i64 0), .sc (.bool false), .sc (.int .i64 0), .sc (.int .i64 0), .sl .fact, .sl .atom, .sl .cmd, .sl .cmd] [(0, 1, false), (1, 1, false), (2, 1, false), (3, 3, true), (6, 2, true), (8, 1, false), (9, 1, false)]⟩ := rfl
theorem tab133 : tab 133 = some ⟨10, 144, .st [.sc (.int .i64 0), .sc (.int .i64 0), .sc (.int .i64 0), .sc (.bool false), .sc (.int .i64 0), .sc (.int .i64 0), .sl .fact, .sl .atom, .sl .cmd, .sl .cmd] [(0, 1, false), (1, 1, false), (2, 1, false), (3, 3, true), (6, 2, true), (8, 1, false), (9, 1, false)]⟩ := rfl
theorem tab137 : tab 137 = some ⟨9, 72, .ar 9 3 .int⟩ := rfl
theorem tab138 : tab 138 = some ⟨9, 72, .ar 9 3 .int⟩ := rfl
theorem tab146 : tab 146 = some ⟨1, 2, .sc (.int .u16 0)⟩ := rfl
theorem tab151 : tab 151 = some ⟨10, 144, .st [.sc (.int .i64 0), .sc (.int .i64 0), .sc (.int .i64 0), .sc (.bool false), .sc (.int .i64 0), .sc (.int .i64 0), .sl .fact, .sl .atom, .sl .cmd, .sl .cmd] [(0, 1, false), (1, 1, false), (2, 1, false), (3, 3, true), (6, 2, true), (8, 1, false), (9, 1, false)]⟩ := rfl
theorem tab152 : tab 152 = some ⟨10, 144, .st [.sc (.int .i64 0), .sc (.int .i64 0), .sc (.int .i64 0), .sc (.bool false), .sc (.int .i64 0), .sc (.int .i64 0), .sl .fact, .sl .atom, .sl .cmd, .sl .cmd] [(0, 1, false), (1, 1, false), (2, 1, false), (3, 3, true), (6, 2, true), (8, 1, false), (9, 1, false)]⟩ := rfl
theorem tab161 : tab 161 = some ⟨2, 32, .st [.sl .u8, .sc (.int .i64 0)] [(0, 1, false), (1, 1, false)]⟩ := rfl
theorem tab162 : tab 162 = some ⟨2, 32, .st [.sl .u8, .sc (.int .i64 0)] [(0, 1, false), (1, 1, false)]⟩ := rfl
theorem tab170 : tab 170 = some ⟨3, 24, .st [.sc (.int .i64 0), .sc (.int .i64 0), .sc (.int .i64 0)] [(0, 1, false), (1, 1, false), (2, 1, false)]⟩ := rfl
theorem tab176 : tab 176 = some ⟨1, 24, .sl true 22 .ints⟩ := rfl
theorem tab194 : tab 194 = some ⟨6, 6, .ar 6 4 .bool⟩ := rfl
theorem tab195 : tab 195 = some ⟨8, 40, .st [.sl .atom, .sc (.bool false), .sc (.bool false), .sc (.bool false), .sc (.bool false), .sc (.bool false), .sc (.bool false), .sc (.int .i64 0)] [(0, 1, false), (1, 6, true), (7, 1, false)]⟩ := rfl
theorem tab196 : tab 196 = some ⟨8, 40, .st [.sl .atom, .sc (.bool false), .sc (.bool false), .sc (.bool false), .sc (.bool false), .sc (.bool false), .sc (.bool false), .sc (.int .i64 0)] [(0, 1, false), (1, 6, true), (7, 1, false)]⟩ := rfl
theorem tab217 : tab 217 = some ⟨1, 4, .sc (.int .u32 0)⟩ := rfl
theorem tab230 : tab 230 = some ⟨1, 8, .sc (.int .u64 0)⟩ := rfl
theorem tabOk : TabOk Try.prog E tab := tab_ok (by kernel_rfl)
theorem mix : Try.prog.follows .mixedOrders = true := by kernel_rfl
end Go.Proofs.Ytcnjahaoecngbaa

namespace Go.Proofs.Ytcnjahaoecngbaa
open Go.SE Go.RowKit
set_option linter.unusedSimpArgs false
set_option linter.unusedVariables false
set_option maxHeartbeats 1000000
set_option maxRecDepth 100000
/-! sameListsF -/
abbrev c_sameListsF : Con := ⟨[.sl .fact, .sl .fact], [.bool], fun (a, b, _) => a.length ≤ 281474976710656 ∧ b.length ≤ 281474976710656, .inl fun (a, b, _) => (decide (a = b), ()), fun _ => 0⟩
abbrev L_sameListsF : List (FuncId × Con) := []
def an_sameListsF (a : List GFact) (b : List GFact) : Nat → Option Ann
  | 4 => some { α := Nat, ok := fun i => i ≤ a.length ∧ a.length = b.length ∧ a.take i = b.take i, mu := fun i => a.length - i, i0 := fun _ => 0, nx := fun a _ => (fun i => i + 1) a, live := [1, 12, 13], sets := fun i => [(14, sv (.int .i64 i))], mids := [], blks := fun i => [], owns := fun i => [], rd := fun r _ => r, base := 100000 }
  | _ => none
theorem vc_sameListsF (a : List GFact) (b : List GFact) (k : Nat) (hp : a.length ≤ 281474976710656 ∧ b.length ≤ 281474976710656) : vc tab (lookF L_sameListsF) (an_sameListsF a b) (fun _ => []) (bodyOf Try.f84) (entry (encs c_sameListsF.aks (a, b, ())) (rdOf false k)) (retOk tab c_sameListsF Try.f84.results.toList (a, b, ()) k) := by
  dsimp only [bodyOf, Try.f84, rdOf]
  simp (maxSteps := 10000000) only [c_sameListsF, L_sameListsF, an_sameListsF, SE.lookF, tab2, tab3, tab4, tab5, tab7, tab9, tab12, tab13, tab21, tab22, tab23, tab24, tab25, tab26, tab29, tab31, tab35, tab41, tab42, tab43, tab44, tab60, tab61, tab62, tab63, tab69, tab78, tab102, tab103, tab107, tab108, tab116, tab127, tab128, tab132, tab133, tab137, tab138, tab146, tab151, tab152, tab161, tab162, tab170, tab176, tab194, tab195, tab196, tab217, tab230, SE.entry, SE.envOf, SE.rdOf, Option.get_some, SE.vc, SE.vcReg, SE.vcLoop, SE.condK, SE.seqK, SE.blockK, SE.vcOps, SE.vcStep, SE.vcOp, SE.vcTr, SE.vcDet_some, SE.vcDet_none, SE.vcIf_true, SE.vcIf_false, SE.vcEach, SE.pickOps, SE.gslot, SE.trOp, SE.moveId, SE.trMove, SE.trPick, SE.trAlloc, SE.trBox, SE.trBuild, SE.trBuildSlice, SE.trLoad, SE.trStore, SE.trNilCheck, SE.trBin, SE.trUn, SE.trConvert, SE.trFieldAddr, SE.trField, SE.trIndexAddr, SE.trIndex, SE.trSlice, SE.trMakeSlice, SE.trExtract, SE.trLen, SE.trAppend, SE.trCopy, SE.trFn, SE.trCall, SE.argsS, SE.ev, SE.constS, SE.junk, SE.sv, SE.upd_app, SE.adds, SE.sets, SE.nid, SE.St.app, SE.St.put, SE.free, SE.freeL, SE.allFree, SE.rids, SE.AK.rids, SE.castL, SE.rdl, SE.AK.dec, SE.decs, SE.AK.enc, SE.encs, SE.AK.res, SE.ress, SE.pack1, SE.zcells, SE.zeroOf, SE.partCells, SE.putc, SE.fills, SE.datas, SE.elemOf, SE.elemsOf, SE.notSpent, SE.cellsAt, SE.weak, SE.dcellsAt, SE.slAt, SE.rdPlus, SE.intAt, SE.updElem, SE.kill, SE.noJunk, SE.inK, SE.binI, SE.shf, SE.isShift, SE.eqCells, SE.aggS, SE.intOp, SE.nested, SE.hasRdr, SE.refsC, SE.refsCs, SE.ownsC, SE.refsAr, SE.rdFits, SE.costIf, SE.Con.post, SE.Con.det, SE.Ty.cells, SE.Ty.sz, SE.Ty.zero, SE.Ty.flat, SE.Ty.dec, SE.retOk, SE.loadsS, SE.loadS, SE.decRs, SE.decR, SE.outC, SE.rdC, SE.allDiff, SE.notIn, SE.notFrozen, SE.apartL, SE.rdEnd, SE.firstReg, SE.headC, SE.fitsC, SE.idsC, SE.keepE, SE.keepM, SE.keepB, SE.inL, SE.puts, SE.ownRes, SE.ownEnv, SE.renL, SE.srcId, SE.lookR, SE.envSame, SE.envSets, SE.memSame, SE.memBlks, SE.memOwns, SE.famsOf, SE.allIn, SE.closedE, SE.closedV, SE.closedM, SE.closedR, SE.rdLe, SE.S.refs, SE.S0.refs, SE.CV.refs, SE.refsL, SE.refsT, SE.S.ren, SE.S0.ren, SE.CV.ren, SE.Res.refs, SE.Res.ren, min_i64, max_i64, min_u16, max_u16, min_u8, max_u8, min_u64, max_u64, S.s.injEq, S0.c.injEq, CV.d.injEq, DC.val.injEq, Value.int.injEq, Value.bool.injEq, Value.string.injEq, eta_fact, eta_atom, eta_asn, eta_state, List.mem_cons, List.mem_nil_iff, or_false, false_or, or_true, true_or, Option.map_some, Option.map_none, Option.bind_some, Option.getD_some, Option.getD_none, Nat.reduceEqDiff, Nat.reduceAdd, Nat.reduceMul, Nat.reduceLeDiff, ↓reduceIte, reduceCtorEq, true_and, and_true, and_self, forall_const, implies_true, true_implies, List.getElem?_toArray, List.getElem?_cons_succ, List.getElem?_cons_zero, List.append_nil, List.nil_append, List.cons_append, List.length_cons, List.length_nil, List.take_succ_cons, List.take_zero, List.drop_succ_cons, List.drop_zero, List.set_cons_zero, List.set_cons_succ, List.map_cons, List.map_nil, Nat.add_zero, Nat.zero_add, forall_eq, Prod.forall, Bool.not_true, Bool.not_false, Nat.lt_irrefl, Nat.zero_lt_succ, List.singleton_append, Prod.mk.injEq, Nat.zero_mul, Nat.one_mul, Nat.reducePow, Option.some.injEq, not_false_eq_true, Int.toNat_natCast, Nat.sub_zero, Nat.le_refl, Bool.or_false, Bool.false_or, Bool.or_true, Bool.true_or, Bool.and_true, Bool.true_and, Bool.and_false, Bool.false_and, Bool.or_self, Bool.and_self, List.append_eq, and_false, false_and, fact_beq, atom_beq]
  all_goals (try simp only [vcIf_iff, decide_eq_true_eq, decide_eq_false_iff_not, bne_iff_ne, ne_eq, beq_iff_eq, beq_eq_false_iff_ne, bne_eq_false_iff_eq, Bool.not_eq_true', Bool.not_eq_false', Int.ofNat_lt, Int.natCast_inj])
  all_goals (repeat' (first | apply And.intro | intro _))
  all_goals (first | omega | (simp_all; done) | grind [same_step, same_not, take_full, Ty.zero])
theorem ok_sameListsF : FnOk Try.prog E 84 c_sameListsF :=
  fn_ok (l := L_sameListsF) (perm := fun _ => []) tabOk mix trivial Try.func84 rfl (by kernel_rfl) (by decide) (by kernel_rfl) (anns := fun x _ => an_sameListsF x.1 x.2.1) (fun ⟨a, b, _⟩ k hp _ => vc_sameListsF a b k hp) tot_fn
end Go.Proofs.Ytcnjahaoecngbaa

namespace Go.Proofs.Ytcnjahaoecngbaa
open Go.SE Go.RowKit
set_option linter.unusedSimpArgs false
set_option linter.unusedVariables false
set_option maxHeartbeats 1000000
set_option maxRecDepth 100000
/-! sameListsA -/
abbrev c_sameListsA : Con := ⟨[.sl .atom, .sl .atom], [.bool], fun (a, b, _) => a.length ≤ 281474976710656 ∧ b.length ≤ 281474976710656, .inl fun (a, b, _) => (decide (a = b), ()), fun _ => 0⟩
abbrev L_sameListsA : List (FuncId × Con) := []
def an_sameListsA (a : List GAtom) (b : List GAtom) : Nat → Option Ann
  | 4 => some { α := Nat, ok := fun i => i ≤ a.length ∧ a.length = b.length ∧ a.take i = b.take i, mu := fun i => a.length - i, i0 := fun _ => 0, nx := fun a _ => (fun i => i + 1) a, live := [1, 12, 13], sets := fun i => [(14, sv (.int .i64 i))], mids := [], blks := fun i => [], owns := fun i => [], rd := fun r _ => r, base := 100000 }
  | _ => none
theorem vc_sameListsA (a : List GAtom) (b : List GAtom) (k : Nat) (hp : a.length ≤ 281474976710656 ∧ b.length ≤ 281474976710656) : vc tab (lookF L_sameListsA) (an_sameListsA a b) (fun _ => []) (bodyOf Try.f85) (entry (encs c_sameListsA.aks (a, b, ())) (rdOf false k)) (retOk tab c_sameListsA Try.f85.results.toList (a, b, ()) k) := by
  dsimp only [bodyOf, Try.f85, rdOf]
  simp (maxSteps := 10000000) only [c_sameListsA, L_sameListsA, an_sameListsA, SE.lookF, tab2, tab3, tab4, tab5, tab7, tab9, tab12, tab13, tab21, tab22, tab23, tab24, tab25, tab26, tab29, tab31, tab35, tab41, tab42, tab43, tab44, tab60, tab61, tab62, tab63, tab69, tab78, tab102, tab103, tab107, tab108, tab116, tab127, tab128, tab132, tab133, tab137, tab138, tab146, tab151, tab152, tab161, tab162, tab170, tab176, tab194, tab195, tab196, tab217, tab230, SE.entry, SE.envOf, SE.rdOf, Option.get_some, SE.vc, SE.vcReg, SE.vcLoop, SE.condK, SE.seqK, SE.blockK, SE.vcOps, SE.vcStep, SE.vcOp, SE.vcTr, SE.vcDet_some, SE.vcDet_none, SE.vcIf_true, SE.vcIf_false, SE.vcEach, SE.pickOps, SE.gslot, SE.trOp, SE.moveId, SE.trMove, SE.trPick, SE.trAlloc, SE.trBox, SE.trBuild, SE.trBuildSlice, SE.trLoad, SE.trStore, SE.trNilCheck, SE.trBin, SE.trUn, SE.trConvert, SE.trFieldAddr, SE.trField, SE.trIndexAddr, SE.trIndex, SE.trSlice, SE.trMakeSlice, SE.trExtract, SE.trLen, SE.trAppend, SE.trCopy, SE.trFn, SE.trCall, SE.argsS, SE.ev, SE.constS, SE.junk, SE.sv, SE.upd_app, SE.adds, SE.sets, SE.nid, SE.St.app, SE.St.put, SE.free, SE.freeL, SE.allFree, SE.rids, SE.AK.rids, SE.castL, SE.rdl, SE.AK.dec, SE.decs, SE.AK.enc, SE.encs, SE.AK.res, SE.ress, SE.pack1, SE.zcells, SE.zeroOf, SE.partCells, SE.putc, SE.fills, SE.datas, SE.elemOf, SE.elemsOf, SE.notSpent, SE.cellsAt, SE.weak, SE.dcellsAt, SE.slAt, SE.rdPlus, SE.intAt, SE.updElem, SE.kill, SE.noJunk, SE.inK, SE.binI, SE.shf, SE.isShift, SE.eqCells, SE.aggS, SE.intOp, SE.nested, SE.hasRdr, SE.refsC, SE.refsCs, SE.ownsC, SE.refsAr, SE.rdFits, SE.costIf, SE.Con.post, SE.Con.det, SE.Ty.cells, SE.Ty.sz, SE.Ty.zero, SE.Ty.flat, SE.Ty.dec, SE.retOk, SE.loadsS, SE.loadS, SE.decRs, SE.decR, SE.outC, SE.rdC, SE.allDiff, SE.notIn, SE.notFrozen, SE.apartL, SE.rdEnd, SE.firstReg, SE.headC, SE.fitsC, SE.idsC, SE.keepE, SE.keepM, SE.keepB, SE.inL, SE.puts, SE.ownRes, SE.ownEnv, SE.renL, SE.srcId, SE.lookR, SE.envSame, SE.envSets, SE.memSame, SE.memBlks, SE.memOwns, SE.famsOf, SE.allIn, SE.closedE, SE.closedV, SE.closedM, SE.closedR, SE.rdLe, SE.S.refs, SE.S0.refs, SE.CV.refs, SE.refsL, SE.refsT, SE.S.ren, SE.S0.ren, SE.CV.ren, SE.Res.refs, SE.Res.ren, min_i64, max_i64, min_u16, max_u16, min_u8, max_u8, min_u64, max_u64, S.s.injEq, S0.c.injEq, CV.d.injEq, DC.val.injEq, Value.int.injEq, Value.bool.injEq, Value.string.injEq, eta_fact, eta_atom, eta_asn, eta_state, List.mem_cons, List.mem_nil_iff, or_false, false_or, or_true, true_or, Option.map_some, Option.map_none, Option.bind_some, Option.getD_some, Option.getD_none, Nat.reduceEqDiff, Nat.reduceAdd, Nat.reduceMul, Nat.reduceLeDiff, ↓reduceIte, reduceCtorEq, true_and, and_true, and_self, forall_const, implies_true, true_implies, List.getElem?_toArray, List.getElem?_cons_succ, List.getElem?_cons_zero, List.append_nil, List.nil_append, List.cons_append, List.length_cons, List.length_nil, List.take_succ_cons, List.take_zero, List.drop_succ_cons, List.drop_zero, List.set_cons_zero, List.set_cons_succ, List.map_cons, List.map_nil, Nat.add_zero, Nat.zero_add, forall_eq, Prod.forall, Bool.not_true, Bool.not_false, Nat.lt_irrefl, Nat.zero_lt_succ, List.singleton_append, Prod.mk.injEq, Nat.zero_mul, Nat.one_mul, Nat.reducePow, Option.some.injEq, not_false_eq_true, Int.toNat_natCast, Nat.sub_zero, Nat.le_refl, Bool.or_false, Bool.false_or, Bool.or_true, Bool.true_or, Bool.and_true, Bool.true_and, Bool.and_false, Bool.false_and, Bool.or_self, Bool.and_self, List.append_eq, and_false, false_and, fact_beq, atom_beq]
  all_goals (try simp only [vcIf_iff, decide_eq_true_eq, decide_eq_false_iff_not, bne_iff_ne, ne_eq, beq_iff_eq, beq_eq_false_iff_ne, bne_eq_false_iff_eq, Bool.not_eq_true', Bool.not_eq_false', Int.ofNat_lt, Int.natCast_inj])
  all_goals (repeat' (first | apply And.intro | intro _))
  all_goals (first | omega | (simp_all; done) | grind [same_step, same_not, take_full, Ty.zero])
theorem ok_sameListsA : FnOk Try.prog E 85 c_sameListsA :=
  fn_ok (l := L_sameListsA) (perm := fun _ => []) tabOk mix trivial Try.func85 rfl (by kernel_rfl) (by decide) (by kernel_rfl) (anns := fun x _ => an_sameListsA x.1 x.2.1) (fun ⟨a, b, _⟩ k hp _ => vc_sameListsA a b k hp) tot_fn
end Go.Proofs.Ytcnjahaoecngbaa

namespace Go.Proofs.Ytcnjahaoecngbaa
open Go.SE Go.RowKit
set_option linter.unusedSimpArgs false
set_option linter.unusedVariables false
set_option maxHeartbeats 1000000
set_option maxRecDepth 100000
/-! iAssertionSame -/
abbrev c_iAssertionSame : Con := ⟨[.asn, .asn], [.bool], fun (a, b, _) => a.facts.length ≤ 281474976710656 ∧ a.atoms.length ≤ 281474976710656 ∧ b.facts.length ≤ 281474976710656 ∧ b.atoms.length ≤ 281474976710656, .inl fun (a, b, _) => (decide (a = b), ()), fun _ => 0⟩
abbrev L_iAssertionSame : List (FuncId × Con) := [(84, c_sameListsF), (85, c_sameListsA)]
theorem vc_iAssertionSame (a : GAsn) (b : GAsn) (k : Nat) (hp : a.facts.length ≤ 281474976710656 ∧ a.atoms.length ≤ 281474976710656 ∧ b.facts.length ≤ 281474976710656 ∧ b.atoms.length ≤ 281474976710656) : vc tab (lookF L_iAssertionSame) (fun _ => none) (fun _ => []) (bodyOf Try.f27) (entry (encs c_iAssertionSame.aks (a, b, ())) (rdOf false k)) (retOk tab c_iAssertionSame Try.f27.results.toList (a, b, ()) k) := by
  dsimp only [bodyOf, Try.f27, rdOf]
  simp (maxSteps := 10000000) only [c_iAssertionSame, L_iAssertionSame, SE.lookF, c_sameListsF, c_sameListsA, tab2, tab3, tab4, tab5, tab7, tab9, tab12, tab13, tab21, tab22, tab23, tab24, tab25, tab26, tab29, tab31, tab35, tab41, tab42, tab43, tab44, tab60, tab61, tab62, tab63, tab69, tab78, tab102, tab103, tab107, tab108, tab116, tab127, tab128, tab132, tab133, tab137, tab138, tab146, tab151, tab152, tab161, tab162, tab170, tab176, tab194, tab195, tab196, tab217, tab230, SE.entry, SE.envOf, SE.rdOf, Option.get_some, SE.vc, SE.vcReg, SE.vcLoop, SE.condK, SE.seqK, SE.blockK, SE.vcOps, SE.vcStep, SE.vcOp, SE.vcTr, SE.vcDet_some, SE.vcDet_none, SE.vcIf_true, SE.vcIf_false, SE.vcEach, SE.pickOps, SE.gslot, SE.trOp, SE.moveId, SE.trMove, SE.trPick, SE.trAlloc, SE.trBox, SE.trBuild, SE.trBuildSlice, SE.trLoad, SE.trStore, SE.trNilCheck, SE.trBin, SE.trUn, SE.trConvert, SE.trFieldAddr, SE.trField, SE.trIndexAddr, SE.trIndex, SE.trSlice, SE.trMakeSlice, SE.trExtract, SE.trLen, SE.trAppend, SE.trCopy, SE.trFn, SE.trCall, SE.argsS, SE.ev, SE.constS, SE.junk, SE.sv, SE.upd_app, SE.adds, SE.sets, SE.nid, SE.St.app, SE.St.put, SE.free, SE.freeL, SE.allFree, SE.rids, SE.AK.rids, SE.castL, SE.rdl, SE.AK.dec, SE.decs, SE.AK.enc, SE.encs, SE.AK.res, SE.ress, SE.pack1, SE.zcells, SE.zeroOf, SE.partCells, SE.putc, SE.fills, SE.datas, SE.elemOf, SE.elemsOf, SE.notSpent, SE.cellsAt, SE.weak, SE.dcellsAt, SE.slAt, SE.rdPlus, SE.intAt, SE.updElem, SE.kill, SE.noJunk, SE.inK, SE.binI, SE.shf, SE.isShift, SE.eqCells, SE.aggS, SE.intOp, SE.nested, SE.hasRdr, SE.refsC, SE.refsCs, SE.ownsC, SE.refsAr, SE.rdFits, SE.costIf, SE.Con.post, SE.Con.det, SE.Ty.cells, SE.Ty.sz, SE.Ty.zero, SE.Ty.flat, SE.Ty.dec, SE.retOk, SE.loadsS, SE.loadS, SE.decRs, SE.decR, SE.outC, SE.rdC, SE.allDiff, SE.notIn, SE.notFrozen, SE.apartL, SE.rdEnd, SE.firstReg, SE.headC, SE.fitsC, SE.idsC, SE.keepE, SE.keepM, SE.keepB, SE.inL, SE.puts, SE.ownRes, SE.ownEnv, SE.renL, SE.srcId, SE.lookR, SE.envSame, SE.envSets, SE.memSame, SE.memBlks, SE.memOwns, SE.famsOf, SE.allIn, SE.closedE, SE.closedV, SE.closedM, SE.closedR, SE.rdLe, SE.S.refs, SE.S0.refs, SE.CV.refs, SE.refsL, SE.refsT, SE.S.ren, SE.S0.ren, SE.CV.ren, SE.Res.refs, SE.Res.ren, min_i64, max_i64, min_u16, max_u16, min_u8, max_u8, min_u64, max_u64, S.s.injEq, S0.c.injEq, CV.d.injEq, DC.val.injEq, Value.int.injEq, Value.bool.injEq, Value.string.injEq, eta_fact, eta_atom, eta_asn, eta_state, List.mem_cons, List.mem_nil_iff, or_false, false_or, or_true, true_or, Option.map_some, Option.map_none, Option.bind_some, Option.getD_some, Option.getD_none, Nat.reduceEqDiff, Nat.reduceAdd, Nat.reduceMul, Nat.reduceLeDiff, ↓reduceIte, reduceCtorEq, true_and, and_true, and_self, forall_const, implies_true, true_implies, List.getElem?_toArray, List.getElem?_cons_succ, List.getElem?_cons_zero, List.append_nil, List.nil_append, List.cons_append, List.length_cons, List.length_nil, List.take_succ_cons, List.take_zero, List.drop_succ_cons, List.drop_zero, List.set_cons_zero, List.set_cons_succ, List.map_cons, List.map_nil, Nat.add_zero, Nat.zero_add, forall_eq, Prod.forall, Bool.not_true, Bool.not_false, Nat.lt_irrefl, Nat.zero_lt_succ, List.singleton_append, Prod.mk.injEq, Nat.zero_mul, Nat.one_mul, Nat.reducePow, Option.some.injEq, not_false_eq_true, Int.toNat_natCast, Nat.sub_zero, Nat.le_refl, Bool.or_false, Bool.false_or, Bool.or_true, Bool.true_or, Bool.and_true, Bool.true_and, Bool.and_false, Bool.false_and, Bool.or_self, Bool.and_self, List.append_eq, and_false, false_and]
  obtain ⟨a1, a2⟩ := a; obtain ⟨b1, b2⟩ := b
  all_goals (try simp only [vcIf_iff, decide_eq_true_eq, decide_eq_false_iff_not, bne_iff_ne, ne_eq, beq_iff_eq, beq_eq_false_iff_ne, bne_eq_false_iff_eq, Bool.not_eq_true', Bool.not_eq_false', Int.ofNat_lt, Int.natCast_inj])
  all_goals (repeat' (first | apply And.intro | intro _))
  all_goals (first | omega | (simp_all; done) | grind [])
theorem ok_iAssertionSame : FnOk Try.prog E 27 c_iAssertionSame :=
  fn_ok (l := L_iAssertionSame) (perm := fun _ => []) tabOk mix ⟨ok_sameListsF, ok_sameListsA, trivial⟩ Try.func27 rfl (by kernel_rfl) (by decide) (by kernel_rfl) (anns := fun x _ => fun _ => none) (fun ⟨a, b, _⟩ k hp _ => vc_iAssertionSame a b k hp) tot_fn
end Go.Proofs.Ytcnjahaoecngbaa

namespace Go.Proofs.Ytcnjahaoecngbaa
open Go.SE Go.RowKit
set_option linter.unusedSimpArgs false
set_option linter.unusedVariables false
set_option maxHeartbeats 1000000
set_option maxRecDepth 100000
/-! slHas -/
abbrev c_slHas : Con := ⟨[.sl .int, .int], [.bool], fun (l, n, _) => l.length ≤ 281474976710656, .inl fun (l, n, _) => (l.contains n, ()), fun _ => 0⟩
abbrev L_slHas : List (FuncId × Con) := []
def an_slHas (l : List Int) (n : Int) : Nat → Option Ann
  | 2 => some { α := Nat, ok := fun i => i ≤ l.length ∧ (l.take i).contains n = false, mu := fun i => l.length - i, i0 := fun _ => 0, nx := fun a _ => (fun i => i + 1) a, live := [0, 1], sets := fun i => [(5, sv (.int .i64 i))], mids := [], blks := fun i => [], owns := fun i => [], rd := fun r _ => r, base := 100000 }
  | _ => none
theorem vc_slHas (l : List Int) (n : Int) (k : Nat) (hp : l.length ≤ 281474976710656) : vc tab (lookF L_slHas) (an_slHas l n) (fun _ => []) (bodyOf Try.f28) (entry (encs c_slHas.aks (l, n, ())) (rdOf false k)) (retOk tab c_slHas Try.f28.results.toList (l, n, ()) k) := by
  dsimp only [bodyOf, Try.f28, rdOf]
  simp (maxSteps := 10000000) only [c_slHas, L_slHas, an_slHas, SE.lookF, tab2, tab3, tab4, tab5, tab7, tab9, tab12, tab13, tab21, tab22, tab23, tab24, tab25, tab26, tab29, tab31, tab35, tab41, tab42, tab43, tab44, tab60, tab61, tab62, tab63, tab69, tab78, tab102, tab103, tab107, tab108, tab116, tab127, tab128, tab132, tab133, tab137, tab138, tab146, tab151, tab152, tab161, tab162, tab170, tab176, tab194, tab195, tab196, tab217, tab230, SE.entry, SE.envOf, SE.rdOf, Option.get_some, SE.vc, SE.vcReg, SE.vcLoop, SE.condK, SE.seqK, SE.blockK, SE.vcOps, SE.vcStep, SE.vcOp, SE.vcTr, SE.vcDet_some, SE.vcDet_none, SE.vcIf_true, SE.vcIf_false, SE.vcEach, SE.pickOps, SE.gslot, SE.trOp, SE.moveId, SE.trMove, SE.trPick, SE.trAlloc, SE.trBox, SE.trBuild, SE.trBuildSlice, SE.trLoad, SE.trStore, SE.trNilCheck, SE.trBin, SE.trUn, SE.trConvert, SE.trFieldAddr, SE.trField, SE.trIndexAddr, SE.trIndex, SE.trSlice, SE.trMakeSlice, SE.trExtract, SE.trLen, SE.trAppend, SE.trCopy, SE.trFn, SE.trCall, SE.argsS, SE.ev, SE.constS, SE.junk, SE.sv, SE.upd_app, SE.adds, SE.sets, SE.nid, SE.St.app, SE.St.put, SE.free, SE.freeL, SE.allFree, SE.rids, SE.AK.rids, SE.castL, SE.rdl, SE.AK.dec, SE.decs, SE.AK.enc, SE.encs, SE.AK.res, SE.ress, SE.pack1, SE.zcells, SE.zeroOf, SE.partCells, SE.putc, SE.fills, SE.datas, SE.elemOf, SE.elemsOf, SE.notSpent, SE.cellsAt, SE.weak, SE.dcellsAt, SE.slAt, SE.rdPlus, SE.intAt, SE.updElem, SE.kill, SE.noJunk, SE.inK, SE.binI, SE.shf, SE.isShift, SE.eqCells, SE.aggS, SE.intOp, SE.nested, SE.hasRdr, SE.refsC, SE.refsCs, SE.ownsC, SE.refsAr, SE.rdFits, SE.costIf, SE.Con.post, SE.Con.det, SE.Ty.cells, SE.Ty.sz, SE.Ty.zero, SE.Ty.flat, SE.Ty.dec, SE.retOk, SE.loadsS, SE.loadS, SE.decRs, SE.decR, SE.outC, SE.rdC, SE.allDiff, SE.notIn, SE.notFrozen, SE.apartL, SE.rdEnd, SE.firstReg, SE.headC, SE.fitsC, SE.idsC, SE.keepE, SE.keepM, SE.keepB, SE.inL, SE.puts, SE.ownRes, SE.ownEnv, SE.renL, SE.srcId, SE.lookR, SE.envSame, SE.envSets, SE.memSame, SE.memBlks, SE.memOwns, SE.famsOf, SE.allIn, SE.closedE, SE.closedV, SE.closedM, SE.closedR, SE.rdLe, SE.S.refs, SE.S0.refs, SE.CV.refs, SE.refsL, SE.refsT, SE.S.ren, SE.S0.ren, SE.CV.ren, SE.Res.refs, SE.Res.ren, min_i64, max_i64, min_u16, max_u16, min_u8, max_u8, min_u64, max_u64, S.s.injEq, S0.c.injEq, CV.d.injEq, DC.val.injEq, Value.int.injEq, Value.bool.injEq, Value.string.injEq, eta_fact, eta_atom, eta_asn, eta_state, List.mem_cons, List.mem_nil_iff, or_false, false_or, or_true, true_or, Option.map_some, Option.map_none, Option.bind_some, Option.getD_some, Option.getD_none, Nat.reduceEqDiff, Nat.reduceAdd, Nat.reduceMul, Nat.reduceLeDiff, ↓reduceIte, reduceCtorEq, true_and, and_true, and_self, forall_const, implies_true, true_implies, List.getElem?_toArray, List.getElem?_cons_succ, List.getElem?_cons_zero, List.append_nil, List.nil_append, List.cons_append, List.length_cons, List.length_nil, List.take_succ_cons, List.take_zero, List.drop_succ_cons, List.drop_zero, List.set_cons_zero, List.set_cons_succ, List.map_cons, List.map_nil, Nat.add_zero, Nat.zero_add, forall_eq, Prod.forall, Bool.not_true, Bool.not_false, Nat.lt_irrefl, Nat.zero_lt_succ, List.singleton_append, Prod.mk.injEq, Nat.zero_mul, Nat.one_mul, Nat.reducePow, Option.some.injEq, not_false_eq_true, Int.toNat_natCast, Nat.sub_zero, Nat.le_refl, Bool.or_false, Bool.false_or, Bool.or_true, Bool.true_or, Bool.and_true, Bool.true_and, Bool.and_false, Bool.false_and, Bool.or_self, Bool.and_self, List.append_eq, and_false, false_and]
  all_goals (try simp only [vcIf_iff, decide_eq_true_eq, decide_eq_false_iff_not, bne_iff_ne, ne_eq, beq_iff_eq, beq_eq_false_iff_ne, bne_eq_false_iff_eq, Bool.not_eq_true', Bool.not_eq_false', Int.ofNat_lt, Int.natCast_inj])
  all_goals (repeat' (first | apply And.intro | intro _))
  all_goals (first | omega | (simp_all; done) | grind [has_step, has_get, take_full])
theorem ok_slHas : FnOk Try.prog E 28 c_slHas :=
  fn_ok (l := L_slHas) (perm := fun _ => []) tabOk mix trivial Try.func28 rfl (by kernel_rfl) (by decide) (by kernel_rfl) (anns := fun x _ => an_slHas x.1 x.2.1) (fun ⟨l, n, _⟩ k hp _ => vc_slHas l n k hp) tot_fn
end Go.Proofs.Ytcnjahaoecngbaa

namespace Go.Proofs.Ytcnjahaoecngbaa
open Go.SE Go.RowKit
set_option linter.unusedSimpArgs false
set_option linter.unusedVariables false
set_option maxHeartbeats 1000000
set_option maxRecDepth 100000
/-! isTerm -/
abbrev c_isTerm : Con := ⟨[.int], [.bool], fun _ => True, .inl fun (t, _) => (isT t, ()), fun _ => 0⟩
abbrev L_isTerm : List (FuncId × Con) := []
theorem vc_isTerm (t : Int) (k : Nat) : vc tab (lookF L_isTerm) (fun _ => none) (fun _ => []) (bodyOf Try.f77) (entry (encs c_isTerm.aks (t, ())) (rdOf false k)) (retOk tab c_isTerm Try.f77.results.toList (t, ()) k) := by
  dsimp only [bodyOf, Try.f77, rdOf]
  simp (maxSteps := 10000000) only [c_isTerm, L_isTerm, SE.lookF, tab2, tab3, tab4, tab5, tab7, tab9, tab12, tab13, tab21, tab22, tab23, tab24, tab25, tab26, tab29, tab31, tab35, tab41, tab42, tab43, tab44, tab60, tab61, tab62, tab63, tab69, tab78, tab102, tab103, tab107, tab108, tab116, tab127, tab128, tab132, tab133, tab137, tab138, tab146, tab151, tab152, tab161, tab162, tab170, tab176, tab194, tab195, tab196, tab217, tab230, SE.entry, SE.envOf, SE.rdOf, Option.get_some, SE.vc, SE.vcReg, SE.vcLoop, SE.condK, SE.seqK, SE.blockK, SE.vcOps, SE.vcStep, SE.vcOp, SE.vcTr, SE.vcDet_some, SE.vcDet_none, SE.vcIf_true, SE.vcIf_false, SE.vcEach, SE.pickOps, SE.gslot, SE.trOp, SE.moveId, SE.trMove, SE.trPick, SE.trAlloc, SE.trBox, SE.trBuild, SE.trBuildSlice, SE.trLoad, SE.trStore, SE.trNilCheck, SE.trBin, SE.trUn, SE.trConvert, SE.trFieldAddr, SE.trField, SE.trIndexAddr, SE.trIndex, SE.trSlice, SE.trMakeSlice, SE.trExtract, SE.trLen, SE.trAppend, SE.trCopy, SE.trFn, SE.trCall, SE.argsS, SE.ev, SE.constS, SE.junk, SE.sv, SE.upd_app, SE.adds, SE.sets, SE.nid, SE.St.app, SE.St.put, SE.free, SE.freeL, SE.allFree, SE.rids, SE.AK.rids, SE.castL, SE.rdl, SE.AK.dec, SE.decs, SE.AK.enc, SE.encs, SE.AK.res, SE.ress, SE.pack1, SE.zcells, SE.zeroOf, SE.partCells, SE.putc, SE.fills, SE.datas, SE.elemOf, SE.elemsOf, SE.notSpent, SE.cellsAt, SE.weak, SE.dcellsAt, SE.slAt, SE.rdPlus, SE.intAt, SE.updElem, SE.kill, SE.noJunk, SE.inK, SE.binI, SE.shf, SE.isShift, SE.eqCells, SE.aggS, SE.intOp, SE.nested, SE.hasRdr, SE.refsC, SE.refsCs, SE.ownsC, SE.refsAr, SE.rdFits, SE.costIf, SE.Con.post, SE.Con.det, SE.Ty.cells, SE.Ty.sz, SE.Ty.zero, SE.Ty.flat, SE.Ty.dec, SE.retOk, SE.loadsS, SE.loadS, SE.decRs, SE.decR, SE.outC, SE.rdC, SE.allDiff, SE.notIn, SE.notFrozen, SE.apartL, SE.rdEnd, SE.firstReg, SE.headC, SE.fitsC, SE.idsC, SE.keepE, SE.keepM, SE.keepB, SE.inL, SE.puts, SE.ownRes, SE.ownEnv, SE.renL, SE.srcId, SE.lookR, SE.envSame, SE.envSets, SE.memSame, SE.memBlks, SE.memOwns, SE.famsOf, SE.allIn, SE.closedE, SE.closedV, SE.closedM, SE.closedR, SE.rdLe, SE.S.refs, SE.S0.refs, SE.CV.refs, SE.refsL, SE.refsT, SE.S.ren, SE.S0.ren, SE.CV.ren, SE.Res.refs, SE.Res.ren, min_i64, max_i64, min_u16, max_u16, min_u8, max_u8, min_u64, max_u64, S.s.injEq, S0.c.injEq, CV.d.injEq, DC.val.injEq, Value.int.injEq, Value.bool.injEq, Value.string.injEq, eta_fact, eta_atom, eta_asn, eta_state, List.mem_cons, List.mem_nil_iff, or_false, false_or, or_true, true_or, Option.map_some, Option.map_none, Option.bind_some, Option.getD_some, Option.getD_none, Nat.reduceEqDiff, Nat.reduceAdd, Nat.reduceMul, Nat.reduceLeDiff, ↓reduceIte, reduceCtorEq, true_and, and_true, and_self, forall_const, implies_true, true_implies, List.getElem?_toArray, List.getElem?_cons_succ, List.getElem?_cons_zero, List.append_nil, List.nil_append, List.cons_append, List.length_cons, List.length_nil, List.take_succ_cons, List.take_zero, List.drop_succ_cons, List.drop_zero, List.set_cons_zero, List.set_cons_succ, List.map_cons, List.map_nil, Nat.add_zero, Nat.zero_add, forall_eq, Prod.forall, Bool.not_true, Bool.not_false, Nat.lt_irrefl, Nat.zero_lt_succ, List.singleton_append, Prod.mk.injEq, Nat.zero_mul, Nat.one_mul, Nat.reducePow, Option.some.injEq, not_false_eq_true, Int.toNat_natCast, Nat.sub_zero, Nat.le_refl, Bool.or_false, Bool.false_or, Bool.or_true, Bool.true_or, Bool.and_true, Bool.true_and, Bool.and_false, Bool.false_and, Bool.or_self, Bool.and_self, List.append_eq, and_false, false_and]
  cases h : decide (0 ≤ t) <;> simp [vcIf, isT, h]
theorem ok_isTerm : FnOk Try.prog E 77 c_isTerm :=
  fn_ok (l := L_isTerm) (perm := fun _ => []) tabOk mix trivial Try.func77 rfl (by kernel_rfl) (by decide) (by kernel_rfl) (anns := fun x _ => fun _ => none) (fun ⟨t, _⟩ k _ _ => vc_isTerm t k) tot_fn
end Go.Proofs.Ytcnjahaoecngbaa

namespace Go.Proofs.Ytcnjahaoecngbaa
open Go.SE Go.RowKit
set_option linter.unusedSimpArgs false
set_option linter.unusedVariables false
set_option maxHeartbeats 1000000
set_option maxRecDepth 100000
/-! iFactValid -/
abbrev c_iFactValid : Con := ⟨[.fact], [.bool], fun _ => True, .inl fun (f, _) => (fV f, ()), fun _ => 0⟩
abbrev L_iFactValid : List (FuncId × Con) := [(77, c_isTerm)]
theorem vc_iFactValid (f : GFact) (k : Nat) : vc tab (lookF L_iFactValid) (fun _ => none) (fun _ => []) (bodyOf Try.f23) (entry (encs c_iFactValid.aks (f, ())) (rdOf false k)) (retOk tab c_iFactValid Try.f23.results.toList (f, ()) k) := by
  dsimp only [bodyOf, Try.f23, rdOf]
  simp (maxSteps := 10000000) only [c_iFactValid, L_iFactValid, SE.lookF, c_isTerm, tab2, tab3, tab4, tab5, tab7, tab9, tab12, tab13, tab21, tab22, tab23, tab24, tab25, tab26, tab29, tab31, tab35, tab41, tab42, tab43, tab44, tab60, tab61, tab62, tab63, tab69, tab78, tab102, tab103, tab107, tab108, tab116, tab127, tab128, tab132, tab133, tab137, tab138, tab146, tab151, tab152, tab161, tab162, tab170, tab176, tab194, tab195, tab196, tab217, tab230, SE.entry, SE.envOf, SE.rdOf, Option.get_some, SE.vc, SE.vcReg, SE.vcLoop, SE.condK, SE.seqK, SE.blockK, SE.vcOps, SE.vcStep, SE.vcOp, SE.vcTr, SE.vcDet_some, SE.vcDet_none, SE.vcIf_true, SE.vcIf_false, SE.vcEach, SE.pickOps, SE.gslot, SE.trOp, SE.moveId, SE.trMove, SE.trPick, SE.trAlloc, SE.trBox, SE.trBuild, SE.trBuildSlice, SE.trLoad, SE.trStore, SE.trNilCheck, SE.trBin, SE.trUn, SE.trConvert, SE.trFieldAddr, SE.trField, SE.trIndexAddr, SE.trIndex, SE.trSlice, SE.trMakeSlice, SE.trExtract, SE.trLen, SE.trAppend, SE.trCopy, SE.trFn, SE.trCall, SE.argsS, SE.ev, SE.constS, SE.junk, SE.sv, SE.upd_app, SE.adds, SE.sets, SE.nid, SE.St.app, SE.St.put, SE.free, SE.freeL, SE.allFree, SE.rids, SE.AK.rids, SE.castL, SE.rdl, SE.AK.dec, SE.decs, SE.AK.enc, SE.encs, SE.AK.res, SE.ress, SE.pack1, SE.zcells, SE.zeroOf, SE.partCells, SE.putc, SE.fills, SE.datas, SE.elemOf, SE.elemsOf, SE.notSpent, SE.cellsAt, SE.weak, SE.dcellsAt, SE.slAt, SE.rdPlus, SE.intAt, SE.updElem, SE.kill, SE.noJunk, SE.inK, SE.binI, SE.shf, SE.isShift, SE.eqCells, SE.aggS, SE.intOp, SE.nested, SE.hasRdr, SE.refsC, SE.refsCs, SE.ownsC, SE.refsAr, SE.rdFits, SE.costIf, SE.Con.post, SE.Con.det, SE.Ty.cells, SE.Ty.sz, SE.Ty.zero, SE.Ty.flat, SE.Ty.dec, SE.retOk, SE.loadsS, SE.loadS, SE.decRs, SE.decR, SE.outC, SE.rdC, SE.allDiff, SE.notIn, SE.notFrozen, SE.apartL, SE.rdEnd, SE.firstReg, SE.headC, SE.fitsC, SE.idsC, SE.keepE, SE.keepM, SE.keepB, SE.inL, SE.puts, SE.ownRes, SE.ownEnv, SE.renL, SE.srcId, SE.lookR, SE.envSame, SE.envSets, SE.memSame, SE.memBlks, SE.memOwns, SE.famsOf, SE.allIn, SE.closedE, SE.closedV, SE.closedM, SE.closedR, SE.rdLe, SE.S.refs, SE.S0.refs, SE.CV.refs, SE.refsL, SE.refsT, SE.S.ren, SE.S0.ren, SE.CV.ren, SE.Res.refs, SE.Res.ren, min_i64, max_i64, min_u16, max_u16, min_u8, max_u8, min_u64, max_u64, S.s.injEq, S0.c.injEq, CV.d.injEq, DC.val.injEq, Value.int.injEq, Value.bool.injEq, Value.string.injEq, eta_fact, eta_atom, eta_asn, eta_state, List.mem_cons, List.mem_nil_iff, or_false, false_or, or_true, true_or, Option.map_some, Option.map_none, Option.bind_some, Option.getD_some, Option.getD_none, Nat.reduceEqDiff, Nat.reduceAdd, Nat.reduceMul, Nat.reduceLeDiff, ↓reduceIte, reduceCtorEq, true_and, and_true, and_self, forall_const, implies_true, true_implies, List.getElem?_toArray, List.getElem?_cons_succ, List.getElem?_cons_zero, List.append_nil, List.nil_append, List.cons_append, List.length_cons, List.length_nil, List.take_succ_cons, List.take_zero, List.drop_succ_cons, List.drop_zero, List.set_cons_zero, List.set_cons_succ, List.map_cons, List.map_nil, Nat.add_zero, Nat.zero_add, forall_eq, Prod.forall, Bool.not_true, Bool.not_false, Nat.lt_irrefl, Nat.zero_lt_succ, List.singleton_append, Prod.mk.injEq, Nat.zero_mul, Nat.one_mul, Nat.reducePow, Option.some.injEq, not_false_eq_true, Int.toNat_natCast, Nat.sub_zero, Nat.le_refl, Bool.or_false, Bool.false_or, Bool.or_true, Bool.true_or, Bool.and_true, Bool.true_and, Bool.and_false, Bool.false_and, Bool.or_self, Bool.and_self, List.append_eq, and_false, false_and]
  cases h : isT f.a <;> simp [vcIf, fV, h]
theorem ok_iFactValid : FnOk Try.prog E 23 c_iFactValid :=
  fn_ok (l := L_iFactValid) (perm := fun _ => []) tabOk mix ⟨ok_isTerm, trivial⟩ Try.func23 rfl (by kernel_rfl) (by decide) (by kernel_rfl) (anns := fun x _ => fun _ => none) (fun ⟨f, _⟩ k _ _ => vc_iFactValid f k) tot_fn
end Go.Proofs.Ytcnjahaoecngbaa

namespace Go.Proofs.Ytcnjahaoecngbaa
open Go.SE Go.RowKit
set_option linter.unusedSimpArgs false
set_option linter.unusedVariables false
set_option maxHeartbeats 1000000
set_option maxRecDepth 100000
/-! iFactsValid -/
abbrev c_iFactsValid : Con := ⟨[.sl .fact], [.bool], fun (l, _) => l.length ≤ 281474976710656, .inl fun (l, _) => (fsV l, ()), fun _ => 0⟩
abbrev L_iFactsValid : List (FuncId × Con) := [(23, c_iFactValid)]
def an_iFactsValid (l : List GFact) : Nat → Option Ann
  | 4 => some { α := Nat, ok := fun i => i ≤ l.length ∧ l.length ≤ 12 ∧ (l.take i).all fV = true, mu := fun i => l.length - i, i0 := fun _ => 0, nx := fun a _ => (fun i => i + 1) a, live := [8, 9], sets := fun i => [(10, sv (.int .i64 i))], mids := [], blks := fun i => [], owns := fun i => [], rd := fun r _ => r, base := 100000 }
  | _ => none
theorem vc_iFactsValid (l : List GFact) (k : Nat) (hp : l.length ≤ 281474976710656) : vc tab (lookF L_iFactsValid) (an_iFactsValid l) (fun _ => []) (bodyOf Try.f92) (entry (encs c_iFactsValid.aks (l, ())) (rdOf false k)) (retOk tab c_iFactsValid Try.f92.results.toList (l, ()) k) := by
  dsimp only [bodyOf, Try.f92, rdOf]
  simp (maxSteps := 10000000) only [c_iFactsValid, L_iFactsValid, an_iFactsValid, SE.lookF, c_iFactValid, tab2, tab3, tab4, tab5, tab7, tab9, tab12, tab13, tab21, tab22, tab23, tab24, tab25, tab26, tab29, tab31, tab35, tab41, tab42, tab43, tab44, tab60, tab61, tab62, tab63, tab69, tab78, tab102, tab103, tab107, tab108, tab116, tab127, tab128, tab132, tab133, tab137, tab138, tab146, tab151, tab152, tab161, tab162, tab170, tab176, tab194, tab195, tab196, tab217, tab230, SE.entry, SE.envOf, SE.rdOf, Option.get_some, SE.vc, SE.vcReg, SE.vcLoop, SE.condK, SE.seqK, SE.blockK, SE.vcOps, SE.vcStep, SE.vcOp, SE.vcTr, SE.vcDet_some, SE.vcDet_none, SE.vcIf_true, SE.vcIf_false, SE.vcEach, SE.pickOps, SE.gslot, SE.trOp, SE.moveId, SE.trMove, SE.trPick, SE.trAlloc, SE.trBox, SE.trBuild, SE.trBuildSlice, SE.trLoad, SE.trStore, SE.trNilCheck, SE.trBin, SE.trUn, SE.trConvert, SE.trFieldAddr, SE.trField, SE.trIndexAddr, SE.trIndex, SE.trSlice, SE.trMakeSlice, SE.trExtract, SE.trLen, SE.trAppend, SE.trCopy, SE.trFn, SE.trCall, SE.argsS, SE.ev, SE.constS, SE.junk, SE.sv, SE.upd_app, SE.adds, SE.sets, SE.nid, SE.St.app, SE.St.put, SE.free, SE.freeL, SE.allFree, SE.rids, SE.AK.rids, SE.castL, SE.rdl, SE.AK.dec, SE.decs, SE.AK.enc, SE.encs, SE.AK.res, SE.ress, SE.pack1, SE.zcells, SE.zeroOf, SE.partCells, SE.putc, SE.fills, SE.datas, SE.elemOf, SE.elemsOf, SE.notSpent, SE.cellsAt, SE.weak, SE.dcellsAt, SE.slAt, SE.rdPlus, SE.intAt, SE.updElem, SE.kill, SE.noJunk, SE.inK, SE.binI, SE.shf, SE.isShift, SE.eqCells, SE.aggS, SE.intOp, SE.nested, SE.hasRdr, SE.refsC, SE.refsCs, SE.ownsC, SE.refsAr, SE.rdFits, SE.costIf, SE.Con.post, SE.Con.det, SE.Ty.cells, SE.Ty.sz, SE.Ty.zero, SE.Ty.flat, SE.Ty.dec, SE.retOk, SE.loadsS, SE.loadS, SE.decRs, SE.decR, SE.outC, SE.rdC, SE.allDiff, SE.notIn, SE.notFrozen, SE.apartL, SE.rdEnd, SE.firstReg, SE.headC, SE.fitsC, SE.idsC, SE.keepE, SE.keepM, SE.keepB, SE.inL, SE.puts, SE.ownRes, SE.ownEnv, SE.renL, SE.srcId, SE.lookR, SE.envSame, SE.envSets, SE.memSame, SE.memBlks, SE.memOwns, SE.famsOf, SE.allIn, SE.closedE, SE.closedV, SE.closedM, SE.closedR, SE.rdLe, SE.S.refs, SE.S0.refs, SE.CV.refs, SE.refsL, SE.refsT, SE.S.ren, SE.S0.ren, SE.CV.ren, SE.Res.refs, SE.Res.ren, min_i64, max_i64, min_u16, max_u16, min_u8, max_u8, min_u64, max_u64, S.s.injEq, S0.c.injEq, CV.d.injEq, DC.val.injEq, Value.int.injEq, Value.bool.injEq, Value.string.injEq, eta_fact, eta_atom, eta_asn, eta_state, List.mem_cons, List.mem_nil_iff, or_false, false_or, or_true, true_or, Option.map_some, Option.map_none, Option.bind_some, Option.getD_some, Option.getD_none, Nat.reduceEqDiff, Nat.reduceAdd, Nat.reduceMul, Nat.reduceLeDiff, ↓reduceIte, reduceCtorEq, true_and, and_true, and_self, forall_const, implies_true, true_implies, List.getElem?_toArray, List.getElem?_cons_succ, List.getElem?_cons_zero, List.append_nil, List.nil_append, List.cons_append, List.length_cons, List.length_nil, List.take_succ_cons, List.take_zero, List.drop_succ_cons, List.drop_zero, List.set_cons_zero, List.set_cons_succ, List.map_cons, List.map_nil, Nat.add_zero, Nat.zero_add, forall_eq, Prod.forall, Bool.not_true, Bool.not_false, Nat.lt_irrefl, Nat.zero_lt_succ, List.singleton_append, Prod.mk.injEq, Nat.zero_mul, Nat.one_mul, Nat.reducePow, Option.some.injEq, not_false_eq_true, Int.toNat_natCast, Nat.sub_zero, Nat.le_refl, Bool.or_false, Bool.false_or, Bool.or_true, Bool.true_or, Bool.and_true, Bool.true_and, Bool.and_false, Bool.false_and, Bool.or_self, Bool.and_self, List.append_eq, and_false, false_and]
  all_goals (try simp only [vcIf_iff, decide_eq_true_eq, decide_eq_false_iff_not, bne_iff_ne, ne_eq, beq_iff_eq, beq_eq_false_iff_ne, bne_eq_false_iff_eq, Bool.not_eq_true', Bool.not_eq_false', Int.ofNat_lt, Int.natCast_inj])
  all_goals (repeat' (first | apply And.intro | intro _))
  all_goals (first | omega | (simp_all; done) | grind [fsV, take_all, all_take, take_full, Ty.zero])
theorem ok_iFactsValid : FnOk Try.prog E 92 c_iFactsValid :=
  fn_ok (l := L_iFactsValid) (perm := fun _ => []) tabOk mix ⟨ok_iFactValid, trivial⟩ Try.func92 rfl (by kernel_rfl) (by decide) (by kernel_rfl) (anns := fun x _ => an_iFactsValid x.1) (fun ⟨l, _⟩ k hp _ => vc_iFactsValid l k hp) tot_fn
end Go.Proofs.Ytcnjahaoecngbaa

namespace Go.Proofs.Ytcnjahaoecngbaa
open Go.SE Go.RowKit
set_option linter.unusedSimpArgs false
set_option linter.unusedVariables false
set_option maxHeartbeats 1000000
set_option maxRecDepth 100000
/-! iAtomValid -/
abbrev c_iAtomValid : Con := ⟨[.atom], [.bool], fun _ => True, .inl fun (x, _) => (atV x, ()), fun _ => 0⟩
abbrev L_iAtomValid : List (FuncId × Con) := [(77, c_isTerm)]
theorem vc_iAtomValid (x : GAtom) (k : Nat) : vc tab (lookF L_iAtomValid) (fun _ => none) (fun _ => []) (bodyOf Try.f93) (entry (encs c_iAtomValid.aks (x, ())) (rdOf false k)) (retOk tab c_iAtomValid Try.f93.results.toList (x, ()) k) := by
  dsimp only [bodyOf, Try.f93, rdOf]
  simp (maxSteps := 10000000) only [c_iAtomValid, L_iAtomValid, SE.lookF, c_isTerm, tab2, tab3, tab4, tab5, tab7, tab9, tab12, tab13, tab21, tab22, tab23, tab24, tab25, tab26, tab29, tab31, tab35, tab41, tab42, tab43, tab44, tab60, tab61, tab62, tab63, tab69, tab78, tab102, tab103, tab107, tab108, tab116, tab127, tab128, tab132, tab133, tab137, tab138, tab146, tab151, tab152, tab161, tab162, tab170, tab176, tab194, tab195, tab196, tab217, tab230, SE.entry, SE.envOf, SE.rdOf, Option.get_some, SE.vc, SE.vcReg, SE.vcLoop, SE.condK, SE.seqK, SE.blockK, SE.vcOps, SE.vcStep, SE.vcOp, SE.vcTr, SE.vcDet_some, SE.vcDet_none, SE.vcIf_true, SE.vcIf_false, SE.vcEach, SE.pickOps, SE.gslot, SE.trOp, SE.moveId, SE.trMove, SE.trPick, SE.trAlloc, SE.trBox, SE.trBuild, SE.trBuildSlice, SE.trLoad, SE.trStore, SE.trNilCheck, SE.trBin, SE.trUn, SE.trConvert, SE.trFieldAddr, SE.trField, SE.trIndexAddr, SE.trIndex, SE.trSlice, SE.trMakeSlice, SE.trExtract, SE.trLen, SE.trAppend, SE.trCopy, SE.trFn, SE.trCall, SE.argsS, SE.ev, SE.constS, SE.junk, SE.sv, SE.upd_app, SE.adds, SE.sets, SE.nid, SE.St.app, SE.St.put, SE.free, SE.freeL, SE.allFree, SE.rids, SE.AK.rids, SE.castL, SE.rdl, SE.AK.dec, SE.decs, SE.AK.enc, SE.encs, SE.AK.res, SE.ress, SE.pack1, SE.zcells, SE.zeroOf, SE.partCells, SE.putc, SE.fills, SE.datas, SE.elemOf, SE.elemsOf, SE.notSpent, SE.cellsAt, SE.weak, SE.dcellsAt, SE.slAt, SE.rdPlus, SE.intAt, SE.updElem, SE.kill, SE.noJunk, SE.inK, SE.binI, SE.shf, SE.isShift, SE.eqCells, SE.aggS, SE.intOp, SE.nested, SE.hasRdr, SE.refsC, SE.refsCs, SE.ownsC, SE.refsAr, SE.rdFits, SE.costIf, SE.Con.post, SE.Con.det, SE.Ty.cells, SE.Ty.sz, SE.Ty.zero, SE.Ty.flat, SE.Ty.dec, SE.retOk, SE.loadsS, SE.loadS, SE.decRs, SE.decR, SE.outC, SE.rdC, SE.allDiff, SE.notIn, SE.notFrozen, SE.apartL, SE.rdEnd, SE.firstReg, SE.headC, SE.fitsC, SE.idsC, SE.keepE, SE.keepM, SE.keepB, SE.inL, SE.puts, SE.ownRes, SE.ownEnv, SE.renL, SE.srcId, SE.lookR, SE.envSame, SE.envSets, SE.memSame, SE.memBlks, SE.memOwns, SE.famsOf, SE.allIn, SE.closedE, SE.closedV, SE.closedM, SE.closedR, SE.rdLe, SE.S.refs, SE.S0.refs, SE.CV.refs, SE.refsL, SE.refsT, SE.S.ren, SE.S0.ren, SE.CV.ren, SE.Res.refs, SE.Res.ren, min_i64, max_i64, min_u16, max_u16, min_u8, max_u8, min_u64, max_u64, S.s.injEq, S0.c.injEq, CV.d.injEq, DC.val.injEq, Value.int.injEq, Value.bool.injEq, Value.string.injEq, eta_fact, eta_atom, eta_asn, eta_state, List.mem_cons, List.mem_nil_iff, or_false, false_or, or_true, true_or, Option.map_some, Option.map_none, Option.bind_some, Option.getD_some, Option.getD_none, Nat.reduceEqDiff, Nat.reduceAdd, Nat.reduceMul, Nat.reduceLeDiff, ↓reduceIte, reduceCtorEq, true_and, and_true, and_self, forall_const, implies_true, true_implies, List.getElem?_toArray, List.getElem?_cons_succ, List.getElem?_cons_zero, List.append_nil, List.nil_append, List.cons_append, List.length_cons, List.length_nil, List.take_succ_cons, List.take_zero, List.drop_succ_cons, List.drop_zero, List.set_cons_zero, List.set_cons_succ, List.map_cons, List.map_nil, Nat.add_zero, Nat.zero_add, forall_eq, Prod.forall, Bool.not_true, Bool.not_false, Nat.lt_irrefl, Nat.zero_lt_succ, List.singleton_append, Prod.mk.injEq, Nat.zero_mul, Nat.one_mul, Nat.reducePow, Option.some.injEq, not_false_eq_true, Int.toNat_natCast, Nat.sub_zero, Nat.le_refl, Bool.or_false, Bool.false_or, Bool.or_true, Bool.true_or, Bool.and_true, Bool.true_and, Bool.and_false, Bool.false_and, Bool.or_self, Bool.and_self, List.append_eq, and_false, false_and]
  all_goals (try simp only [vcIf_iff, decide_eq_true_eq, decide_eq_false_iff_not, bne_iff_ne, ne_eq, beq_iff_eq, beq_eq_false_iff_ne, bne_eq_false_iff_eq, Bool.not_eq_true', Bool.not_eq_false', Int.ofNat_lt, Int.natCast_inj])
  all_goals (repeat' (first | apply And.intro | intro _))
  all_goals (first | omega | (simp_all; done) | grind [atV])
theorem ok_iAtomValid : FnOk Try.prog E 93 c_iAtomValid :=
  fn_ok (l := L_iAtomValid) (perm := fun _ => []) tabOk mix ⟨ok_isTerm, trivial⟩ Try.func93 rfl (by kernel_rfl) (by decide) (by kernel_rfl) (anns := fun x _ => fun _ => none) (fun ⟨x, _⟩ k _ _ => vc_iAtomValid x k) tot_fn
end Go.Proofs.Ytcnjahaoecngbaa

namespace Go.Proofs.Ytcnjahaoecngbaa
open Go.SE Go.RowKit
set_option linter.unusedSimpArgs false
set_option linter.unusedVariables false
set_option maxHeartbeats 1000000
set_option maxRecDepth 100000
/-! iAssertionValid -/
abbrev c_iAssertionValid : Con := ⟨[.asn], [.bool], fun (a, _) => a.facts.length ≤ 281474976710656 ∧ a.atoms.length ≤ 281474976710656, .inl fun (a, _) => (asV a, ()), fun _ => 0⟩
abbrev L_iAssertionValid : List (FuncId × Con) := [(92, c_iFactsValid), (93, c_iAtomValid)]
def an_iAssertionValid (a : GAsn) : Nat → Option Ann
  | 4 => some { α := Nat, ok := fun i => i ≤ a.atoms.length ∧ a.atoms.length ≤ 6 ∧ fsV a.facts = true ∧ (a.atoms.take i).all atV = true, mu := fun i => a.atoms.length - i, i0 := fun _ => 0, nx := fun a _ => (fun i => i + 1) a, live := [16, 17], sets := fun i => [(18, sv (.int .i64 i))], mids := [], blks := fun i => [], owns := fun i => [], rd := fun r _ => r, base := 100000 }
  | _ => none
theorem vc_iAssertionValid (a : GAsn) (k : Nat) (hp : a.facts.length ≤ 281474976710656 ∧ a.atoms.length ≤ 281474976710656) : vc tab (lookF L_iAssertionValid) (an_iAssertionValid a) (fun _ => []) (bodyOf Try.f33) (entry (encs c_iAssertionValid.aks (a, ())) (rdOf false k)) (retOk tab c_iAssertionValid Try.f33.results.toList (a, ()) k) := by
  dsimp only [bodyOf, Try.f33, rdOf]
  simp (maxSteps := 10000000) only [c_iAssertionValid, L_iAssertionValid, an_iAssertionValid, SE.lookF, c_iFactsValid, c_iAtomValid, tab2, tab3, tab4, tab5, tab7, tab9, tab12, tab13, tab21, tab22, tab23, tab24, tab25, tab26, tab29, tab31, tab35, tab41, tab42, tab43, tab44, tab60, tab61, tab62, tab63, tab69, tab78, tab102, tab103, tab107, tab108, tab116, tab127, tab128, tab132, tab133, tab137, tab138, tab146, tab151, tab152, tab161, tab162, tab170, tab176, tab194, tab195, tab196, tab217, tab230, SE.entry, SE.envOf, SE.rdOf, Option.get_some, SE.vc, SE.vcReg, SE.vcLoop, SE.condK, SE.seqK, SE.blockK, SE.vcOps, SE.vcStep, SE.vcOp, SE.vcTr, SE.vcDet_some, SE.vcDet_none, SE.vcIf_true, SE.vcIf_false, SE.vcEach, SE.pickOps, SE.gslot, SE.trOp, SE.moveId, SE.trMove, SE.trPick, SE.trAlloc, SE.trBox, SE.trBuild, SE.trBuildSlice, SE.trLoad, SE.trStore, SE.trNilCheck, SE.trBin, SE.trUn, SE.trConvert, SE.trFieldAddr, SE.trField, SE.trIndexAddr, SE.trIndex, SE.trSlice, SE.trMakeSlice, SE.trExtract, SE.trLen, SE.trAppend, SE.trCopy, SE.trFn, SE.trCall, SE.argsS, SE.ev, SE.constS, SE.junk, SE.sv, SE.upd_app, SE.adds, SE.sets, SE.nid, SE.St.app, SE.St.put, SE.free, SE.freeL, SE.allFree, SE.rids, SE.AK.rids, SE.castL, SE.rdl, SE.AK.dec, SE.decs, SE.AK.enc, SE.encs, SE.AK.res, SE.ress, SE.pack1, SE.zcells, SE.zeroOf, SE.partCells, SE.putc, SE.fills, SE.datas, SE.elemOf, SE.elemsOf, SE.notSpent, SE.cellsAt, SE.weak, SE.dcellsAt, SE.slAt, SE.rdPlus, SE.intAt, SE.updElem, SE.kill, SE.noJunk, SE.inK, SE.binI, SE.shf, SE.isShift, SE.eqCells, SE.aggS, SE.intOp, SE.nested, SE.hasRdr, SE.refsC, SE.refsCs, SE.ownsC, SE.refsAr, SE.rdFits, SE.costIf, SE.Con.post, SE.Con.det, SE.Ty.cells, SE.Ty.sz, SE.Ty.zero, SE.Ty.flat, SE.Ty.dec, SE.retOk, SE.loadsS, SE.loadS, SE.decRs, SE.decR, SE.outC, SE.rdC, SE.allDiff, SE.notIn, SE.notFrozen, SE.apartL, SE.rdEnd, SE.firstReg, SE.headC, SE.fitsC, SE.idsC, SE.keepE, SE.keepM, SE.keepB, SE.inL, SE.puts, SE.ownRes, SE.ownEnv, SE.renL, SE.srcId, SE.lookR, SE.envSame, SE.envSets, SE.memSame, SE.memBlks, SE.memOwns, SE.famsOf, SE.allIn, SE.closedE, SE.closedV, SE.closedM, SE.closedR, SE.rdLe, SE.S.refs, SE.S0.refs, SE.CV.refs, SE.refsL, SE.refsT, SE.S.ren, SE.S0.ren, SE.CV.ren, SE.Res.refs, SE.Res.ren, min_i64, max_i64, min_u16, max_u16, min_u8, max_u8, min_u64, max_u64, S.s.injEq, S0.c.injEq, CV.d.injEq, DC.val.injEq, Value.int.injEq, Value.bool.injEq, Value.string.injEq, eta_fact, eta_atom, eta_asn, eta_state, List.mem_cons, List.mem_nil_iff, or_false, false_or, or_true, true_or, Option.map_some, Option.map_none, Option.bind_some, Option.getD_some, Option.getD_none, Nat.reduceEqDiff, Nat.reduceAdd, Nat.reduceMul, Nat.reduceLeDiff, ↓reduceIte, reduceCtorEq, true_and, and_true, and_self, forall_const, implies_true, true_implies, List.getElem?_toArray, List.getElem?_cons_succ, List.getElem?_cons_zero, List.append_nil, List.nil_append, List.cons_append, List.length_cons, List.length_nil, List.take_succ_cons, List.take_zero, List.drop_succ_cons, List.drop_zero, List.set_cons_zero, List.set_cons_succ, List.map_cons, List.map_nil, Nat.add_zero, Nat.zero_add, forall_eq, Prod.forall, Bool.not_true, Bool.not_false, Nat.lt_irrefl, Nat.zero_lt_succ, List.singleton_append, Prod.mk.injEq, Nat.zero_mul, Nat.one_mul, Nat.reducePow, Option.some.injEq, not_false_eq_true, Int.toNat_natCast, Nat.sub_zero, Nat.le_refl, Bool.or_false, Bool.false_or, Bool.or_true, Bool.true_or, Bool.and_true, Bool.true_and, Bool.and_false, Bool.false_and, Bool.or_self, Bool.and_self, List.append_eq, and_false, false_and]
  all_goals (try simp only [vcIf_iff, decide_eq_true_eq, decide_eq_false_iff_not, bne_iff_ne, ne_eq, beq_iff_eq, beq_eq_false_iff_ne, bne_eq_false_iff_eq, Bool.not_eq_true', Bool.not_eq_false', Int.ofNat_lt, Int.natCast_inj])
  all_goals (repeat' (first | apply And.intro | intro _))
  all_goals (first | omega | (simp_all; done) | grind [asV, take_all, all_take, take_full, Ty.zero])
theorem ok_iAssertionValid : FnOk Try.prog E 33 c_iAssertionValid :=
  fn_ok (l := L_iAssertionValid) (perm := fun _ => []) tabOk mix ⟨ok_iFactsValid, ok_iAtomValid, trivial⟩ Try.func33 rfl (by kernel_rfl) (by decide) (by kernel_rfl) (anns := fun x _ => an_iAssertionValid x.1) (fun ⟨a, _⟩ k hp _ => vc_iAssertionValid a k hp) tot_fn
end Go.Proofs.Ytcnjahaoecngbaa
