/-
  Contracts of single functions of the program, each shown by the engine: what a call returns for arguments within the contract's bounds.
-/
import Derived.Test.YtfoioficiffgkaaProg
import Derived.KernelRfl
import Derived.Test.YtfoioficiffgkaaEc
import Derived.Test.YtfoioficiffgkaaEd
import Derived.Test.YtfoioficiffgkaaEe
set_option linter.unusedSimpArgs false
set_option linter.unusedVariables false
set_option linter.unusedSectionVars false

namespace Go.Proofs.Ytfoioficiffgkaa
open Go.SE Go.RowKit
def E : Ty -> TypeId
 | .int => 3
 | .bool => 4
 | .u8 => 5
 | .fact => 56
 | .atom => 61
 | .cmd => 0
 | .ints => 31
 | .asn => 0
def tabL : List (TypeId × TI) := [
 (2, ⟨1, 8, .sc (.int .i64 0)⟩),
 (3, ⟨1, 8, .sc (.int .i64 0)⟩),
 (4, ⟨1, 1, .sc (.bool false)⟩),
 (5, ⟨1, 1, .sc (.int .u8 0)⟩),
 (7, ⟨4, 24, .st [.sc (.int .i64 0), .sc (.int .i64 0), .sc (.bool false), .sc (.int .u8 0)] [(0, 1, false), (1, 1, false), (2, 1, false), (3, 1, false)]⟩),
 (9, ⟨1, 16, .sc (.string ⟨#[]⟩)⟩),
 (12, ⟨1, 8, .sc (.int .u64 0)⟩),
 (13, ⟨2, 24, .st [.sc (.string ⟨#[]⟩), .sc (.int .u64 0)] [(0, 1, false), (1, 1, false)]⟩),
 (21, ⟨1, 4, .sc (.int .i32 0)⟩),
 (22, ⟨1, 24, .sl true 5 .u8⟩),
 (23, ⟨1, 24, .sl true 56 .fact⟩),
 (24, ⟨1, 24, .sl true 61 .atom⟩),
 (25, ⟨2, 48, .st [.sl .fact, .sl .atom] [(0, 1, false), (1, 1, false)]⟩),
 (26, ⟨2, 48, .st [.sl .fact, .sl .atom] [(0, 1, false), (1, 1, false)]⟩),
 (31, ⟨1, 24, .sl true 3 .int⟩),
 (32, ⟨2, 48, .st [.sl .int, .sl .int] [(0, 1, false), (1, 1, false)]⟩),
 (33, ⟨2, 48, .st [.sl .int, .sl .int] [(0, 1, false), (1, 1, false)]⟩),
 (41, ⟨1, 24, .sl false 144 .fact⟩),
 (42, ⟨1, 24, .sl false 146 .atom⟩),
 (43, ⟨2, 48, .st [.sl .fact, .sl .atom] [(0, 1, false), (1, 1, false)]⟩),
 (44, ⟨2, 48, .st [.sl .fact, .sl .atom] [(0, 1, false), (1, 1, false)]⟩),
 (55, ⟨3, 24, .st [.sc (.bool false), .sc (.int .i64 0), .sc (.int .i64 0)] [(0, 1, false), (1, 1, false), (2, 1, false)]⟩),
 (56, ⟨3, 24, .st [.sc (.bool false), .sc (.int .i64 0), .sc (.int .i64 0)] [(0, 1, false), (1, 1, false), (2, 1, false)]⟩),
 (60, ⟨3, 24, .st [.sc (.int .i64 0), .sc (.int .i64 0), .sc (.int .i64 0)] [(0, 1, false), (1, 1, false), (2, 1, false)]⟩),
 (61, ⟨3, 24, .st [.sc (.int .i64 0), .sc (.int .i64 0), .sc (.int .i64 0)] [(0, 1, false), (1, 1, false), (2, 1, false)]⟩),
 (81, ⟨9, 72, .ar 9 3 .int⟩),
 (82, ⟨9, 72, .ar 9 3 .int⟩),
 (86, ⟨1, 2, .sc (.int .u16 0)⟩),
 (87, ⟨1, 2, .sc (.int .u16 0)⟩),
 (94, ⟨1, 24, .sl true 4 .bool⟩),
 (99, ⟨1, 2, .sc (.int .u16 0)⟩),
 (101, ⟨1, 24, .sl true 31 .ints⟩),
 (130, ⟨2, 32, .st [.sl .u8, .sc (.int .i64 0)] [(0, 1, false), (1, 1, false)]⟩),
 (131, ⟨2, 32, .st [.sl .u8, .sc (.int .i64 0)] [(0, 1, false), (1, 1, false)]⟩),
 (144, ⟨3, 24, .st [.sc (.bool false), .sc (.int .i64 0), .sc (.int .i64 0)] [(0, 1, false), (1, 1, false), (2, 1, false)]⟩),
 (146, ⟨3, 24, .st [.sc (.int .i64 0), .sc (.int .i64 0), .sc (.int .i64 0)] [(0, 1, false), (1, 1, false), (2, 1, false)]⟩),
 (148, ⟨6, 6, .ar 6 4 .bool⟩),
 (149, ⟨8, 40, .st [.sl .atom, .sc (.bool false), .sc (.bool false), .sc (.bool false), .sc (.bool false), .sc (.bool false), .sc (.bool false), .sc (.int .i64 0)] [(0, 1, false), (1, 6, true), (7, 1, false)]⟩),
 (150, ⟨8, 40, .st [.sl .atom, .sc (.bool false), .sc (.bool false), .sc (.bool false), .sc (.bool false), .sc (.bool false), .sc (.bool false), .sc (.int .i64 0)] [(0, 1, false), (1, 6, true), (7, 1, false)]⟩),
 (178, ⟨1, 4, .sc (.int .u32 0)⟩),
 (190, ⟨1, 8, .sc (.int .u64 0)⟩)]
def tab : TypeId -> Option TI := lookT tabL
theorem tab2 : tab 2 = some ⟨1, 8, .sc (.int .i64 0)⟩ := rfl
theorem tab3 : tab 3 = some ⟨1, 8, .sc (.int .i64 0)⟩ := rfl
theorem tab4 : tab 4 = some ⟨1, 1, .sc (.bool false)⟩ := rfl
theorem tab5 : tab 5 = some ⟨1, 1, .sc (.int .u8 0)⟩ := rfl
theorem tab7 : tab 7 = some ⟨4, 24, .st [.sc (.int .i64 0), .sc (.int .i64 0), .sc (.bool false), .sc (.int .u8 0)] [(0, 1, false), (1, 1, false), (2, 1, false), (3, 1, false)]⟩ := rfl
theorem tab9 : tab 9 = some ⟨1, 16, .sc (.string ⟨#[]⟩)⟩ := rfl
theorem tab12 : tab 12 = some ⟨1, 8, .sc (.int .u64 0)⟩ := rfl
theorem tab13 : tab 13 = some ⟨2, 24, .st [.sc (.string ⟨#[]⟩), .sc (.int .u64 0)] [(0, 1, false), (1, 1, false)]⟩ := rfl
theorem tab21 : tab 21 = some ⟨1, 4, .sc (.int .i32 0)⟩ := rfl
theorem tab22 : tab 22 = some ⟨1, 24, .sl true 5 .u8⟩ := rfl
theorem tab23 : tab 23 = some ⟨1, 24, .sl true 56 .fact⟩ := rfl
theorem tab24 : tab 24 = some ⟨1, 24, .sl true 61 .atom⟩ := rfl
theorem tab25 : tab 25 = some ⟨2, 48, .st [.sl .fact, .sl .atom] [(0, 1, false), (1, 1, false)]⟩ := rfl
theorem tab26 : tab 26 = some ⟨2, 48, .st [.sl .fact, .sl .atom] [(0, 1, false), (1, 1, false)]⟩ := rfl
theorem tab31 : tab 31 = some ⟨1, 24, .sl true 3 .int⟩ := rfl
theorem tab32 : tab 32 = some ⟨2, 48, .st [.sl .int, .sl .int] [(0, 1, false), (1, 1, false)]⟩ := rfl
theorem tab33 : tab 33 = some ⟨2, 48, .st [.sl .int, .sl .int] [(0, 1, false), (1, 1, false)]⟩ := rfl
theorem tab41 : tab 41 = some ⟨1, 24, .sl false 144 .fact⟩ := rfl
theorem tab42 : tab 42 = some ⟨1, 24, .sl false 146 .atom⟩ := rfl
theorem tab43 : tab 43 = some ⟨2, 48, .st [.sl .fact, .sl .atom] [(0, 1, false), (1, 1, false)]⟩ := rfl
theorem tab44 : tab 44 = some ⟨2, 48, .st [.sl .fact, .sl .atom] [(0, 1, false), (1, 1, false)]⟩ := rfl
theorem tab55 : tab 55 = some ⟨3, 24, .st [.sc (.bool false), .sc (.int .i64 0), .sc (.int .i64 0)] [(0, 1, false), (1, 1, false), (2, 1, false)]⟩ := rfl
theorem tab56 : tab 56 = some ⟨3, 24, .st [.sc (.bool false), .sc (.int .i64 0), .sc (.int .i64 0)] [(0, 1, false), (1, 1, false), (2, 1, false)]⟩ := rfl
theorem tab60 : tab 60 = some ⟨3, 24, .st [.sc (.int .i64 0), .sc (.int .i64 0), .sc (.int .i64 0)] [(0, 1, false), (1, 1, false), (2, 1, false)]⟩ := rfl
theorem tab61 : tab 61 = some ⟨3, 24, .st [.sc (.int .i64 0), .sc (.int .i64 0), .sc (.int .i64 0)] [(0, 1, false), (1, 1, false), (2, 1, false)]⟩ := rfl
theorem tab81 : tab 81 = some ⟨9, 72, .ar 9 3 .int⟩ := rfl
theorem tab82 : tab 82 = some ⟨9, 72, .ar 9 3 .int⟩ := rfl
theorem tab86 : tab 86 = some ⟨1, 2, .sc (.int .u16 0)⟩ := rfl
theorem tab87 : tab 87 = some ⟨1, 2, .sc (.int .u16 0)⟩ := rfl
theorem tab94 : tab 94 = some ⟨1, 24, .sl true 4 .bool⟩ := rfl
theorem tab99 : tab 99 = some ⟨1, 2, .sc (.int .u16 0)⟩ := rfl
theorem tab101 : tab 101 = some ⟨1, 24, .sl true 31 .ints⟩ := rfl
theorem tab130 : tab 130 = some ⟨2, 32, .st [.sl .u8, .sc (.int .i64 0)] [(0, 1, false), (1, 1, false)]⟩ := rfl
theorem tab131 : tab 131 = some ⟨2, 32, .st [.sl .u8, .sc (.int .i64 0)] [(0, 1, false), (1, 1, false)]⟩ := rfl
theorem tab144 : tab 144 = some ⟨3, 24, .st [.sc (.bool false), .sc (.int .i64 0), .sc (.int .i64 0)] [(0, 1, false), (1, 1, false), (2, 1, false)]⟩ := rfl
theorem tab146 : tab 146 = some ⟨3, 24, .st [.sc (.int .i64 0), .sc (.int .i64 0), .sc (.int .i64 0)] [(0, 1, false), (1, 1, false), (2, 1, false)]⟩ := rfl
theorem tab148 : tab 148 = some ⟨6, 6, .ar 6 4 .bool⟩ := rfl
theorem tab149 : tab 149 = some ⟨8, 40, .st [.sl .atom, .sc (.bool false), .sc (.bool false), .sc (.bool false), .sc (.bool false), .sc (.bool false), .sc (.bool false), .sc (.int .i64 0)] [(0, 1, false), (1, 6, true), (7, 1, false)]⟩ := rfl
theorem tab150 : tab 150 = some ⟨8, 40, .st [.sl .atom, .sc (.bool false), .sc (.bool false), .sc (.bool false), .sc (.bool false), .sc (.bool false), .sc (.bool false), .sc (.int .i64 0)] [(0, 1, false), (1, 6, true), (7, 1, false)]⟩ := rfl
theorem tab178 : tab 178 = some ⟨1, 4, .sc (.int .u32 0)⟩ := rfl
theorem tab190 : tab 190 = some ⟨1, 8, .sc (.int .u64 0)⟩ := rfl
theorem tabOk : TabOk Try.prog E tab := tab_ok (by kernel_rfl)
theorem mix : Try.prog.follows .mixedOrders = true := by kernel_rfl
end Go.Proofs.Ytfoioficiffgkaa

namespace Go.Proofs.Ytfoioficiffgkaa
open Go.SE Go.RowKit
set_option linter.unusedSimpArgs false
set_option linter.unusedVariables false
set_option maxHeartbeats 1000000
set_option maxRecDepth 100000
abbrev c_sameListsF : Con := ⟨[.sl .fact, .sl .fact], [.bool], fun (a, b, _) => a.length <= 281474976710656 /\ b.length <= 281474976710656, .inl fun (a, b, _) => (decide (a = b), ()), fun _ => 0⟩
abbrev L_sameListsF : List (FuncId × Con) := []
def an_sameListsF (a : List GFact) (b : List GFact) : Nat -> Option Ann
 | 4 => some { α := Nat, ok := fun i => i <= a.length /\ a.length = b.length /\ a.take i = b.take i, mu := fun i => a.length - i, i0 := fun _ => 0, nx := fun a _ => (fun i => i + 1) a, live := [1, 12, 13], sets := fun i => [(14, sv (.int .i64 i))], mids := [], blks := fun i => [], owns := fun i => [], rd := fun r _ => r, base := 100000 }
 | _ => none
theorem vc_sameListsF (a : List GFact) (b : List GFact) (k : Nat) (hp : a.length <= 281474976710656 /\ b.length <= 281474976710656) : vc tab (lookF L_sameListsF) (an_sameListsF a b) (fun _ => []) (bodyOf Try.f57) (entry (encs c_sameListsF.aks (a, b, ())) (rdOf false k)) (retOk tab c_sameListsF Try.f57.results.toList (a, b, ()) k) := by
 dsimp only [bodyOf, Try.f57, rdOf]
 simp (maxSteps := 10000000) only [c_sameListsF, L_sameListsF, an_sameListsF, SE.lookF, tab2, tab3, tab4, tab5, tab7, tab9, tab12, tab13, tab21, tab22, tab23, tab24, tab25, tab26, tab31, tab32, tab33, tab41, tab42, tab43, tab44, tab55, tab56, tab60, tab61, tab81, tab82, tab86, tab87, tab94, tab99, tab101, tab130, tab131, tab144, tab146, tab148, tab149, tab150, tab178, tab190, SE.entry, SE.envOf, SE.rdOf, Option.get_some, SE.vc, SE.vcReg, SE.vcLoop, SE.condK, SE.seqK, SE.blockK, SE.vcOps, SE.vcStep, SE.vcOp, SE.vcTr, SE.vcDet_some, SE.vcDet_none, SE.vcIf_true, SE.vcIf_false, SE.vcEach, SE.pickOps, SE.gslot, SE.trOp, SE.moveId, SE.trMove, SE.trPick, SE.trAlloc, SE.trBox, SE.trBuild, SE.trBuildSlice, SE.trLoad, SE.trStore, SE.trNilCheck, SE.trBin, SE.trUn, SE.trConvert, SE.trFieldAddr, SE.trField, SE.trIndexAddr, SE.trIndex, SE.trSlice, SE.trMakeSlice, SE.trExtract, SE.trLen, SE.trAppend, SE.trCopy, SE.trFn, SE.trCall, SE.argsS, SE.ev, SE.constS, SE.junk, SE.sv, SE.upd_app, SE.adds, SE.sets, SE.nid, SE.St.app, SE.St.put, SE.free, SE.freeL, SE.allFree, SE.rids, SE.AK.rids, SE.castL, SE.rdl, SE.AK.dec, SE.decs, SE.AK.enc, SE.encs, SE.AK.res, SE.ress, SE.pack1, SE.zcells, SE.zeroOf, SE.partCells, SE.putc, SE.fills, SE.datas, SE.elemOf, SE.elemsOf, SE.notSpent, SE.cellsAt, SE.weak, SE.dcellsAt, SE.slAt, SE.rdPlus, SE.intAt, SE.updElem, SE.kill, SE.noJunk, SE.inK, SE.binI, SE.shf, SE.isShift, SE.eqCells, SE.aggS, SE.intOp, SE.nested, SE.hasRdr, SE.refsC, SE.refsCs, SE.ownsC, SE.refsAr, SE.rdFits, SE.costIf, SE.Con.post, SE.Con.det, SE.Ty.cells, SE.Ty.sz, SE.Ty.zero, SE.Ty.flat, SE.Ty.dec, SE.retOk, SE.loadsS, SE.loadS, SE.decRs, SE.decR, SE.outC, SE.rdC, SE.allDiff, SE.notIn, SE.notFrozen, SE.apartL, SE.rdEnd, SE.firstReg, SE.headC, SE.fitsC, SE.idsC, SE.keepE, SE.keepM, SE.keepB, SE.inL, SE.puts, SE.ownRes, SE.ownEnv, SE.renL, SE.srcId, SE.lookR, SE.envSame, SE.envSets, SE.memSame, SE.memBlks, SE.memOwns, SE.famsOf, SE.allIn, SE.closedE, SE.closedV, SE.closedM, SE.closedR, SE.rdLe, SE.S.refs, SE.S0.refs, SE.CV.refs, SE.refsL, SE.refsT, SE.S.ren, SE.S0.ren, SE.CV.ren, SE.Res.refs, SE.Res.ren, min_i64, max_i64, min_u16, max_u16, min_u8, max_u8, min_u64, max_u64, S.s.injEq, S0.c.injEq, CV.d.injEq, DC.val.injEq, Value.int.injEq, Value.bool.injEq, Value.string.injEq, eta_fact, eta_atom, eta_asn, eta_state, List.mem_cons, List.mem_nil_iff, or_false, false_or, or_true, true_or, Option.map_some, Option.map_none, Option.bind_some, Option.getD_some, Option.getD_none, Nat.reduceEqDiff, Nat.reduceAdd, Nat.reduceMul, Nat.reduceLeDiff, ↓reduceIte, reduceCtorEq, true_and, and_true, and_self, forall_const, implies_true, true_implies, List.getElem?_toArray, List.getElem?_cons_succ, List.getElem?_cons_zero, List.append_nil, List.nil_append, List.cons_append, List.length_cons, List.length_nil, List.take_succ_cons, List.take_zero, List.drop_succ_cons, List.drop_zero, List.set_cons_zero, List.set_cons_succ, List.map_cons, List.map_nil, Nat.add_zero, Nat.zero_add, forall_eq, Prod.forall, Bool.not_true, Bool.not_false, Nat.lt_irrefl, Nat.zero_lt_succ, List.singleton_append, Prod.mk.injEq, Nat.zero_mul, Nat.one_mul, Nat.reducePow, Option.some.injEq, not_false_eq_true, Int.toNat_natCast, Nat.sub_zero, Nat.le_refl, Bool.or_false, Bool.false_or, Bool.or_true, Bool.true_or, Bool.and_true, Bool.true_and, Bool.and_false, Bool.false_and, Bool.or_self, Bool.and_self, List.append_eq, and_false, false_and, fact_beq, atom_beq]
 all_goals (try simp only [vcIf_iff, decide_eq_true_eq, decide_eq_false_iff_not, bne_iff_ne, ne_eq, beq_iff_eq, beq_eq_false_iff_ne, bne_eq_false_iff_eq, Bool.not_eq_true', Bool.not_eq_false', Int.ofNat_lt, Int.natCast_inj])
 all_goals (repeat' (first | apply And.intro | intro _))
 all_goals (first | omega | (simp_all; done) | grind [same_step, same_not, take_full, Ty.zero])
theorem ok_sameListsF : FnOk Try.prog E 57 c_sameListsF :=
 fn_ok (l := L_sameListsF) (perm := fun _ => []) tabOk mix trivial Try.func57 rfl (by kernel_rfl) (by decide) (by kernel_rfl) (anns := fun x _ => an_sameListsF x.1 x.2.1) (fun ⟨a, b, _⟩ k hp _ => vc_sameListsF a b k hp) tot_fn
abbrev c_sameListsA : Con := ⟨[.sl .atom, .sl .atom], [.bool], fun (a, b, _) => a.length <= 281474976710656 /\ b.length <= 281474976710656, .inl fun (a, b, _) => (decide (a = b), ()), fun _ => 0⟩
abbrev L_sameListsA : List (FuncId × Con) := []
def an_sameListsA (a : List GAtom) (b : List GAtom) : Nat -> Option Ann
 | 4 => some { α := Nat, ok := fun i => i <= a.length /\ a.length = b.length /\ a.take i = b.take i, mu := fun i => a.length - i, i0 := fun _ => 0, nx := fun a _ => (fun i => i + 1) a, live := [1, 12, 13], sets := fun i => [(14, sv (.int .i64 i))], mids := [], blks := fun i => [], owns := fun i => [], rd := fun r _ => r, base := 100000 }
 | _ => none
theorem vc_sameListsA (a : List GAtom) (b : List GAtom) (k : Nat) (hp : a.length <= 281474976710656 /\ b.length <= 281474976710656) : vc tab (lookF L_sameListsA) (an_sameListsA a b) (fun _ => []) (bodyOf Try.f58) (entry (encs c_sameListsA.aks (a, b, ())) (rdOf false k)) (retOk tab c_sameListsA Try.f58.results.toList (a, b, ()) k) := by
 dsimp only [bodyOf, Try.f58, rdOf]
 simp (maxSteps := 10000000) only [c_sameListsA, L_sameListsA, an_sameListsA, SE.lookF, tab2, tab3, tab4, tab5, tab7, tab9, tab12, tab13, tab21, tab22, tab23, tab24, tab25, tab26, tab31, tab32, tab33, tab41, tab42, tab43, tab44, tab55, tab56, tab60, tab61, tab81, tab82, tab86, tab87, tab94, tab99, tab101, tab130, tab131, tab144, tab146, tab148, tab149, tab150, tab178, tab190, SE.entry, SE.envOf, SE.rdOf, Option.get_some, SE.vc, SE.vcReg, SE.vcLoop, SE.condK, SE.seqK, SE.blockK, SE.vcOps, SE.vcStep, SE.vcOp, SE.vcTr, SE.vcDet_some, SE.vcDet_none, SE.vcIf_true, SE.vcIf_false, SE.vcEach, SE.pickOps, SE.gslot, SE.trOp, SE.moveId, SE.trMove, SE.trPick, SE.trAlloc, SE.trBox, SE.trBuild, SE.trBuildSlice, SE.trLoad, SE.trStore, SE.trNilCheck, SE.trBin, SE.trUn, SE.trConvert, SE.trFieldAddr, SE.trField, SE.trIndexAddr, SE.trIndex, SE.trSlice, SE.trMakeSlice, SE.trExtract, SE.trLen, SE.trAppend, SE.trCopy, SE.trFn, SE.trCall, SE.argsS, SE.ev, SE.constS, SE.junk, SE.sv, SE.upd_app, SE.adds, SE.sets, SE.nid, SE.St.app, SE.St.put, SE.free, SE.freeL, SE.allFree, SE.rids, SE.AK.rids, SE.castL, SE.rdl, SE.AK.dec, SE.decs, SE.AK.enc, SE.encs, SE.AK.res, SE.ress, SE.pack1, SE.zcells, SE.zeroOf, SE.partCells, SE.putc, SE.fills, SE.datas, SE.elemOf, SE.elemsOf, SE.notSpent, SE.cellsAt, SE.weak, SE.dcellsAt, SE.slAt, SE.rdPlus, SE.intAt, SE.updElem, SE.kill, SE.noJunk, SE.inK, SE.binI, SE.shf, SE.isShift, SE.eqCells, SE.aggS, SE.intOp, SE.nested, SE.hasRdr, SE.refsC, SE.refsCs, SE.ownsC, SE.refsAr, SE.rdFits, SE.costIf, SE.Con.post, SE.Con.det, SE.Ty.cells, SE.Ty.sz, SE.Ty.zero, SE.Ty.flat, SE.Ty.dec, SE.retOk, SE.loadsS, SE.loadS, SE.decRs, SE.decR, SE.outC, SE.rdC, SE.allDiff, SE.notIn, SE.notFrozen, SE.apartL, SE.rdEnd, SE.firstReg, SE.headC, SE.fitsC, SE.idsC, SE.keepE, SE.keepM, SE.keepB, SE.inL, SE.puts, SE.ownRes, SE.ownEnv, SE.renL, SE.srcId, SE.lookR, SE.envSame, SE.envSets, SE.memSame, SE.memBlks, SE.memOwns, SE.famsOf, SE.allIn, SE.closedE, SE.closedV, SE.closedM, SE.closedR, SE.rdLe, SE.S.refs, SE.S0.refs, SE.CV.refs, SE.refsL, SE.refsT, SE.S.ren, SE.S0.ren, SE.CV.ren, SE.Res.refs, SE.Res.ren, min_i64, max_i64, min_u16, max_u16, min_u8, max_u8, min_u64, max_u64, S.s.injEq, S0.c.injEq, CV.d.injEq, DC.val.injEq, Value.int.injEq, Value.bool.injEq, Value.string.injEq, eta_fact, eta_atom, eta_asn, eta_state, List.mem_cons, List.mem_nil_iff, or_false, false_or, or_true, true_or, Option.map_some, Option.map_none, Option.bind_some, Option.getD_some, Option.getD_none, Nat.reduceEqDiff, Nat.reduceAdd, Nat.reduceMul, Nat.reduceLeDiff, ↓reduceIte, reduceCtorEq, true_and, and_true, and_self, forall_const, implies_true, true_implies, List.getElem?_toArray, List.getElem?_cons_succ, List.getElem?_cons_zero, List.append_nil, List.nil_append, List.cons_append, List.length_cons, List.length_nil, List.take_succ_cons, List.take_zero, List.drop_succ_cons, List.drop_zero, List.set_cons_zero, List.set_cons_succ, List.map_cons, List.map_nil, Nat.add_zero, Nat.zero_add, forall_eq, Prod.forall, Bool.not_true, Bool.not_false, Nat.lt_irrefl, Nat.zero_lt_succ, List.singleton_append, Prod.mk.injEq, Nat.zero_mul, Nat.one_mul, Nat.reducePow, Option.some.injEq, not_false_eq_true, Int.toNat_natCast, Nat.sub_zero, Nat.le_refl, Bool.or_false, Bool.false_or, Bool.or_true, Bool.true_or, Bool.and_true, Bool.true_and, Bool.and_false, Bool.false_and, Bool.or_self, Bool.and_self, List.append_eq, and_false, false_and, fact_beq, atom_beq]
 all_goals (try simp only [vcIf_iff, decide_eq_true_eq, decide_eq_false_iff_not, bne_iff_ne, ne_eq, beq_iff_eq, beq_eq_false_iff_ne, bne_eq_false_iff_eq, Bool.not_eq_true', Bool.not_eq_false', Int.ofNat_lt, Int.natCast_inj])
 all_goals (repeat' (first | apply And.intro | intro _))
 all_goals (first | omega | (simp_all; done) | grind [same_step, same_not, take_full, Ty.zero])
theorem ok_sameListsA : FnOk Try.prog E 58 c_sameListsA :=
 fn_ok (l := L_sameListsA) (perm := fun _ => []) tabOk mix trivial Try.func58 rfl (by kernel_rfl) (by decide) (by kernel_rfl) (anns := fun x _ => an_sameListsA x.1 x.2.1) (fun ⟨a, b, _⟩ k hp _ => vc_sameListsA a b k hp) tot_fn
abbrev c_iAssertionSame : Con := ⟨[.asn, .asn], [.bool], fun (a, b, _) => a.facts.length <= 281474976710656 /\ a.atoms.length <= 281474976710656 /\ b.facts.length <= 281474976710656 /\ b.atoms.length <= 281474976710656, .inl fun (a, b, _) => (decide (a = b), ()), fun _ => 0⟩
abbrev L_iAssertionSame : List (FuncId × Con) := [(57, c_sameListsF), (58, c_sameListsA)]
theorem vc_iAssertionSame (a : GAsn) (b : GAsn) (k : Nat) (hp : a.facts.length <= 281474976710656 /\ a.atoms.length <= 281474976710656 /\ b.facts.length <= 281474976710656 /\ b.atoms.length <= 281474976710656) : vc tab (lookF L_iAssertionSame) (fun _ => none) (fun _ => []) (bodyOf Try.f18) (entry (encs c_iAssertionSame.aks (a, b, ())) (rdOf false k)) (retOk tab c_iAssertionSame Try.f18.results.toList (a, b, ()) k) := by
 dsimp only [bodyOf, Try.f18, rdOf]
 simp (maxSteps := 10000000) only [c_iAssertionSame, L_iAssertionSame, SE.lookF, c_sameListsF, c_sameListsA, tab2, tab3, tab4, tab5, tab7, tab9, tab12, tab13, tab21, tab22, tab23, tab24, tab25, tab26, tab31, tab32, tab33, tab41, tab42, tab43, tab44, tab55, tab56, tab60, tab61, tab81, tab82, tab86, tab87, tab94, tab99, tab101, tab130, tab131, tab144, tab146, tab148, tab149, tab150, tab178, tab190, SE.entry, SE.envOf, SE.rdOf, Option.get_some, SE.vc, SE.vcReg, SE.vcLoop, SE.condK, SE.seqK, SE.blockK, SE.vcOps, SE.vcStep, SE.vcOp, SE.vcTr, SE.vcDet_some, SE.vcDet_none, SE.vcIf_true, SE.vcIf_false, SE.vcEach, SE.pickOps, SE.gslot, SE.trOp, SE.moveId, SE.trMove, SE.trPick, SE.trAlloc, SE.trBox, SE.trBuild, SE.trBuildSlice, SE.trLoad, SE.trStore, SE.trNilCheck, SE.trBin, SE.trUn, SE.trConvert, SE.trFieldAddr, SE.trField, SE.trIndexAddr, SE.trIndex, SE.trSlice, SE.trMakeSlice, SE.trExtract, SE.trLen, SE.trAppend, SE.trCopy, SE.trFn, SE.trCall, SE.argsS, SE.ev, SE.constS, SE.junk, SE.sv, SE.upd_app, SE.adds, SE.sets, SE.nid, SE.St.app, SE.St.put, SE.free, SE.freeL, SE.allFree, SE.rids, SE.AK.rids, SE.castL, SE.rdl, SE.AK.dec, SE.decs, SE.AK.enc, SE.encs, SE.AK.res, SE.ress, SE.pack1, SE.zcells, SE.zeroOf, SE.partCells, SE.putc, SE.fills, SE.datas, SE.elemOf, SE.elemsOf, SE.notSpent, SE.cellsAt, SE.weak, SE.dcellsAt, SE.slAt, SE.rdPlus, SE.intAt, SE.updElem, SE.kill, SE.noJunk, SE.inK, SE.binI, SE.shf, SE.isShift, SE.eqCells, SE.aggS, SE.intOp, SE.nested, SE.hasRdr, SE.refsC, SE.refsCs, SE.ownsC, SE.refsAr, SE.rdFits, SE.costIf, SE.Con.post, SE.Con.det, SE.Ty.cells, SE.Ty.sz, SE.Ty.zero, SE.Ty.flat, SE.Ty.dec, SE.retOk, SE.loadsS, SE.loadS, SE.decRs, SE.decR, SE.outC, SE.rdC, SE.allDiff, SE.notIn, SE.notFrozen, SE.apartL, SE.rdEnd, SE.firstReg, SE.headC, SE.fitsC, SE.idsC, SE.keepE, SE.keepM, SE.keepB, SE.inL, SE.puts, SE.ownRes, SE.ownEnv, SE.renL, SE.srcId, SE.lookR, SE.envSame, SE.envSets, SE.memSame, SE.memBlks, SE.memOwns, SE.famsOf, SE.allIn, SE.closedE, SE.closedV, SE.closedM, SE.closedR, SE.rdLe, SE.S.refs, SE.S0.refs, SE.CV.refs, SE.refsL, SE.refsT, SE.S.ren, SE.S0.ren, SE.CV.ren, SE.Res.refs, SE.Res.ren, min_i64, max_i64, min_u16, max_u16, min_u8, max_u8, min_u64, max_u64, S.s.injEq, S0.c.injEq, CV.d.injEq, DC.val.injEq, Value.int.injEq, Value.bool.injEq, Value.string.injEq, eta_fact, eta_atom, eta_asn, eta_state, List.mem_cons, List.mem_nil_iff, or_false, false_or, or_true, true_or, Option.map_some, Option.map_none, Option.bind_some, Option.getD_some, Option.getD_none, Nat.reduceEqDiff, Nat.reduceAdd, Nat.reduceMul, Nat.reduceLeDiff, ↓reduceIte, reduceCtorEq, true_and, and_true, and_self, forall_const, implies_true, true_implies, List.getElem?_toArray, List.getElem?_cons_succ, List.getElem?_cons_zero, List.append_nil, List.nil_append, List.cons_append, List.length_cons, List.length_nil, List.take_succ_cons, List.take_zero, List.drop_succ_cons, List.drop_zero, List.set_cons_zero, List.set_cons_succ, List.map_cons, List.map_nil, Nat.add_zero, Nat.zero_add, forall_eq, Prod.forall, Bool.not_true, Bool.not_false, Nat.lt_irrefl, Nat.zero_lt_succ, List.singleton_append, Prod.mk.injEq, Nat.zero_mul, Nat.one_mul, Nat.reducePow, Option.some.injEq, not_false_eq_true, Int.toNat_natCast, Nat.sub_zero, Nat.le_refl, Bool.or_false, Bool.false_or, Bool.or_true, Bool.true_or, Bool.and_true, Bool.true_and, Bool.and_false, Bool.false_and, Bool.or_self, Bool.and_self, List.append_eq, and_false, false_and]
 obtain ⟨a1, a2⟩ := a; obtain ⟨b1, b2⟩ := b
 all_goals (try simp only [vcIf_iff, decide_eq_true_eq, decide_eq_false_iff_not, bne_iff_ne, ne_eq, beq_iff_eq, beq_eq_false_iff_ne, bne_eq_false_iff_eq, Bool.not_eq_true', Bool.not_eq_false', Int.ofNat_lt, Int.natCast_inj])
 all_goals (repeat' (first | apply And.intro | intro _))
 all_goals (first | omega | (simp_all; done) | grind [])
theorem ok_iAssertionSame : FnOk Try.prog E 18 c_iAssertionSame :=
 fn_ok (l := L_iAssertionSame) (perm := fun _ => []) tabOk mix ⟨ok_sameListsF, ok_sameListsA, trivial⟩ Try.func18 rfl (by kernel_rfl) (by decide) (by kernel_rfl) (anns := fun x _ => fun _ => none) (fun ⟨a, b, _⟩ k hp _ => vc_iAssertionSame a b k hp) tot_fn
abbrev c_isTerm : Con := ⟨[.int], [.bool], fun _ => True, .inl fun (t, _) => (isT t, ()), fun _ => 0⟩
abbrev L_isTerm : List (FuncId × Con) := []
abbrev P_isTerm : List (FuncId × PT) := []
def VC_isTerm (t : Int) (k : Nat) : Prop := True /\ True /\ True /\ True /\ (vcIf (decide ((0 : Int) <= t)) (True /\ True /\ True /\ True /\ (((decide (t <= (8 : Int)), ()) : Bool × Unit) = (isT t, ())) /\ True /\ True /\ True /\ True /\ TF) (True /\ True /\ (((false, ()) : Bool × Unit) = (isT t, ())) /\ True /\ True /\ True /\ True /\ TF))
theorem vcn_isTerm (t : Int) (k : Nat) : VC_isTerm t k := by
 unfold VC_isTerm
 simp only [cln, Nat.reduceEqDiff, Nat.reduceLeDiff, Nat.reduceAdd]
 cases h : decide (0 <= t) <;> simp [vcIf, isT, h]
theorem ok_isTerm : FnOk Try.prog E 89 c_isTerm :=
 fn_okQ (l := L_isTerm) (lp := P_isTerm) (hp := fun _ => false) (gcs := fun _ => none) (perm := fun _ => []) tabOk mix trivial trivial Try.func89 rfl (by kernel_rfl) (by decide) (by kernel_rfl) (anns := fun x _ => fun _ _ => none) (fun ⟨t, _⟩ k _ _ => Eq.mp (by kernel_rfl) (vcn_isTerm t k)) tot_fn
abbrev c_iFactValid : Con := ⟨[.fact], [.bool], fun _ => True, .inl fun (f, _) => (fV f, ()), fun _ => 0⟩
abbrev L_iFactValid : List (FuncId × Con) := [(89, c_isTerm)]
abbrev P_iFactValid : List (FuncId × PT) := []
def VC_iFactValid (f : GFact) (k : Nat) : Prop := TN /\ True /\ True /\ True /\ (True /\ True /\ True) /\ True /\ (vcIf (isT f.a) (True /\ True /\ (True /\ True /\ True) /\ True /\ True /\ ((((isT f.b), ()) : Bool × Unit) = (fV f, ())) /\ True /\ True /\ True /\ True /\ TF) (True /\ True /\ (((false, ()) : Bool × Unit) = (fV f, ())) /\ True /\ True /\ True /\ True /\ TF))
theorem vcn_iFactValid (f : GFact) (k : Nat) : VC_iFactValid f k := by
 unfold VC_iFactValid
 simp only [cln, Nat.reduceEqDiff, Nat.reduceLeDiff, Nat.reduceAdd]
 cases h : isT f.a <;> simp [vcIf, fV, h]
theorem ok_iFactValid : FnOk Try.prog E 85 c_iFactValid :=
 fn_okQ (l := L_iFactValid) (lp := P_iFactValid) (hp := fun _ => false) (gcs := fun _ => none) (perm := fun _ => []) tabOk mix ⟨ok_isTerm, trivial⟩ trivial Try.func85 rfl (by kernel_rfl) (by decide) (by kernel_rfl) (anns := fun x _ => fun _ _ => none) (fun ⟨f, _⟩ k _ _ => Eq.mp (by kernel_rfl) (vcn_iFactValid f k)) tot_fn
abbrev c_iFactsValid : Con := ⟨[.sl .fact], [.bool], fun (l, _) => l.length <= 281474976710656, .inl fun (l, _) => (fsV l, ()), fun _ => 0⟩
abbrev L_iFactsValid : List (FuncId × Con) := [(85, c_iFactValid)]
abbrev P_iFactsValid : List (FuncId × PT) := []
def an_iFactsValid (l : List GFact) : Nat -> St -> Option Ann
 | 4, se => some { α := Nat, ok := fun i => i <= l.length /\ l.length <= 12 /\ (l.take i).all fV = true, mu := fun i => l.length - i, i0 := fun _ => 0, nx := fun a _ => (fun i => i + 1) a, live := [8, 9], sets := fun i => [(10, sv (.int .i64 i))], mids := [], blks := fun i => [], owns := fun i => [], rd := fun r _ => r, base := 100000 }
 | _, _ => none
def VC_iFactsValid_1 (l : List GFact) : Prop := True /\ (((false, ()) : Bool × Unit) = (fsV l, ())) /\ True /\ True /\ True /\ True /\ TF
def VC_iFactsValid_2 (l : List GFact) : Prop := RL [.s (.c (.d (.arr .fact l))), .s (.c (.d (.val (.int .i64 ((l.length : Nat) : Int)))))]
def VC_iFactsValid (l : List GFact) (k : Nat) : Prop := True /\ True /\ True /\ True /\ (vcIf (decide ((12 : Int) < ((l.length : Nat) : Int))) (VC_iFactsValid_1 l) (True /\ True /\ True /\ ((0 <= l.length /\ l.length <= 12 /\ (l.take 0).all fV = true) /\ TT /\ (VC_iFactsValid_2 l) /\ (([.s (.c (.d (.val (.int .i64 (0 : Int)))))] : List S) = [.s (.c (.d (.val (.int .i64 ((0 : Nat) : Int)))))]) /\ (RM []) /\ (RM []) /\ True /\ TT) /\ (∀ i1 : Nat, (i1 <= l.length /\ l.length <= 12 /\ (l.take i1).all fV = true) -> True /\ (vcIf (decide (((i1 : Nat) : Int) < ((l.length : Nat) : Int))) ((0 <= ((i1 : Nat) : Int) /\ ((i1 : Nat) : Int) < ((l.length : Nat) : Int)) /\ True /\ (TN /\ True) /\ (TF /\ TF) /\ True /\ (True /\ True /\ True) /\ True /\ (vcIf (!(fV (l.getD i1 (⟨false, 0, 0⟩ : GFact)))) (VC_iFactsValid_1 l) ((inK .i64 (((i1 : Nat) : Int) + (1 : Int))) /\ True /\ ((i1 + 1) <= l.length /\ l.length <= 12 /\ (l.take (i1 + 1)).all fV = true) /\ (l.length - (i1 + 1) < l.length - i1) /\ TT /\ (VC_iFactsValid_2 l) /\ (([.s (.c (.d (.val (.int .i64 (((i1 : Nat) : Int) + (1 : Int))))))] : List S) = [.s (.c (.d (.val (.int .i64 (((i1 + 1) : Nat) : Int)))))]) /\ (RM []) /\ (RM []) /\ True /\ TT))) (True /\ (((true, ()) : Bool × Unit) = (fsV l, ())) /\ True /\ True /\ True /\ True /\ TF)))))
theorem vcn_iFactsValid (l : List GFact) (k : Nat) (hp : l.length <= 281474976710656) : VC_iFactsValid l k := by
 unfold VC_iFactsValid VC_iFactsValid_2 VC_iFactsValid_1
 simp only [cln, Nat.reduceEqDiff, Nat.reduceLeDiff, Nat.reduceAdd]
 all_goals (try simp only [opn])
 all_goals (repeat' (first | apply And.intro | intro _))
 all_goals (first | omega | (simp_all; done) | grind [fsV, take_all, all_take, take_full, Ty.zero])
theorem ok_iFactsValid : FnOk Try.prog E 80 c_iFactsValid :=
 fn_okQ (l := L_iFactsValid) (lp := P_iFactsValid) (hp := fun _ => false) (gcs := fun _ => none) (perm := fun _ => []) tabOk mix ⟨ok_iFactValid, trivial⟩ trivial Try.func80 rfl (by kernel_rfl) (by decide) (by kernel_rfl) (anns := fun x _ => an_iFactsValid x.1) (fun ⟨l, _⟩ k hp _ => Eq.mp (by kernel_rfl) (vcn_iFactsValid l k hp)) tot_fn
abbrev c_iAtomValid : Con := ⟨[.atom], [.bool], fun _ => True, .inl fun (x, _) => (atV x, ()), fun _ => 0⟩
abbrev L_iAtomValid : List (FuncId × Con) := [(89, c_isTerm)]
abbrev P_iAtomValid : List (FuncId × PT) := []
def VC_iAtomValid_1 (x : GAtom) : Prop := True /\ True /\ (((false, ()) : Bool × Unit) = (atV x, ())) /\ True /\ True /\ True /\ True /\ TF
def VC_iAtomValid_2 (x : GAtom) : Prop := True /\ True /\ (True /\ True /\ True) /\ True /\ True /\ (vcIf (isT x.a) (True /\ True /\ (True /\ True /\ True) /\ True /\ True /\ ((((isT x.b), ()) : Bool × Unit) = (atV x, ())) /\ True /\ True /\ True /\ True /\ TF) (VC_iAtomValid_1 x))
def VC_iAtomValid (x : GAtom) (k : Nat) : Prop := TN /\ True /\ True /\ True /\ True /\ True /\ (vcIf (x.kind == (1 : Int)) (True /\ True /\ (VC_iAtomValid_2 x)) (True /\ True /\ True /\ True /\ True /\ (vcIf (x.kind == (2 : Int)) (VC_iAtomValid_2 x) (True /\ True /\ (VC_iAtomValid_1 x)))))
theorem vcn_iAtomValid (x : GAtom) (k : Nat) : VC_iAtomValid x k := by
 unfold VC_iAtomValid VC_iAtomValid_2 VC_iAtomValid_1
 simp only [cln, Nat.reduceEqDiff, Nat.reduceLeDiff, Nat.reduceAdd]
 all_goals (try simp only [opn])
 all_goals (repeat' (first | apply And.intro | intro _))
 all_goals (first | omega | (simp_all; done) | grind [atV])
theorem ok_iAtomValid : FnOk Try.prog E 81 c_iAtomValid :=
 fn_okQ (l := L_iAtomValid) (lp := P_iAtomValid) (hp := fun _ => false) (gcs := fun _ => none) (perm := fun _ => []) tabOk mix ⟨ok_isTerm, trivial⟩ trivial Try.func81 rfl (by kernel_rfl) (by decide) (by kernel_rfl) (anns := fun x _ => fun _ _ => none) (fun ⟨x, _⟩ k _ _ => Eq.mp (by kernel_rfl) (vcn_iAtomValid x k)) tot_fn
abbrev c_iAssertionValid : Con := ⟨[.asn], [.bool], fun (a, _) => a.facts.length <= 281474976710656 /\ a.atoms.length <= 281474976710656, .inl fun (a, _) => (asV a, ()), fun _ => 0⟩
abbrev L_iAssertionValid : List (FuncId × Con) := [(80, c_iFactsValid), (81, c_iAtomValid)]
abbrev P_iAssertionValid : List (FuncId × PT) := []
def an_iAssertionValid (a : GAsn) : Nat -> St -> Option Ann
 | 4, se => some { α := Nat, ok := fun i => i <= a.atoms.length /\ a.atoms.length <= 6 /\ fsV a.facts = true /\ (a.atoms.take i).all atV = true, mu := fun i => a.atoms.length - i, i0 := fun _ => 0, nx := fun a _ => (fun i => i + 1) a, live := [16, 17], sets := fun i => [(18, sv (.int .i64 i))], mids := [], blks := fun i => [], owns := fun i => [], rd := fun r _ => r, base := 100000 }
 | _, _ => none
def VC_iAssertionValid_1 (a : GAsn) : Prop := True /\ (((false, ()) : Bool × Unit) = (asV a, ())) /\ True /\ True /\ True /\ True /\ TF
def VC_iAssertionValid_2 (a : GAsn) : Prop := RL [.s (.c (.d (.arr .atom a.atoms))), .s (.c (.d (.val (.int .i64 ((a.atoms.length : Nat) : Int)))))]
def VC_iAssertionValid (a : GAsn) (k : Nat) : Prop := TN /\ True /\ True /\ True /\ ((a.facts.length <= 281474976710656) /\ True /\ True) /\ True /\ True /\ (vcIf (!(fsV a.facts)) (True /\ (VC_iAssertionValid_1 a)) (True /\ True /\ True /\ True /\ True /\ (vcIf (decide ((6 : Int) < ((a.atoms.length : Nat) : Int))) (VC_iAssertionValid_1 a) (True /\ True /\ True /\ True /\ ((0 <= a.atoms.length /\ a.atoms.length <= 6 /\ fsV a.facts = true /\ (a.atoms.take 0).all atV = true) /\ TT /\ (VC_iAssertionValid_2 a) /\ (([.s (.c (.d (.val (.int .i64 (0 : Int)))))] : List S) = [.s (.c (.d (.val (.int .i64 ((0 : Nat) : Int)))))]) /\ (RM []) /\ (RM []) /\ True /\ TT) /\ (∀ i1 : Nat, (i1 <= a.atoms.length /\ a.atoms.length <= 6 /\ fsV a.facts = true /\ (a.atoms.take i1).all atV = true) -> True /\ (vcIf (decide (((i1 : Nat) : Int) < ((a.atoms.length : Nat) : Int))) ((0 <= ((i1 : Nat) : Int) /\ ((i1 : Nat) : Int) < ((a.atoms.length : Nat) : Int)) /\ True /\ (TN /\ True) /\ (TF /\ TF) /\ True /\ (True /\ True /\ True) /\ True /\ (vcIf (!(atV (a.atoms.getD i1 (⟨0, 0, 0⟩ : GAtom)))) (VC_iAssertionValid_1 a) ((inK .i64 (((i1 : Nat) : Int) + (1 : Int))) /\ True /\ ((i1 + 1) <= a.atoms.length /\ a.atoms.length <= 6 /\ fsV a.facts = true /\ (a.atoms.take (i1 + 1)).all atV = true) /\ (a.atoms.length - (i1 + 1) < a.atoms.length - i1) /\ TT /\ (VC_iAssertionValid_2 a) /\ (([.s (.c (.d (.val (.int .i64 (((i1 : Nat) : Int) + (1 : Int))))))] : List S) = [.s (.c (.d (.val (.int .i64 (((i1 + 1) : Nat) : Int)))))]) /\ (RM []) /\ (RM []) /\ True /\ TT))) (True /\ (((true, ()) : Bool × Unit) = (asV a, ())) /\ True /\ True /\ True /\ True /\ TF)))))))
theorem vcn_iAssertionValid (a : GAsn) (k : Nat) (hp : a.facts.length <= 281474976710656 /\ a.atoms.length <= 281474976710656) : VC_iAssertionValid a k := by
 unfold VC_iAssertionValid VC_iAssertionValid_2 VC_iAssertionValid_1
 simp only [cln, Nat.reduceEqDiff, Nat.reduceLeDiff, Nat.reduceAdd]
 all_goals (try simp only [opn])
 all_goals (repeat' (first | apply And.intro | intro _))
 all_goals (first | omega | (simp_all; done) | grind [asV, take_all, all_take, take_full, Ty.zero])
theorem ok_iAssertionValid : FnOk Try.prog E 33 c_iAssertionValid :=
 fn_okQ (l := L_iAssertionValid) (lp := P_iAssertionValid) (hp := fun _ => false) (gcs := fun _ => none) (perm := fun _ => []) tabOk mix ⟨ok_iFactsValid, ok_iAtomValid, trivial⟩ trivial Try.func33 rfl (by kernel_rfl) (by decide) (by kernel_rfl) (anns := fun x _ => an_iAssertionValid x.1) (fun ⟨a, _⟩ k hp _ => Eq.mp (by kernel_rfl) (vcn_iAssertionValid a k hp)) tot_fn
abbrev c_tsWith : Con := ⟨[.u16, .int], [.u16], fun (s, t, _) => 0 <= s /\ s < 512, .inl fun (s, t, _) => (tsWith s t, ()), fun _ => 0⟩
abbrev L_tsWith : List (FuncId × Con) := [(89, c_isTerm)]
abbrev P_tsWith : List (FuncId × PT) := []
def VC_tsWith (s : Int) (t : Int) (k : Nat) : Prop := True /\ True /\ (True /\ True /\ True) /\ True /\ (vcIf (!(isT t)) (True /\ True /\ (((s, ()) : Int × Unit) = (tsWith s t, ())) /\ True /\ True /\ True /\ True /\ TF) (True /\ True /\ (0 <= t) /\ True /\ True /\ (((bits .or .u16 s (IntKind.wrap .u16 ((1 : Int) * 2 ^ (min t.toNat (IntKind.bits .u16)))), ()) : Int × Unit) = (tsWith s t, ())) /\ True /\ True /\ True /\ True /\ TF))
theorem vcn_tsWith (s : Int) (t : Int) (k : Nat) (hp : 0 <= s /\ s < 512) : VC_tsWith s t k := by
 unfold VC_tsWith
 simp only [cln, Nat.reduceEqDiff, Nat.reduceLeDiff, Nat.reduceAdd]
 simp only [vcIf_iff]
 exact ⟨fun h => (tsWith_no (by simpa using h)).symm, fun h => ⟨(isT_iff.1 (by simpa using h)).1, tsWith_eq hp.1 hp.2 (by simpa using h)⟩⟩
theorem ok_tsWith : FnOk Try.prog E 87 c_tsWith :=
 fn_okQ (l := L_tsWith) (lp := P_tsWith) (hp := fun _ => false) (gcs := fun _ => none) (perm := fun _ => []) tabOk mix ⟨ok_isTerm, trivial⟩ trivial Try.func87 rfl (by kernel_rfl) (by decide) (by kernel_rfl) (anns := fun x _ => fun _ _ => none) (fun ⟨s, t, _⟩ k hp _ => Eq.mp (by kernel_rfl) (vcn_tsWith s t k hp)) tot_fn
abbrev c_termsIn : Con := ⟨[.asn], [.u16], fun (a, _) => a.facts.length <= 281474976710656 /\ a.atoms.length <= 281474976710656, .inl fun (a, _) => (tsA a, ()), fun _ => 0⟩
abbrev L_termsIn : List (FuncId × Con) := [(87, c_tsWith)]
abbrev P_termsIn : List (FuncId × PT) := []
def an_termsIn (a : GAsn) : Nat -> St -> Option Ann
 | 3, se => some { α := Nat, ok := fun i => i <= a.facts.length, mu := fun i => a.facts.length - i, i0 := fun _ => 0, nx := fun a _ => (fun i => i + 1) a, live := [1, 2, 9, 10], sets := fun i => [(11, sv (.int .i64 i)), (3, sv (.int .u16 (tsF (a.facts.take i))))], mids := [31], blks := fun i => [], owns := fun i => [], rd := fun r _ => r, base := 100000 }
 | 8, se => some { α := Nat, ok := fun i => i <= a.atoms.length, mu := fun i => a.atoms.length - i, i0 := fun _ => 0, nx := fun a _ => (fun i => i + 1) a, live := [2, 24, 25], sets := fun i => [(26, sv (.int .i64 i)), (3, sv (.int .u16 (tsG (tsF a.facts) (a.atoms.take i))))], mids := [], blks := fun i => [], owns := fun i => [], rd := fun r _ => r, base := 200000 }
 | _, _ => none
def VC_termsIn_1 (a : GAsn) : Prop := RL [.s (.c (.ptr 31 0)), .s (.c (.d (.val (.int .u16 (0 : Int))))), .s (.c (.d (.arr .fact a.facts))), .s (.c (.d (.val (.int .i64 ((a.facts.length : Nat) : Int)))))]
def VC_termsIn_2 (a : GAsn) : Prop := (RM [some (.blk [.d (.arr .fact a.facts), .d (.arr .atom a.atoms)])]) /\ (RM []) /\ True /\ TT
def VC_termsIn_3 (a : GAsn) : Prop := RL [.s (.c (.d (.val (.int .u16 (0 : Int))))), .s (.c (.d (.arr .atom a.atoms))), .s (.c (.d (.val (.int .i64 ((a.atoms.length : Nat) : Int)))))]
def VC_termsIn_4 (a : GAsn) : Prop := (((0 <= a.facts.length) /\ TT /\ (VC_termsIn_1 a) /\ (([.s (.c (.d (.val (.int .i64 (0 : Int))))), .s (.c (.d (.val (.int .u16 (0 : Int)))))] : List S) = [.s (.c (.d (.val (.int .i64 ((0 : Nat) : Int))))), .s (.c (.d (.val (.int .u16 (tsF (a.facts.take 0) : Int)))))]) /\ (VC_termsIn_2 a)) /\ (∀ i1 : Nat, (i1 <= a.facts.length) -> True /\ (vcIf (decide (((i1 : Nat) : Int) < ((a.facts.length : Nat) : Int))) ((0 <= ((i1 : Nat) : Int) /\ ((i1 : Nat) : Int) < ((a.facts.length : Nat) : Int)) /\ True /\ (TN /\ True) /\ (TF /\ TF) /\ True /\ True /\ True /\ ((0 <= (tsF (a.facts.take i1) : Int) /\ (tsF (a.facts.take i1) : Int) < 512) /\ True /\ True) /\ True /\ True /\ ((0 <= (tsWith (tsF (a.facts.take i1) : Int) ((a.facts.getD i1 (⟨false, 0, 0⟩ : GFact)).a)) /\ (tsWith (tsF (a.facts.take i1) : Int) ((a.facts.getD i1 (⟨false, 0, 0⟩ : GFact)).a)) < 512) /\ True /\ True) /\ True /\ (inK .i64 (((i1 : Nat) : Int) + (1 : Int))) /\ True /\ ((i1 + 1) <= a.facts.length) /\ (a.facts.length - (i1 + 1) < a.facts.length - i1) /\ TT /\ (VC_termsIn_1 a) /\ (([.s (.c (.d (.val (.int .i64 (((i1 : Nat) : Int) + (1 : Int)))))), .s (.c (.d (.val (.int .u16 (tsWith (tsWith (tsF (a.facts.take i1) : Int) ((a.facts.getD i1 (⟨false, 0, 0⟩ : GFact)).a)) ((a.facts.getD i1 (⟨false, 0, 0⟩ : GFact)).b))))))] : List S) = [.s (.c (.d (.val (.int .i64 (((i1 + 1) : Nat) : Int))))), .s (.c (.d (.val (.int .u16 (tsF (a.facts.take (i1 + 1)) : Int)))))]) /\ (VC_termsIn_2 a)) (True /\ True /\ True /\ True /\ ((0 <= a.atoms.length) /\ TT /\ (VC_termsIn_3 a) /\ (([.s (.c (.d (.val (.int .i64 (0 : Int))))), .s (.c (.d (.val (.int .u16 (tsF (a.facts.take i1) : Int)))))] : List S) = [.s (.c (.d (.val (.int .i64 ((0 : Nat) : Int))))), .s (.c (.d (.val (.int .u16 (tsG (tsF a.facts) (a.atoms.take 0) : Int)))))]) /\ (RM []) /\ (RM []) /\ True /\ TT) /\ (∀ i2 : Nat, (i2 <= a.atoms.length) -> True /\ (vcIf (decide (((i2 : Nat) : Int) < ((a.atoms.length : Nat) : Int))) ((0 <= ((i2 : Nat) : Int) /\ ((i2 : Nat) : Int) < ((a.atoms.length : Nat) : Int)) /\ True /\ (TN /\ True) /\ (TF /\ TF) /\ True /\ True /\ True /\ ((0 <= (tsG (tsF a.facts) (a.atoms.take i2) : Int) /\ (tsG (tsF a.facts) (a.atoms.take i2) : Int) < 512) /\ True /\ True) /\ True /\ True /\ ((0 <= (tsWith (tsG (tsF a.facts) (a.atoms.take i2) : Int) ((a.atoms.getD i2 (⟨0, 0, 0⟩ : GAtom)).a)) /\ (tsWith (tsG (tsF a.facts) (a.atoms.take i2) : Int) ((a.atoms.getD i2 (⟨0, 0, 0⟩ : GAtom)).a)) < 512) /\ True /\ True) /\ True /\ (inK .i64 (((i2 : Nat) : Int) + (1 : Int))) /\ True /\ ((i2 + 1) <= a.atoms.length) /\ (a.atoms.length - (i2 + 1) < a.atoms.length - i2) /\ TT /\ (VC_termsIn_3 a) /\ (([.s (.c (.d (.val (.int .i64 (((i2 : Nat) : Int) + (1 : Int)))))), .s (.c (.d (.val (.int .u16 (tsWith (tsWith (tsG (tsF a.facts) (a.atoms.take i2) : Int) ((a.atoms.getD i2 (⟨0, 0, 0⟩ : GAtom)).a)) ((a.atoms.getD i2 (⟨0, 0, 0⟩ : GAtom)).b))))))] : List S) = [.s (.c (.d (.val (.int .i64 (((i2 + 1) : Nat) : Int))))), .s (.c (.d (.val (.int .u16 (tsG (tsF a.facts) (a.atoms.take (i2 + 1)) : Int)))))]) /\ (RM []) /\ (RM []) /\ True /\ TT) (True /\ True /\ ((((tsG (tsF a.facts) (a.atoms.take i2) : Int), ()) : Int × Unit) = (tsA a, ())) /\ True /\ True /\ True /\ True /\ TF)))))))
def VC_termsIn (a : GAsn) (k : Nat) : Prop := TN /\ True /\ True /\ True /\ True /\ True /\ True /\ (VC_termsIn_4 a)
theorem vcn_termsIn (a : GAsn) (k : Nat) (hp : a.facts.length <= 281474976710656 /\ a.atoms.length <= 281474976710656) : VC_termsIn a k := by
 unfold VC_termsIn VC_termsIn_4 VC_termsIn_3 VC_termsIn_2 VC_termsIn_1
 simp only [cln, Nat.reduceEqDiff, Nat.reduceLeDiff, Nat.reduceAdd]
 have hF := tsF_bd
 have hW1 : ∀ s t, 0 <= s -> s < 512 -> 0 <= tsWith s t := fun _ _ h0 h1 => (tsWith_bd h0 h1).1
 have hW2 : ∀ s t, 0 <= s -> s < 512 -> tsWith s t < 512 := fun _ _ h0 h1 => (tsWith_bd h0 h1).2
 have hF0 : tsF [] = 0 := rfl
 have hG0 : ∀ z, tsG z [] = z := fun _ => rfl
 have hG := fun l => tsG_bd l _ (tsF_bd a.facts)
 all_goals (try simp only [opn])
 all_goals (repeat' (first | apply And.intro | intro _))
 all_goals (first | omega | (simp_all; done) | grind [tsF_step, tsG_step, tsA, take_full, Ty.zero])
theorem ok_termsIn : FnOk Try.prog E 72 c_termsIn :=
 fn_okQ (l := L_termsIn) (lp := P_termsIn) (hp := fun _ => false) (gcs := fun _ => none) (perm := fun _ => []) tabOk mix ⟨ok_tsWith, trivial⟩ trivial Try.func72 rfl (by kernel_rfl) (by decide) (by kernel_rfl) (anns := fun x _ => an_termsIn x.1) (fun ⟨a, _⟩ k hp _ => Eq.mp (by kernel_rfl) (vcn_termsIn a k hp)) tot_fn
abbrev c_tsHas : Con := ⟨[.u16, .int], [.bool], fun (s, t, _) => 0 <= s /\ s < 512, .inl fun (s, t, _) => (tsHas s t, ()), fun _ => 0⟩
abbrev L_tsHas : List (FuncId × Con) := [(89, c_isTerm)]
abbrev P_tsHas : List (FuncId × PT) := []
def VC_tsHas (s : Int) (t : Int) (k : Nat) : Prop := True /\ True /\ (True /\ True /\ True) /\ True /\ (vcIf (isT t) (True /\ True /\ (0 <= t) /\ True /\ True /\ True /\ True /\ ((((bits .and .u16 (Int.fdiv s (2 ^ (min t.toNat (IntKind.bits .u16)))) (1 : Int)) == (1 : Int), ()) : Bool × Unit) = (tsHas s t, ())) /\ True /\ True /\ True /\ True /\ TF) (True /\ True /\ (((false, ()) : Bool × Unit) = (tsHas s t, ())) /\ True /\ True /\ True /\ True /\ TF))
theorem vcn_tsHas (s : Int) (t : Int) (k : Nat) (hp : 0 <= s /\ s < 512) : VC_tsHas s t k := by
 unfold VC_tsHas
 simp only [cln, Nat.reduceEqDiff, Nat.reduceLeDiff, Nat.reduceAdd]
 simp only [vcIf_iff]
 exact ⟨fun h => ⟨(isT_iff.1 h).1, tsHas_eq hp.1 hp.2 h⟩, fun h => by simp [tsHas, h]⟩
theorem ok_tsHas : FnOk Try.prog E 128 c_tsHas :=
 fn_okQ (l := L_tsHas) (lp := P_tsHas) (hp := fun _ => false) (gcs := fun _ => none) (perm := fun _ => []) tabOk mix ⟨ok_isTerm, trivial⟩ trivial Try.func128 rfl (by kernel_rfl) (by decide) (by kernel_rfl) (anns := fun x _ => fun _ _ => none) (fun ⟨s, t, _⟩ k hp _ => Eq.mp (by kernel_rfl) (vcn_tsHas s t k hp)) tot_fn
abbrev c_factHolds : Con := ⟨[.pkase, .fact], [.bool], fun (c, f, _) => c.length = 9 /\ fV f = true, .inl fun (c, f, _) => (fh c f, ()), fun _ => 0⟩
abbrev L_factHolds : List (FuncId × Con) := []
abbrev P_factHolds : List (FuncId × PT) := []
def VC_factHolds (c : List Int) (f : GFact) (k : Nat) : Prop := TN /\ True /\ True /\ True /\ True /\ True /\ (0 <= f.a /\ f.a < ((9 : Nat) : Int) /\ c.length = 9) /\ True /\ True /\ True /\ True /\ True /\ (0 <= f.b /\ f.b < ((9 : Nat) : Int) /\ c.length = 9) /\ True /\ True /\ True /\ True /\ True /\ True /\ (((((c.getD f.a.toNat (0 : Int)) == (c.getD f.b.toNat (0 : Int))) == f.eq, ()) : Bool × Unit) = (fh c f, ())) /\ True /\ True /\ True /\ True /\ TF
theorem vcn_factHolds (c : List Int) (f : GFact) (k : Nat) (hp : c.length = 9 /\ fV f = true) : VC_factHolds c f k := by
 unfold VC_factHolds
 simp only [cln, Nat.reduceEqDiff, Nat.reduceLeDiff, Nat.reduceAdd]
 have h1 := fV_isT hp.2
 have h2 := isT_iff.1 h1.1
 have h3 := isT_iff.1 h1.2
 all_goals (try simp only [opn])
 all_goals (repeat' (first | apply And.intro | intro _))
 all_goals (first | omega | (simp_all; done) | grind [fh, cl])
theorem ok_factHolds : FnOk Try.prog E 88 c_factHolds :=
 fn_okQ (l := L_factHolds) (lp := P_factHolds) (hp := fun _ => false) (gcs := fun _ => none) (perm := fun _ => []) tabOk mix trivial trivial Try.func88 rfl (by kernel_rfl) (by decide) (by kernel_rfl) (anns := fun x _ => fun _ _ => none) (fun ⟨c, f, _⟩ k hp _ => Eq.mp (by kernel_rfl) (vcn_factHolds c f k hp)) tot_fn
abbrev c_isFilled : Con := ⟨[.pkase, .atom], [.bool], fun (c, x, _) => c.length = 9 /\ atV x = true, .inl fun (c, x, _) => (filB c x, ()), fun _ => 0⟩
abbrev L_isFilled : List (FuncId × Con) := []
abbrev P_isFilled : List (FuncId × PT) := []
def VC_isFilled (c : List Int) (x : GAtom) (k : Nat) : Prop := TN /\ True /\ True /\ True /\ True /\ True /\ (vcIf (x.kind == (1 : Int)) (True /\ True /\ (((true, ()) : Bool × Unit) = (filB c x, ())) /\ True /\ True /\ True /\ True /\ TF) (True /\ True /\ True /\ True /\ (0 <= x.a /\ x.a < ((9 : Nat) : Int) /\ c.length = 9) /\ True /\ True /\ True /\ True /\ True /\ (0 <= x.b /\ x.b < ((9 : Nat) : Int) /\ c.length = 9) /\ True /\ True /\ True /\ True /\ ((((c.getD x.a.toNat (0 : Int)) != (c.getD x.b.toNat (0 : Int)), ()) : Bool × Unit) = (filB c x, ())) /\ True /\ True /\ True /\ True /\ TF))
theorem vcn_isFilled (c : List Int) (x : GAtom) (k : Nat) (hp : c.length = 9 /\ atV x = true) : VC_isFilled c x k := by
 unfold VC_isFilled
 simp only [cln, Nat.reduceEqDiff, Nat.reduceLeDiff, Nat.reduceAdd]
 have h1 := atV_isT hp.2
 have h2 := isT_iff.1 h1.1
 have h3 := isT_iff.1 h1.2
 all_goals (try simp only [opn])
 all_goals (repeat' (first | apply And.intro | intro _))
 all_goals (first | omega | (simp_all; done) | grind [filB, cl])
theorem ok_isFilled : FnOk Try.prog E 150 c_isFilled :=
 fn_okQ (l := L_isFilled) (lp := P_isFilled) (hp := fun _ => false) (gcs := fun _ => none) (perm := fun _ => []) tabOk mix trivial trivial Try.func150 rfl (by kernel_rfl) (by decide) (by kernel_rfl) (anns := fun x _ => fun _ _ => none) (fun ⟨c, x, _⟩ k hp _ => Eq.mp (by kernel_rfl) (vcn_isFilled c x k hp)) tot_fn
abbrev c_possible : Con := ⟨[.pkase, .asn, .int], [.bool], fun (c, a, last, _) => c.length = 9 /\ asV a = true /\ 0 <= last /\ last <= 8, .inl fun (c, a, last, _) => (possI a c last, ()), fun _ => 0⟩
abbrev L_possible : List (FuncId × Con) := [(87, c_tsWith), (88, c_factHolds), (128, c_tsHas), (150, c_isFilled)]
abbrev P_possible : List (FuncId × PT) := []
def an_possible (c : List Int) (a : GAsn) (last : Int) : Nat -> St -> Option Ann
 | 2, se => some { α := Nat, ok := fun i => i <= a.facts.length /\ possF c last (a.facts.take i) = true, mu := fun i => a.facts.length - i, i0 := fun _ => 0, nx := fun a _ => (fun i => i + 1) a, live := [0, 2, 4, 13, 14], sets := fun i => [(15, sv (.int .i64 i))], mids := [79], blks := fun i => [], owns := fun i => [], rd := fun r _ => r, base := 100000 }
 | 9, se => some { α := Nat, ok := fun i => i <= a.atoms.length /\ possF c last a.facts = true /\ okS [] (sts c last (a.atoms.take i)) = true, mu := fun i => a.atoms.length - i, i0 := fun _ => 0, nx := fun a _ => (fun i => i + 1) a, live := [0, 2, 37, 38], sets := fun i => [(39, sv (.int .i64 i)), (9, sv (.int .u16 (maskS (sts c last (a.atoms.take i)))))], mids := [], blks := fun i => [], owns := fun i => [], rd := fun r _ => r, base := 200000 }
 | _, _ => none
def VC_possible_1 (c : List Int) (last : Int) (a : GAsn) : Prop := RL [.s (.c (.rv .int c)), .s (.c (.d (.val (.int .i64 last)))), .s (.c (.ptr 79 0)), .s (.c (.d (.arr .fact a.facts))), .s (.c (.d (.val (.int .i64 ((a.facts.length : Nat) : Int)))))]
def VC_possible_2 (a : GAsn) : Prop := (RM [some (.blk [.d (.arr .fact a.facts), .d (.arr .atom a.atoms)])]) /\ (RM []) /\ True /\ TT
def VC_possible_3 (a : GAsn) (c : List Int) (last : Int) : Prop := True /\ (((false, ()) : Bool × Unit) = (possI a c last, ())) /\ True /\ True /\ True /\ True /\ TF
def VC_possible_4 (i1 : Nat) (a : GAsn) (c : List Int) (last : Int) : Prop := (inK .i64 (((i1 : Nat) : Int) + (1 : Int))) /\ True /\ ((i1 + 1) <= a.facts.length /\ possF c last (a.facts.take (i1 + 1)) = true) /\ (a.facts.length - (i1 + 1) < a.facts.length - i1) /\ TT /\ (VC_possible_1 c last a) /\ (([.s (.c (.d (.val (.int .i64 (((i1 : Nat) : Int) + (1 : Int))))))] : List S) = [.s (.c (.d (.val (.int .i64 (((i1 + 1) : Nat) : Int)))))]) /\ (VC_possible_2 a)
def VC_possible_5 (i1 : Nat) (a : GAsn) (c : List Int) (last : Int) : Prop := True /\ (VC_possible_4 i1 a c last)
def VC_possible_6 (c : List Int) (last : Int) (a : GAsn) : Prop := RL [.s (.c (.rv .int c)), .s (.c (.d (.val (.int .i64 last)))), .s (.c (.d (.arr .atom a.atoms))), .s (.c (.d (.val (.int .i64 ((a.atoms.length : Nat) : Int)))))]
def VC_possible_7 (i2 : Nat) (a : GAsn) (c : List Int) (last : Int) : Prop := (i2 + 1) <= a.atoms.length /\ possF c last a.facts = true /\ okS [] (sts c last (a.atoms.take (i2 + 1))) = true
def VC_possible_8 (i2 : Nat) (a : GAsn) (c : List Int) (last : Int) : Prop := (inK .i64 (((i2 : Nat) : Int) + (1 : Int))) /\ True /\ (VC_possible_7 i2 a c last) /\ (a.atoms.length - (i2 + 1) < a.atoms.length - i2) /\ TT /\ (VC_possible_6 c last a) /\ (([.s (.c (.d (.val (.int .i64 (((i2 : Nat) : Int) + (1 : Int)))))), .s (.c (.d (.val (.int .u16 (maskS (sts c last (a.atoms.take i2)) : Int)))))] : List S) = [.s (.c (.d (.val (.int .i64 (((i2 + 1) : Nat) : Int))))), .s (.c (.d (.val (.int .u16 (maskS (sts c last (a.atoms.take (i2 + 1))) : Int)))))]) /\ (RM []) /\ (RM []) /\ True /\ TT
def VC_possible_9 (i2 : Nat) (a : GAsn) (c : List Int) (last : Int) : Prop := True /\ (VC_possible_8 i2 a c last)
def VC_possible_10 (a : GAsn) (i2 : Nat) (c : List Int) : Prop := 0 <= ((a.atoms.getD i2 (⟨0, 0, 0⟩ : GAtom)).a) /\ ((a.atoms.getD i2 (⟨0, 0, 0⟩ : GAtom)).a) < ((9 : Nat) : Int) /\ c.length = 9
def VC_possible_11 (c : List Int) (last : Int) (a : GAsn) (i2 : Nat) : Prop := (0 <= (maskS (sts c last (a.atoms.take i2)) : Int) /\ (maskS (sts c last (a.atoms.take i2)) : Int) < 512) /\ True /\ True
def VC_possible_12 (i1 : Nat) (a : GAsn) (last : Int) (c : List Int) : Prop := (True /\ (vcIf (decide (((i1 : Nat) : Int) < ((a.facts.length : Nat) : Int))) ((0 <= ((i1 : Nat) : Int) /\ ((i1 : Nat) : Int) < ((a.facts.length : Nat) : Int)) /\ True /\ (TN /\ True) /\ (TF /\ TF) /\ True /\ True /\ True /\ True /\ True /\ (vcIf (decide (((a.facts.getD i1 (⟨false, 0, 0⟩ : GFact)).a) <= last)) (True /\ True /\ True /\ True /\ True /\ True /\ (vcIf (decide (((a.facts.getD i1 (⟨false, 0, 0⟩ : GFact)).b) <= last)) (True /\ True /\ ((c.length = 9 /\ fV (a.facts.getD i1 (⟨false, 0, 0⟩ : GFact)) = true) /\ True /\ True) /\ True /\ True /\ (vcIf (!(fh c (a.facts.getD i1 (⟨false, 0, 0⟩ : GFact)))) (VC_possible_3 a c last) (VC_possible_4 i1 a c last))) (VC_possible_5 i1 a c last))) (True /\ True /\ (VC_possible_5 i1 a c last)))) (True /\ True /\ True /\ True /\ True /\ ((0 <= a.atoms.length /\ possF c last a.facts = true /\ okS [] (sts c last (a.atoms.take 0)) = true) /\ TT /\ (VC_possible_6 c last a) /\ (([.s (.c (.d (.val (.int .i64 (0 : Int))))), .s (.c (.d (.val (.int .u16 (0 : Int)))))] : List S) = [.s (.c (.d (.val (.int .i64 ((0 : Nat) : Int))))), .s (.c (.d (.val (.int .u16 (maskS (sts c last (a.atoms.take 0)) : Int)))))]) /\ (RM []) /\ (RM []) /\ True /\ TT) /\ (∀ i2 : Nat, (i2 <= a.atoms.length /\ possF c last a.facts = true /\ okS [] (sts c last (a.atoms.take i2)) = true) -> True /\ (vcIf (decide (((i2 : Nat) : Int) < ((a.atoms.length : Nat) : Int))) ((0 <= ((i2 : Nat) : Int) /\ ((i2 : Nat) : Int) < ((a.atoms.length : Nat) : Int)) /\ True /\ (TN /\ True) /\ (TF /\ TF) /\ True /\ True /\ True /\ True /\ True /\ (vcIf (decide (last < ((a.atoms.getD i2 (⟨0, 0, 0⟩ : GAtom)).a))) (True /\ True /\ (VC_possible_9 i2 a c last)) (True /\ True /\ True /\ True /\ True /\ True /\ (vcIf (decide (last < ((a.atoms.getD i2 (⟨0, 0, 0⟩ : GAtom)).b))) (VC_possible_9 i2 a c last) (True /\ True /\ ((c.length = 9 /\ atV (a.atoms.getD i2 (⟨0, 0, 0⟩ : GAtom)) = true) /\ True /\ True) /\ True /\ True /\ (vcIf (!(filB c (a.atoms.getD i2 (⟨0, 0, 0⟩ : GAtom)))) (VC_possible_8 i2 a c last) (True /\ True /\ True /\ True /\ (VC_possible_10 a i2 c) /\ True /\ True /\ True /\ (vcIf ((c.getD ((a.atoms.getD i2 (⟨0, 0, 0⟩ : GAtom)).a).toNat (0 : Int)) == (0 : Int)) (True /\ (VC_possible_3 a c last)) (True /\ True /\ True /\ True /\ True /\ (VC_possible_10 a i2 c) /\ True /\ (VC_possible_11 c last a i2) /\ True /\ (vcIf (tsHas (maskS (sts c last (a.atoms.take i2)) : Int) (c.getD ((a.atoms.getD i2 (⟨0, 0, 0⟩ : GAtom)).a).toNat (0 : Int))) (VC_possible_3 a c last) (True /\ True /\ True /\ True /\ True /\ (VC_possible_10 a i2 c) /\ True /\ (VC_possible_11 c last a i2) /\ True /\ (inK .i64 (((i2 : Nat) : Int) + (1 : Int))) /\ True /\ (VC_possible_7 i2 a c last) /\ (a.atoms.length - (i2 + 1) < a.atoms.length - i2) /\ TT /\ (VC_possible_6 c last a) /\ (([.s (.c (.d (.val (.int .i64 (((i2 : Nat) : Int) + (1 : Int)))))), .s (.c (.d (.val (.int .u16 (tsWith (maskS (sts c last (a.atoms.take i2)) : Int) (c.getD ((a.atoms.getD i2 (⟨0, 0, 0⟩ : GAtom)).a).toNat (0 : Int)))))))] : List S) = [.s (.c (.d (.val (.int .i64 (((i2 + 1) : Nat) : Int))))), .s (.c (.d (.val (.int .u16 (maskS (sts c last (a.atoms.take (i2 + 1))) : Int)))))]) /\ (RM []) /\ (RM []) /\ True /\ TT))))))))))) (True /\ (((true, ()) : Bool × Unit) = (possI a c last, ())) /\ True /\ True /\ True /\ True /\ TF))))))
def VC_possible (c : List Int) (a : GAsn) (last : Int) (k : Nat) : Prop := TN /\ True /\ True /\ True /\ True /\ True /\ ((0 <= a.facts.length /\ possF c last (a.facts.take 0) = true) /\ TT /\ (VC_possible_1 c last a) /\ (([.s (.c (.d (.val (.int .i64 (0 : Int)))))] : List S) = [.s (.c (.d (.val (.int .i64 ((0 : Nat) : Int)))))]) /\ (VC_possible_2 a)) /\ (∀ i1 : Nat, (i1 <= a.facts.length /\ possF c last (a.facts.take i1) = true) -> (VC_possible_12 i1 a last c))
theorem vcn_possible (c : List Int) (a : GAsn) (last : Int) (k : Nat) (hp : c.length = 9 /\ asV a = true /\ 0 <= last /\ last <= 8) : VC_possible c a last k := by
 unfold VC_possible VC_possible_12 VC_possible_11 VC_possible_10 VC_possible_9 VC_possible_8 VC_possible_7 VC_possible_6 VC_possible_5 VC_possible_4 VC_possible_3 VC_possible_2 VC_possible_1
 simp only [cln, Nat.reduceEqDiff, Nat.reduceLeDiff, Nat.reduceAdd]
 have hF := asV_facts hp.2.1
 have hX := fun i (h : i < a.atoms.length) => isT_iff.1 (asV_atom (d := ⟨0, 0, 0⟩) hp.2.1 h).1
 have hM := fun i => maskS_bd (sts c last (a.atoms.take i))
 all_goals (try simp only [opn])
 all_goals (repeat' (first | apply And.intro | intro _))
 all_goals (repeat (cases ‹_ /\ _›))
 all_goals (first | omega | rfl | assumption | (simp_all; done) | (exact (hX _ ‹_›).1) | (exact (hM _).1) | (exact (hM _).2) | (symm; exact possI_noF ‹_› ‹_› ‹_› ‹_›) | (rw [possF_step (d := ⟨false, 0, 0⟩) ‹_›]; simp_all; done) | (rw [possF_step (d := ⟨false, 0, 0⟩) ‹_›]; simp_all; omega) | (rw [← take_full (l := a.facts) ‹_›]; assumption) | (rw [sts_skip (c := c) (last := last) (l := a.atoms) (d := ⟨0, 0, 0⟩) ‹_› (by simp only [stB, Bool.and_eq_false_iff, decide_eq_false_iff_not]; first | (left; left; omega) | (left; right; omega) | (right; assumption))]; done) | (rw [sts_skip (c := c) (last := last) (l := a.atoms) (d := ⟨0, 0, 0⟩) ‹_› (by simp only [stB, Bool.and_eq_false_iff, decide_eq_false_iff_not]; first | (left; left; omega) | (left; right; omega) | (right; assumption))]; assumption) | (rw [take_full (l := a.atoms) ‹_›] at *; simp_all [possI]; done) | skip)
 all_goals (have hS := fun (j : Nat) (h1 : ¬ last < (a.atoms.getD j ⟨0, 0, 0⟩).a) (h2 : ¬ last < (a.atoms.getD j ⟨0, 0, 0⟩).b) (h3 : filB c (a.atoms.getD j ⟨0, 0, 0⟩) = true) => show stB c last (a.atoms.getD j ⟨0, 0, 0⟩) = true by (simp only [stB, Bool.and_eq_true, decide_eq_true_eq]; exact ⟨⟨by omega, by omega⟩, by assumption⟩))
 all_goals (first | (symm; exact possI_noA ‹_› (hS _ ‹_› ‹_› ‹_›) (.inl ‹_›)) | (symm; exact possI_noA ‹_› (hS _ ‹_› ‹_› ‹_›) (.inr ‹_›)) | (exact (okS_step ‹_› ‹_› (hS _ ‹_› ‹_› ‹_›) ‹_› ‹_›).1) | (exact (okS_step ‹_› ‹_› (hS _ ‹_› ‹_› ‹_›) ‹_› ‹_›).2.symm) | skip)
theorem ok_possible : FnOk Try.prog E 129 c_possible :=
 fn_okQ (l := L_possible) (lp := P_possible) (hp := fun _ => false) (gcs := fun _ => none) (perm := fun _ => []) tabOk mix ⟨ok_tsWith, ok_factHolds, ok_tsHas, ok_isFilled, trivial⟩ trivial Try.func129 rfl (by kernel_rfl) (by decide) (by kernel_rfl) (anns := fun x _ => an_possible x.1 x.2.1 x.2.2.1) (fun ⟨c, a, last, _⟩ k hp _ => Eq.mp (by kernel_rfl) (vcn_possible c a last k hp)) tot_fn
end Go.Proofs.Ytfoioficiffgkaa
