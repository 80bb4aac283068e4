/-
  Contracts of single functions of the program, each shown by the engine: what a call returns for arguments within the contract's bounds.
-/
import Derived.Test.YtfoioficiffgkaaFFnEquivalentSubsta
import Derived.Test.YtfoioficiffgkaaEd
import Derived.Test.YtfoioficiffgkaaEe
set_option linter.unusedSimpArgs false
set_option linter.unusedVariables false
set_option linter.unusedSectionVars false

namespace Go.Proofs.Ytfoioficiffgkaa
open Go.SE Go.RowKit
set_option linter.unusedSimpArgs false
set_option linter.unusedVariables false
set_option maxHeartbeats 1000000
set_option maxRecDepth 100000
abbrev c_l3Mutate : Con := ⟨[.rdr, .asn], [.asn], fun (rr, a, _) => a.facts.length <= 100000 /\ a.atoms.length <= 100000, .inr fun (rr, a, _) r => r.1.facts.length <= a.facts.length + 14 /\ r.1.atoms.length <= a.atoms.length + 7, fun (rr, a, _) => 4⟩
abbrev L_l3Mutate : List (FuncId × Con) := [(53, c_pick), (84, c_num), (109, c_l3Copy), (110, c_l1Mutate)]
def an_l3Mutate (rr : Unit) (a : GAsn) : Nat -> Option Ann
 | 8 => some { α := Nat, ok := fun i => i = 0 ∨ a.atoms.length + i <= 7, mu := fun i => 20 - i, i0 := fun _ => 0, nx := fun a _ => (fun i => i + 1) a, live := [4, 5], sets := fun i => [], mids := [79, 64, 65], blks := fun i => [(95, .blk [.own 7, .own 8])], owns := fun i => [⟨7, .cell 95 0, .fact, a.facts⟩, ⟨8, .cell 95 1, .atom, a.atoms ++ List.replicate i ⟨2, 1, 1⟩⟩], rd := fun r _ => r, base := 100000 }
 | _ => none
theorem vc_l3Mutate (rr : Unit) (a : GAsn) (k : Nat) (hp : a.facts.length <= 100000 /\ a.atoms.length <= 100000) (hk : k + (4) <= 1099511627776) : vc tab (lookF L_l3Mutate) (an_l3Mutate rr a) (fun _ => []) (bodyOf Try.f54) (entry (encs c_l3Mutate.aks (rr, a, ())) (rdOf true k)) (retOk tab c_l3Mutate Try.f54.results.toList (rr, a, ()) k) := by
 dsimp only [bodyOf, Try.f54, rdOf]
 simp (maxSteps := 10000000) only [c_l3Mutate, L_l3Mutate, an_l3Mutate, SE.lookF, c_pick, c_num, c_l3Copy, c_l1Mutate, tab2, tab3, tab4, tab5, tab7, tab9, tab12, tab13, tab21, tab22, tab23, tab24, tab25, tab26, tab31, tab32, tab33, tab41, tab42, tab43, tab44, tab55, tab56, tab60, tab61, tab81, tab82, tab86, tab87, tab94, tab99, tab101, tab130, tab131, tab144, tab146, tab148, tab149, tab150, tab178, tab190, SE.entry, SE.envOf, SE.rdOf, Option.get_some, SE.vc, SE.vcReg, SE.vcLoop, SE.condK, SE.seqK, SE.blockK, SE.vcOps, SE.vcStep, SE.vcOp, SE.vcTr, SE.vcDet_some, SE.vcDet_none, SE.vcIf_true, SE.vcIf_false, SE.vcEach, SE.pickOps, SE.gslot, SE.trOp, SE.moveId, SE.trMove, SE.trPick, SE.trAlloc, SE.trBox, SE.trBuild, SE.trBuildSlice, SE.trLoad, SE.trStore, SE.trNilCheck, SE.trBin, SE.trUn, SE.trConvert, SE.trFieldAddr, SE.trField, SE.trIndexAddr, SE.trIndex, SE.trSlice, SE.trMakeSlice, SE.trExtract, SE.trLen, SE.trAppend, SE.trCopy, SE.trFn, SE.trCall, SE.argsS, SE.ev, SE.constS, SE.junk, SE.sv, SE.upd_app, SE.adds, SE.sets, SE.nid, SE.St.app, SE.St.put, SE.free, SE.freeL, SE.allFree, SE.rids, SE.AK.rids, SE.castL, SE.rdl, SE.AK.dec, SE.decs, SE.AK.enc, SE.encs, SE.AK.res, SE.ress, SE.pack1, SE.zcells, SE.zeroOf, SE.partCells, SE.putc, SE.fills, SE.datas, SE.elemOf, SE.elemsOf, SE.notSpent, SE.cellsAt, SE.weak, SE.dcellsAt, SE.slAt, SE.rdPlus, SE.intAt, SE.updElem, SE.kill, SE.noJunk, SE.inK, SE.binI, SE.shf, SE.isShift, SE.eqCells, SE.aggS, SE.intOp, SE.nested, SE.hasRdr, SE.refsC, SE.refsCs, SE.ownsC, SE.refsAr, SE.rdFits, SE.costIf, SE.Con.post, SE.Con.det, SE.Ty.cells, SE.Ty.sz, SE.Ty.zero, SE.Ty.flat, SE.Ty.dec, SE.retOk, SE.loadsS, SE.loadS, SE.decRs, SE.decR, SE.outC, SE.rdC, SE.allDiff, SE.notIn, SE.notFrozen, SE.apartL, SE.rdEnd, SE.firstReg, SE.headC, SE.fitsC, SE.idsC, SE.keepE, SE.keepM, SE.keepB, SE.inL, SE.puts, SE.ownRes, SE.ownEnv, SE.renL, SE.srcId, SE.lookR, SE.envSame, SE.envSets, SE.memSame, SE.memBlks, SE.memOwns, SE.famsOf, SE.allIn, SE.closedE, SE.closedV, SE.closedM, SE.closedR, SE.rdLe, SE.S.refs, SE.S0.refs, SE.CV.refs, SE.refsL, SE.refsT, SE.S.ren, SE.S0.ren, SE.CV.ren, SE.Res.refs, SE.Res.ren, min_i64, max_i64, min_u16, max_u16, min_u8, max_u8, min_u64, max_u64, S.s.injEq, S0.c.injEq, CV.d.injEq, DC.val.injEq, Value.int.injEq, Value.bool.injEq, Value.string.injEq, eta_fact, eta_atom, eta_asn, eta_state, List.mem_cons, List.mem_nil_iff, or_false, false_or, or_true, true_or, Option.map_some, Option.map_none, Option.bind_some, Option.getD_some, Option.getD_none, Nat.reduceEqDiff, Nat.reduceAdd, Nat.reduceMul, Nat.reduceLeDiff, ↓reduceIte, reduceCtorEq, true_and, and_true, and_self, forall_const, implies_true, true_implies, List.getElem?_toArray, List.getElem?_cons_succ, List.getElem?_cons_zero, List.append_nil, List.nil_append, List.cons_append, List.length_cons, List.length_nil, List.take_succ_cons, List.take_zero, List.drop_succ_cons, List.drop_zero, List.set_cons_zero, List.set_cons_succ, List.map_cons, List.map_nil, Nat.add_zero, Nat.zero_add, forall_eq, Prod.forall, Bool.not_true, Bool.not_false, Nat.lt_irrefl, Nat.zero_lt_succ, List.singleton_append, Prod.mk.injEq, Nat.zero_mul, Nat.one_mul, Nat.reducePow, Option.some.injEq, not_false_eq_true, Int.toNat_natCast, Nat.sub_zero, Nat.le_refl, Bool.or_false, Bool.false_or, Bool.or_true, Bool.true_or, Bool.and_true, Bool.true_and, Bool.and_false, Bool.false_and, Bool.or_self, Bool.and_self, List.append_eq, and_false, false_and]
 all_goals (try simp only [vcIf_iff, decide_eq_true_eq, decide_eq_false_iff_not, bne_iff_ne, ne_eq, beq_iff_eq, beq_eq_false_iff_ne, bne_eq_false_iff_eq, Bool.not_eq_true', Bool.not_eq_false', Int.ofNat_lt, Int.natCast_inj])
 all_goals (repeat' (first | apply And.intro | intro _))
 all_goals (first | omega | (simp_all; done) | grind [List.replicate_succ', List.append_assoc])
theorem ok_l3Mutate : FnOk Try.prog E 54 c_l3Mutate :=
 fn_ok (l := L_l3Mutate) (perm := fun _ => []) tabOk mix ⟨ok_pick, ok_num, ok_l3Copy, ok_l1Mutate, trivial⟩ Try.func54 rfl (by kernel_rfl) (by decide) (by kernel_rfl) (anns := fun x _ => an_l3Mutate x.1 x.2.1) (fun ⟨rr, a, _⟩ k hp hk => vc_l3Mutate rr a k hp (hk rfl)) (fun ⟨_, a, _⟩ _ => ⟨(a, ()), ⟨Nat.le_add_right _ _, Nat.le_add_right _ _⟩⟩)
abbrev c_DrawImplies : Con := ⟨[.sl .u8], [.asn, .fact], fun _ => True, .inr fun (code, _) r => r.1.facts.length <= 40 /\ r.1.atoms.length <= 40, fun (code, _) => 27⟩
abbrev L_DrawImplies : List (FuncId × Con) := [(52, c_l3Draw), (53, c_pick), (54, c_l3Mutate), (84, c_num)]
abbrev P_DrawImplies : List (FuncId × PT) := []
def perm_DrawImplies : Nat -> List (List Nat)
 | 4 => [[0, 1, 2, 3], [0, 2, 1, 3], [1, 0, 2, 3]]
 | _ => []
def VC_DrawImplies_1 (r2 : GAsn × Unit) : Prop := (TF /\ TF) /\ (r2.1.facts.length <= 40 /\ r2.1.atoms.length <= 40) /\ ((((192 : Nat) ≠ 193) /\ True) /\ True /\ True) /\ ((TF /\ TF) /\ (TF /\ TF) /\ True) /\ True /\ (True /\ True /\ True) /\ (0 + 20 + 4 + 1 + 1 + 1 <= 0 + 27)
def VC_DrawImplies_2 (r2 : GAsn × Unit) : Prop := True /\ True /\ (TF /\ TF) /\ (VC_DrawImplies_1 r2)
def VC_DrawImplies (code : List UInt8) (k : Nat) : Prop := (TN /\ TN /\ TN /\ True) /\ (TN /\ True) /\ (((7 : Nat) < 25) /\ ((8 : Nat) < 25) /\ ((4 : Nat) < 25) /\ ((7 : Nat) ≠ 0)) /\ ((none : Option Nat) = none) /\ TT /\ TT /\ True /\ True /\ True /\ (True /\ (0 + 20 <= 1099511627776) /\ TN /\ TN /\ True) /\ (∀ r1 : GAsn × Unit, (asV r1.1 = true) -> ((r1.1.facts.length <= 100000 /\ r1.1.atoms.length <= 100000) /\ (0 + 20 + 4 <= 1099511627776) /\ TN /\ TN /\ True) /\ (∀ r2 : GAsn × Unit, (r2.1.facts.length <= r1.1.facts.length + 14 /\ r2.1.atoms.length <= r1.1.atoms.length + 7) -> (TN /\ TN /\ TN /\ True) /\ (TF /\ TF) /\ True /\ (True /\ (0 + 20 + 4 + 1 <= 1099511627776) /\ True) /\ (∀ r3 : Int × Unit, (pickP (3 : Int) r3.1) -> True /\ True /\ (TN /\ True) /\ ((0 < ([(1 : Int), (2 : Int), (3 : Int), (5 : Int), (7 : Int), (9 : Int)] : List Int).length /\ ([(1 : Int), (2 : Int), (3 : Int), (5 : Int), (7 : Int), (9 : Int)] : List Int).length <= 1000) /\ (0 + 20 + 4 + 1 + 1 <= 1099511627776) /\ True) /\ (∀ r4 : Int × Unit, (r4.1 ∈ ([(1 : Int), (2 : Int), (3 : Int), (5 : Int), (7 : Int), (9 : Int)] : List Int)) -> True /\ (TN /\ True) /\ ((0 < ([(0 : Int), (2 : Int), (1 : Int), (6 : Int), (3 : Int)] : List Int).length /\ ([(0 : Int), (2 : Int), (1 : Int), (6 : Int), (3 : Int)] : List Int).length <= 1000) /\ (0 + 20 + 4 + 1 + 1 + 1 <= 1099511627776) /\ True) /\ (∀ r5 : Int × Unit, (r5.1 ∈ ([(0 : Int), (2 : Int), (1 : Int), (6 : Int), (3 : Int)] : List Int)) -> True /\ (TN /\ True) /\ (TF /\ TF) /\ (VC_DrawImplies_2 r2) /\ (True /\ (TF /\ TF) /\ True /\ (VC_DrawImplies_1 r2)) /\ (VC_DrawImplies_2 r2) /\ True)))))
theorem vcn_DrawImplies (code : List UInt8) (k : Nat) : VC_DrawImplies code k := by
 unfold VC_DrawImplies VC_DrawImplies_2 VC_DrawImplies_1
 simp only [cln, Nat.reduceEqDiff, Nat.reduceLeDiff, Nat.reduceAdd]
 all_goals (try simp only [opn])
 all_goals (repeat' (first | apply And.intro | intro _))
 all_goals (first | omega | ((simp only [upd]; (repeat' split) <;> rfl); done) | (rename_i h; simp only [upd] at h; (repeat' split at h) <;> (first | (injection h with h; subst h; rfl) | (cases h))) | (simp_all; done) | grind [asV, fsV, pickP])
theorem ok_DrawImplies : FnOk Try.prog E 36 c_DrawImplies :=
 draw_fnQ (hp := fun _ => false) (perm := perm_DrawImplies) (gl := ([0, 2, 3], [32, 33, 47, 63])) tabOk mix (kall_of (l := L_DrawImplies) ⟨ok_l3Draw, ok_pick, ok_l3Mutate, ok_num, trivial⟩) (pall_of (l := P_DrawImplies) trivial) open_l18Open fn_l18Open Try.func36 rfl (by kernel_rfl) (by decide) (by kernel_rfl) rfl rfl (anns := fun x => fun _ _ => none) (fun ⟨code, _⟩ _ => Eq.mp (by kernel_rfl) (vcn_DrawImplies code 0)) (fun _ _ => ⟨((⟨[], []⟩ : GAsn), (⟨true, 0, 0⟩ : GFact), ()), ⟨Nat.zero_le _, Nat.zero_le _⟩⟩)
abbrev c_tsWith : Con := ⟨[.u16, .int], [.u16], fun (s, t, _) => 0 <= s /\ s < 512, .inl fun (s, t, _) => (tsWith s t, ()), fun _ => 0⟩
abbrev L_tsWith : List (FuncId × Con) := [(89, c_isTerm)]
abbrev P_tsWith : List (FuncId × PT) := []
def VC_tsWith (s : Int) (t : Int) (k : Nat) : Prop := True /\ True /\ (True /\ True /\ True) /\ True /\ (vcIf (!(isT t)) (True /\ True /\ (((s, ()) : Int × Unit) = (tsWith s t, ())) /\ True /\ True /\ True /\ True /\ TF) (True /\ True /\ (0 <= t) /\ True /\ True /\ (((bits .or .u16 s (IntKind.wrap .u16 ((1 : Int) * 2 ^ (min t.toNat (IntKind.bits .u16)))), ()) : Int × Unit) = (tsWith s t, ())) /\ True /\ True /\ True /\ True /\ TF))
theorem vcn_tsWith (s : Int) (t : Int) (k : Nat) (hp : 0 <= s /\ s < 512) : VC_tsWith s t k := by
 unfold VC_tsWith
 simp only [cln, Nat.reduceEqDiff, Nat.reduceLeDiff, Nat.reduceAdd]
 simp only [vcIf_iff]
 exact ⟨fun h => (tsWith_no (by simpa using h)).symm, fun h => ⟨(isT_iff.1 (by simpa using h)).1, tsWith_eq hp.1 hp.2 (by simpa using h)⟩⟩
theorem ok_tsWith : FnOk Try.prog E 87 c_tsWith :=
 fn_okQ (l := L_tsWith) (lp := P_tsWith) (hp := fun _ => false) (gcs := fun _ => none) (perm := fun _ => []) tabOk mix ⟨ok_isTerm, trivial⟩ trivial Try.func87 rfl (by kernel_rfl) (by decide) (by kernel_rfl) (anns := fun x _ => fun _ _ => none) (fun ⟨s, t, _⟩ k hp _ => Eq.mp (by kernel_rfl) (vcn_tsWith s t k hp)) tot_fn
abbrev c_termsIn : Con := ⟨[.asn], [.u16], fun (a, _) => a.facts.length <= 281474976710656 /\ a.atoms.length <= 281474976710656, .inl fun (a, _) => (tsA a, ()), fun _ => 0⟩
abbrev L_termsIn : List (FuncId × Con) := [(87, c_tsWith)]
abbrev P_termsIn : List (FuncId × PT) := []
def an_termsIn (a : GAsn) : Nat -> St -> Option Ann
 | 3, se => some { α := Nat, ok := fun i => i <= a.facts.length, mu := fun i => a.facts.length - i, i0 := fun _ => 0, nx := fun a _ => (fun i => i + 1) a, live := [1, 2, 9, 10], sets := fun i => [(11, sv (.int .i64 i)), (3, sv (.int .u16 (tsF (a.facts.take i))))], mids := [31], blks := fun i => [], owns := fun i => [], rd := fun r _ => r, base := 100000 }
 | 8, se => some { α := Nat, ok := fun i => i <= a.atoms.length, mu := fun i => a.atoms.length - i, i0 := fun _ => 0, nx := fun a _ => (fun i => i + 1) a, live := [2, 24, 25], sets := fun i => [(26, sv (.int .i64 i)), (3, sv (.int .u16 (tsG (tsF a.facts) (a.atoms.take i))))], mids := [], blks := fun i => [], owns := fun i => [], rd := fun r _ => r, base := 200000 }
 | _, _ => none
def VC_termsIn_1 (a : GAsn) : Prop := RL [.s (.c (.ptr 31 0)), .s (.c (.d (.val (.int .u16 (0 : Int))))), .s (.c (.d (.arr .fact a.facts))), .s (.c (.d (.val (.int .i64 ((a.facts.length : Nat) : Int)))))]
def VC_termsIn_2 (a : GAsn) : Prop := (RM [some (.blk [.d (.arr .fact a.facts), .d (.arr .atom a.atoms)])]) /\ (RM []) /\ True /\ TT
def VC_termsIn_3 (a : GAsn) : Prop := RL [.s (.c (.d (.val (.int .u16 (0 : Int))))), .s (.c (.d (.arr .atom a.atoms))), .s (.c (.d (.val (.int .i64 ((a.atoms.length : Nat) : Int)))))]
def VC_termsIn_4 (a : GAsn) : Prop := (((0 <= a.facts.length) /\ TT /\ (VC_termsIn_1 a) /\ (([.s (.c (.d (.val (.int .i64 (0 : Int))))), .s (.c (.d (.val (.int .u16 (0 : Int)))))] : List S) = [.s (.c (.d (.val (.int .i64 ((0 : Nat) : Int))))), .s (.c (.d (.val (.int .u16 (tsF (a.facts.take 0) : Int)))))]) /\ (VC_termsIn_2 a)) /\ (∀ i1 : Nat, (i1 <= a.facts.length) -> True /\ (vcIf (decide (((i1 : Nat) : Int) < ((a.facts.length : Nat) : Int))) ((0 <= ((i1 : Nat) : Int) /\ ((i1 : Nat) : Int) < ((a.facts.length : Nat) : Int)) /\ True /\ (TN /\ True) /\ (TF /\ TF) /\ True /\ True /\ True /\ ((0 <= (tsF (a.facts.take i1) : Int) /\ (tsF (a.facts.take i1) : Int) < 512) /\ True /\ True) /\ True /\ True /\ ((0 <= (tsWith (tsF (a.facts.take i1) : Int) ((a.facts.getD i1 (⟨false, 0, 0⟩ : GFact)).a)) /\ (tsWith (tsF (a.facts.take i1) : Int) ((a.facts.getD i1 (⟨false, 0, 0⟩ : GFact)).a)) < 512) /\ True /\ True) /\ True /\ (inK .i64 (((i1 : Nat) : Int) + (1 : Int))) /\ True /\ ((i1 + 1) <= a.facts.length) /\ (a.facts.length - (i1 + 1) < a.facts.length - i1) /\ TT /\ (VC_termsIn_1 a) /\ (([.s (.c (.d (.val (.int .i64 (((i1 : Nat) : Int) + (1 : Int)))))), .s (.c (.d (.val (.int .u16 (tsWith (tsWith (tsF (a.facts.take i1) : Int) ((a.facts.getD i1 (⟨false, 0, 0⟩ : GFact)).a)) ((a.facts.getD i1 (⟨false, 0, 0⟩ : GFact)).b))))))] : List S) = [.s (.c (.d (.val (.int .i64 (((i1 + 1) : Nat) : Int))))), .s (.c (.d (.val (.int .u16 (tsF (a.facts.take (i1 + 1)) : Int)))))]) /\ (VC_termsIn_2 a)) (True /\ True /\ True /\ True /\ ((0 <= a.atoms.length) /\ TT /\ (VC_termsIn_3 a) /\ (([.s (.c (.d (.val (.int .i64 (0 : Int))))), .s (.c (.d (.val (.int .u16 (tsF (a.facts.take i1) : Int)))))] : List S) = [.s (.c (.d (.val (.int .i64 ((0 : Nat) : Int))))), .s (.c (.d (.val (.int .u16 (tsG (tsF a.facts) (a.atoms.take 0) : Int)))))]) /\ (RM []) /\ (RM []) /\ True /\ TT) /\ (∀ i2 : Nat, (i2 <= a.atoms.length) -> True /\ (vcIf (decide (((i2 : Nat) : Int) < ((a.atoms.length : Nat) : Int))) ((0 <= ((i2 : Nat) : Int) /\ ((i2 : Nat) : Int) < ((a.atoms.length : Nat) : Int)) /\ True /\ (TN /\ True) /\ (TF /\ TF) /\ True /\ True /\ True /\ ((0 <= (tsG (tsF a.facts) (a.atoms.take i2) : Int) /\ (tsG (tsF a.facts) (a.atoms.take i2) : Int) < 512) /\ True /\ True) /\ True /\ True /\ ((0 <= (tsWith (tsG (tsF a.facts) (a.atoms.take i2) : Int) ((a.atoms.getD i2 (⟨0, 0, 0⟩ : GAtom)).a)) /\ (tsWith (tsG (tsF a.facts) (a.atoms.take i2) : Int) ((a.atoms.getD i2 (⟨0, 0, 0⟩ : GAtom)).a)) < 512) /\ True /\ True) /\ True /\ (inK .i64 (((i2 : Nat) : Int) + (1 : Int))) /\ True /\ ((i2 + 1) <= a.atoms.length) /\ (a.atoms.length - (i2 + 1) < a.atoms.length - i2) /\ TT /\ (VC_termsIn_3 a) /\ (([.s (.c (.d (.val (.int .i64 (((i2 : Nat) : Int) + (1 : Int)))))), .s (.c (.d (.val (.int .u16 (tsWith (tsWith (tsG (tsF a.facts) (a.atoms.take i2) : Int) ((a.atoms.getD i2 (⟨0, 0, 0⟩ : GAtom)).a)) ((a.atoms.getD i2 (⟨0, 0, 0⟩ : GAtom)).b))))))] : List S) = [.s (.c (.d (.val (.int .i64 (((i2 + 1) : Nat) : Int))))), .s (.c (.d (.val (.int .u16 (tsG (tsF a.facts) (a.atoms.take (i2 + 1)) : Int)))))]) /\ (RM []) /\ (RM []) /\ True /\ TT) (True /\ True /\ ((((tsG (tsF a.facts) (a.atoms.take i2) : Int), ()) : Int × Unit) = (tsA a, ())) /\ True /\ True /\ True /\ True /\ TF)))))))
def VC_termsIn (a : GAsn) (k : Nat) : Prop := TN /\ True /\ True /\ True /\ True /\ True /\ True /\ (VC_termsIn_4 a)
theorem vcn_termsIn (a : GAsn) (k : Nat) (hp : a.facts.length <= 281474976710656 /\ a.atoms.length <= 281474976710656) : VC_termsIn a k := by
 unfold VC_termsIn VC_termsIn_4 VC_termsIn_3 VC_termsIn_2 VC_termsIn_1
 simp only [cln, Nat.reduceEqDiff, Nat.reduceLeDiff, Nat.reduceAdd]
 have hF := tsF_bd
 have hW1 : ∀ s t, 0 <= s -> s < 512 -> 0 <= tsWith s t := fun _ _ h0 h1 => (tsWith_bd h0 h1).1
 have hW2 : ∀ s t, 0 <= s -> s < 512 -> tsWith s t < 512 := fun _ _ h0 h1 => (tsWith_bd h0 h1).2
 have hF0 : tsF [] = 0 := rfl
 have hG0 : ∀ z, tsG z [] = z := fun _ => rfl
 have hG := fun l => tsG_bd l _ (tsF_bd a.facts)
 all_goals (try simp only [opn])
 all_goals (repeat' (first | apply And.intro | intro _))
 all_goals (first | omega | (simp_all; done) | grind [tsF_step, tsG_step, tsA, take_full, Ty.zero])
theorem ok_termsIn : FnOk Try.prog E 72 c_termsIn :=
 fn_okQ (l := L_termsIn) (lp := P_termsIn) (hp := fun _ => false) (gcs := fun _ => none) (perm := fun _ => []) tabOk mix ⟨ok_tsWith, trivial⟩ trivial Try.func72 rfl (by kernel_rfl) (by decide) (by kernel_rfl) (anns := fun x _ => an_termsIn x.1) (fun ⟨a, _⟩ k hp _ => Eq.mp (by kernel_rfl) (vcn_termsIn a k hp)) tot_fn
abbrev c_tsHas : Con := ⟨[.u16, .int], [.bool], fun (s, t, _) => 0 <= s /\ s < 512, .inl fun (s, t, _) => (tsHas s t, ()), fun _ => 0⟩
abbrev L_tsHas : List (FuncId × Con) := [(89, c_isTerm)]
abbrev P_tsHas : List (FuncId × PT) := []
def VC_tsHas (s : Int) (t : Int) (k : Nat) : Prop := True /\ True /\ (True /\ True /\ True) /\ True /\ (vcIf (isT t) (True /\ True /\ (0 <= t) /\ True /\ True /\ True /\ True /\ ((((bits .and .u16 (Int.fdiv s (2 ^ (min t.toNat (IntKind.bits .u16)))) (1 : Int)) == (1 : Int), ()) : Bool × Unit) = (tsHas s t, ())) /\ True /\ True /\ True /\ True /\ TF) (True /\ True /\ (((false, ()) : Bool × Unit) = (tsHas s t, ())) /\ True /\ True /\ True /\ True /\ TF))
theorem vcn_tsHas (s : Int) (t : Int) (k : Nat) (hp : 0 <= s /\ s < 512) : VC_tsHas s t k := by
 unfold VC_tsHas
 simp only [cln, Nat.reduceEqDiff, Nat.reduceLeDiff, Nat.reduceAdd]
 simp only [vcIf_iff]
 exact ⟨fun h => ⟨(isT_iff.1 h).1, tsHas_eq hp.1 hp.2 h⟩, fun h => by simp [tsHas, h]⟩
theorem ok_tsHas : FnOk Try.prog E 128 c_tsHas :=
 fn_okQ (l := L_tsHas) (lp := P_tsHas) (hp := fun _ => false) (gcs := fun _ => none) (perm := fun _ => []) tabOk mix ⟨ok_isTerm, trivial⟩ trivial Try.func128 rfl (by kernel_rfl) (by decide) (by kernel_rfl) (anns := fun x _ => fun _ _ => none) (fun ⟨s, t, _⟩ k hp _ => Eq.mp (by kernel_rfl) (vcn_tsHas s t k hp)) tot_fn
abbrev c_factHolds : Con := ⟨[.pkase, .fact], [.bool], fun (c, f, _) => c.length = 9 /\ fV f = true, .inl fun (c, f, _) => (fh c f, ()), fun _ => 0⟩
abbrev L_factHolds : List (FuncId × Con) := []
abbrev P_factHolds : List (FuncId × PT) := []
def VC_factHolds (c : List Int) (f : GFact) (k : Nat) : Prop := TN /\ True /\ True /\ True /\ True /\ True /\ (0 <= f.a /\ f.a < ((9 : Nat) : Int) /\ c.length = 9) /\ True /\ True /\ True /\ True /\ True /\ (0 <= f.b /\ f.b < ((9 : Nat) : Int) /\ c.length = 9) /\ True /\ True /\ True /\ True /\ True /\ True /\ (((((c.getD f.a.toNat (0 : Int)) == (c.getD f.b.toNat (0 : Int))) == f.eq, ()) : Bool × Unit) = (fh c f, ())) /\ True /\ True /\ True /\ True /\ TF
theorem vcn_factHolds (c : List Int) (f : GFact) (k : Nat) (hp : c.length = 9 /\ fV f = true) : VC_factHolds c f k := by
 unfold VC_factHolds
 simp only [cln, Nat.reduceEqDiff, Nat.reduceLeDiff, Nat.reduceAdd]
 have h1 := fV_isT hp.2
 have h2 := isT_iff.1 h1.1
 have h3 := isT_iff.1 h1.2
 all_goals (try simp only [opn])
 all_goals (repeat' (first | apply And.intro | intro _))
 all_goals (first | omega | (simp_all; done) | grind [fh, cl])
theorem ok_factHolds : FnOk Try.prog E 88 c_factHolds :=
 fn_okQ (l := L_factHolds) (lp := P_factHolds) (hp := fun _ => false) (gcs := fun _ => none) (perm := fun _ => []) tabOk mix trivial trivial Try.func88 rfl (by kernel_rfl) (by decide) (by kernel_rfl) (anns := fun x _ => fun _ _ => none) (fun ⟨c, f, _⟩ k hp _ => Eq.mp (by kernel_rfl) (vcn_factHolds c f k hp)) tot_fn
abbrev c_isFilled : Con := ⟨[.pkase, .atom], [.bool], fun (c, x, _) => c.length = 9 /\ atV x = true, .inl fun (c, x, _) => (filB c x, ()), fun _ => 0⟩
abbrev L_isFilled : List (FuncId × Con) := []
abbrev P_isFilled : List (FuncId × PT) := []
def VC_isFilled (c : List Int) (x : GAtom) (k : Nat) : Prop := TN /\ True /\ True /\ True /\ True /\ True /\ (vcIf (x.kind == (1 : Int)) (True /\ True /\ (((true, ()) : Bool × Unit) = (filB c x, ())) /\ True /\ True /\ True /\ True /\ TF) (True /\ True /\ True /\ True /\ (0 <= x.a /\ x.a < ((9 : Nat) : Int) /\ c.length = 9) /\ True /\ True /\ True /\ True /\ True /\ (0 <= x.b /\ x.b < ((9 : Nat) : Int) /\ c.length = 9) /\ True /\ True /\ True /\ True /\ ((((c.getD x.a.toNat (0 : Int)) != (c.getD x.b.toNat (0 : Int)), ()) : Bool × Unit) = (filB c x, ())) /\ True /\ True /\ True /\ True /\ TF))
theorem vcn_isFilled (c : List Int) (x : GAtom) (k : Nat) (hp : c.length = 9 /\ atV x = true) : VC_isFilled c x k := by
 unfold VC_isFilled
 simp only [cln, Nat.reduceEqDiff, Nat.reduceLeDiff, Nat.reduceAdd]
 have h1 := atV_isT hp.2
 have h2 := isT_iff.1 h1.1
 have h3 := isT_iff.1 h1.2
 all_goals (try simp only [opn])
 all_goals (repeat' (first | apply And.intro | intro _))
 all_goals (first | omega | (simp_all; done) | grind [filB, cl])
theorem ok_isFilled : FnOk Try.prog E 150 c_isFilled :=
 fn_okQ (l := L_isFilled) (lp := P_isFilled) (hp := fun _ => false) (gcs := fun _ => none) (perm := fun _ => []) tabOk mix trivial trivial Try.func150 rfl (by kernel_rfl) (by decide) (by kernel_rfl) (anns := fun x _ => fun _ _ => none) (fun ⟨c, x, _⟩ k hp _ => Eq.mp (by kernel_rfl) (vcn_isFilled c x k hp)) tot_fn
abbrev c_possible : Con := ⟨[.pkase, .asn, .int], [.bool], fun (c, a, last, _) => c.length = 9 /\ asV a = true /\ 0 <= last /\ last <= 8, .inl fun (c, a, last, _) => (possI a c last, ()), fun _ => 0⟩
abbrev L_possible : List (FuncId × Con) := [(87, c_tsWith), (88, c_factHolds), (128, c_tsHas), (150, c_isFilled)]
abbrev P_possible : List (FuncId × PT) := []
def an_possible (c : List Int) (a : GAsn) (last : Int) : Nat -> St -> Option Ann
 | 2, se => some { α := Nat, ok := fun i => i <= a.facts.length /\ possF c last (a.facts.take i) = true, mu := fun i => a.facts.length - i, i0 := fun _ => 0, nx := fun a _ => (fun i => i + 1) a, live := [0, 2, 4, 13, 14], sets := fun i => [(15, sv (.int .i64 i))], mids := [79], blks := fun i => [], owns := fun i => [], rd := fun r _ => r, base := 100000 }
 | 9, se => some { α := Nat, ok := fun i => i <= a.atoms.length /\ possF c last a.facts = true /\ okS [] (sts c last (a.atoms.take i)) = true, mu := fun i => a.atoms.length - i, i0 := fun _ => 0, nx := fun a _ => (fun i => i + 1) a, live := [0, 2, 37, 38], sets := fun i => [(39, sv (.int .i64 i)), (9, sv (.int .u16 (maskS (sts c last (a.atoms.take i)))))], mids := [], blks := fun i => [], owns := fun i => [], rd := fun r _ => r, base := 200000 }
 | _, _ => none
def VC_possible_1 (c : List Int) (last : Int) (a : GAsn) : Prop := RL [.s (.c (.rv .int c)), .s (.c (.d (.val (.int .i64 last)))), .s (.c (.ptr 79 0)), .s (.c (.d (.arr .fact a.facts))), .s (.c (.d (.val (.int .i64 ((a.facts.length : Nat) : Int)))))]
def VC_possible_2 (a : GAsn) : Prop := (RM [some (.blk [.d (.arr .fact a.facts), .d (.arr .atom a.atoms)])]) /\ (RM []) /\ True /\ TT
def VC_possible_3 (a : GAsn) (c : List Int) (last : Int) : Prop := True /\ (((false, ()) : Bool × Unit) = (possI a c last, ())) /\ True /\ True /\ True /\ True /\ TF
def VC_possible_4 (i1 : Nat) (a : GAsn) (c : List Int) (last : Int) : Prop := (inK .i64 (((i1 : Nat) : Int) + (1 : Int))) /\ True /\ ((i1 + 1) <= a.facts.length /\ possF c last (a.facts.take (i1 + 1)) = true) /\ (a.facts.length - (i1 + 1) < a.facts.length - i1) /\ TT /\ (VC_possible_1 c last a) /\ (([.s (.c (.d (.val (.int .i64 (((i1 : Nat) : Int) + (1 : Int))))))] : List S) = [.s (.c (.d (.val (.int .i64 (((i1 + 1) : Nat) : Int)))))]) /\ (VC_possible_2 a)
def VC_possible_5 (i1 : Nat) (a : GAsn) (c : List Int) (last : Int) : Prop := True /\ (VC_possible_4 i1 a c last)
def VC_possible_6 (c : List Int) (last : Int) (a : GAsn) : Prop := RL [.s (.c (.rv .int c)), .s (.c (.d (.val (.int .i64 last)))), .s (.c (.d (.arr .atom a.atoms))), .s (.c (.d (.val (.int .i64 ((a.atoms.length : Nat) : Int)))))]
def VC_possible_7 (i2 : Nat) (a : GAsn) (c : List Int) (last : Int) : Prop := (i2 + 1) <= a.atoms.length /\ possF c last a.facts = true /\ okS [] (sts c last (a.atoms.take (i2 + 1))) = true
def VC_possible_8 (i2 : Nat) (a : GAsn) (c : List Int) (last : Int) : Prop := (inK .i64 (((i2 : Nat) : Int) + (1 : Int))) /\ True /\ (VC_possible_7 i2 a c last) /\ (a.atoms.length - (i2 + 1) < a.atoms.length - i2) /\ TT /\ (VC_possible_6 c last a) /\ (([.s (.c (.d (.val (.int .i64 (((i2 : Nat) : Int) + (1 : Int)))))), .s (.c (.d (.val (.int .u16 (maskS (sts c last (a.atoms.take i2)) : Int)))))] : List S) = [.s (.c (.d (.val (.int .i64 (((i2 + 1) : Nat) : Int))))), .s (.c (.d (.val (.int .u16 (maskS (sts c last (a.atoms.take (i2 + 1))) : Int)))))]) /\ (RM []) /\ (RM []) /\ True /\ TT
def VC_possible_9 (i2 : Nat) (a : GAsn) (c : List Int) (last : Int) : Prop := True /\ (VC_possible_8 i2 a c last)
def VC_possible_10 (a : GAsn) (i2 : Nat) (c : List Int) : Prop := 0 <= ((a.atoms.getD i2 (⟨0, 0, 0⟩ : GAtom)).a) /\ ((a.atoms.getD i2 (⟨0, 0, 0⟩ : GAtom)).a) < ((9 : Nat) : Int) /\ c.length = 9
def VC_possible_11 (c : List Int) (last : Int) (a : GAsn) (i2 : Nat) : Prop := (0 <= (maskS (sts c last (a.atoms.take i2)) : Int) /\ (maskS (sts c last (a.atoms.take i2)) : Int) < 512) /\ True /\ True
def VC_possible_12 (i1 : Nat) (a : GAsn) (last : Int) (c : List Int) : Prop := (True /\ (vcIf (decide (((i1 : Nat) : Int) < ((a.facts.length : Nat) : Int))) ((0 <= ((i1 : Nat) : Int) /\ ((i1 : Nat) : Int) < ((a.facts.length : Nat) : Int)) /\ True /\ (TN /\ True) /\ (TF /\ TF) /\ True /\ True /\ True /\ True /\ True /\ (vcIf (decide (((a.facts.getD i1 (⟨false, 0, 0⟩ : GFact)).a) <= last)) (True /\ True /\ True /\ True /\ True /\ True /\ (vcIf (decide (((a.facts.getD i1 (⟨false, 0, 0⟩ : GFact)).b) <= last)) (True /\ True /\ ((c.length = 9 /\ fV (a.facts.getD i1 (⟨false, 0, 0⟩ : GFact)) = true) /\ True /\ True) /\ True /\ True /\ (vcIf (!(fh c (a.facts.getD i1 (⟨false, 0, 0⟩ : GFact)))) (VC_possible_3 a c last) (VC_possible_4 i1 a c last))) (VC_possible_5 i1 a c last))) (True /\ True /\ (VC_possible_5 i1 a c last)))) (True /\ True /\ True /\ True /\ True /\ ((0 <= a.atoms.length /\ possF c last a.facts = true /\ okS [] (sts c last (a.atoms.take 0)) = true) /\ TT /\ (VC_possible_6 c last a) /\ (([.s (.c (.d (.val (.int .i64 (0 : Int))))), .s (.c (.d (.val (.int .u16 (0 : Int)))))] : List S) = [.s (.c (.d (.val (.int .i64 ((0 : Nat) : Int))))), .s (.c (.d (.val (.int .u16 (maskS (sts c last (a.atoms.take 0)) : Int)))))]) /\ (RM []) /\ (RM []) /\ True /\ TT) /\ (∀ i2 : Nat, (i2 <= a.atoms.length /\ possF c last a.facts = true /\ okS [] (sts c last (a.atoms.take i2)) = true) -> True /\ (vcIf (decide (((i2 : Nat) : Int) < ((a.atoms.length : Nat) : Int))) ((0 <= ((i2 : Nat) : Int) /\ ((i2 : Nat) : Int) < ((a.atoms.length : Nat) : Int)) /\ True /\ (TN /\ True) /\ (TF /\ TF) /\ True /\ True /\ True /\ True /\ True /\ (vcIf (decide (last < ((a.atoms.getD i2 (⟨0, 0, 0⟩ : GAtom)).a))) (True /\ True /\ (VC_possible_9 i2 a c last)) (True /\ True /\ True /\ True /\ True /\ True /\ (vcIf (decide (last < ((a.atoms.getD i2 (⟨0, 0, 0⟩ : GAtom)).b))) (VC_possible_9 i2 a c last) (True /\ True /\ ((c.length = 9 /\ atV (a.atoms.getD i2 (⟨0, 0, 0⟩ : GAtom)) = true) /\ True /\ True) /\ True /\ True /\ (vcIf (!(filB c (a.atoms.getD i2 (⟨0, 0, 0⟩ : GAtom)))) (VC_possible_8 i2 a c last) (True /\ True /\ True /\ True /\ (VC_possible_10 a i2 c) /\ True /\ True /\ True /\ (vcIf ((c.getD ((a.atoms.getD i2 (⟨0, 0, 0⟩ : GAtom)).a).toNat (0 : Int)) == (0 : Int)) (True /\ (VC_possible_3 a c last)) (True /\ True /\ True /\ True /\ True /\ (VC_possible_10 a i2 c) /\ True /\ (VC_possible_11 c last a i2) /\ True /\ (vcIf (tsHas (maskS (sts c last (a.atoms.take i2)) : Int) (c.getD ((a.atoms.getD i2 (⟨0, 0, 0⟩ : GAtom)).a).toNat (0 : Int))) (VC_possible_3 a c last) (True /\ True /\ True /\ True /\ True /\ (VC_possible_10 a i2 c) /\ True /\ (VC_possible_11 c last a i2) /\ True /\ (inK .i64 (((i2 : Nat) : Int) + (1 : Int))) /\ True /\ (VC_possible_7 i2 a c last) /\ (a.atoms.length - (i2 + 1) < a.atoms.length - i2) /\ TT /\ (VC_possible_6 c last a) /\ (([.s (.c (.d (.val (.int .i64 (((i2 : Nat) : Int) + (1 : Int)))))), .s (.c (.d (.val (.int .u16 (tsWith (maskS (sts c last (a.atoms.take i2)) : Int) (c.getD ((a.atoms.getD i2 (⟨0, 0, 0⟩ : GAtom)).a).toNat (0 : Int)))))))] : List S) = [.s (.c (.d (.val (.int .i64 (((i2 + 1) : Nat) : Int))))), .s (.c (.d (.val (.int .u16 (maskS (sts c last (a.atoms.take (i2 + 1))) : Int)))))]) /\ (RM []) /\ (RM []) /\ True /\ TT))))))))))) (True /\ (((true, ()) : Bool × Unit) = (possI a c last, ())) /\ True /\ True /\ True /\ True /\ TF))))))
def VC_possible (c : List Int) (a : GAsn) (last : Int) (k : Nat) : Prop := TN /\ True /\ True /\ True /\ True /\ True /\ ((0 <= a.facts.length /\ possF c last (a.facts.take 0) = true) /\ TT /\ (VC_possible_1 c last a) /\ (([.s (.c (.d (.val (.int .i64 (0 : Int)))))] : List S) = [.s (.c (.d (.val (.int .i64 ((0 : Nat) : Int)))))]) /\ (VC_possible_2 a)) /\ (∀ i1 : Nat, (i1 <= a.facts.length /\ possF c last (a.facts.take i1) = true) -> (VC_possible_12 i1 a last c))
theorem vcn_possible (c : List Int) (a : GAsn) (last : Int) (k : Nat) (hp : c.length = 9 /\ asV a = true /\ 0 <= last /\ last <= 8) : VC_possible c a last k := by
 unfold VC_possible VC_possible_12 VC_possible_11 VC_possible_10 VC_possible_9 VC_possible_8 VC_possible_7 VC_possible_6 VC_possible_5 VC_possible_4 VC_possible_3 VC_possible_2 VC_possible_1
 simp only [cln, Nat.reduceEqDiff, Nat.reduceLeDiff, Nat.reduceAdd]
 have hF := asV_facts hp.2.1
 have hX := fun i (h : i < a.atoms.length) => isT_iff.1 (asV_atom (d := ⟨0, 0, 0⟩) hp.2.1 h).1
 have hM := fun i => maskS_bd (sts c last (a.atoms.take i))
 all_goals (try simp only [opn])
 all_goals (repeat' (first | apply And.intro | intro _))
 all_goals (repeat (cases ‹_ /\ _›))
 all_goals (first | omega | rfl | assumption | (simp_all; done) | (exact (hX _ ‹_›).1) | (exact (hM _).1) | (exact (hM _).2) | (symm; exact possI_noF ‹_› ‹_› ‹_› ‹_›) | (rw [possF_step (d := ⟨false, 0, 0⟩) ‹_›]; simp_all; done) | (rw [possF_step (d := ⟨false, 0, 0⟩) ‹_›]; simp_all; omega) | (rw [← take_full (l := a.facts) ‹_›]; assumption) | (rw [sts_skip (c := c) (last := last) (l := a.atoms) (d := ⟨0, 0, 0⟩) ‹_› (by simp only [stB, Bool.and_eq_false_iff, decide_eq_false_iff_not]; first | (left; left; omega) | (left; right; omega) | (right; assumption))]; done) | (rw [sts_skip (c := c) (last := last) (l := a.atoms) (d := ⟨0, 0, 0⟩) ‹_› (by simp only [stB, Bool.and_eq_false_iff, decide_eq_false_iff_not]; first | (left; left; omega) | (left; right; omega) | (right; assumption))]; assumption) | (rw [take_full (l := a.atoms) ‹_›] at *; simp_all [possI]; done) | skip)
 all_goals (have hS := fun (j : Nat) (h1 : ¬ last < (a.atoms.getD j ⟨0, 0, 0⟩).a) (h2 : ¬ last < (a.atoms.getD j ⟨0, 0, 0⟩).b) (h3 : filB c (a.atoms.getD j ⟨0, 0, 0⟩) = true) => show stB c last (a.atoms.getD j ⟨0, 0, 0⟩) = true by (simp only [stB, Bool.and_eq_true, decide_eq_true_eq]; exact ⟨⟨by omega, by omega⟩, by assumption⟩))
 all_goals (first | (symm; exact possI_noA ‹_› (hS _ ‹_› ‹_› ‹_›) (.inl ‹_›)) | (symm; exact possI_noA ‹_› (hS _ ‹_› ‹_› ‹_›) (.inr ‹_›)) | (exact (okS_step ‹_› ‹_› (hS _ ‹_› ‹_› ‹_›) ‹_› ‹_›).1) | (exact (okS_step ‹_› ‹_› (hS _ ‹_› ‹_› ‹_›) ‹_› ‹_›).2.symm) | skip)
theorem ok_possible : FnOk Try.prog E 129 c_possible :=
 fn_okQ (l := L_possible) (lp := P_possible) (hp := fun _ => false) (gcs := fun _ => none) (perm := fun _ => []) tabOk mix ⟨ok_tsWith, ok_factHolds, ok_tsHas, ok_isFilled, trivial⟩ trivial Try.func129 rfl (by kernel_rfl) (by decide) (by kernel_rfl) (anns := fun x _ => an_possible x.1 x.2.1 x.2.2.1) (fun ⟨c, a, last, _⟩ k hp _ => Eq.mp (by kernel_rfl) (vcn_possible c a last k hp)) tot_fn
abbrev L_ext : List (FuncId × Con) := [(128, c_tsHas), (129, c_possible)]
def an_ext (a : GAsn) (tm : Int) (go : List Int -> Bool) (T : CG) (l : Nat) (t t' : Int) (en en' : List Int -> CG) (c : List Int) (γ : CG) : Nat -> St -> CG -> Option (AnnY CG)
 | 7, st0, GM => some ⟨{ α := Nat × List Int, ok := fun p => p.1 <= t.toNat + 1 /\ p.2.length = 9 /\ (∀ x : Int, p.2.set t.toNat x = c.set t.toNat x) /\ ((List.range p.1).flatMap (brC (poss a) en t.toNat c)).all go = true, mu := fun p => t.toNat + 1 - p.1, i0 := fun _ => (0, c), nx := fun p st => (p.1 + 1, vecAt st 95), live := [1, 3, 4, 5, 7], sets := fun p => [(11, sv (.int .i64 p.1))], mids := [127], blks := fun p => [(95, .vec .int p.2)], owns := fun p => [], rd := fun r _ => r, base := 100000 }, fun p => GM ++ (List.range p.1).flatMap (brC (poss a) en t.toNat c)⟩
 | _, _, _ => none
def hp_ext : Nat -> Bool
 | 2 => true
 | 5 => true
 | 11 => true
 | _ => false
def VC_ext_1 (t : Int) (tm : Int) (l : Nat) : Prop := RL [.s (.c (.d (.val (.int .i64 t)))), .s (.c (.d (.val (.int .u16 tm)))), .s (.c (.d (.val (yV l)))), .s (.c (.ptr 95 0)), .s (.c (.ptr 127 0))]
def VC_ext_2 (p1 : Nat × List Int) (t : Int) (c : List Int) (a : GAsn) (en : List Int -> CG) (go : List Int -> Bool) : Prop := (p1.1 + 1, (p1.2.set t.toNat (p1.1 : Int))).1 <= t.toNat + 1 /\ (p1.1 + 1, (p1.2.set t.toNat (p1.1 : Int))).2.length = 9 /\ (∀ x : Int, (p1.1 + 1, (p1.2.set t.toNat (p1.1 : Int))).2.set t.toNat x = c.set t.toNat x) /\ ((List.range (p1.1 + 1, (p1.2.set t.toNat (p1.1 : Int))).1).flatMap (brC (poss a) en t.toNat c)).all go = true
def VC_ext_3 (t : Int) (p1 : Nat × List Int) (tm : Int) (l : Nat) (a : GAsn) : Prop := (t.toNat + 1 - (p1.1 + 1, (p1.2.set t.toNat (p1.1 : Int))).1 < t.toNat + 1 - p1.1) /\ TT /\ (VC_ext_1 t tm l) /\ (([.s (.c (.d (.val (.int .i64 ((p1.1 : Int) + (1 : Int))))))] : List S) = [.s (.c (.d (.val (.int .i64 ((p1.1 + 1, (p1.2.set t.toNat (p1.1 : Int))).1 : Int)))))]) /\ (RM [some (.blk [.d (.arr .fact a.facts), .d (.arr .atom a.atoms)])]) /\ (([some (.vec .int (p1.2.set t.toNat (p1.1 : Int)))] : List (Option Res)) = [some (.vec .int ((p1.1 + 1, (p1.2.set t.toNat (p1.1 : Int))).2))]) /\ True /\ TT
def VC_ext_4 (t : Int) (p1 : Nat × List Int) (a : GAsn) (t' : Int) (tm : Int) (l : Nat) (γ : CG) (en : List Int -> CG) (c : List Int) (go : List Int -> Bool) (T : CG) (en' : List Int -> CG) : Prop := TT /\ True /\ True /\ (0 <= t /\ t < ((9 : Nat) : Int) /\ p1.2.length = 9) /\ (TF /\ TF /\ True) /\ TT /\ True /\ True /\ (((p1.2.set t.toNat (p1.1 : Int)).length = 9 /\ asV a = true /\ 0 <= t /\ t <= 8) /\ True /\ True) /\ True /\ (vcIf (possI a (p1.2.set t.toNat (p1.1 : Int)) t) ((9 = (p1.2.set t.toNat (p1.1 : Int)).length * 1) /\ True /\ (inK .i64 (t + (1 : Int))) /\ True /\ True /\ True /\ (((none : Option Nat) = none) /\ ((p1.2.set t.toNat (p1.1 : Int)).length = 9) /\ ((t + (1 : Int)) = t') /\ (a.facts = a.facts) /\ (a.atoms = a.atoms) /\ (tm = tm) /\ ((yV l : Value) = yV l) /\ ((γ ++ (List.range p1.1).flatMap (brC (poss a) en t.toNat c)).all go = true) /\ (((γ ++ (List.range p1.1).flatMap (brC (poss a) en t.toNat c)) ++ en (p1.2.set t.toNat (p1.1 : Int))) <+: T)) /\ True /\ True /\ (vcIf (!((en (p1.2.set t.toNat (p1.1 : Int))).all go)) (TT /\ True /\ ((none : Option Nat) = none) /\ (false = (en' c).all go) /\ ((γ ++ (List.range p1.1).flatMap (brC (poss a) en t.toNat c) ++ upTo go (en (p1.2.set t.toNat (p1.1 : Int))) : CG) = γ ++ upTo go (en' c))) (TT /\ True /\ (inK .i64 ((p1.1 : Int) + (1 : Int))) /\ True /\ (VC_ext_2 p1 t c a en go) /\ ((γ ++ (List.range (p1.1 + 1, (p1.2.set t.toNat (p1.1 : Int))).1).flatMap (brC (poss a) en t.toNat c) : CG) = γ ++ (List.range p1.1).flatMap (brC (poss a) en t.toNat c) ++ upTo go (en (p1.2.set t.toNat (p1.1 : Int)))) /\ (VC_ext_3 t p1 tm l a)))) (True /\ TT /\ True /\ (inK .i64 ((p1.1 : Int) + (1 : Int))) /\ True /\ (VC_ext_2 p1 t c a en go) /\ ((γ ++ (List.range (p1.1 + 1, (p1.2.set t.toNat (p1.1 : Int))).1).flatMap (brC (poss a) en t.toNat c) : CG) = γ ++ (List.range p1.1).flatMap (brC (poss a) en t.toNat c)) /\ (VC_ext_3 t p1 tm l a)))
def VC_ext_5 (t : Int) (c : List Int) (l : Nat) (γ : CG) (go : List Int -> Bool) (T : CG) (en' : List Int -> CG) (tm : Int) (t' : Int) (a : GAsn) (en : List Int -> CG) : Prop := (True /\ (vcIf (decide ((8 : Int) < t)) (TT /\ True /\ (9 = c.length * 1) /\ (((none : Option Nat) = none) /\ ((.s (.c (.d (.val (yV l)))) : S) = .s (.c (.d (.val (yV l))))) /\ (γ.all go = true) /\ ((γ ++ [c]) <+: T)) /\ True /\ ((none : Option Nat) = none) /\ ((go c) = (en' c).all go) /\ ((γ ++ [c] : CG) = γ ++ upTo go (en' c))) (TT /\ True /\ True /\ ((0 <= tm /\ tm < 512) /\ True /\ True) /\ True /\ (vcIf (!(tsHas tm t)) (TT /\ True /\ (0 <= t /\ t < ((9 : Nat) : Int) /\ c.length = 9) /\ (TF /\ TF /\ True) /\ TT /\ (9 = (c.set t.toNat (-1 : Int)).length * 1) /\ True /\ (inK .i64 (t + (1 : Int))) /\ True /\ True /\ True /\ (((none : Option Nat) = none) /\ ((c.set t.toNat (-1 : Int)).length = 9) /\ ((t + (1 : Int)) = t') /\ (a.facts = a.facts) /\ (a.atoms = a.atoms) /\ (tm = tm) /\ ((yV l : Value) = yV l) /\ (γ.all go = true) /\ ((γ ++ en (c.set t.toNat (-1 : Int))) <+: T)) /\ True /\ ((none : Option Nat) = none) /\ (((en (c.set t.toNat (-1 : Int))).all go) = (en' c).all go) /\ ((γ ++ upTo go (en (c.set t.toNat (-1 : Int))) : CG) = γ ++ upTo go (en' c))) (TT /\ True /\ (((0, c).1 <= t.toNat + 1 /\ (0, c).2.length = 9 /\ (∀ x : Int, (0, c).2.set t.toNat x = c.set t.toNat x) /\ ((List.range (0, c).1).flatMap (brC (poss a) en t.toNat c)).all go = true) /\ ((γ ++ (List.range (0, c).1).flatMap (brC (poss a) en t.toNat c) : CG) = γ) /\ TT /\ (VC_ext_1 t tm l) /\ (([.s (.c (.d (.val (.int .i64 (0 : Int)))))] : List S) = [.s (.c (.d (.val (.int .i64 ((0, c).1 : Int)))))]) /\ (RM [some (.blk [.d (.arr .fact a.facts), .d (.arr .atom a.atoms)])]) /\ (([some (.vec .int c)] : List (Option Res)) = [some (.vec .int ((0, c).2))]) /\ True /\ TT) /\ (∀ p1 : Nat × List Int, (p1.1 <= t.toNat + 1 /\ p1.2.length = 9 /\ (∀ x : Int, p1.2.set t.toNat x = c.set t.toNat x) /\ ((List.range p1.1).flatMap (brC (poss a) en t.toNat c)).all go = true) -> TT /\ True /\ True /\ True /\ (vcIf (decide ((p1.1 : Int) <= t)) (TT /\ True /\ True /\ True /\ True /\ (vcIf (decide ((p1.1 : Int) < t)) (True /\ (0 <= (p1.1 : Int) /\ (p1.1 : Int) < ((9 : Nat) : Int) /\ p1.2.length = 9) /\ True /\ True /\ True /\ True /\ (vcIf ((p1.2.getD (p1.1 : Int).toNat (0 : Int)) != (p1.1 : Int)) (TT /\ True /\ (inK .i64 ((p1.1 : Int) + (1 : Int))) /\ True /\ ((p1.1 + 1, p1.2).1 <= t.toNat + 1 /\ (p1.1 + 1, p1.2).2.length = 9 /\ (∀ x : Int, (p1.1 + 1, p1.2).2.set t.toNat x = c.set t.toNat x) /\ ((List.range (p1.1 + 1, p1.2).1).flatMap (brC (poss a) en t.toNat c)).all go = true) /\ ((γ ++ (List.range (p1.1 + 1, p1.2).1).flatMap (brC (poss a) en t.toNat c) : CG) = γ ++ (List.range p1.1).flatMap (brC (poss a) en t.toNat c)) /\ (t.toNat + 1 - (p1.1 + 1, p1.2).1 < t.toNat + 1 - p1.1) /\ TT /\ (VC_ext_1 t tm l) /\ (([.s (.c (.d (.val (.int .i64 ((p1.1 : Int) + (1 : Int))))))] : List S) = [.s (.c (.d (.val (.int .i64 ((p1.1 + 1, p1.2).1 : Int)))))]) /\ (RM [some (.blk [.d (.arr .fact a.facts), .d (.arr .atom a.atoms)])]) /\ (([some (.vec .int p1.2)] : List (Option Res)) = [some (.vec .int ((p1.1 + 1, p1.2).2))]) /\ True /\ TT) (VC_ext_4 t p1 a t' tm l γ en c go T en'))) (True /\ (VC_ext_4 t p1 a t' tm l γ en c go T en')))) (TT /\ True /\ ((none : Option Nat) = none) /\ (true = (en' c).all go) /\ ((γ ++ (List.range p1.1).flatMap (brC (poss a) en t.toNat c) : CG) = γ ++ upTo go (en' c))))))))))
def VC_ext (a : GAsn) (tm : Int) (go : List Int -> Bool) (T : CG) (l : Nat) (t t' : Int) (en en' : List Int -> CG) (c : List Int) (γ : CG) : Prop := TT /\ TN /\ TN /\ True /\ TT /\ True /\ (VC_ext_5 t c l γ go T en' tm t' a en)
theorem vcn_ext (a : GAsn) (tm : Int) (go : List Int -> Bool) (T : CG) (l : Nat) (t t' : Int) (en en' : List Int -> CG) (c : List Int) (γ : CG) (hp : asV a = true /\ 0 <= tm /\ tm < 512) (ht : 0 <= t /\ t <= 9) (ht' : t' = t + 1) (hc : c.length = 9) (hgo : γ.all go = true) (hT : (γ ++ en' c) <+: T) (h9 : 8 < t -> en' c = [c]) (h8 : ¬ 8 < t -> en' c = cond (tsHas tm t) ((List.range (t.toNat + 1)).flatMap (brC (poss a) en t.toNat c)) (en (c.set t.toNat (-1)))) : VC_ext a tm go T l t t' en en' c γ := by
 unfold VC_ext VC_ext_5 VC_ext_4 VC_ext_3 VC_ext_2 VC_ext_1
 simp only [cln, Nat.reduceEqDiff, Nat.reduceLeDiff, Nat.reduceAdd]
 obtain ⟨n, rfl⟩ : ∃ n : Nat, t = (n : Int) := ⟨t.toNat, by omega⟩
 simp only [Int.toNat_natCast] at h8 ⊢
 all_goals (try simp only [vcIf_iff, decide_eq_true_eq, decide_eq_false_iff_not, bne_iff_ne, ne_eq, beq_iff_eq, beq_eq_false_iff_ne, bne_eq_false_iff_eq, Bool.not_eq_true', Bool.not_eq_false', Int.ofNat_lt, Int.natCast_inj])
 all_goals (repeat' (first | apply And.intro | intro _))
 all_goals (first | omega | assumption | rfl | (simp_all; done) | skip)
 ·rw [h9 ‹_›]; simp only [upTo]; cases go c <;> rfl
 all_goals (have hL := h8 ‹_›; rw [(by assumption : tsHas tm (n : Int) = true), cond_true] at hL)
 all_goals (have hok := (by assumption : _ /\ _ /\ (∀ x : Int, _) /\ _); obtain ⟨k1, k2, k3, k4⟩ := hok)
 all_goals (first
  | (have e := fl_skip (a := a) (en := en) k3 (by omega) ‹_›; unfold flC at e; rw [e]; assumption) | (have e := fl_skip (a := a) (en := en) k3 (by omega) ‹_›; unfold flC at e; rw [e]; done)
  | (rw [List.all_append, hgo, k4]; rfl)
  | (exact fl_pre hL k3 (.inr ‹_›) ‹_› ‹_› hT) | (exact fl_pre hL k3 (.inl (by omega)) ‹_› ‹_› hT)
  | (exact (fl_all (γ := γ) hL k3 (.inr ‹_›) ‹_› ‹_› ‹_› k4).1) | (exact (fl_all (γ := γ) hL k3 (.inl (by omega)) ‹_› ‹_› ‹_› k4).1)
  | (exact (fl_all hL k3 (.inr ‹_›) ‹_› ‹_› ‹_› k4).2) | (exact (fl_all hL k3 (.inl (by omega)) ‹_› ‹_› ‹_› k4).2)
  | (exact (fl_end (γ := γ) hL k1 ‹_› k4).1) | (exact (fl_end hL k1 ‹_› k4).2)
  | (have e := fl_no (en := en) k3 ‹_›; unfold flC at e; rw [e]; assumption) | (have e := fl_no (en := en) k3 ‹_›; unfold flC at e; rw [e]; done)
  | (have e := fl_yes (en := en) k3 (.inr ‹_›) ‹_› ‹_›; unfold flC at e; rw [e, List.all_append, k4, (by assumption : List.all (en _) go = true)]; rfl)
  | (have e := fl_yes (en := en) k3 (.inl (by omega)) ‹_› ‹_›; unfold flC at e; rw [e, List.all_append, k4, (by assumption : List.all (en _) go = true)]; rfl)
  | (have e := fl_yes (en := en) k3 (.inr ‹_›) ‹_› ‹_›; unfold flC at e; rw [e, upTo_all ‹_›, List.append_assoc]; done)
  | (have e := fl_yes (en := en) k3 (.inl (by omega)) ‹_› ‹_›; unfold flC at e; rw [e, upTo_all ‹_›, List.append_assoc]; done)
  | skip)
def hp_pc : Nat -> Bool
 | 1 => true
 | _ => false
def VC_pc (a : GAsn) (tm : Int) (go : List Int -> Bool) (T : CG) (l : Nat) (en : List Int -> CG) (γ1 : CG) : Prop := TT /\ (TN /\ True) /\ TT /\ (9 = (List.replicate 9 (0 : Int)).length * 1) /\ True /\ True /\ True /\ (((none : Option Nat) = none) /\ ((List.replicate 9 (0 : Int)).length = 9) /\ ((0 : Int) = 0) /\ (a.facts = a.facts) /\ (a.atoms = a.atoms) /\ (tm = tm) /\ ((yV l : Value) = yV l) /\ ([].all go = true) /\ (([] ++ en (List.replicate 9 (0 : Int))) <+: T)) /\ ((none : Option Nat) = none) /\ (([] ++ upTo go (en (List.replicate 9 (0 : Int))) : CG) = γ1)
theorem vcn_pc (a : GAsn) (tm : Int) (go : List Int -> Bool) (T : CG) (l : Nat) (en : List Int -> CG) (γ1 : CG) (hT : en (List.replicate 9 0) = T) (h1 : γ1 = upTo go T) : VC_pc a tm go T l en γ1 := by
 unfold VC_pc
 simp only [cln, Nat.reduceEqDiff, Nat.reduceLeDiff, Nat.reduceAdd]
 subst h1 hT
 simp
theorem vce_pc (a : GAsn) (tm : Int) (go : List Int -> Bool) (T : CG) (l : Nat) (en : List Int -> CG) (γ1 : CG) : VC_pc a tm go T l en γ1 = vcY tab (lookF []) (lookP []) (spE 137 l go T a tm 0 en) noSpc (fun _ => false) hp_pc (fun _ => none) (fun _ _ _ => none) (fun _ => []) (bodyOf Try.f136) (pcSt a tm l) [] (retP0 tab Try.f136.results.toList γ1) := by kernel_rfl
theorem ext_step {J : JJ CG} {a : GAsn} {tm : Int} {go : List Int -> Bool} {T : CG} {l : Nat} {t t' : Int} {en en' : List Int -> CG} (hp : asV a = true /\ 0 <= tm /\ tm < 512) (ht : 0 <= t /\ t <= 9) (ht' : t' = t + 1) (h9 : ∀ c, 8 < t -> en' c = [c]) (h8 : ∀ c, ¬ 8 < t -> en' c = cond (tsHas tm t) ((List.range (t.toNat + 1)).flatMap (brC (poss a) en t.toNat c)) (en (c.set t.toNat (-1))))
  (hx : ExtOk Try.prog J 137 l go T a tm t' en) (hy : YOk Try.prog J l go T) : ExtOk Try.prog J 137 l go T a tm t en' :=
 ext_sound (hp := hp_ext) (gcs := fun _ => none) (perm := fun _ => []) (pts := lookP []) tabOk (kall_of (l := L_ext) ⟨ok_tsHas, ok_possible, trivial⟩) (pall_of (l := []) trivial) mix Try.func137 rfl (by kernel_rfl) (by decide) (by kernel_rfl) hx hy (anns := fun c γ => an_ext a tm go T l t t' en en' c γ)
  fun c γ hc hgo hT => Eq.mp (by kernel_rfl) (vcn_ext a tm go T l t t' en en' c γ hp ht ht' hc hgo hT (h9 c) (h8 c))
theorem ext_all {J : JJ CG} {a : GAsn} {tm : Int} {go : List Int -> Bool} {T : CG} {l : Nat} (hp : asV a = true /\ 0 <= tm /\ tm < 512) (hy : YOk Try.prog J l go T) : ∀ (f t : Nat), f + t = 9 -> ExtOk Try.prog J 137 l go T a tm (t : Int) (enumC (poss a) (hasN tm) f t) := by
 intro f
 induction f with
 | zero =>
  intro t ht
  have : t = 9 := by omega
  subst this
  exact ext_step (t' := 10) hp (by decide) (by decide) (fun c _ => rfl) (fun c h => absurd h (by decide)) ext_none hy
 | succ f ih =>
  intro t ht
  refine ext_step (t' := ((t + 1 : Nat) : Int)) (en := enumC (poss a) (hasN tm) f (t + 1)) hp (by omega) (by omega) (fun c h => by omega) (fun c _ => ?_) (ih (t + 1) (by omega)) hy
  simp only [Int.toNat_natCast]
  rfl
theorem it_ok : ItOk Try.prog 136 itPre itEn := by
 intro J l go a tm hpre hy w p ro0 ρ b1 b2 vs1 ty1 ty2 hin hro h1 hc1 h2 hne hp1 hp2 hr1 hr2 hJ
 exact pc_ok (fid := 137) (T := itEn a tm) (en := enumC (poss a) (hasN tm) 9 0) (t := 0) (hp := hp_pc) (gcs := fun _ => none) (perm := fun _ => []) (K := lookF []) (pts := lookP []) (anns := fun _ _ _ => none) tabOk (kall_of (l := []) trivial) (pall_of (l := []) trivial) mix Try.func136 rfl (by decide) Try.func137 rfl (by kernel_rfl) (by kernel_rfl) (ext_all hpre hy 9 0 rfl) hy
  ((vce_pc a tm go (itEn a tm) l (enumC (poss a) (hasN tm) 9 0) (upTo go (itEn a tm))).mp (vcn_pc a tm go (itEn a tm) l (enumC (poss a) (hasN tm) 9 0) (upTo go (itEn a tm)) rfl rfl)) hin hro h1 hc1 h2 hne hp1 hp2 hr1 hr2 hJ
theorem it_run : ∀ args w, (callFunc 136 args).run Try.prog w = .ok (.enter 136 args) w := run_callFunc Try.func136 (by kernel_rfl) rfl
abbrev L_possibleCases : List (FuncId × Con) := [(72, c_termsIn), (87, c_tsWith)]
abbrev P_possibleCases : List (FuncId × PT) := []
abbrev pt_possibleCases : PT := inl tab (lookF L_possibleCases) (lookP P_possibleCases) (fun _ => false) (fun _ _ => none) (fun _ _ _ _ => none) (fun _ => []) Try.f86.ntmps (bodyOf Try.f86) Try.f86.results.toList
theorem ptok_possibleCases : PTOk Try.prog E 86 pt_possibleCases :=
 pt_ok (l := L_possibleCases) (lp := P_possibleCases) tabOk mix ⟨ok_termsIn, ok_tsWith, trivial⟩ trivial Try.func86 rfl (by kernel_rfl) (by kernel_rfl)
abbrev c_iImplies : Con := ⟨[.asn, .fact], [.bool], fun (a, f, _) => a.facts.length <= 281474976710656 /\ a.atoms.length <= 281474976710656, .inl fun (a, f, _) => (IMP a f, ()), fun _ => 0⟩
abbrev L_iImplies : List (FuncId × Con) := [(33, c_iAssertionValid), (85, c_iFactValid), (87, c_tsWith), (88, c_factHolds)]
abbrev P_iImplies : List (FuncId × PT) := [(86, pt_possibleCases)]
def hp_iImplies : Nat -> Bool
 | 4 => true
 | _ => false
def ra_iImplies (a : GAsn) (f : GFact) : St -> Option RAnn := fun se => some ⟨fun c => fh c f, [3, 4], [63, 79], fun i => [], [63, 79], fun i => [], fun i => [], 300000⟩
def VC_iImplies_1 (a : GAsn) (f : GFact) : Prop := ((none : Option Nat) = none) /\ (((false, ()) : Bool × Unit) = (IMP a f, ())) /\ True /\ True /\ True /\ True /\ TF
def VC_iImplies_2 (a : GAsn) (f : GFact) : Prop := TT /\ (TF /\ TF) /\ (VC_iImplies_1 a f)
def VC_iImplies_3 (f : GFact) : Prop := TT /\ (RL [.s (.c (.ptr 63 0)), .s (.c (.ptr 79 0))]) /\ (RL []) /\ (RM [some (.blk [.d (.val (.bool f.eq)), .d (.val (.int .i64 f.a)), .d (.val (.int .i64 f.b))]), some (.blk [.d (.val (.bool false))])]) /\ (RM []) /\ True /\ TT
def VC_iImplies (a : GAsn) (f : GFact) (k : Nat) : Prop := TT /\ TN /\ TN /\ (TN /\ True) /\ TT /\ True /\ ((a.facts.length <= 281474976710656 /\ a.atoms.length <= 281474976710656) /\ True /\ True) /\ True /\ True /\ (vcIf (!(asV a)) (True /\ (VC_iImplies_2 a f)) (True /\ (True /\ True /\ True) /\ True /\ True /\ (vcIf (!(fV f)) (VC_iImplies_2 a f) (TT /\ True /\ TT /\ True /\ True /\ True /\ True /\ ((0 <= (0 : Int) /\ (0 : Int) < 512) /\ True /\ True) /\ True /\ True /\ ((0 <= (tsWith (0 : Int) f.a) /\ (tsWith (0 : Int) f.a) < 512) /\ True /\ True) /\ ((2 : Nat) <= 12) /\ TN /\ True /\ True /\ ((a.facts.length <= 281474976710656 /\ a.atoms.length <= 281474976710656) /\ True /\ True) /\ ((0 <= (tsA a) /\ (tsA a) < 512) /\ True /\ True) /\ True /\ True /\ (TN /\ True) /\ (TF /\ TF) /\ True /\ True /\ ((((136 : Nat) = 136) /\ ((none : Option Nat) = none) /\ (itPre a (bits .or .u16 (tsWith (tsA a) (0 : Int)) (tsWith (tsWith (0 : Int) f.a) f.b)))) /\ TT /\ (VC_iImplies_3 f)) /\ (∀ i1 : Nat, ∀ c2_0 : Int, ∀ c2_1 : Int, ∀ c2_2 : Int, ∀ c2_3 : Int, ∀ c2_4 : Int, ∀ c2_5 : Int, ∀ c2_6 : Int, ∀ c2_7 : Int, ∀ c2_8 : Int, ((itEn a (bits .or .u16 (tsWith (tsA a) (0 : Int)) (tsWith (tsWith (0 : Int) f.a) f.b)))[i1]? = some ([c2_0, c2_1, c2_2, c2_3, c2_4, c2_5, c2_6, c2_7, c2_8] : List Int)) -> (((itEn a (bits .or .u16 (tsWith (tsA a) (0 : Int)) (tsWith (tsWith (0 : Int) f.a) f.b))).take i1).all (fun c => fh c f) = true) -> TT /\ (TN /\ True) /\ ((([c2_0, c2_1, c2_2, c2_3, c2_4, c2_5, c2_6, c2_7, c2_8] : List Int).length = (List.replicate 9 (0 : Int)).length) /\ TF /\ TF) /\ ((none : Option Nat) = none) /\ TT /\ True /\ ((([c2_0, c2_1, c2_2, c2_3, c2_4, c2_5, c2_6, c2_7, c2_8] : List Int).length = 9 /\ fV f = true) /\ True /\ True) /\ True /\ (vcIf (!(fh ([c2_0, c2_1, c2_2, c2_3, c2_4, c2_5, c2_6, c2_7, c2_8] : List Int) f)) (TT /\ (TF /\ TF) /\ ((fh ([c2_0, c2_1, c2_2, c2_3, c2_4, c2_5, c2_6, c2_7, c2_8] : List Int) f) = false) /\ ((none : Option Nat) = none) /\ (VC_iImplies_1 a f)) (((fh ([c2_0, c2_1, c2_2, c2_3, c2_4, c2_5, c2_6, c2_7, c2_8] : List Int) f) = true) /\ ((none : Option Nat) = none) /\ (VC_iImplies_3 f)))) /\ (((itEn a (bits .or .u16 (tsWith (tsA a) (0 : Int)) (tsWith (tsWith (0 : Int) f.a) f.b))).all (fun c => fh c f) = true) -> TT /\ (TF /\ TF) /\ ((none : Option Nat) = none) /\ (((true, ()) : Bool × Unit) = (IMP a f, ())) /\ True /\ True /\ True /\ True /\ TF)))))
theorem vcn_iImplies (a : GAsn) (f : GFact) (k : Nat) (hp : a.facts.length <= 281474976710656 /\ a.atoms.length <= 281474976710656) : VC_iImplies a f k := by
 unfold VC_iImplies VC_iImplies_3 VC_iImplies_2 VC_iImplies_1
 simp only [cln, Nat.reduceEqDiff, Nat.reduceLeDiff, Nat.reduceAdd]
 try unfold IMP
 have hb := tsA_bd a
 have h1 := tsWith_bd (s := 0) (t := f.a) (by decide) (by decide)
 have h2 := tsWith_bd (s := tsWith 0 f.a) (t := f.b) h1.1 h1.2
 all_goals (try simp only [opn])
 all_goals (repeat' (first | apply And.intro | intro _))
 all_goals (repeat (cases ‹_ /\ _›))
 all_goals (first | omega | rfl | assumption | (simp_all; done) | skip)
 all_goals (have hf := (by assumption : fV f = true); have ha := (by assumption : asV a = true))
 all_goals (first
  | (have := itEn_two ha hf; exact this.2.2.1) | (have := itEn_two ha hf; exact this.2.2.2)
  | (rw [(itEn_two ha hf).1] at *; rw [ha, hf]; exact (first_hit (d := []) ‹_› ‹_› ‹_›).2.2.symm)
  | (rw [(itEn_two ha hf).1] at *; rw [ha, hf]; symm; assumption)
  | skip)
abbrev spc_iImplies (a : GAsn) (f : GFact) : SpCode Bool := spR tab (lookF L_iImplies) (lookP P_iImplies) hp_iImplies (fun _ => none) (fun _ _ _ => none) (fun _ => []) Try.f37.ntmps 136 itPre itEn (ra_iImplies a f)
theorem spcok_iImplies (a : GAsn) (f : GFact) (wE : World) (ro0 : Nat -> Option (Array Value)) (ρ : Nat) : SpcOk Fence.wide 0 Try.prog E (AC wE ro0 ρ) Try.f37.ntmps (spc_iImplies a f) :=
 spR_ok tabOk (kall_of (l := L_iImplies) ⟨ok_iAssertionValid, ok_iFactValid, ok_tsWith, ok_factHolds, trivial⟩) (pall_of (l := P_iImplies) ⟨ptok_possibleCases, trivial⟩) mix it_ok it_len it_run
theorem vcr_iImplies : ∀ x : Args c_iImplies.aks, c_iImplies.pre x -> vcY tab (lookF L_iImplies) (lookP P_iImplies) noSpB (spc_iImplies x.1 x.2.1) (fun b => !b) hp_iImplies (fun _ => none) (fun _ _ _ => none) (fun _ => []) (bodyOf Try.f37) (entry (encs c_iImplies.aks x) none) false (retR tab c_iImplies Try.f37.results.toList x) :=
 fun ⟨a, f, _⟩ hp => Eq.mp (by kernel_rfl) (vcn_iImplies a f 0 hp)
theorem ok_iImplies : FnOk Try.prog E 37 c_iImplies :=
 fnR_ok (con := c_iImplies) (fn := Try.f37) (l := L_iImplies) (lp := P_iImplies) (hp := hp_iImplies) (gcs := fun _ => none) (perm := fun _ => []) (spc := fun x => spc_iImplies x.1 x.2.1) (anns := fun x => (fun _ _ _ => none)) tabOk mix ⟨ok_iAssertionValid, ok_iFactValid, ok_tsWith, ok_factHolds, trivial⟩ ⟨ptok_possibleCases, trivial⟩ rfl Try.func37 rfl (by kernel_rfl) (by decide) (by kernel_rfl) (fun x _ => spcok_iImplies x.1 x.2.1) vcr_iImplies tot_fn
end Go.Proofs.Ytfoioficiffgkaa
