/-
  Contracts of single functions of the program, each shown by the engine: what a call returns for arguments within the contract's bounds.
-/
import Derived.Test.YtfoioficiffgkaaFFnFoldCellsa
import Derived.Test.YtfoioficiffgkaaFFnFoldCellsd
import Derived.Test.YtfoioficiffgkaaEd
import Derived.Test.YtfoioficiffgkaaEe
import Derived.Test.YtfoioficiffgkaaEf
import Derived.Test.YtfoioficiffgkaaEc
set_option linter.unusedSimpArgs false
set_option linter.unusedVariables false
set_option linter.unusedSectionVars false

namespace Go.Proofs.Ytfoioficiffgkaa
open Go.SE Go.RowKit
set_option linter.unusedSimpArgs false
set_option linter.unusedVariables false
set_option maxHeartbeats 1000000
set_option maxRecDepth 100000
abbrev c_firstFold : Con := ⟨[.asn, .fnc 96], [.asn, .bool], fun (a, f, _) => asV a = true, .inl fun (a, f, _) => (fcL a, fcB a, ()), fun _ => 0⟩
abbrev L_firstFold : List (FuncId × Con) := [(31, c_iEntails), (142, c_foldAt)]
abbrev P_firstFold : List (FuncId × PT) := [(96, pt_foldAny)]
def an_firstFold (a : GAsn) (f : Unit) : Nat -> St -> Option Ann
 | 2, se => some { α := Nat, ok := fun i => i <= a.atoms.length /\ noI a i = true, mu := fun i => a.atoms.length - i, i0 := fun _ => 0, nx := fun a _ => (fun i => i + 1) a, live := [1, 2, 4, 12, 13], sets := fun i => [(14, sv (.int .i64 i))], mids := [47, 64, 65, 79], blks := fun i => [], owns := fun i => [], rd := fun r _ => r, base := 100000 }
 | 5, se => some { α := Nat, ok := fun j => j <= a.atoms.length /\ noK a (intAt se 14).toNat j = true, mu := fun j => a.atoms.length - j, i0 := fun _ => 0, nx := fun a _ => (fun j => j + 1) a, live := [1, 2, 4, 6, 7, 12, 13, 14, 20, 21], sets := fun j => [(22, sv (.int .i64 j))], mids := [47, 64, 65, 79, 100127], blks := fun j => [], owns := fun j => [], rd := fun r _ => r, base := 200000 }
 | _, _ => none
def hp_firstFold : Nat -> Bool
 | 7 => true
 | _ => false
def VC_firstFold_1 (a : GAsn) : Prop := RL [.s (.c (.fn 96 [])), .s (.c (.ptr 47 0)), .s (.c (.ptr 79 0)), .s (.c (.d (.arr .atom a.atoms))), .s (.c (.d (.val (.int .i64 ((a.atoms.length : Nat) : Int)))))]
def VC_firstFold_2  : Prop := ([.s (.c (.d (.val (.int .i64 (0 : Int)))))] : List S) = [.s (.c (.d (.val (.int .i64 ((0 : Nat) : Int)))))]
def VC_firstFold_3 (a : GAsn) : Prop := (RM [some (.blk [.d (.arr .fact a.facts), .d (.arr .atom a.atoms)]), some (.sl 64 .fact ([] : List GFact)), some (.sl 65 .atom ([] : List GAtom)), some (.blk [.own 64, .own 65])]) /\ (RM []) /\ True /\ TT
def VC_firstFold_4 (i1 : Nat) (a : GAsn) : Prop := RL [.s (.c (.fn 96 [])), .s (.c (.ptr 47 0)), .s (.c (.ptr 79 0)), .s (.c (.d (.val (.int .i64 ((i1 : Nat) : Int))))), .s (.c (.ptr 100127 0)), .s (.c (.d (.arr .atom a.atoms))), .s (.c (.d (.val (.int .i64 ((a.atoms.length : Nat) : Int))))), .s (.c (.d (.val (.int .i64 ((i1 : Nat) : Int))))), .s (.c (.d (.arr .atom a.atoms))), .s (.c (.d (.val (.int .i64 ((a.atoms.length : Nat) : Int)))))]
def VC_firstFold_5 (a : GAsn) (i1 : Nat) : Prop := (RM [some (.blk [.d (.arr .fact a.facts), .d (.arr .atom a.atoms)]), some (.sl 64 .fact ([] : List GFact)), some (.sl 65 .atom ([] : List GAtom)), some (.blk [.own 64, .own 65]), some (.blk [.d (.val (.int .i64 ((a.atoms.getD i1 (⟨0, 0, 0⟩ : GAtom)).kind))), .d (.val (.int .i64 ((a.atoms.getD i1 (⟨0, 0, 0⟩ : GAtom)).a))), .d (.val (.int .i64 ((a.atoms.getD i1 (⟨0, 0, 0⟩ : GAtom)).b)))])]) /\ (RM []) /\ True /\ TT
def VC_firstFold_6 (j2 : Nat) : Prop := ([.s (.c (.d (.val (.int .i64 (((j2 : Nat) : Int) + (1 : Int))))))] : List S) = [.s (.c (.d (.val (.int .i64 (((j2 + 1) : Nat) : Int)))))]
def VC_firstFold_7 (j2 : Nat) (a : GAsn) (i1 : Nat) : Prop := (inK .i64 (((j2 : Nat) : Int) + (1 : Int))) /\ True /\ ((j2 + 1) <= a.atoms.length /\ noK a (((i1 : Nat) : Int)).toNat (j2 + 1) = true) /\ (a.atoms.length - (j2 + 1) < a.atoms.length - j2) /\ TT /\ (VC_firstFold_4 i1 a) /\ (VC_firstFold_6 j2) /\ (VC_firstFold_5 a i1)
def VC_firstFold_8 (j2 : Nat) (a : GAsn) (i1 : Nat) : Prop := True /\ (VC_firstFold_7 j2 a i1)
def VC_firstFold_9 (i1 : Nat) (a : GAsn) : Prop := (True /\ (vcIf (decide (((i1 : Nat) : Int) < ((a.atoms.length : Nat) : Int))) (True /\ (0 <= ((i1 : Nat) : Int) /\ ((i1 : Nat) : Int) < ((a.atoms.length : Nat) : Int)) /\ True /\ (TN /\ True) /\ True /\ (TF /\ TF) /\ True /\ True /\ True /\ True /\ ((0 <= a.atoms.length /\ noK a (((i1 : Nat) : Int)).toNat 0 = true) /\ TT /\ (VC_firstFold_4 i1 a) /\ VC_firstFold_2 /\ (VC_firstFold_5 a i1)) /\ (∀ j2 : Nat, (j2 <= a.atoms.length /\ noK a (((i1 : Nat) : Int)).toNat j2 = true) -> True /\ (vcIf (decide (((j2 : Nat) : Int) < ((a.atoms.length : Nat) : Int))) (True /\ (0 <= ((j2 : Nat) : Int) /\ ((j2 : Nat) : Int) < ((a.atoms.length : Nat) : Int)) /\ True /\ (TN /\ True) /\ True /\ (TF /\ TF) /\ True /\ True /\ True /\ True /\ (vcIf (((i1 : Nat) : Int) == ((j2 : Nat) : Int)) (True /\ True /\ (VC_firstFold_8 j2 a i1)) (True /\ True /\ True /\ True /\ True /\ True /\ True /\ (vcIf (((a.atoms.getD i1 (⟨0, 0, 0⟩ : GAtom)).b) != ((a.atoms.getD j2 (⟨0, 0, 0⟩ : GAtom)).a)) (VC_firstFold_8 j2 a i1) (True /\ True /\ True /\ ((1 : Nat) <= 3) /\ True /\ True /\ True /\ True /\ True /\ True /\ True /\ ((a.facts.length <= 1048576 /\ a.atoms.length <= 1048576 /\ 0 <= ((i1 : Nat) : Int) /\ ((i1 : Nat) : Int) < a.atoms.length /\ 0 <= ((j2 : Nat) : Int) /\ ((j2 : Nat) : Int) < a.atoms.length) /\ True /\ TN /\ TN /\ True) /\ (TN /\ TN /\ TN /\ True) /\ (TF /\ TF) /\ True /\ True /\ ((a.facts.length <= 281474976710656 /\ a.atoms.length <= 281474976710656 /\ (⟨a.facts, ((⟨2, (a.atoms.getD ((i1 : Nat) : Int).toNat ⟨0, 0, 0⟩).a, (a.atoms.getD ((j2 : Nat) : Int).toNat ⟨0, 0, 0⟩).b⟩ : GAtom) :: woF a.atoms ((i1 : Nat) : Int) ((j2 : Nat) : Int) a.atoms.length)⟩ : GAsn).facts.length <= 281474976710656 /\ (⟨a.facts, ((⟨2, (a.atoms.getD ((i1 : Nat) : Int).toNat ⟨0, 0, 0⟩).a, (a.atoms.getD ((j2 : Nat) : Int).toNat ⟨0, 0, 0⟩).b⟩ : GAtom) :: woF a.atoms ((i1 : Nat) : Int) ((j2 : Nat) : Int) a.atoms.length)⟩ : GAsn).atoms.length <= 281474976710656) /\ True /\ True) /\ (vcIf (ENT a (⟨a.facts, ((⟨2, (a.atoms.getD ((i1 : Nat) : Int).toNat ⟨0, 0, 0⟩).a, (a.atoms.getD ((j2 : Nat) : Int).toNat ⟨0, 0, 0⟩).b⟩ : GAtom) :: woF a.atoms ((i1 : Nat) : Int) ((j2 : Nat) : Int) a.atoms.length)⟩ : GAsn)) (True /\ (TF /\ TF) /\ True /\ ((((⟨a.facts, ((⟨2, (a.atoms.getD ((i1 : Nat) : Int).toNat ⟨0, 0, 0⟩).a, (a.atoms.getD ((j2 : Nat) : Int).toNat ⟨0, 0, 0⟩).b⟩ : GAtom) :: woF a.atoms ((i1 : Nat) : Int) ((j2 : Nat) : Int) a.atoms.length)⟩ : GAsn), true, ()) : GAsn × Bool × Unit) = (fcL a, fcB a, ())) /\ ((((200752 : Nat) ≠ 200753) /\ True) /\ True /\ True) /\ ((TF /\ TF) /\ (TF /\ TF) /\ True) /\ True /\ (True /\ True /\ True) /\ TF) (VC_firstFold_7 j2 a i1))))))) ((inK .i64 (((i1 : Nat) : Int) + (1 : Int))) /\ True /\ ((i1 + 1) <= a.atoms.length /\ noI a (i1 + 1) = true) /\ (a.atoms.length - (i1 + 1) < a.atoms.length - i1) /\ TT /\ (VC_firstFold_1 a) /\ (VC_firstFold_6 i1) /\ (VC_firstFold_3 a))))) ((TN /\ TN /\ True) /\ (TF /\ TF) /\ True /\ ((((⟨([] : List GFact), ([] : List GAtom)⟩ : GAsn), false, ()) : GAsn × Bool × Unit) = (fcL a, fcB a, ())) /\ ((((100864 : Nat) ≠ 100865) /\ True) /\ True /\ True) /\ ((TF /\ TF) /\ (TF /\ TF) /\ True) /\ True /\ (True /\ True /\ True) /\ TF)))
def VC_firstFold (a : GAsn) (f : Unit) (k : Nat) : Prop := TN /\ (TN /\ TN /\ TN /\ True) /\ True /\ True /\ True /\ True /\ True /\ ((0 <= a.atoms.length /\ noI a 0 = true) /\ TT /\ (VC_firstFold_1 a) /\ VC_firstFold_2 /\ (VC_firstFold_3 a)) /\ (∀ i1 : Nat, (i1 <= a.atoms.length /\ noI a i1 = true) -> (VC_firstFold_9 i1 a))
theorem vcn_firstFold (a : GAsn) (f : Unit) (k : Nat) (hp : asV a = true) : VC_firstFold a f k := by
 unfold VC_firstFold VC_firstFold_9 VC_firstFold_8 VC_firstFold_7 VC_firstFold_6 VC_firstFold_5 VC_firstFold_4 VC_firstFold_3 VC_firstFold_2 VC_firstFold_1
 simp only [cln, Nat.reduceEqDiff, Nat.reduceLeDiff, Nat.reduceAdd]
 all_goals (try simp only [opn])
 all_goals (repeat' (first | apply And.intro | intro _))
 all_goals (repeat (cases ‹_ /\ _›))
 all_goals (first | (exfalso; contradiction) | omega | with_reducible assumption | with_reducible rfl | skip)
 all_goals (try have h6 := fo_len6 ‹asV a = true›)
 all_goals (first
  | omega
  | with_reducible exact (fo_bad ‹_›).1.symm | with_reducible exact (fo_bad ‹_›).2.symm
  | with_reducible exact noI_zero | with_reducible exact noK_zero
  | with_reducible exact noK_same ‹_› ‹_› | with_reducible exact noK_apart ‹_› ‹_› | with_reducible exact foR_no ‹_› ‹_›
  | (exact woF_bd (by omega))
  | with_reducible exact (foR_hit ‹_› ‹_› ‹_› ‹_› ‹_› ‹_› ‹_› ‹_›).1
  | with_reducible exact (foR_hit ‹_› ‹_› ‹_› ‹_› ‹_› ‹_› ‹_› ‹_›).2
  | with_reducible exact noI_step ‹_› ‹_› ‹_› ‹_›
  | with_reducible exact (fo_end ‹_› ‹_› ‹_›).1.symm | with_reducible exact (fo_end ‹_› ‹_› ‹_›).2.symm
  | skip)
theorem ok_firstFold : FnOk Try.prog E 95 c_firstFold :=
 fn_okQ (l := L_firstFold) (lp := P_firstFold) (hp := hp_firstFold) (gcs := fun _ => none) (perm := fun _ => []) tabOk mix ⟨ok_iEntails, ok_foldAt, trivial⟩ ⟨ptok_foldAny, trivial⟩ Try.func95 rfl (by kernel_rfl) (by decide) (by kernel_rfl) (anns := fun x _ => an_firstFold x.1 x.2.1) (fun ⟨a, f, _⟩ k hp _ => Eq.mp (by kernel_rfl) (vcn_firstFold a f k hp)) tot_fn
abbrev c_iFoldCells : Con := ⟨[.asn], [.asn, .bool], fun (a, _) => a.facts.length <= 281474976710656 /\ a.atoms.length <= 281474976710656, .inl fun (a, _) => (fcL a, fcB a, ()), fun _ => 0⟩
abbrev L_iFoldCells : List (FuncId × Con) := [(33, c_iAssertionValid), (95, c_firstFold)]
abbrev P_iFoldCells : List (FuncId × PT) := [(96, pt_foldAny)]
def hp_iFoldCells : Nat -> Bool
 | 3 => true
 | _ => false
def VC_iFoldCells (a : GAsn) (k : Nat) : Prop := TN /\ (TN /\ TN /\ TN /\ True) /\ True /\ True /\ ((a.facts.length <= 281474976710656 /\ a.atoms.length <= 281474976710656) /\ True /\ True) /\ True /\ (vcIf (!(asV a)) ((TN /\ TN /\ True) /\ (TF /\ TF) /\ True /\ ((((⟨([] : List GFact), ([] : List GAtom)⟩ : GAsn), false, ()) : GAsn × Bool × Unit) = (fcL a, fcB a, ())) /\ ((((112 : Nat) ≠ 113) /\ True) /\ True /\ True) /\ ((TF /\ TF) /\ (TF /\ TF) /\ True) /\ True /\ (True /\ True /\ True) /\ TF) (True /\ ((asV a = true) /\ True /\ TN /\ TN /\ True) /\ True /\ True /\ (TF /\ TF) /\ True /\ ((((fcL a), (fcB a), ()) : GAsn × Bool × Unit) = (fcL a, fcB a, ())) /\ ((((144 : Nat) ≠ 145) /\ True) /\ True /\ True) /\ ((TF /\ TF) /\ (TF /\ TF) /\ True) /\ True /\ (True /\ True /\ True) /\ TF))
theorem vcn_iFoldCells (a : GAsn) (k : Nat) (hp : a.facts.length <= 281474976710656 /\ a.atoms.length <= 281474976710656) : VC_iFoldCells a k := by
 unfold VC_iFoldCells
 simp only [cln, Nat.reduceEqDiff, Nat.reduceLeDiff, Nat.reduceAdd]
 all_goals (try simp only [opn])
 all_goals (repeat' (first | apply And.intro | intro _))
 all_goals (repeat (cases ‹_ /\ _›))
 all_goals (first | (exfalso; contradiction) | omega | with_reducible assumption | with_reducible rfl | skip)
 all_goals (try have h6 := fo_len6 ‹asV a = true›)
 all_goals (first
  | omega
  | with_reducible exact (fo_bad ‹_›).1.symm | with_reducible exact (fo_bad ‹_›).2.symm
  | with_reducible exact noI_zero | with_reducible exact noK_zero
  | with_reducible exact noK_same ‹_› ‹_› | with_reducible exact noK_apart ‹_› ‹_› | with_reducible exact foR_no ‹_› ‹_›
  | (exact woF_bd (by omega))
  | with_reducible exact (foR_hit ‹_› ‹_› ‹_› ‹_› ‹_› ‹_› ‹_› ‹_›).1
  | with_reducible exact (foR_hit ‹_› ‹_› ‹_› ‹_› ‹_› ‹_› ‹_› ‹_›).2
  | with_reducible exact noI_step ‹_› ‹_› ‹_› ‹_›
  | with_reducible exact (fo_end ‹_› ‹_› ‹_›).1.symm | with_reducible exact (fo_end ‹_› ‹_› ‹_›).2.symm
  | skip)
theorem ok_iFoldCells : FnOk Try.prog E 41 c_iFoldCells :=
 fn_okQ (l := L_iFoldCells) (lp := P_iFoldCells) (hp := hp_iFoldCells) (gcs := fun _ => none) (perm := fun _ => []) tabOk mix ⟨ok_iAssertionValid, ok_firstFold, trivial⟩ ⟨ptok_foldAny, trivial⟩ Try.func41 rfl (by kernel_rfl) (by decide) (by kernel_rfl) (anns := fun x _ => fun _ _ => none) (fun ⟨a, _⟩ k hp _ => Eq.mp (by kernel_rfl) (vcn_iFoldCells a k hp)) tot_fn
theorem vc_l18Open (code : List UInt8) : vc tab (lookF []) (fun _ => none) (fun _ => []) (bodyOf Try.f51) (entry [.c (.d (.arr .u8 code))] none) openQ := by
 dsimp only [bodyOf, Try.f51]
 simp only [openQ, pickK, openE, openM, true_and, and_true, SE.lookF, tab2, tab3, tab4, tab5, tab7, tab9, tab12, tab13, tab21, tab22, tab23, tab24, tab25, tab26, tab31, tab32, tab33, tab41, tab42, tab43, tab44, tab55, tab56, tab60, tab61, tab81, tab82, tab86, tab87, tab94, tab99, tab101, tab130, tab131, tab144, tab146, tab148, tab149, tab150, tab178, tab190, SE.entry, SE.envOf, SE.rdOf, Option.get_some, SE.vc, SE.vcReg, SE.vcLoop, SE.condK, SE.seqK, SE.blockK, SE.vcOps, SE.vcStep, SE.vcOp, SE.vcTr, SE.vcDet_some, SE.vcDet_none, SE.vcIf_true, SE.vcIf_false, SE.vcEach, SE.pickOps, SE.gslot, SE.trOp, SE.moveId, SE.trMove, SE.trPick, SE.trAlloc, SE.trBox, SE.trBuild, SE.trBuildSlice, SE.trLoad, SE.trStore, SE.trNilCheck, SE.trBin, SE.trUn, SE.trConvert, SE.trFieldAddr, SE.trField, SE.trIndexAddr, SE.trIndex, SE.trSlice, SE.trMakeSlice, SE.trExtract, SE.trLen, SE.trAppend, SE.trCopy, SE.trFn, SE.trCall, SE.argsS, SE.ev, SE.constS, SE.junk, SE.sv, SE.upd_app, SE.adds, SE.sets, SE.nid, SE.St.app, SE.St.put, SE.free, SE.freeL, SE.allFree, SE.rids, SE.AK.rids, SE.castL, SE.rdl, SE.AK.dec, SE.decs, SE.AK.enc, SE.encs, SE.AK.res, SE.ress, SE.pack1, SE.zcells, SE.zeroOf, SE.partCells, SE.putc, SE.fills, SE.datas, SE.elemOf, SE.elemsOf, SE.notSpent, SE.cellsAt, SE.weak, SE.dcellsAt, SE.slAt, SE.rdPlus, SE.intAt, SE.updElem, SE.kill, SE.noJunk, SE.inK, SE.binI, SE.shf, SE.isShift, SE.eqCells, SE.aggS, SE.intOp, SE.nested, SE.hasRdr, SE.refsC, SE.refsCs, SE.ownsC, SE.refsAr, SE.rdFits, SE.costIf, SE.Con.post, SE.Con.det, SE.Ty.cells, SE.Ty.sz, SE.Ty.zero, SE.Ty.flat, SE.Ty.dec, SE.retOk, SE.loadsS, SE.loadS, SE.decRs, SE.decR, SE.outC, SE.rdC, SE.allDiff, SE.notIn, SE.notFrozen, SE.apartL, SE.rdEnd, SE.firstReg, SE.headC, SE.fitsC, SE.idsC, SE.keepE, SE.keepM, SE.keepB, SE.inL, SE.puts, SE.ownRes, SE.ownEnv, SE.renL, SE.srcId, SE.lookR, SE.envSame, SE.envSets, SE.memSame, SE.memBlks, SE.memOwns, SE.famsOf, SE.allIn, SE.closedE, SE.closedV, SE.closedM, SE.closedR, SE.rdLe, SE.S.refs, SE.S0.refs, SE.CV.refs, SE.refsL, SE.refsT, SE.S.ren, SE.S0.ren, SE.CV.ren, SE.Res.refs, SE.Res.ren, min_i64, max_i64, min_u16, max_u16, min_u8, max_u8, min_u64, max_u64, S.s.injEq, S0.c.injEq, CV.d.injEq, DC.val.injEq, Value.int.injEq, Value.bool.injEq, Value.string.injEq, eta_fact, eta_atom, eta_asn, eta_state, List.mem_cons, List.mem_nil_iff, or_false, false_or, or_true, true_or, Option.map_some, Option.map_none, Option.bind_some, Option.getD_some, Option.getD_none, Nat.reduceEqDiff, Nat.reduceAdd, Nat.reduceMul, Nat.reduceLeDiff, ↓reduceIte, reduceCtorEq, true_and, and_true, and_self, forall_const, implies_true, true_implies, List.getElem?_toArray, List.getElem?_cons_succ, List.getElem?_cons_zero, List.append_nil, List.nil_append, List.cons_append, List.length_cons, List.length_nil, List.take_succ_cons, List.take_zero, List.drop_succ_cons, List.drop_zero, List.set_cons_zero, List.set_cons_succ, List.map_cons, List.map_nil, Nat.add_zero, Nat.zero_add, forall_eq, Prod.forall, Bool.not_true, Bool.not_false, Nat.lt_irrefl, Nat.zero_lt_succ, List.singleton_append, Prod.mk.injEq, Nat.zero_mul, Nat.one_mul, Nat.reducePow, Option.some.injEq, not_false_eq_true, Int.toNat_natCast, Nat.sub_zero, Nat.le_refl, Bool.or_false, Bool.false_or, Bool.or_true, Bool.true_or, Bool.and_true, Bool.true_and, Bool.and_false, Bool.false_and, Bool.or_self, Bool.and_self, List.append_eq, and_false, false_and]
 all_goals (try simp only [vcIf_iff, decide_eq_true_eq, decide_eq_false_iff_not])
 all_goals (repeat' (first | apply And.intro | intro _))
 all_goals (first | omega | (simp_all; done) | grind)
theorem open_l18Open : OpenOk Try.prog 51 :=
 open_ok tabOk mix (perm := fun _ => []) Try.func51 (by kernel_rfl) (by kernel_rfl) (by decide) (by kernel_rfl) vc_l18Open
theorem fn_l18Open : ∃ fn c, Try.prog.funcs[51]? = some fn /\ (fn.name == "runtime.NumGoroutine") = false /\ fn.body = some c := ⟨_, _, Try.func51, by kernel_rfl, rfl⟩
abbrev c_pick : Con := ⟨[.rdr, .int], [.int], fun _ => True, .inr fun (_, n, _) (r, _) => pickP n r, fun _ => 1⟩
theorem vc_pick (code : List UInt8) (v : Value) (p n : Int) (k : Nat) (h1 : code.length <= 2000) (h2 : 0 <= p) (h3 : p <= k) (h4 : k + 1 <= rdLimit) : vc tab (lookF []) (fun _ => none) (fun _ => []) (bodyOf Try.f53) (pickSt code v p n) (pickQ code v p n) := by
 have h5 : p <= 1099511627776 := by have : k + 1 <= 1099511627776 := h4; omega
 dsimp only [bodyOf, Try.f53, rdOf]
 simp only [pickSt, pickQ, pickK, pickM, pickR, pickP, true_and, and_true, SE.lookF, tab2, tab3, tab4, tab5, tab7, tab9, tab12, tab13, tab21, tab22, tab23, tab24, tab25, tab26, tab31, tab32, tab33, tab41, tab42, tab43, tab44, tab55, tab56, tab60, tab61, tab81, tab82, tab86, tab87, tab94, tab99, tab101, tab130, tab131, tab144, tab146, tab148, tab149, tab150, tab178, tab190, SE.entry, SE.envOf, SE.rdOf, Option.get_some, SE.vc, SE.vcReg, SE.vcLoop, SE.condK, SE.seqK, SE.blockK, SE.vcOps, SE.vcStep, SE.vcOp, SE.vcTr, SE.vcDet_some, SE.vcDet_none, SE.vcIf_true, SE.vcIf_false, SE.vcEach, SE.pickOps, SE.gslot, SE.trOp, SE.moveId, SE.trMove, SE.trPick, SE.trAlloc, SE.trBox, SE.trBuild, SE.trBuildSlice, SE.trLoad, SE.trStore, SE.trNilCheck, SE.trBin, SE.trUn, SE.trConvert, SE.trFieldAddr, SE.trField, SE.trIndexAddr, SE.trIndex, SE.trSlice, SE.trMakeSlice, SE.trExtract, SE.trLen, SE.trAppend, SE.trCopy, SE.trFn, SE.trCall, SE.argsS, SE.ev, SE.constS, SE.junk, SE.sv, SE.upd_app, SE.adds, SE.sets, SE.nid, SE.St.app, SE.St.put, SE.free, SE.freeL, SE.allFree, SE.rids, SE.AK.rids, SE.castL, SE.rdl, SE.AK.dec, SE.decs, SE.AK.enc, SE.encs, SE.AK.res, SE.ress, SE.pack1, SE.zcells, SE.zeroOf, SE.partCells, SE.putc, SE.fills, SE.datas, SE.elemOf, SE.elemsOf, SE.notSpent, SE.cellsAt, SE.weak, SE.dcellsAt, SE.slAt, SE.rdPlus, SE.intAt, SE.updElem, SE.kill, SE.noJunk, SE.inK, SE.binI, SE.shf, SE.isShift, SE.eqCells, SE.aggS, SE.intOp, SE.nested, SE.hasRdr, SE.refsC, SE.refsCs, SE.ownsC, SE.refsAr, SE.rdFits, SE.costIf, SE.Con.post, SE.Con.det, SE.Ty.cells, SE.Ty.sz, SE.Ty.zero, SE.Ty.flat, SE.Ty.dec, SE.retOk, SE.loadsS, SE.loadS, SE.decRs, SE.decR, SE.outC, SE.rdC, SE.allDiff, SE.notIn, SE.notFrozen, SE.apartL, SE.rdEnd, SE.firstReg, SE.headC, SE.fitsC, SE.idsC, SE.keepE, SE.keepM, SE.keepB, SE.inL, SE.puts, SE.ownRes, SE.ownEnv, SE.renL, SE.srcId, SE.lookR, SE.envSame, SE.envSets, SE.memSame, SE.memBlks, SE.memOwns, SE.famsOf, SE.allIn, SE.closedE, SE.closedV, SE.closedM, SE.closedR, SE.rdLe, SE.S.refs, SE.S0.refs, SE.CV.refs, SE.refsL, SE.refsT, SE.S.ren, SE.S0.ren, SE.CV.ren, SE.Res.refs, SE.Res.ren, min_i64, max_i64, min_u16, max_u16, min_u8, max_u8, min_u64, max_u64, S.s.injEq, S0.c.injEq, CV.d.injEq, DC.val.injEq, Value.int.injEq, Value.bool.injEq, Value.string.injEq, eta_fact, eta_atom, eta_asn, eta_state, List.mem_cons, List.mem_nil_iff, or_false, false_or, or_true, true_or, Option.map_some, Option.map_none, Option.bind_some, Option.getD_some, Option.getD_none, Nat.reduceEqDiff, Nat.reduceAdd, Nat.reduceMul, Nat.reduceLeDiff, ↓reduceIte, reduceCtorEq, true_and, and_true, and_self, forall_const, implies_true, true_implies, List.getElem?_toArray, List.getElem?_cons_succ, List.getElem?_cons_zero, List.append_nil, List.nil_append, List.cons_append, List.length_cons, List.length_nil, List.take_succ_cons, List.take_zero, List.drop_succ_cons, List.drop_zero, List.set_cons_zero, List.set_cons_succ, List.map_cons, List.map_nil, Nat.add_zero, Nat.zero_add, forall_eq, Prod.forall, Bool.not_true, Bool.not_false, Nat.lt_irrefl, Nat.zero_lt_succ, List.singleton_append, Prod.mk.injEq, Nat.zero_mul, Nat.one_mul, Nat.reducePow, Option.some.injEq, not_false_eq_true, Int.toNat_natCast, Nat.sub_zero, Nat.le_refl, Bool.or_false, Bool.false_or, Bool.or_true, Bool.true_or, Bool.and_true, Bool.true_and, Bool.and_false, Bool.false_and, Bool.or_self, Bool.and_self, List.append_eq, and_false, false_and]
 all_goals (try simp only [vcIf_iff, decide_eq_true_eq, decide_eq_false_iff_not, bne_iff_ne, ne_eq, beq_iff_eq, beq_eq_false_iff_ne])
 have hq : p + 1 - 1 = p := by omega
 simp only [hq]
 have hA := byte_bd code
 generalize hL : (code.length : Int) = L at *
 have hL0 : 0 <= L := by omega
 have hm : ∀ x : Int, 0 <= x -> ¬ L = 0 -> 0 <= x.tmod L /\ x.tmod L < L := fun x h0 h1 => tmod_bd h0 (by omega)
 refine ⟨by omega, fun _ _ => by omega, fun hn => ⟨fun _ _ => by omega, fun hl => ⟨by omega, fun hpl => ?_, fun hpl => ?_⟩⟩⟩
 ·have a1 := hA p.toNat
  have m1 := tmod_bd (n := n) a1.1 (by omega)
  generalize ((code.getD p.toNat 0).toNat : Int) = A at *
  exact ⟨by omega, by omega, by omega, fun _ => m1, fun h => by omega⟩
 ·have m1 := hm p h2 hl
  have m2 := hm (p * 7 + 3) (by omega) hl
  have a1 := hA (p.tmod L).toNat
  have a2 := hA ((p * 7 + 3).tmod L).toNat
  have d1 := tdiv_bd (x := p) (n := L) h2 (by omega)
  generalize ((code.getD (p.tmod L).toNat 0).toNat : Int) = A at *
  generalize ((code.getD ((p * 7 + 3).tmod L).toNat 0).toNat : Int) = B at *
  generalize p.tdiv L = D at *
  have d2 := tdiv_bd (x := A * 131 + B * 1117 + p * 29 + D * 53) (n := 64) (by omega) (by omega)
  have x1 := xor_i64_pos (a := A * 131 + B * 1117 + p * 29 + D * 53) (b := (A * 131 + B * 1117 + p * 29 + D * 53).tdiv 64) (by omega) (by omega) d2.1 (by omega)
  have m3 := tmod_bd (n := n) x1 (by omega)
  repeat' (first | apply And.intro | intro _)
  all_goals (first | assumption | omega | exact m3.1 | exact m3.2)
theorem ok_pick : FnOk Try.prog E 53 c_pick :=
 pick_ok tabOk mix (perm := fun _ => []) Try.func53 (by kernel_rfl) (by decide) (by kernel_rfl) (by decide) (by kernel_rfl) (fun code v p n k h1 h2 h3 h4 => vc_pick code v p n k h1 h2 h3 h4)
abbrev c_num : Con := ⟨[.rdr, .sl .int], [.int], fun (rr, l, _) => 0 < l.length /\ l.length <= 1000, .inr fun (rr, l, _) r => r.1 ∈ l, fun (rr, l, _) => 1⟩
abbrev L_num : List (FuncId × Con) := [(53, c_pick)]
abbrev P_num : List (FuncId × PT) := []
def VC_num (rr : Unit) (l : List Int) (k : Nat) : Prop := True /\ True /\ True /\ True /\ True /\ (True /\ (k + 1 <= 1099511627776) /\ True) /\ (∀ r1 : Int × Unit, (pickP ((l.length : Nat) : Int) r1.1) -> (0 <= r1.1 /\ r1.1 < ((l.length : Nat) : Int)) /\ True /\ True /\ ((l.getD r1.1.toNat (0 : Int)) ∈ l) /\ True /\ True /\ True /\ True /\ (k + 1 <= k + 1))
theorem vcn_num (rr : Unit) (l : List Int) (k : Nat) (hp : 0 < l.length /\ l.length <= 1000) (hk : k + (1) <= 1099511627776) : VC_num rr l k := by
 unfold VC_num
 simp only [cln, Nat.reduceEqDiff, Nat.reduceLeDiff, Nat.reduceAdd]
 all_goals (try simp only [opn])
 all_goals (repeat' (first | apply And.intro | intro _))
 all_goals (first | omega | (simp_all; done) | grind [getD_mem, pickP])
theorem ok_num : FnOk Try.prog E 84 c_num :=
 fn_okQ (l := L_num) (lp := P_num) (hp := fun _ => false) (gcs := fun _ => none) (perm := fun _ => []) tabOk mix ⟨ok_pick, trivial⟩ trivial Try.func84 rfl (by kernel_rfl) (by decide) (by kernel_rfl) (anns := fun x _ => fun _ _ => none) (fun ⟨rr, l, _⟩ k hp hk => Eq.mp (by kernel_rfl) (vcn_num rr l k hp (hk rfl))) (fun ⟨_, l, _⟩ hp => ⟨(l.getD 0 0, ()), getD_mem hp.1⟩)
abbrev c_l3Star : Con := ⟨[.asn, .asn], [.asn], fun (a, b, _) => a.facts.length <= 1048576 /\ a.atoms.length <= 1048576 /\ b.facts.length <= 1048576 /\ b.atoms.length <= 1048576, .inl fun (a, b, _) => (⟨a.facts ++ b.facts, a.atoms ++ b.atoms⟩, ()), fun _ => 0⟩
abbrev L_l3Star : List (FuncId × Con) := []
abbrev P_l3Star : List (FuncId × PT) := []
def VC_l3Star (a : GAsn) (b : GAsn) (k : Nat) : Prop := TN /\ TN /\ (TN /\ TN /\ TN /\ True) /\ (TN /\ True) /\ True /\ True /\ (TN /\ TF /\ TF /\ (([] : List GFact).length + a.facts.length <= 4294967296)) /\ True /\ True /\ (TN /\ TF /\ TF /\ ((([] : List GFact) ++ a.facts).length + b.facts.length <= 4294967296)) /\ (TN /\ True) /\ True /\ True /\ (TN /\ TF /\ TF /\ (([] : List GAtom).length + a.atoms.length <= 4294967296)) /\ True /\ True /\ (TN /\ TF /\ TF /\ ((([] : List GAtom) ++ a.atoms).length + b.atoms.length <= 4294967296)) /\ (TN /\ TN /\ True) /\ (TF /\ TF) /\ ((((⟨(([] : List GFact) ++ a.facts) ++ b.facts, (([] : List GAtom) ++ a.atoms) ++ b.atoms⟩ : GAsn), ()) : GAsn × Unit) = (⟨a.facts ++ b.facts, a.atoms ++ b.atoms⟩, ())) /\ ((((176 : Nat) ≠ 288) /\ True) /\ True /\ True) /\ ((TF /\ TF) /\ (TF /\ TF) /\ True) /\ True /\ (True /\ True /\ True) /\ TF
theorem vcn_l3Star (a : GAsn) (b : GAsn) (k : Nat) (hp : a.facts.length <= 1048576 /\ a.atoms.length <= 1048576 /\ b.facts.length <= 1048576 /\ b.atoms.length <= 1048576) : VC_l3Star a b k := by
 unfold VC_l3Star
 simp only [cln, Nat.reduceEqDiff, Nat.reduceLeDiff, Nat.reduceAdd]
 all_goals (try simp only [opn])
 all_goals (repeat' (first | apply And.intro | intro _))
 all_goals (first | omega | (simp_all; done) | grind [])
theorem ok_l3Star : FnOk Try.prog E 144 c_l3Star :=
 fn_okQ (l := L_l3Star) (lp := P_l3Star) (hp := fun _ => false) (gcs := fun _ => none) (perm := fun _ => []) tabOk mix trivial trivial Try.func144 rfl (by kernel_rfl) (by decide) (by kernel_rfl) (anns := fun x _ => fun _ _ => none) (fun ⟨a, b, _⟩ k hp _ => Eq.mp (by kernel_rfl) (vcn_l3Star a b k hp)) tot_fn
abbrev c_l3Copy : Con := ⟨[.asn], [.asn], fun (a, _) => a.facts.length <= 1048576 /\ a.atoms.length <= 1048576, .inl fun (a, _) => (a, ()), fun _ => 0⟩
abbrev L_l3Copy : List (FuncId × Con) := [(144, c_l3Star)]
abbrev P_l3Copy : List (FuncId × PT) := []
def VC_l3Copy (a : GAsn) (k : Nat) : Prop := TN /\ (TN /\ TN /\ TN /\ True) /\ True /\ (TN /\ TN /\ True) /\ ((a.facts.length <= 1048576 /\ a.atoms.length <= 1048576 /\ (⟨([] : List GFact), ([] : List GAtom)⟩ : GAsn).facts.length <= 1048576 /\ (⟨([] : List GFact), ([] : List GAtom)⟩ : GAsn).atoms.length <= 1048576) /\ True /\ TN /\ TN /\ True) /\ (TF /\ TF) /\ ((((⟨(a.facts ++ (⟨([] : List GFact), ([] : List GAtom)⟩ : GAsn).facts), (a.atoms ++ (⟨([] : List GFact), ([] : List GAtom)⟩ : GAsn).atoms)⟩ : GAsn), ()) : GAsn × Unit) = (a, ())) /\ ((((80 : Nat) ≠ 81) /\ True) /\ True /\ True) /\ ((TF /\ TF) /\ (TF /\ TF) /\ True) /\ True /\ (True /\ True /\ True) /\ TF
theorem vcn_l3Copy (a : GAsn) (k : Nat) (hp : a.facts.length <= 1048576 /\ a.atoms.length <= 1048576) : VC_l3Copy a k := by
 unfold VC_l3Copy
 simp only [cln, Nat.reduceEqDiff, Nat.reduceLeDiff, Nat.reduceAdd]
 all_goals (try simp only [opn])
 all_goals (repeat' (first | apply And.intro | intro _))
 all_goals (first | omega | (simp_all; done) | grind [])
theorem ok_l3Copy : FnOk Try.prog E 109 c_l3Copy :=
 fn_okQ (l := L_l3Copy) (lp := P_l3Copy) (hp := fun _ => false) (gcs := fun _ => none) (perm := fun _ => []) tabOk mix ⟨ok_l3Star, trivial⟩ trivial Try.func109 rfl (by kernel_rfl) (by decide) (by kernel_rfl) (anns := fun x _ => fun _ _ => none) (fun ⟨a, _⟩ k hp _ => Eq.mp (by kernel_rfl) (vcn_l3Copy a k hp)) tot_fn
abbrev c_l1Mutate : Con := ⟨[.rdr, .sl .fact], [.sl .fact], fun (rr, l, _) => l.length <= 1048576, .inr fun (rr, l, _) r => r.1.length <= l.length + 13, fun (rr, l, _) => 2⟩
abbrev L_l1Mutate : List (FuncId × Con) := [(53, c_pick), (84, c_num)]
def an_l1Mutate (rr : Unit) (l : List GFact) : Nat -> Option Ann
 | 6 => some { α := Nat, ok := fun i => i = 0 ∨ l.length + i <= 13, mu := fun i => 20 - i, i0 := fun _ => 0, nx := fun a _ => (fun i => i + 1) a, live := [], sets := fun i => [], mids := [], blks := fun i => [], owns := fun i => [⟨7, .slot 5, .fact, l ++ List.replicate i ⟨true, 1, 2⟩⟩], rd := fun r _ => r, base := 100000 }
 | _ => none
theorem vc_l1Mutate (rr : Unit) (l : List GFact) (k : Nat) (hp : l.length <= 1048576) (hk : k + (2) <= 1099511627776) : vc tab (lookF L_l1Mutate) (an_l1Mutate rr l) (fun _ => []) (bodyOf Try.f110) (entry (encs c_l1Mutate.aks (rr, l, ())) (rdOf true k)) (retOk tab c_l1Mutate Try.f110.results.toList (rr, l, ()) k) := by
 dsimp only [bodyOf, Try.f110, rdOf]
 simp (maxSteps := 10000000) only [c_l1Mutate, L_l1Mutate, an_l1Mutate, SE.lookF, c_pick, c_num, tab2, tab3, tab4, tab5, tab7, tab9, tab12, tab13, tab21, tab22, tab23, tab24, tab25, tab26, tab31, tab32, tab33, tab41, tab42, tab43, tab44, tab55, tab56, tab60, tab61, tab81, tab82, tab86, tab87, tab94, tab99, tab101, tab130, tab131, tab144, tab146, tab148, tab149, tab150, tab178, tab190, SE.entry, SE.envOf, SE.rdOf, Option.get_some, SE.vc, SE.vcReg, SE.vcLoop, SE.condK, SE.seqK, SE.blockK, SE.vcOps, SE.vcStep, SE.vcOp, SE.vcTr, SE.vcDet_some, SE.vcDet_none, SE.vcIf_true, SE.vcIf_false, SE.vcEach, SE.pickOps, SE.gslot, SE.trOp, SE.moveId, SE.trMove, SE.trPick, SE.trAlloc, SE.trBox, SE.trBuild, SE.trBuildSlice, SE.trLoad, SE.trStore, SE.trNilCheck, SE.trBin, SE.trUn, SE.trConvert, SE.trFieldAddr, SE.trField, SE.trIndexAddr, SE.trIndex, SE.trSlice, SE.trMakeSlice, SE.trExtract, SE.trLen, SE.trAppend, SE.trCopy, SE.trFn, SE.trCall, SE.argsS, SE.ev, SE.constS, SE.junk, SE.sv, SE.upd_app, SE.adds, SE.sets, SE.nid, SE.St.app, SE.St.put, SE.free, SE.freeL, SE.allFree, SE.rids, SE.AK.rids, SE.castL, SE.rdl, SE.AK.dec, SE.decs, SE.AK.enc, SE.encs, SE.AK.res, SE.ress, SE.pack1, SE.zcells, SE.zeroOf, SE.partCells, SE.putc, SE.fills, SE.datas, SE.elemOf, SE.elemsOf, SE.notSpent, SE.cellsAt, SE.weak, SE.dcellsAt, SE.slAt, SE.rdPlus, SE.intAt, SE.updElem, SE.kill, SE.noJunk, SE.inK, SE.binI, SE.shf, SE.isShift, SE.eqCells, SE.aggS, SE.intOp, SE.nested, SE.hasRdr, SE.refsC, SE.refsCs, SE.ownsC, SE.refsAr, SE.rdFits, SE.costIf, SE.Con.post, SE.Con.det, SE.Ty.cells, SE.Ty.sz, SE.Ty.zero, SE.Ty.flat, SE.Ty.dec, SE.retOk, SE.loadsS, SE.loadS, SE.decRs, SE.decR, SE.outC, SE.rdC, SE.allDiff, SE.notIn, SE.notFrozen, SE.apartL, SE.rdEnd, SE.firstReg, SE.headC, SE.fitsC, SE.idsC, SE.keepE, SE.keepM, SE.keepB, SE.inL, SE.puts, SE.ownRes, SE.ownEnv, SE.renL, SE.srcId, SE.lookR, SE.envSame, SE.envSets, SE.memSame, SE.memBlks, SE.memOwns, SE.famsOf, SE.allIn, SE.closedE, SE.closedV, SE.closedM, SE.closedR, SE.rdLe, SE.S.refs, SE.S0.refs, SE.CV.refs, SE.refsL, SE.refsT, SE.S.ren, SE.S0.ren, SE.CV.ren, SE.Res.refs, SE.Res.ren, min_i64, max_i64, min_u16, max_u16, min_u8, max_u8, min_u64, max_u64, S.s.injEq, S0.c.injEq, CV.d.injEq, DC.val.injEq, Value.int.injEq, Value.bool.injEq, Value.string.injEq, eta_fact, eta_atom, eta_asn, eta_state, List.mem_cons, List.mem_nil_iff, or_false, false_or, or_true, true_or, Option.map_some, Option.map_none, Option.bind_some, Option.getD_some, Option.getD_none, Nat.reduceEqDiff, Nat.reduceAdd, Nat.reduceMul, Nat.reduceLeDiff, ↓reduceIte, reduceCtorEq, true_and, and_true, and_self, forall_const, implies_true, true_implies, List.getElem?_toArray, List.getElem?_cons_succ, List.getElem?_cons_zero, List.append_nil, List.nil_append, List.cons_append, List.length_cons, List.length_nil, List.take_succ_cons, List.take_zero, List.drop_succ_cons, List.drop_zero, List.set_cons_zero, List.set_cons_succ, List.map_cons, List.map_nil, Nat.add_zero, Nat.zero_add, forall_eq, Prod.forall, Bool.not_true, Bool.not_false, Nat.lt_irrefl, Nat.zero_lt_succ, List.singleton_append, Prod.mk.injEq, Nat.zero_mul, Nat.one_mul, Nat.reducePow, Option.some.injEq, not_false_eq_true, Int.toNat_natCast, Nat.sub_zero, Nat.le_refl, Bool.or_false, Bool.false_or, Bool.or_true, Bool.true_or, Bool.and_true, Bool.true_and, Bool.and_false, Bool.false_and, Bool.or_self, Bool.and_self, List.append_eq, and_false, false_and]
 all_goals (try simp only [vcIf_iff, decide_eq_true_eq, decide_eq_false_iff_not, bne_iff_ne, ne_eq, beq_iff_eq, beq_eq_false_iff_ne, bne_eq_false_iff_eq, Bool.not_eq_true', Bool.not_eq_false', Int.ofNat_lt, Int.natCast_inj])
 all_goals (repeat' (first | apply And.intro | intro _))
 all_goals (first | omega | (simp_all; done) | grind [List.replicate_succ', List.append_assoc])
theorem ok_l1Mutate : FnOk Try.prog E 110 c_l1Mutate :=
 fn_ok (l := L_l1Mutate) (perm := fun _ => []) tabOk mix ⟨ok_pick, ok_num, trivial⟩ Try.func110 rfl (by kernel_rfl) (by decide) (by kernel_rfl) (anns := fun x _ => an_l1Mutate x.1 x.2.1) (fun ⟨rr, l, _⟩ k hp hk => vc_l1Mutate rr l k hp (hk rfl)) (fun ⟨_, l, _⟩ _ => ⟨(l, ()), Nat.le_add_right _ _⟩)
abbrev c_l3Mutate : Con := ⟨[.rdr, .asn], [.asn], fun (rr, a, _) => a.facts.length <= 100000 /\ a.atoms.length <= 100000, .inr fun (rr, a, _) r => r.1.facts.length <= a.facts.length + 14 /\ r.1.atoms.length <= a.atoms.length + 7, fun (rr, a, _) => 4⟩
abbrev L_l3Mutate : List (FuncId × Con) := [(53, c_pick), (84, c_num), (109, c_l3Copy), (110, c_l1Mutate)]
def an_l3Mutate (rr : Unit) (a : GAsn) : Nat -> Option Ann
 | 8 => some { α := Nat, ok := fun i => i = 0 ∨ a.atoms.length + i <= 7, mu := fun i => 20 - i, i0 := fun _ => 0, nx := fun a _ => (fun i => i + 1) a, live := [4, 5], sets := fun i => [], mids := [79, 64, 65], blks := fun i => [(95, .blk [.own 7, .own 8])], owns := fun i => [⟨7, .cell 95 0, .fact, a.facts⟩, ⟨8, .cell 95 1, .atom, a.atoms ++ List.replicate i ⟨2, 1, 1⟩⟩], rd := fun r _ => r, base := 100000 }
 | _ => none
theorem vc_l3Mutate (rr : Unit) (a : GAsn) (k : Nat) (hp : a.facts.length <= 100000 /\ a.atoms.length <= 100000) (hk : k + (4) <= 1099511627776) : vc tab (lookF L_l3Mutate) (an_l3Mutate rr a) (fun _ => []) (bodyOf Try.f54) (entry (encs c_l3Mutate.aks (rr, a, ())) (rdOf true k)) (retOk tab c_l3Mutate Try.f54.results.toList (rr, a, ()) k) := by
 dsimp only [bodyOf, Try.f54, rdOf]
 simp (maxSteps := 10000000) only [c_l3Mutate, L_l3Mutate, an_l3Mutate, SE.lookF, c_pick, c_num, c_l3Copy, c_l1Mutate, tab2, tab3, tab4, tab5, tab7, tab9, tab12, tab13, tab21, tab22, tab23, tab24, tab25, tab26, tab31, tab32, tab33, tab41, tab42, tab43, tab44, tab55, tab56, tab60, tab61, tab81, tab82, tab86, tab87, tab94, tab99, tab101, tab130, tab131, tab144, tab146, tab148, tab149, tab150, tab178, tab190, SE.entry, SE.envOf, SE.rdOf, Option.get_some, SE.vc, SE.vcReg, SE.vcLoop, SE.condK, SE.seqK, SE.blockK, SE.vcOps, SE.vcStep, SE.vcOp, SE.vcTr, SE.vcDet_some, SE.vcDet_none, SE.vcIf_true, SE.vcIf_false, SE.vcEach, SE.pickOps, SE.gslot, SE.trOp, SE.moveId, SE.trMove, SE.trPick, SE.trAlloc, SE.trBox, SE.trBuild, SE.trBuildSlice, SE.trLoad, SE.trStore, SE.trNilCheck, SE.trBin, SE.trUn, SE.trConvert, SE.trFieldAddr, SE.trField, SE.trIndexAddr, SE.trIndex, SE.trSlice, SE.trMakeSlice, SE.trExtract, SE.trLen, SE.trAppend, SE.trCopy, SE.trFn, SE.trCall, SE.argsS, SE.ev, SE.constS, SE.junk, SE.sv, SE.upd_app, SE.adds, SE.sets, SE.nid, SE.St.app, SE.St.put, SE.free, SE.freeL, SE.allFree, SE.rids, SE.AK.rids, SE.castL, SE.rdl, SE.AK.dec, SE.decs, SE.AK.enc, SE.encs, SE.AK.res, SE.ress, SE.pack1, SE.zcells, SE.zeroOf, SE.partCells, SE.putc, SE.fills, SE.datas, SE.elemOf, SE.elemsOf, SE.notSpent, SE.cellsAt, SE.weak, SE.dcellsAt, SE.slAt, SE.rdPlus, SE.intAt, SE.updElem, SE.kill, SE.noJunk, SE.inK, SE.binI, SE.shf, SE.isShift, SE.eqCells, SE.aggS, SE.intOp, SE.nested, SE.hasRdr, SE.refsC, SE.refsCs, SE.ownsC, SE.refsAr, SE.rdFits, SE.costIf, SE.Con.post, SE.Con.det, SE.Ty.cells, SE.Ty.sz, SE.Ty.zero, SE.Ty.flat, SE.Ty.dec, SE.retOk, SE.loadsS, SE.loadS, SE.decRs, SE.decR, SE.outC, SE.rdC, SE.allDiff, SE.notIn, SE.notFrozen, SE.apartL, SE.rdEnd, SE.firstReg, SE.headC, SE.fitsC, SE.idsC, SE.keepE, SE.keepM, SE.keepB, SE.inL, SE.puts, SE.ownRes, SE.ownEnv, SE.renL, SE.srcId, SE.lookR, SE.envSame, SE.envSets, SE.memSame, SE.memBlks, SE.memOwns, SE.famsOf, SE.allIn, SE.closedE, SE.closedV, SE.closedM, SE.closedR, SE.rdLe, SE.S.refs, SE.S0.refs, SE.CV.refs, SE.refsL, SE.refsT, SE.S.ren, SE.S0.ren, SE.CV.ren, SE.Res.refs, SE.Res.ren, min_i64, max_i64, min_u16, max_u16, min_u8, max_u8, min_u64, max_u64, S.s.injEq, S0.c.injEq, CV.d.injEq, DC.val.injEq, Value.int.injEq, Value.bool.injEq, Value.string.injEq, eta_fact, eta_atom, eta_asn, eta_state, List.mem_cons, List.mem_nil_iff, or_false, false_or, or_true, true_or, Option.map_some, Option.map_none, Option.bind_some, Option.getD_some, Option.getD_none, Nat.reduceEqDiff, Nat.reduceAdd, Nat.reduceMul, Nat.reduceLeDiff, ↓reduceIte, reduceCtorEq, true_and, and_true, and_self, forall_const, implies_true, true_implies, List.getElem?_toArray, List.getElem?_cons_succ, List.getElem?_cons_zero, List.append_nil, List.nil_append, List.cons_append, List.length_cons, List.length_nil, List.take_succ_cons, List.take_zero, List.drop_succ_cons, List.drop_zero, List.set_cons_zero, List.set_cons_succ, List.map_cons, List.map_nil, Nat.add_zero, Nat.zero_add, forall_eq, Prod.forall, Bool.not_true, Bool.not_false, Nat.lt_irrefl, Nat.zero_lt_succ, List.singleton_append, Prod.mk.injEq, Nat.zero_mul, Nat.one_mul, Nat.reducePow, Option.some.injEq, not_false_eq_true, Int.toNat_natCast, Nat.sub_zero, Nat.le_refl, Bool.or_false, Bool.false_or, Bool.or_true, Bool.true_or, Bool.and_true, Bool.true_and, Bool.and_false, Bool.false_and, Bool.or_self, Bool.and_self, List.append_eq, and_false, false_and]
 all_goals (try simp only [vcIf_iff, decide_eq_true_eq, decide_eq_false_iff_not, bne_iff_ne, ne_eq, beq_iff_eq, beq_eq_false_iff_ne, bne_eq_false_iff_eq, Bool.not_eq_true', Bool.not_eq_false', Int.ofNat_lt, Int.natCast_inj])
 all_goals (repeat' (first | apply And.intro | intro _))
 all_goals (first | omega | (simp_all; done) | grind [List.replicate_succ', List.append_assoc])
theorem ok_l3Mutate : FnOk Try.prog E 54 c_l3Mutate :=
 fn_ok (l := L_l3Mutate) (perm := fun _ => []) tabOk mix ⟨ok_pick, ok_num, ok_l3Copy, ok_l1Mutate, trivial⟩ Try.func54 rfl (by kernel_rfl) (by decide) (by kernel_rfl) (anns := fun x _ => an_l3Mutate x.1 x.2.1) (fun ⟨rr, a, _⟩ k hp hk => vc_l3Mutate rr a k hp (hk rfl)) (fun ⟨_, a, _⟩ _ => ⟨(a, ()), ⟨Nat.le_add_right _ _, Nat.le_add_right _ _⟩⟩)
abbrev c_l6Chains : Con := ⟨[.rdr], [.asn], fun _ => True, .inr fun (rr, _) r => r.1.facts.length <= 1 /\ r.1.atoms.length <= 4, fun (rr, _) => 13⟩
abbrev L_l6Chains : List (FuncId × Con) := [(53, c_pick), (84, c_num)]
abbrev P_l6Chains : List (FuncId × PT) := []
def an_l6Chains (rr : Unit) : Nat -> St -> Option Ann
 | 4, se => some { α := Int × Int × List GAtom, ok := fun p => 0 <= p.2.1 /\ p.2.1 + p.2.2.length <= 4, mu := fun p => p.2.1.toNat, i0 := fun st => (intAt st 4, intAt st 5, ([] : List GAtom)), nx := fun p st => (intAt st 4, p.2.1 - 1, slAt .atom st (.cell 63 1)), live := [0, 2, 3], sets := fun p => [(4, sv (.int .i64 p.1)), (5, sv (.int .i64 p.2.1))], mids := [32, 33, 47], blks := fun p => [(63, .blk [.own 7, .own 8])], owns := fun p => [⟨7, .cell 63 0, .fact, ([] : List GFact)⟩, ⟨8, .cell 63 1, .atom, p.2.2⟩], rd := fun r p => rdPlus r (2 * (4 - p.2.1.toNat)), base := 100000 }
 | _, _ => none
def VC_l6Chains_1  : Prop := 0 < ([(1 : Int), (2 : Int), (5 : Int)] : List Int).length /\ ([(1 : Int), (2 : Int), (5 : Int)] : List Int).length <= 1000
def VC_l6Chains_2  : Prop := RM [some (.sl 32 .fact ([] : List GFact)), some (.sl 33 .atom ([] : List GAtom)), some (.blk [.own 32, .own 33])]
def VC_l6Chains_3 (r5 : Int × Unit) (p3 : Int × Int × List GAtom) (r4 : Int × Unit) (k : Nat) : Prop := (True /\ (vcIf (r5.1 == (0 : Int)) (True /\ (TF /\ TF) /\ True /\ True /\ True /\ (TN /\ True) /\ (TN /\ TF /\ TF /\ (p3.2.2.length + ([(⟨(2 : Int), (p3.1 : Int), r4.1⟩ : GAtom)] : List GAtom).length <= 4294967296)) /\ True /\ (TF /\ TF) /\ True /\ True /\ True /\ True /\ (inK .i64 ((p3.2.1 : Int) - (1 : Int))) /\ True /\ (0 <= (r4.1, p3.2.1 - 1, (p3.2.2 ++ ([(⟨(2 : Int), (p3.1 : Int), r4.1⟩ : GAtom)] : List GAtom))).2.1 /\ (r4.1, p3.2.1 - 1, (p3.2.2 ++ ([(⟨(2 : Int), (p3.1 : Int), r4.1⟩ : GAtom)] : List GAtom))).2.1 + (r4.1, p3.2.1 - 1, (p3.2.2 ++ ([(⟨(2 : Int), (p3.1 : Int), r4.1⟩ : GAtom)] : List GAtom))).2.2.length <= 4) /\ ((r4.1, p3.2.1 - 1, (p3.2.2 ++ ([(⟨(2 : Int), (p3.1 : Int), r4.1⟩ : GAtom)] : List GAtom))).2.1.toNat < p3.2.1.toNat) /\ TT /\ (RL [.s (.c (.rdr)), .s (.c (.ptr 47 0)), .s (.c (.ptr 63 0))]) /\ (([.s (.c (.d (.val (.int .i64 r4.1)))), .s (.c (.d (.val (.int .i64 ((p3.2.1 : Int) - (1 : Int))))))] : List S) = [.s (.c (.d (.val (.int .i64 ((r4.1, p3.2.1 - 1, (p3.2.2 ++ ([(⟨(2 : Int), (p3.1 : Int), r4.1⟩ : GAtom)] : List GAtom))).1 : Int))))), .s (.c (.d (.val (.int .i64 ((r4.1, p3.2.1 - 1, (p3.2.2 ++ ([(⟨(2 : Int), (p3.1 : Int), r4.1⟩ : GAtom)] : List GAtom))).2.1 : Int)))))]) /\ VC_l6Chains_2 /\ (RM [some (.blk [.own 7, .own 100496])]) /\ (((some ([] : List GFact) : Option (List GFact)) = some ([] : List GFact)) /\ ((some (p3.2.2 ++ ([(⟨(2 : Int), (p3.1 : Int), r4.1⟩ : GAtom)] : List GAtom)) : Option (List GAtom)) = some ((r4.1, p3.2.1 - 1, (p3.2.2 ++ ([(⟨(2 : Int), (p3.1 : Int), r4.1⟩ : GAtom)] : List GAtom))).2.2)) /\ True) /\ (k + 1 + 1 + (2 * (4 - p3.2.1.toNat)) + 1 + 1 <= k + 1 + 1 + (2 * (4 - (r4.1, p3.2.1 - 1, (p3.2.2 ++ ([(⟨(2 : Int), (p3.1 : Int), r4.1⟩ : GAtom)] : List GAtom))).2.1.toNat)) /\ k + 1 + 1 + (2 * (4 - (r4.1, p3.2.1 - 1, (p3.2.2 ++ ([(⟨(2 : Int), (p3.1 : Int), r4.1⟩ : GAtom)] : List GAtom))).2.1.toNat)) <= 1099511627776)) (True /\ True /\ True /\ (TN /\ True) /\ (TN /\ TF /\ TF /\ (p3.2.2.length + ([(⟨(1 : Int), (p3.1 : Int), r4.1⟩ : GAtom)] : List GAtom).length <= 4294967296)) /\ True /\ (TF /\ TF) /\ True /\ True /\ True /\ True /\ (inK .i64 ((p3.2.1 : Int) - (1 : Int))) /\ True /\ (0 <= (r4.1, p3.2.1 - 1, (p3.2.2 ++ ([(⟨(1 : Int), (p3.1 : Int), r4.1⟩ : GAtom)] : List GAtom))).2.1 /\ (r4.1, p3.2.1 - 1, (p3.2.2 ++ ([(⟨(1 : Int), (p3.1 : Int), r4.1⟩ : GAtom)] : List GAtom))).2.1 + (r4.1, p3.2.1 - 1, (p3.2.2 ++ ([(⟨(1 : Int), (p3.1 : Int), r4.1⟩ : GAtom)] : List GAtom))).2.2.length <= 4) /\ ((r4.1, p3.2.1 - 1, (p3.2.2 ++ ([(⟨(1 : Int), (p3.1 : Int), r4.1⟩ : GAtom)] : List GAtom))).2.1.toNat < p3.2.1.toNat) /\ TT /\ (RL [.s (.c (.rdr)), .s (.c (.ptr 47 0)), .s (.c (.ptr 63 0))]) /\ (([.s (.c (.d (.val (.int .i64 r4.1)))), .s (.c (.d (.val (.int .i64 ((p3.2.1 : Int) - (1 : Int))))))] : List S) = [.s (.c (.d (.val (.int .i64 ((r4.1, p3.2.1 - 1, (p3.2.2 ++ ([(⟨(1 : Int), (p3.1 : Int), r4.1⟩ : GAtom)] : List GAtom))).1 : Int))))), .s (.c (.d (.val (.int .i64 ((r4.1, p3.2.1 - 1, (p3.2.2 ++ ([(⟨(1 : Int), (p3.1 : Int), r4.1⟩ : GAtom)] : List GAtom))).2.1 : Int)))))]) /\ VC_l6Chains_2 /\ (RM [some (.blk [.own 7, .own 100496])]) /\ (((some ([] : List GFact) : Option (List GFact)) = some ([] : List GFact)) /\ ((some (p3.2.2 ++ ([(⟨(1 : Int), (p3.1 : Int), r4.1⟩ : GAtom)] : List GAtom)) : Option (List GAtom)) = some ((r4.1, p3.2.1 - 1, (p3.2.2 ++ ([(⟨(1 : Int), (p3.1 : Int), r4.1⟩ : GAtom)] : List GAtom))).2.2)) /\ True) /\ (k + 1 + 1 + (2 * (4 - p3.2.1.toNat)) + 1 + 1 <= k + 1 + 1 + (2 * (4 - (r4.1, p3.2.1 - 1, (p3.2.2 ++ ([(⟨(1 : Int), (p3.1 : Int), r4.1⟩ : GAtom)] : List GAtom))).2.1.toNat)) /\ k + 1 + 1 + (2 * (4 - (r4.1, p3.2.1 - 1, (p3.2.2 ++ ([(⟨(1 : Int), (p3.1 : Int), r4.1⟩ : GAtom)] : List GAtom))).2.1.toNat)) <= 1099511627776))))
def VC_l6Chains_4 (r1 : Int × Unit) (r2 : Int × Unit) (k : Nat) : Prop := (((0 <= (r1.1, r2.1, ([] : List GAtom)).2.1 /\ (r1.1, r2.1, ([] : List GAtom)).2.1 + (r1.1, r2.1, ([] : List GAtom)).2.2.length <= 4) /\ TT /\ (RL [.s (.c (.rdr)), .s (.c (.ptr 47 0)), .s (.c (.ptr 63 0))]) /\ (([.s (.c (.d (.val (.int .i64 r1.1)))), .s (.c (.d (.val (.int .i64 r2.1))))] : List S) = [.s (.c (.d (.val (.int .i64 ((r1.1, r2.1, ([] : List GAtom)).1 : Int))))), .s (.c (.d (.val (.int .i64 ((r1.1, r2.1, ([] : List GAtom)).2.1 : Int)))))]) /\ VC_l6Chains_2 /\ (RM [some (.blk [.own 112, .own 113])]) /\ (((some ([] : List GFact) : Option (List GFact)) = some ([] : List GFact)) /\ ((some ([] : List GAtom) : Option (List GAtom)) = some ((r1.1, r2.1, ([] : List GAtom)).2.2)) /\ True) /\ (k + 1 + 1 <= k + 1 + 1 + (2 * (4 - (r1.1, r2.1, ([] : List GAtom)).2.1.toNat)) /\ k + 1 + 1 + (2 * (4 - (r1.1, r2.1, ([] : List GAtom)).2.1.toNat)) <= 1099511627776)) /\ (∀ p3 : Int × Int × List GAtom, (0 <= p3.2.1 /\ p3.2.1 + p3.2.2.length <= 4) -> True /\ True /\ (vcIf (decide ((0 : Int) < (p3.2.1 : Int))) (True /\ True /\ (TN /\ True) /\ ((0 < ([(2 : Int), (5 : Int), (0 : Int), (3 : Int), (6 : Int), (1 : Int)] : List Int).length /\ ([(2 : Int), (5 : Int), (0 : Int), (3 : Int), (6 : Int), (1 : Int)] : List Int).length <= 1000) /\ (k + 1 + 1 + (2 * (4 - p3.2.1.toNat)) + 1 <= 1099511627776) /\ True) /\ (∀ r4 : Int × Unit, (r4.1 ∈ ([(2 : Int), (5 : Int), (0 : Int), (3 : Int), (6 : Int), (1 : Int)] : List Int)) -> True /\ (TN /\ True) /\ (TF /\ TF) /\ True /\ (True /\ (k + 1 + 1 + (2 * (4 - p3.2.1.toNat)) + 1 + 1 <= 1099511627776) /\ True) /\ (∀ r5 : Int × Unit, (pickP (2 : Int) r5.1) -> (VC_l6Chains_3 r5 p3 r4 k)))) (True /\ (True /\ (k + 1 + 1 + (2 * (4 - p3.2.1.toNat)) + 1 <= 1099511627776) /\ True) /\ (∀ r6 : Int × Unit, (pickP (3 : Int) r6.1) -> True /\ (vcIf (r6.1 == (0 : Int)) (True /\ True /\ True /\ (TN /\ True) /\ (VC_l6Chains_1 /\ (k + 1 + 1 + (2 * (4 - p3.2.1.toNat)) + 1 + 1 <= 1099511627776) /\ True) /\ (∀ r7 : Int × Unit, (r7.1 ∈ ([(1 : Int), (2 : Int), (5 : Int)] : List Int)) -> True /\ (TN /\ True) /\ ((0 < ([(0 : Int), (2 : Int), (3 : Int), (5 : Int)] : List Int).length /\ ([(0 : Int), (2 : Int), (3 : Int), (5 : Int)] : List Int).length <= 1000) /\ (k + 1 + 1 + (2 * (4 - p3.2.1.toNat)) + 1 + 1 + 1 <= 1099511627776) /\ True) /\ (∀ r8 : Int × Unit, (r8.1 ∈ ([(0 : Int), (2 : Int), (3 : Int), (5 : Int)] : List Int)) -> True /\ (TN /\ True) /\ (TN /\ TF /\ TF /\ (([] : List GFact).length + ([(⟨false, r7.1, r8.1⟩ : GFact)] : List GFact).length <= 4294967296)) /\ True /\ (TF /\ TF) /\ True /\ (TF /\ TF) /\ ((⟨([] : List GFact) ++ ([(⟨false, r7.1, r8.1⟩ : GFact)] : List GFact), p3.2.2⟩ : GAsn).facts.length <= 1 /\ (⟨([] : List GFact) ++ ([(⟨false, r7.1, r8.1⟩ : GFact)] : List GFact), p3.2.2⟩ : GAsn).atoms.length <= 4) /\ ((((100768 : Nat) ≠ 8) /\ True) /\ True /\ True) /\ ((TF /\ TF) /\ (TF /\ TF) /\ True) /\ True /\ (True /\ True /\ True) /\ (k + 1 + 1 + (2 * (4 - p3.2.1.toNat)) + 1 + 1 + 1 <= k + 13)))) (True /\ (TF /\ TF) /\ ((⟨([] : List GFact), p3.2.2⟩ : GAsn).facts.length <= 1 /\ (⟨([] : List GFact), p3.2.2⟩ : GAsn).atoms.length <= 4) /\ ((((7 : Nat) ≠ 8) /\ True) /\ True /\ True) /\ ((TF /\ TF) /\ (TF /\ TF) /\ True) /\ True /\ (True /\ True /\ True) /\ (k + 1 + 1 + (2 * (4 - p3.2.1.toNat)) + 1 <= k + 13))))))))
def VC_l6Chains (rr : Unit) (k : Nat) : Prop := (TN /\ TN /\ TN /\ True) /\ (TN /\ TN /\ True) /\ (TN /\ TN /\ TN /\ True) /\ (TF /\ TF) /\ True /\ (TN /\ True) /\ (VC_l6Chains_1 /\ (k + 1 <= 1099511627776) /\ True) /\ (∀ r1 : Int × Unit, (r1.1 ∈ ([(1 : Int), (2 : Int), (5 : Int)] : List Int)) -> True /\ True /\ (TN /\ True) /\ ((0 < ([(2 : Int), (3 : Int), (1 : Int), (4 : Int)] : List Int).length /\ ([(2 : Int), (3 : Int), (1 : Int), (4 : Int)] : List Int).length <= 1000) /\ (k + 1 + 1 <= 1099511627776) /\ True) /\ (∀ r2 : Int × Unit, (r2.1 ∈ ([(2 : Int), (3 : Int), (1 : Int), (4 : Int)] : List Int)) -> True /\ (VC_l6Chains_4 r1 r2 k)))
theorem vcn_l6Chains (rr : Unit) (k : Nat) (hk : k + (13) <= 1099511627776) : VC_l6Chains rr k := by
 unfold VC_l6Chains VC_l6Chains_4 VC_l6Chains_3 VC_l6Chains_2 VC_l6Chains_1
 simp only [cln, Nat.reduceEqDiff, Nat.reduceLeDiff, Nat.reduceAdd]
 all_goals (try simp only [opn])
 all_goals (repeat' (first | apply And.intro | intro _))
 all_goals (repeat (cases ‹_ /\ _›))
 all_goals (first | (exfalso; contradiction) | omega | with_reducible assumption | with_reducible rfl | skip)
 all_goals (try simp only [List.length_append, List.length_cons, List.length_nil, List.length_set, List.length_take, List.length_drop, List.mem_cons, List.mem_nil_iff, or_false] at *)
 all_goals (first
  | omega
  | (rcases ‹_ ∨ _› with h | h | h | h <;> omega)
  | exact Nat.le_trans fcL_len.1 ‹_› | exact Nat.le_trans fcL_len.2 ‹_›
  | grind [asV, fsV])
theorem ok_l6Chains : FnOk Try.prog E 76 c_l6Chains :=
 fn_okQ (l := L_l6Chains) (lp := P_l6Chains) (hp := fun _ => false) (gcs := fun _ => none) (perm := fun _ => []) tabOk mix ⟨ok_pick, ok_num, trivial⟩ trivial Try.func76 rfl (by kernel_rfl) (by decide) (by kernel_rfl) (anns := fun x _ => an_l6Chains x.1) (fun ⟨rr, _⟩ k _ hk => Eq.mp (by kernel_rfl) (vcn_l6Chains rr k (hk rfl))) (fun _ _ => ⟨((⟨[], []⟩ : GAsn), ()), ⟨Nat.zero_le _, Nat.zero_le _⟩⟩)
abbrev c_DrawFoldCells : Con := ⟨[.sl .u8], [.asn], fun _ => True, .inr fun (code, _) r => r.1.facts.length <= 40 /\ r.1.atoms.length <= 40, fun (code, _) => 27⟩
abbrev L_DrawFoldCells : List (FuncId × Con) := [(54, c_l3Mutate), (76, c_l6Chains)]
abbrev P_DrawFoldCells : List (FuncId × PT) := []
def VC_DrawFoldCells (code : List UInt8) (k : Nat) : Prop := (TN /\ TN /\ TN /\ True) /\ (((4 : Nat) < 10) /\ ((5 : Nat) < 10) /\ ((3 : Nat) < 10) /\ ((4 : Nat) ≠ 0)) /\ ((none : Option Nat) = none) /\ TT /\ TT /\ True /\ True /\ True /\ (True /\ (0 + 13 <= 1099511627776) /\ TN /\ TN /\ True) /\ (∀ r1 : GAsn × Unit, (r1.1.facts.length <= 1 /\ r1.1.atoms.length <= 4) -> ((r1.1.facts.length <= 100000 /\ r1.1.atoms.length <= 100000) /\ (0 + 13 + 4 <= 1099511627776) /\ TN /\ TN /\ True) /\ (∀ r2 : GAsn × Unit, (r2.1.facts.length <= r1.1.facts.length + 14 /\ r2.1.atoms.length <= r1.1.atoms.length + 7) -> (TF /\ TF) /\ (r2.1.facts.length <= 40 /\ r2.1.atoms.length <= 40) /\ ((((144 : Nat) ≠ 145) /\ True) /\ True /\ True) /\ ((TF /\ TF) /\ (TF /\ TF) /\ True) /\ True /\ (True /\ True /\ True) /\ (0 + 13 + 4 <= 0 + 27)))
theorem vcn_DrawFoldCells (code : List UInt8) (k : Nat) : VC_DrawFoldCells code k := by
 unfold VC_DrawFoldCells
 simp only [cln, Nat.reduceEqDiff, Nat.reduceLeDiff, Nat.reduceAdd]
 all_goals (try simp only [opn])
 all_goals (repeat' (first | apply And.intro | intro _))
 all_goals (repeat (cases ‹_ /\ _›))
 all_goals (first | (exfalso; contradiction) | omega | with_reducible assumption | with_reducible rfl | skip)
 all_goals (try simp only [List.length_append, List.length_cons, List.length_nil, List.length_set, List.length_take, List.length_drop, List.mem_cons, List.mem_nil_iff, or_false] at *)
 all_goals (first
  | omega
  | (rcases ‹_ ∨ _› with h | h | h | h <;> omega)
  | exact Nat.le_trans fcL_len.1 ‹_› | exact Nat.le_trans fcL_len.2 ‹_›
  | grind [asV, fsV])
theorem ok_DrawFoldCells : FnOk Try.prog E 47 c_DrawFoldCells :=
 draw_fnQ (hp := fun _ => false) (perm := fun _ => []) (gl := ([0, 2], [32, 33, 47])) tabOk mix (kall_of (l := L_DrawFoldCells) ⟨ok_l3Mutate, ok_l6Chains, trivial⟩) (pall_of (l := P_DrawFoldCells) trivial) open_l18Open fn_l18Open Try.func47 rfl (by kernel_rfl) (by decide) (by kernel_rfl) rfl rfl (anns := fun x => fun _ _ => none) (fun ⟨code, _⟩ _ => Eq.mp (by kernel_rfl) (vcn_DrawFoldCells code 0)) (fun _ _ => ⟨((⟨[], []⟩ : GAsn), ()), ⟨Nat.zero_le _, Nat.zero_le _⟩⟩)
abbrev c_l1Is : Con := ⟨[.int], [.bool], fun _ => True, .inl fun (t, _) => (isT t, ()), fun _ => 0⟩
abbrev L_l1Is : List (FuncId × Con) := []
abbrev P_l1Is : List (FuncId × PT) := []
def VC_l1Is (t : Int) (k : Nat) : Prop := True /\ True /\ True /\ True /\ (vcIf (decide ((0 : Int) <= t)) (True /\ True /\ True /\ True /\ (((decide (t <= (8 : Int)), ()) : Bool × Unit) = (isT t, ())) /\ True /\ True /\ True /\ True /\ TF) (True /\ True /\ (((false, ()) : Bool × Unit) = (isT t, ())) /\ True /\ True /\ True /\ True /\ TF))
theorem vcn_l1Is (t : Int) (k : Nat) : VC_l1Is t k := by
 unfold VC_l1Is
 simp only [cln, Nat.reduceEqDiff, Nat.reduceLeDiff, Nat.reduceAdd]
 cases h : decide (0 <= t) <;> simp [vcIf, isT, h]
theorem ok_l1Is : FnOk Try.prog E 140 c_l1Is :=
 fn_okQ (l := L_l1Is) (lp := P_l1Is) (hp := fun _ => false) (gcs := fun _ => none) (perm := fun _ => []) tabOk mix trivial trivial Try.func140 rfl (by kernel_rfl) (by decide) (by kernel_rfl) (anns := fun x _ => fun _ _ => none) (fun ⟨t, _⟩ k _ _ => Eq.mp (by kernel_rfl) (vcn_l1Is t k)) tot_fn
abbrev c_l3Atom : Con := ⟨[.atom], [.bool], fun _ => True, .inl fun (x, _) => (atV x, ()), fun _ => 0⟩
abbrev L_l3Atom : List (FuncId × Con) := [(140, c_l1Is)]
abbrev P_l3Atom : List (FuncId × PT) := []
def VC_l3Atom_1 (x : GAtom) : Prop := True /\ True /\ (((false, ()) : Bool × Unit) = (atV x, ())) /\ True /\ True /\ True /\ True /\ TF
def VC_l3Atom_2 (x : GAtom) : Prop := True /\ True /\ (True /\ True /\ True) /\ True /\ True /\ (vcIf (isT x.a) (True /\ True /\ (True /\ True /\ True) /\ True /\ True /\ ((((isT x.b), ()) : Bool × Unit) = (atV x, ())) /\ True /\ True /\ True /\ True /\ TF) (VC_l3Atom_1 x))
def VC_l3Atom (x : GAtom) (k : Nat) : Prop := TN /\ True /\ True /\ True /\ True /\ True /\ (vcIf (x.kind == (1 : Int)) (True /\ True /\ (VC_l3Atom_2 x)) (True /\ True /\ True /\ True /\ True /\ (vcIf (x.kind == (2 : Int)) (VC_l3Atom_2 x) (True /\ True /\ (VC_l3Atom_1 x)))))
theorem vcn_l3Atom (x : GAtom) (k : Nat) : VC_l3Atom x k := by
 unfold VC_l3Atom VC_l3Atom_2 VC_l3Atom_1
 simp only [cln, Nat.reduceEqDiff, Nat.reduceLeDiff, Nat.reduceAdd]
 all_goals (try simp only [opn])
 all_goals (repeat' (first | apply And.intro | intro _))
 all_goals (first | omega | (simp_all; done) | grind [atV])
theorem ok_l3Atom : FnOk Try.prog E 111 c_l3Atom :=
 fn_okQ (l := L_l3Atom) (lp := P_l3Atom) (hp := fun _ => false) (gcs := fun _ => none) (perm := fun _ => []) tabOk mix ⟨ok_l1Is, trivial⟩ trivial Try.func111 rfl (by kernel_rfl) (by decide) (by kernel_rfl) (anns := fun x _ => fun _ _ => none) (fun ⟨x, _⟩ k _ _ => Eq.mp (by kernel_rfl) (vcn_l3Atom x k)) tot_fn
abbrev c_sFactValid : Con := ⟨[.fact], [.bool], fun _ => True, .inl fun (f, _) => (fV f, ()), fun _ => 0⟩
abbrev L_sFactValid : List (FuncId × Con) := [(140, c_l1Is)]
abbrev P_sFactValid : List (FuncId × PT) := []
def VC_sFactValid (f : GFact) (k : Nat) : Prop := TN /\ True /\ True /\ True /\ (True /\ True /\ True) /\ True /\ (vcIf (isT f.a) (True /\ True /\ (True /\ True /\ True) /\ True /\ True /\ ((((isT f.b), ()) : Bool × Unit) = (fV f, ())) /\ True /\ True /\ True /\ True /\ TF) (True /\ True /\ (((false, ()) : Bool × Unit) = (fV f, ())) /\ True /\ True /\ True /\ True /\ TF))
theorem vcn_sFactValid (f : GFact) (k : Nat) : VC_sFactValid f k := by
 unfold VC_sFactValid
 simp only [cln, Nat.reduceEqDiff, Nat.reduceLeDiff, Nat.reduceAdd]
 cases h : isT f.a <;> simp [vcIf, fV, h]
theorem ok_sFactValid : FnOk Try.prog E 91 c_sFactValid :=
 fn_okQ (l := L_sFactValid) (lp := P_sFactValid) (hp := fun _ => false) (gcs := fun _ => none) (perm := fun _ => []) tabOk mix ⟨ok_l1Is, trivial⟩ trivial Try.func91 rfl (by kernel_rfl) (by decide) (by kernel_rfl) (anns := fun x _ => fun _ _ => none) (fun ⟨f, _⟩ k _ _ => Eq.mp (by kernel_rfl) (vcn_sFactValid f k)) tot_fn
abbrev c_sFactsValid : Con := ⟨[.sl .fact], [.bool], fun (l, _) => l.length <= 281474976710656, .inl fun (l, _) => (fsV l, ()), fun _ => 0⟩
abbrev L_sFactsValid : List (FuncId × Con) := [(91, c_sFactValid)]
abbrev P_sFactsValid : List (FuncId × PT) := []
def an_sFactsValid (l : List GFact) : Nat -> St -> Option Ann
 | 2, se => some { α := Nat, ok := fun i => i <= l.length /\ (l.take i).all fV = true, mu := fun i => l.length - i, i0 := fun _ => 0, nx := fun a _ => (fun i => i + 1) a, live := [0], sets := fun i => [(3, sv (.int .i64 i))], mids := [], blks := fun i => [], owns := fun i => [], rd := fun r _ => r, base := 100000 }
 | _, _ => none
def VC_sFactsValid (l : List GFact) (k : Nat) : Prop := True /\ True /\ ((0 <= l.length /\ (l.take 0).all fV = true) /\ TT /\ (RL [.s (.c (.d (.arr .fact l)))]) /\ (([.s (.c (.d (.val (.int .i64 (0 : Int)))))] : List S) = [.s (.c (.d (.val (.int .i64 ((0 : Nat) : Int)))))]) /\ (RM []) /\ (RM []) /\ True /\ TT) /\ (∀ i1 : Nat, (i1 <= l.length /\ (l.take i1).all fV = true) -> True /\ True /\ True /\ True /\ (vcIf (decide (((i1 : Nat) : Int) < ((l.length : Nat) : Int))) (True /\ True /\ (0 <= ((i1 : Nat) : Int) /\ ((i1 : Nat) : Int) < ((l.length : Nat) : Int)) /\ True /\ (True /\ True /\ True) /\ True /\ (vcIf (!(fV (l.getD i1 (⟨false, 0, 0⟩ : GFact)))) (True /\ (((false, ()) : Bool × Unit) = (fsV l, ())) /\ True /\ True /\ True /\ True /\ TF) (True /\ (inK .i64 (((i1 : Nat) : Int) + (1 : Int))) /\ True /\ ((i1 + 1) <= l.length /\ (l.take (i1 + 1)).all fV = true) /\ (l.length - (i1 + 1) < l.length - i1) /\ TT /\ (RL [.s (.c (.d (.arr .fact l)))]) /\ (([.s (.c (.d (.val (.int .i64 (((i1 : Nat) : Int) + (1 : Int))))))] : List S) = [.s (.c (.d (.val (.int .i64 (((i1 + 1) : Nat) : Int)))))]) /\ (RM []) /\ (RM []) /\ True /\ TT))) (True /\ True /\ True /\ True /\ (((decide (((l.length : Nat) : Int) <= (12 : Int)), ()) : Bool × Unit) = (fsV l, ())) /\ True /\ True /\ True /\ True /\ TF)))
theorem vcn_sFactsValid (l : List GFact) (k : Nat) (hp : l.length <= 281474976710656) : VC_sFactsValid l k := by
 unfold VC_sFactsValid
 simp only [cln, Nat.reduceEqDiff, Nat.reduceLeDiff, Nat.reduceAdd]
 all_goals (try simp only [opn])
 all_goals (repeat' (first | apply And.intro | intro _))
 all_goals (first | omega | (simp_all; done) | grind [fsV, take_all, all_take, take_full, Ty.zero])
theorem ok_sFactsValid : FnOk Try.prog E 112 c_sFactsValid :=
 fn_okQ (l := L_sFactsValid) (lp := P_sFactsValid) (hp := fun _ => false) (gcs := fun _ => none) (perm := fun _ => []) tabOk mix ⟨ok_sFactValid, trivial⟩ trivial Try.func112 rfl (by kernel_rfl) (by decide) (by kernel_rfl) (anns := fun x _ => an_sFactsValid x.1) (fun ⟨l, _⟩ k hp _ => Eq.mp (by kernel_rfl) (vcn_sFactsValid l k hp)) tot_fn
end Go.Proofs.Ytfoioficiffgkaa
