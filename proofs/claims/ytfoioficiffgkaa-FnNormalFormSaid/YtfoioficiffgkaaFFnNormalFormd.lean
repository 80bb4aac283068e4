/-
  Contracts of single functions of the program, each shown by the engine: what a call returns for arguments within the contract's bounds.
-/
import Derived.Test.YtfoioficiffgkaaFFnNormalForma
import Derived.Test.YtfoioficiffgkaaEe
import Derived.Test.YtfoioficiffgkaaEf
set_option linter.unusedSimpArgs false
set_option linter.unusedVariables false
set_option linter.unusedSectionVars false

namespace Go.Proofs.Ytfoioficiffgkaa
open Go.SE Go.RowKit
set_option linter.unusedSimpArgs false
set_option linter.unusedVariables false
set_option maxHeartbeats 1000000
set_option maxRecDepth 100000
/-! l2Blank -/
abbrev c_l2Blank : Con := ⟨[], [.state], fun _ => True, .inl fun _ => (⟨List.replicate 8 0, List.replicate 8 (-1)⟩, ()), fun _ => 0⟩
abbrev L_l2Blank : List (FuncId × Con) := []
def an_l2Blank  : Nat → Option Ann
  | 3 => some { α := Nat, ok := fun i => i ≤ 8, mu := fun i => 8 - i, i0 := fun _ => 0, nx := fun a _ => (fun i => i + 1) a, live := [0, 1], sets := fun i => [(2, sv (.int .i64 i))], mids := [15, 0, 1], blks := fun i => [(31, .blk [.own 7, .own 8])], owns := fun i => [⟨7, .cell 31 0, .int, List.replicate i 0⟩, ⟨8, .cell 31 1, .int, []⟩], rd := fun r _ => r, base := 100000 }
  | 7 => some { α := Nat, ok := fun i => i ≤ 8, mu := fun i => 8 - i, i0 := fun _ => 0, nx := fun a _ => (fun i => i + 1) a, live := [0, 1], sets := fun i => [(3, sv (.int .i64 i))], mids := [15, 0, 1], blks := fun i => [(31, .blk [.own 7, .own 8])], owns := fun i => [⟨7, .cell 31 0, .int, List.replicate 8 0⟩, ⟨8, .cell 31 1, .int, List.replicate i (-1)⟩], rd := fun r _ => r, base := 200000 }
  | _ => none
theorem vc_l2Blank  (k : Nat) : vc tab (lookF L_l2Blank) (an_l2Blank ) (fun _ => []) (bodyOf Try.f145) (entry (encs c_l2Blank.aks ()) (rdOf false k)) (retOk tab c_l2Blank Try.f145.results.toList () k) := by
  dsimp only [bodyOf, Try.f145, rdOf]
  simp (maxSteps := 10000000) only [c_l2Blank, L_l2Blank, an_l2Blank, SE.lookF, tab2, tab3, tab4, tab5, tab7, tab9, tab12, tab13, tab21, tab22, tab23, tab24, tab25, tab26, tab31, tab32, tab33, tab41, tab42, tab43, tab44, tab55, tab56, tab60, tab61, tab81, tab82, tab86, tab87, tab94, tab99, tab101, tab130, tab131, tab144, tab146, tab148, tab149, tab150, tab178, tab190, SE.entry, SE.envOf, SE.rdOf, Option.get_some, SE.vc, SE.vcReg, SE.vcLoop, SE.condK, SE.seqK, SE.blockK, SE.vcOps, SE.vcStep, SE.vcOp, SE.vcTr, SE.vcDet_some, SE.vcDet_none, SE.vcIf_true, SE.vcIf_false, SE.vcEach, SE.pickOps, SE.gslot, SE.trOp, SE.moveId, SE.trMove, SE.trPick, SE.trAlloc, SE.trBox, SE.trBuild, SE.trBuildSlice, SE.trLoad, SE.trStore, SE.trNilCheck, SE.trBin, SE.trUn, SE.trConvert, SE.trFieldAddr, SE.trField, SE.trIndexAddr, SE.trIndex, SE.trSlice, SE.trMakeSlice, SE.trExtract, SE.trLen, SE.trAppend, SE.trCopy, SE.trFn, SE.trCall, SE.argsS, SE.ev, SE.constS, SE.junk, SE.sv, SE.upd_app, SE.adds, SE.sets, SE.nid, SE.St.app, SE.St.put, SE.free, SE.freeL, SE.allFree, SE.rids, SE.AK.rids, SE.castL, SE.rdl, SE.AK.dec, SE.decs, SE.AK.enc, SE.encs, SE.AK.res, SE.ress, SE.pack1, SE.zcells, SE.zeroOf, SE.partCells, SE.putc, SE.fills, SE.datas, SE.elemOf, SE.elemsOf, SE.notSpent, SE.cellsAt, SE.weak, SE.dcellsAt, SE.slAt, SE.rdPlus, SE.intAt, SE.updElem, SE.kill, SE.noJunk, SE.inK, SE.binI, SE.shf, SE.isShift, SE.eqCells, SE.aggS, SE.intOp, SE.nested, SE.hasRdr, SE.refsC, SE.refsCs, SE.ownsC, SE.refsAr, SE.rdFits, SE.costIf, SE.Con.post, SE.Con.det, SE.Ty.cells, SE.Ty.sz, SE.Ty.zero, SE.Ty.flat, SE.Ty.dec, SE.retOk, SE.loadsS, SE.loadS, SE.decRs, SE.decR, SE.outC, SE.rdC, SE.allDiff, SE.notIn, SE.notFrozen, SE.apartL, SE.rdEnd, SE.firstReg, SE.headC, SE.fitsC, SE.idsC, SE.keepE, SE.keepM, SE.keepB, SE.inL, SE.puts, SE.ownRes, SE.ownEnv, SE.renL, SE.srcId, SE.lookR, SE.envSame, SE.envSets, SE.memSame, SE.memBlks, SE.memOwns, SE.famsOf, SE.allIn, SE.closedE, SE.closedV, SE.closedM, SE.closedR, SE.rdLe, SE.S.refs, SE.S0.refs, SE.CV.refs, SE.refsL, SE.refsT, SE.S.ren, SE.S0.ren, SE.CV.ren, SE.Res.refs, SE.Res.ren, min_i64, max_i64, min_u16, max_u16, min_u8, max_u8, min_u64, max_u64, S.s.injEq, S0.c.injEq, CV.d.injEq, DC.val.injEq, Value.int.injEq, Value.bool.injEq, Value.string.injEq, eta_fact, eta_atom, eta_asn, eta_state, List.mem_cons, List.mem_nil_iff, or_false, false_or, or_true, true_or, Option.map_some, Option.map_none, Option.bind_some, Option.getD_some, Option.getD_none, Nat.reduceEqDiff, Nat.reduceAdd, Nat.reduceMul, Nat.reduceLeDiff, ↓reduceIte, reduceCtorEq, true_and, and_true, and_self, forall_const, implies_true, true_implies, List.getElem?_toArray, List.getElem?_cons_succ, List.getElem?_cons_zero, List.append_nil, List.nil_append, List.cons_append, List.length_cons, List.length_nil, List.take_succ_cons, List.take_zero, List.drop_succ_cons, List.drop_zero, List.set_cons_zero, List.set_cons_succ, List.map_cons, List.map_nil, Nat.add_zero, Nat.zero_add, forall_eq, Prod.forall, Bool.not_true, Bool.not_false, Nat.lt_irrefl, Nat.zero_lt_succ, List.singleton_append, Prod.mk.injEq, Nat.zero_mul, Nat.one_mul, Nat.reducePow, Option.some.injEq, not_false_eq_true, Int.toNat_natCast, Nat.sub_zero, Nat.le_refl, Bool.or_false, Bool.false_or, Bool.or_true, Bool.true_or, Bool.and_true, Bool.true_and, Bool.and_false, Bool.false_and, Bool.or_self, Bool.and_self, List.append_eq, and_false, false_and]
  all_goals (try simp only [vcIf_iff, decide_eq_true_eq, decide_eq_false_iff_not, bne_iff_ne, ne_eq, beq_iff_eq, beq_eq_false_iff_ne, bne_eq_false_iff_eq, Bool.not_eq_true', Bool.not_eq_false', Int.ofNat_lt, Int.natCast_inj])
  all_goals (repeat' (first | apply And.intro | intro _))
  all_goals (first | omega | (simp_all; done) | grind [List.replicate_succ'])
theorem ok_l2Blank : FnOk Try.prog E 145 c_l2Blank :=
  fn_ok (l := L_l2Blank) (perm := fun _ => []) tabOk mix trivial Try.func145 rfl (by kernel_rfl) (by decide) (by kernel_rfl) (anns := fun x _ => an_l2Blank ) (fun _ k _ _ => vc_l2Blank  k) tot_fn
end Go.Proofs.Ytfoioficiffgkaa

namespace Go.Proofs.Ytfoioficiffgkaa
open Go.SE Go.RowKit
set_option linter.unusedSimpArgs false
set_option linter.unusedVariables false
set_option maxHeartbeats 1000000
set_option maxRecDepth 100000

/-! l4Value -/
abbrev L_l4Value : List (FuncId × Con) := []
abbrev P_l4Value : List (FuncId × PT) := []
abbrev pt_l4Value : PT := inl tab (lookF L_l4Value) (lookP P_l4Value) (fun _ => false) (fun _ _ => none) (fun _ _ _ _ => none) (fun _ => []) Try.f146.ntmps (bodyOf Try.f146) Try.f146.results.toList
theorem ptok_l4Value : PTOk Try.prog E 146 pt_l4Value :=
  pt_ok (l := L_l4Value) (lp := P_l4Value) tabOk mix trivial trivial Try.func146 rfl (by kernel_rfl) (by kernel_rfl)
end Go.Proofs.Ytfoioficiffgkaa

namespace Go.Proofs.Ytfoioficiffgkaa
open Go.SE Go.RowKit
set_option linter.unusedSimpArgs false
set_option linter.unusedVariables false
set_option maxHeartbeats 1000000
set_option maxRecDepth 100000
/-! l1Value -/
abbrev c_l1Value : Con := ⟨[.sl .int, .int], [.int], fun (l, t, _) => l.length = 8 ∧ isT t = true, .inl fun (l, t, _) => (tv l t, ()), fun _ => 0⟩
abbrev L_l1Value : List (FuncId × Con) := []
abbrev P_l1Value : List (FuncId × PT) := []
def VC_l1Value (l : List Int) (t : Int) (k : Nat) : Prop := True ∧ True ∧ True ∧ (vcIf (t == (0 : Int)) (True ∧ ((((0 : Int), ()) : Int × Unit) = (tv l t, ())) ∧ True ∧ True ∧ True ∧ True ∧ TF) (True ∧ True ∧ (inK .i64 (t - (1 : Int))) ∧ (0 ≤ (t - (1 : Int)) ∧ (t - (1 : Int)) < ((l.length : Nat) : Int)) ∧ True ∧ True ∧ ((((l.getD (t - (1 : Int)).toNat (0 : Int)), ()) : Int × Unit) = (tv l t, ())) ∧ True ∧ True ∧ True ∧ True ∧ TF))
theorem vcn_l1Value (l : List Int) (t : Int) (k : Nat) (hp : l.length = 8 ∧ isT t = true) : VC_l1Value l t k := by
  unfold VC_l1Value
  simp only [cln, Nat.reduceEqDiff, Nat.reduceLeDiff, Nat.reduceAdd]
  have h := isT_iff.1 hp.2
  by_cases h0 : t = 0 <;> simp [vcIf, tv, h0, inK_i64] <;> omega
theorem vce_l1Value (l : List Int) (t : Int) (k : Nat) : VC_l1Value l t k = vcQ tab (lookF L_l1Value) (lookP P_l1Value) (fun _ => false) (fun _ => none) (fun _ _ => none) (fun _ => []) (bodyOf Try.f147) (entry (encs c_l1Value.aks (l, t, ())) (rdOf false k)) (retOk tab c_l1Value Try.f147.results.toList (l, t, ()) k) := by kernel_rfl
theorem ok_l1Value : FnOk Try.prog E 147 c_l1Value :=
  fn_okQ (l := L_l1Value) (lp := P_l1Value) (hp := fun _ => false) (gcs := fun _ => none) (perm := fun _ => []) tabOk mix trivial trivial Try.func147 rfl (by kernel_rfl) (by decide) (by kernel_rfl) (anns := fun x _ => fun _ _ => none) (fun ⟨l, t, _⟩ k hp _ => (vce_l1Value l t k).mp (vcn_l1Value l t k hp)) tot_fn
end Go.Proofs.Ytfoioficiffgkaa

namespace Go.Proofs.Ytfoioficiffgkaa
open Go.SE Go.RowKit
set_option linter.unusedSimpArgs false
set_option linter.unusedVariables false
set_option maxHeartbeats 1000000
set_option maxRecDepth 100000
/-! l4Known -/
abbrev c_l4Known : Con := ⟨[.state, .int], [.bool], fun (s, n, _) => s.vals.length ≤ 281474976710656 ∧ s.heap.length ≤ 281474976710656, .inl fun (s, n, _) => (s.vals.contains n, ()), fun _ => 0⟩
abbrev L_l4Known : List (FuncId × Con) := []
abbrev P_l4Known : List (FuncId × PT) := []
def an_l4Known (s : GState) (n : Int) : Nat → St → Option Ann
  | 2, se => some { α := Nat, ok := fun i => i ≤ s.vals.length ∧ (s.vals.take i).contains n = false, mu := fun i => s.vals.length - i, i0 := fun _ => 0, nx := fun a _ => (fun i => i + 1) a, live := [1, 2], sets := fun i => [(5, sv (.int .i64 i))], mids := [47], blks := fun i => [], owns := fun i => [], rd := fun r _ => r, base := 100000 }
  | _, _ => none
def VC_l4Known (s : GState) (n : Int) (k : Nat) : Prop := TN ∧ True ∧ True ∧ ((0 ≤ s.vals.length ∧ (s.vals.take 0).contains n = false) ∧ TT ∧ (RL [.s (.c (.d (.val (.int .i64 n)))), .s (.c (.ptr 47 0))]) ∧ (([.s (.c (.d (.val (.int .i64 (0 : Int)))))] : List S) = [.s (.c (.d (.val (.int .i64 ((0 : Nat) : Int)))))]) ∧ (RM [some (.blk [.d (.arr .int s.vals), .d (.arr .int s.heap)])]) ∧ (RM []) ∧ True ∧ TT) ∧ (∀ i1 : Nat, (i1 ≤ s.vals.length ∧ (s.vals.take i1).contains n = false) → True ∧ True ∧ True ∧ True ∧ True ∧ (vcIf (decide (((i1 : Nat) : Int) < ((s.vals.length : Nat) : Int))) (True ∧ True ∧ True ∧ (0 ≤ ((i1 : Nat) : Int) ∧ ((i1 : Nat) : Int) < ((s.vals.length : Nat) : Int)) ∧ True ∧ True ∧ True ∧ (vcIf ((s.vals.getD i1 (0 : Int)) == n) (True ∧ (((true, ()) : Bool × Unit) = (s.vals.contains n, ())) ∧ True ∧ True ∧ True ∧ True ∧ TF) (True ∧ (inK .i64 (((i1 : Nat) : Int) + (1 : Int))) ∧ True ∧ ((i1 + 1) ≤ s.vals.length ∧ (s.vals.take (i1 + 1)).contains n = false) ∧ (s.vals.length - (i1 + 1) < s.vals.length - i1) ∧ TT ∧ (RL [.s (.c (.d (.val (.int .i64 n)))), .s (.c (.ptr 47 0))]) ∧ (([.s (.c (.d (.val (.int .i64 (((i1 : Nat) : Int) + (1 : Int))))))] : List S) = [.s (.c (.d (.val (.int .i64 (((i1 + 1) : Nat) : Int)))))]) ∧ (RM [some (.blk [.d (.arr .int s.vals), .d (.arr .int s.heap)])]) ∧ (RM []) ∧ True ∧ TT))) (True ∧ (((false, ()) : Bool × Unit) = (s.vals.contains n, ())) ∧ True ∧ True ∧ True ∧ True ∧ TF)))
theorem vcn_l4Known (s : GState) (n : Int) (k : Nat) (hp : s.vals.length ≤ 281474976710656 ∧ s.heap.length ≤ 281474976710656) : VC_l4Known s n k := by
  unfold VC_l4Known
  simp only [cln, Nat.reduceEqDiff, Nat.reduceLeDiff, Nat.reduceAdd]
  all_goals (try simp only [opn])
  all_goals (repeat' (first | apply And.intro | intro _))
  all_goals (repeat (cases ‹_ ∧ _›))
  all_goals (first | omega | assumption | (simp_all; done) | grind [has_step, has_get, take_full])
theorem vce_l4Known (s : GState) (n : Int) (k : Nat) : VC_l4Known s n k = vcQ tab (lookF L_l4Known) (lookP P_l4Known) (fun _ => false) (fun _ => none) (an_l4Known s n) (fun _ => []) (bodyOf Try.f148) (entry (encs c_l4Known.aks (s, n, ())) (rdOf false k)) (retOk tab c_l4Known Try.f148.results.toList (s, n, ()) k) := by kernel_rfl
theorem ok_l4Known : FnOk Try.prog E 148 c_l4Known :=
  fn_okQ (l := L_l4Known) (lp := P_l4Known) (hp := fun _ => false) (gcs := fun _ => none) (perm := fun _ => []) tabOk mix trivial trivial Try.func148 rfl (by kernel_rfl) (by decide) (by kernel_rfl) (anns := fun x _ => an_l4Known x.1 x.2.1) (fun ⟨s, n, _⟩ k hp _ => (vce_l4Known s n k).mp (vcn_l4Known s n k hp)) tot_fn
end Go.Proofs.Ytfoioficiffgkaa
