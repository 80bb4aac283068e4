/-
  Contracts of single functions of the program, each shown by the engine: what a call returns for arguments within the contract's bounds.
-/
import Derived.Test.YtfoioficiffgkaaFFnNormalForma
import Derived.Test.YtfoioficiffgkaaFFnNormalFormd
import Derived.Test.YtfoioficiffgkaaEe
import Derived.Test.YtfoioficiffgkaaFFnNormalForme
import Derived.Test.YtfoioficiffgkaaEf
import Derived.Test.YtfoioficiffgkaaEg
set_option linter.unusedSimpArgs false
set_option linter.unusedVariables false
set_option linter.unusedSectionVars false

namespace Go.Proofs.Ytfoioficiffgkaa
open Go.SE Go.RowKit
set_option linter.unusedSimpArgs false
set_option linter.unusedVariables false
set_option maxHeartbeats 1000000
set_option maxRecDepth 100000
/-! l2Draw -/
abbrev c_l2Draw : Con := ⟨[.rdr], [.state], fun _ => True, .inr fun (rr, _) r => r.1.vals.length = 8 ∧ r.1.heap.length = 8, fun (rr, _) => 25⟩
abbrev L_l2Draw : List (FuncId × Con) := [(53, c_pick), (84, c_num), (145, c_l2Blank)]
abbrev P_l2Draw : List (FuncId × PT) := []
def an_l2Draw (rr : Unit) : Nat → St → Option Ann
  | 3, se => some { α := Nat × List Int, ok := fun a => a.1 ≤ 8 ∧ a.2.length = 8, mu := fun a => 8 - a.1, i0 := fun _ => (0, List.replicate 8 0), nx := fun a st => (a.1 + 1, slAt .int st (.cell 63 0)), live := [0, 2, 3], sets := fun a => [(4, sv (.int .i64 a.1))], mids := [32, 33, 47], blks := fun a => [(63, .blk [.own 7, .own 8])], owns := fun a => [⟨7, .cell 63 0, .int, a.2⟩, ⟨8, .cell 63 1, .int, List.replicate 8 (-1)⟩], rd := fun r a => rdPlus r a.1, base := 100000 }
  | 7, se => some { α := Int × List Int × List Int, ok := fun a => 0 ≤ a.1 ∧ a.1 ≤ 8 ∧ a.2.1.length = 8 ∧ a.2.2.length = 8, mu := fun a => a.1.toNat, i0 := fun st => (intAt st 5, slAt .int st (.cell 63 0), slAt .int st (.cell 63 1)), nx := fun a st => (a.1 - 1, a.2.1, slAt .int st (.cell 63 1)), live := [0, 2, 3], sets := fun a => [(5, sv (.int .i64 a.1))], mids := [32, 33, 47], blks := fun a => [(63, .blk [.own 7, .own 8])], owns := fun a => [⟨7, .cell 63 0, .int, a.2.1⟩, ⟨8, .cell 63 1, .int, a.2.2⟩], rd := fun r a => rdPlus r (2 * (8 - a.1.toNat)), base := 200000 }
  | _, _ => none
def VC_l2Draw_1 (rr : Unit) (k : Nat) (a1 : Nat × List Int) (r3 : Int × Unit) : Prop := (((0 ≤ (r3.1, a1.2, (List.replicate 8 (-1))).1 ∧ (r3.1, a1.2, (List.replicate 8 (-1))).1 ≤ 8 ∧ (r3.1, a1.2, (List.replicate 8 (-1))).2.1.length = 8 ∧ (r3.1, a1.2, (List.replicate 8 (-1))).2.2.length = 8) ∧ TT ∧ (RL [.s (.c (.rdr)), .s (.c (.ptr 47 0)), .s (.c (.ptr 63 0))]) ∧ (([.s (.c (.d (.val (.int .i64 r3.1))))] : List S) = [.s (.c (.d (.val (.int .i64 ((r3.1, a1.2, (List.replicate 8 (-1))).1 : Int)))))]) ∧ (RM [some (.sl 32 .int ([] : List Int)), some (.sl 33 .int ([] : List Int)), some (.blk [.own 32, .own 33])]) ∧ (RM [some (.blk [.own 7, .own 8])]) ∧ (((some a1.2 : Option (List Int)) = some ((r3.1, a1.2, (List.replicate 8 (-1))).2.1)) ∧ ((some (List.replicate 8 (-1)) : Option (List Int)) = some ((r3.1, a1.2, (List.replicate 8 (-1))).2.2)) ∧ True) ∧ (k + a1.1 + 1 ≤ k + a1.1 + 1 + (2 * (8 - (r3.1, a1.2, (List.replicate 8 (-1))).1.toNat)) ∧ k + a1.1 + 1 + (2 * (8 - (r3.1, a1.2, (List.replicate 8 (-1))).1.toNat)) ≤ 1099511627776)) ∧ (∀ a4 : Int × List Int × List Int, (0 ≤ a4.1 ∧ a4.1 ≤ 8 ∧ a4.2.1.length = 8 ∧ a4.2.2.length = 8) → True ∧ True ∧ (vcIf (decide ((0 : Int) < (a4.1 : Int))) (True ∧ True ∧ True ∧ (True ∧ (k + a1.1 + 1 + (2 * (8 - a4.1.toNat)) + 1 ≤ 1099511627776) ∧ True) ∧ (∀ r5 : Int × Unit, (pickP (8 : Int) r5.1) → True ∧ (TN ∧ True) ∧ ((0 < ([(0 : Int), (2 : Int), (3 : Int), (1 : Int), (4 : Int), (5 : Int)] : List Int).length ∧ ([(0 : Int), (2 : Int), (3 : Int), (1 : Int), (4 : Int), (5 : Int)] : List Int).length ≤ 1000) ∧ (k + a1.1 + 1 + (2 * (8 - a4.1.toNat)) + 1 + 1 ≤ 1099511627776) ∧ True) ∧ (∀ r6 : Int × Unit, (r6.1 ∈ ([(0 : Int), (2 : Int), (3 : Int), (1 : Int), (4 : Int), (5 : Int)] : List Int)) → (0 ≤ r5.1 ∧ r5.1 < ((a4.2.2.length : Nat) : Int)) ∧ (TF ∧ TF ∧ True ∧ ((8 : Nat) ∉ ([] : List Nat))) ∧ True ∧ (inK .i64 ((a4.1 : Int) - (1 : Int))) ∧ True ∧ (0 ≤ (a4.1 - 1, a4.2.1, (a4.2.2.set r5.1.toNat r6.1)).1 ∧ (a4.1 - 1, a4.2.1, (a4.2.2.set r5.1.toNat r6.1)).1 ≤ 8 ∧ (a4.1 - 1, a4.2.1, (a4.2.2.set r5.1.toNat r6.1)).2.1.length = 8 ∧ (a4.1 - 1, a4.2.1, (a4.2.2.set r5.1.toNat r6.1)).2.2.length = 8) ∧ ((a4.1 - 1, a4.2.1, (a4.2.2.set r5.1.toNat r6.1)).1.toNat < a4.1.toNat) ∧ TT ∧ (RL [.s (.c (.rdr)), .s (.c (.ptr 47 0)), .s (.c (.ptr 63 0))]) ∧ (([.s (.c (.d (.val (.int .i64 ((a4.1 : Int) - (1 : Int))))))] : List S) = [.s (.c (.d (.val (.int .i64 ((a4.1 - 1, a4.2.1, (a4.2.2.set r5.1.toNat r6.1)).1 : Int)))))]) ∧ (RM [some (.sl 32 .int ([] : List Int)), some (.sl 33 .int ([] : List Int)), some (.blk [.own 32, .own 33])]) ∧ (RM [some (.blk [.own 7, .own 8])]) ∧ (((some a4.2.1 : Option (List Int)) = some ((a4.1 - 1, a4.2.1, (a4.2.2.set r5.1.toNat r6.1)).2.1)) ∧ ((some (a4.2.2.set r5.1.toNat r6.1) : Option (List Int)) = some ((a4.1 - 1, a4.2.1, (a4.2.2.set r5.1.toNat r6.1)).2.2)) ∧ True) ∧ (k + a1.1 + 1 + (2 * (8 - a4.1.toNat)) + 1 + 1 ≤ k + a1.1 + 1 + (2 * (8 - (a4.1 - 1, a4.2.1, (a4.2.2.set r5.1.toNat r6.1)).1.toNat)) ∧ k + a1.1 + 1 + (2 * (8 - (a4.1 - 1, a4.2.1, (a4.2.2.set r5.1.toNat r6.1)).1.toNat)) ≤ 1099511627776)))) (True ∧ (TF ∧ TF) ∧ ((⟨a4.2.1, a4.2.2⟩ : GState).vals.length = 8 ∧ (⟨a4.2.1, a4.2.2⟩ : GState).heap.length = 8) ∧ ((((7 : Nat) ≠ 8) ∧ True) ∧ True ∧ True) ∧ ((TF ∧ TF) ∧ (TF ∧ TF) ∧ True) ∧ True ∧ (True ∧ True ∧ True) ∧ (k + a1.1 + 1 + (2 * (8 - a4.1.toNat)) ≤ k + 25)))))
def VC_l2Draw (rr : Unit) (k : Nat) : Prop := (TN ∧ TN ∧ TN ∧ True) ∧ (True ∧ True ∧ TN ∧ TN ∧ True) ∧ (TN ∧ TN ∧ TN ∧ True) ∧ (TF ∧ TF) ∧ True ∧ (((0, List.replicate 8 0).1 ≤ 8 ∧ (0, List.replicate 8 0).2.length = 8) ∧ TT ∧ (RL [.s (.c (.rdr)), .s (.c (.ptr 47 0)), .s (.c (.ptr 63 0))]) ∧ (([.s (.c (.d (.val (.int .i64 (0 : Int)))))] : List S) = [.s (.c (.d (.val (.int .i64 ((0, List.replicate 8 0).1 : Int)))))]) ∧ (RM [some (.sl 32 .int ([] : List Int)), some (.sl 33 .int ([] : List Int)), some (.blk [.own 32, .own 33])]) ∧ (RM [some (.blk [.own 96, .own 97])]) ∧ (((some (List.replicate 8 0) : Option (List Int)) = some ((0, List.replicate 8 0).2)) ∧ ((some (List.replicate 8 (-1)) : Option (List Int)) = some (List.replicate 8 (-1))) ∧ True) ∧ (k ≤ k + ((0, List.replicate 8 0).1) ∧ k + ((0, List.replicate 8 0).1) ≤ 1099511627776)) ∧ (∀ a1 : Nat × List Int, (a1.1 ≤ 8 ∧ a1.2.length = 8) → True ∧ True ∧ (vcIf (decide ((a1.1 : Int) < (8 : Int))) (True ∧ True ∧ True ∧ True ∧ (TN ∧ True) ∧ ((0 < ([(1 : Int), (2 : Int), (0 : Int), (3 : Int), (4 : Int), (1 : Int), (5 : Int)] : List Int).length ∧ ([(1 : Int), (2 : Int), (0 : Int), (3 : Int), (4 : Int), (1 : Int), (5 : Int)] : List Int).length ≤ 1000) ∧ (k + a1.1 + 1 ≤ 1099511627776) ∧ True) ∧ (∀ r2 : Int × Unit, (r2.1 ∈ ([(1 : Int), (2 : Int), (0 : Int), (3 : Int), (4 : Int), (1 : Int), (5 : Int)] : List Int)) → (0 ≤ (a1.1 : Int) ∧ (a1.1 : Int) < ((a1.2.length : Nat) : Int)) ∧ (TF ∧ TF ∧ True ∧ ((7 : Nat) ∉ ([] : List Nat))) ∧ True ∧ (inK .i64 ((a1.1 : Int) + (1 : Int))) ∧ True ∧ ((a1.1 + 1, (a1.2.set (a1.1 : Int).toNat r2.1)).1 ≤ 8 ∧ (a1.1 + 1, (a1.2.set (a1.1 : Int).toNat r2.1)).2.length = 8) ∧ (8 - (a1.1 + 1, (a1.2.set (a1.1 : Int).toNat r2.1)).1 < 8 - a1.1) ∧ TT ∧ (RL [.s (.c (.rdr)), .s (.c (.ptr 47 0)), .s (.c (.ptr 63 0))]) ∧ (([.s (.c (.d (.val (.int .i64 ((a1.1 : Int) + (1 : Int))))))] : List S) = [.s (.c (.d (.val (.int .i64 ((a1.1 + 1, (a1.2.set (a1.1 : Int).toNat r2.1)).1 : Int)))))]) ∧ (RM [some (.sl 32 .int ([] : List Int)), some (.sl 33 .int ([] : List Int)), some (.blk [.own 32, .own 33])]) ∧ (RM [some (.blk [.own 7, .own 8])]) ∧ (((some (a1.2.set (a1.1 : Int).toNat r2.1) : Option (List Int)) = some ((a1.1 + 1, (a1.2.set (a1.1 : Int).toNat r2.1)).2)) ∧ ((some (List.replicate 8 (-1)) : Option (List Int)) = some (List.replicate 8 (-1))) ∧ True) ∧ (k + a1.1 + 1 ≤ k + ((a1.1 + 1, (a1.2.set (a1.1 : Int).toNat r2.1)).1) ∧ k + ((a1.1 + 1, (a1.2.set (a1.1 : Int).toNat r2.1)).1) ≤ 1099511627776))) (True ∧ (TN ∧ True) ∧ ((0 < ([(3 : Int), (4 : Int), (2 : Int), (5 : Int), (1 : Int), (0 : Int), (8 : Int)] : List Int).length ∧ ([(3 : Int), (4 : Int), (2 : Int), (5 : Int), (1 : Int), (0 : Int), (8 : Int)] : List Int).length ≤ 1000) ∧ (k + a1.1 + 1 ≤ 1099511627776) ∧ True) ∧ (∀ r3 : Int × Unit, (r3.1 ∈ ([(3 : Int), (4 : Int), (2 : Int), (5 : Int), (1 : Int), (0 : Int), (8 : Int)] : List Int)) → True ∧ (VC_l2Draw_1 rr k a1 r3)))))
theorem vcn_l2Draw (rr : Unit) (k : Nat) (hk : k + (25) ≤ 1099511627776) : VC_l2Draw rr k := by
  unfold VC_l2Draw VC_l2Draw_1
  simp only [cln, Nat.reduceEqDiff, Nat.reduceLeDiff, Nat.reduceAdd]
  all_goals (try simp only [opn])
  all_goals (repeat' (first | apply And.intro | intro _))
  all_goals (first | omega | (simp_all; done) | grind [pickP])
theorem vce_l2Draw (rr : Unit) (k : Nat) : VC_l2Draw rr k = vcQ tab (lookF L_l2Draw) (lookP P_l2Draw) (fun _ => false) (fun _ => none) (an_l2Draw rr) (fun _ => []) (bodyOf Try.f114) (entry (encs c_l2Draw.aks (rr, ())) (rdOf true k)) (retOk tab c_l2Draw Try.f114.results.toList (rr, ()) k) := by kernel_rfl
theorem ok_l2Draw : FnOk Try.prog E 114 c_l2Draw :=
  fn_okQ (l := L_l2Draw) (lp := P_l2Draw) (hp := fun _ => false) (gcs := fun _ => none) (perm := fun _ => []) tabOk mix ⟨ok_pick, ok_num, ok_l2Blank, trivial⟩ trivial Try.func114 rfl (by kernel_rfl) (by decide) (by kernel_rfl) (anns := fun x _ => an_l2Draw x.1) (fun ⟨rr, _⟩ k _ hk => (vce_l2Draw rr k).mp (vcn_l2Draw rr k (hk rfl))) (fun _ _ => ⟨((⟨List.replicate 8 0, List.replicate 8 0⟩ : GState), ()), ⟨rfl, rfl⟩⟩)
end Go.Proofs.Ytfoioficiffgkaa

namespace Go.Proofs.Ytfoioficiffgkaa
open Go.SE Go.RowKit
set_option linter.unusedSimpArgs false
set_option linter.unusedVariables false
set_option maxHeartbeats 1000000
set_option maxRecDepth 100000
/-! l2Copy -/
abbrev c_l2Copy : Con := ⟨[.state], [.state], fun (s, _) => s.vals.length ≤ 1048576 ∧ s.heap.length ≤ 1048576, .inl fun (s, _) => (s, ()), fun _ => 0⟩
abbrev L_l2Copy : List (FuncId × Con) := []
theorem vc_l2Copy (s : GState) (k : Nat) (hp : s.vals.length ≤ 1048576 ∧ s.heap.length ≤ 1048576) : vc tab (lookF L_l2Copy) (fun _ => none) (fun _ => []) (bodyOf Try.f149) (entry (encs c_l2Copy.aks (s, ())) (rdOf false k)) (retOk tab c_l2Copy Try.f149.results.toList (s, ()) k) := by
  dsimp only [bodyOf, Try.f149, rdOf]
  simp (maxSteps := 10000000) only [c_l2Copy, L_l2Copy, SE.lookF, tab2, tab3, tab4, tab5, tab7, tab9, tab12, tab13, tab21, tab22, tab23, tab24, tab25, tab26, tab31, tab32, tab33, tab41, tab42, tab43, tab44, tab55, tab56, tab60, tab61, tab81, tab82, tab86, tab87, tab94, tab99, tab101, tab130, tab131, tab144, tab146, tab148, tab149, tab150, tab178, tab190, SE.entry, SE.envOf, SE.rdOf, Option.get_some, SE.vc, SE.vcReg, SE.vcLoop, SE.condK, SE.seqK, SE.blockK, SE.vcOps, SE.vcStep, SE.vcOp, SE.vcTr, SE.vcDet_some, SE.vcDet_none, SE.vcIf_true, SE.vcIf_false, SE.vcEach, SE.pickOps, SE.gslot, SE.trOp, SE.moveId, SE.trMove, SE.trPick, SE.trAlloc, SE.trBox, SE.trBuild, SE.trBuildSlice, SE.trLoad, SE.trStore, SE.trNilCheck, SE.trBin, SE.trUn, SE.trConvert, SE.trFieldAddr, SE.trField, SE.trIndexAddr, SE.trIndex, SE.trSlice, SE.trMakeSlice, SE.trExtract, SE.trLen, SE.trAppend, SE.trCopy, SE.trFn, SE.trCall, SE.argsS, SE.ev, SE.constS, SE.junk, SE.sv, SE.upd_app, SE.adds, SE.sets, SE.nid, SE.St.app, SE.St.put, SE.free, SE.freeL, SE.allFree, SE.rids, SE.AK.rids, SE.castL, SE.rdl, SE.AK.dec, SE.decs, SE.AK.enc, SE.encs, SE.AK.res, SE.ress, SE.pack1, SE.zcells, SE.zeroOf, SE.partCells, SE.putc, SE.fills, SE.datas, SE.elemOf, SE.elemsOf, SE.notSpent, SE.cellsAt, SE.weak, SE.dcellsAt, SE.slAt, SE.rdPlus, SE.intAt, SE.updElem, SE.kill, SE.noJunk, SE.inK, SE.binI, SE.shf, SE.isShift, SE.eqCells, SE.aggS, SE.intOp, SE.nested, SE.hasRdr, SE.refsC, SE.refsCs, SE.ownsC, SE.refsAr, SE.rdFits, SE.costIf, SE.Con.post, SE.Con.det, SE.Ty.cells, SE.Ty.sz, SE.Ty.zero, SE.Ty.flat, SE.Ty.dec, SE.retOk, SE.loadsS, SE.loadS, SE.decRs, SE.decR, SE.outC, SE.rdC, SE.allDiff, SE.notIn, SE.notFrozen, SE.apartL, SE.rdEnd, SE.firstReg, SE.headC, SE.fitsC, SE.idsC, SE.keepE, SE.keepM, SE.keepB, SE.inL, SE.puts, SE.ownRes, SE.ownEnv, SE.renL, SE.srcId, SE.lookR, SE.envSame, SE.envSets, SE.memSame, SE.memBlks, SE.memOwns, SE.famsOf, SE.allIn, SE.closedE, SE.closedV, SE.closedM, SE.closedR, SE.rdLe, SE.S.refs, SE.S0.refs, SE.CV.refs, SE.refsL, SE.refsT, SE.S.ren, SE.S0.ren, SE.CV.ren, SE.Res.refs, SE.Res.ren, min_i64, max_i64, min_u16, max_u16, min_u8, max_u8, min_u64, max_u64, S.s.injEq, S0.c.injEq, CV.d.injEq, DC.val.injEq, Value.int.injEq, Value.bool.injEq, Value.string.injEq, eta_fact, eta_atom, eta_asn, eta_state, List.mem_cons, List.mem_nil_iff, or_false, false_or, or_true, true_or, Option.map_some, Option.map_none, Option.bind_some, Option.getD_some, Option.getD_none, Nat.reduceEqDiff, Nat.reduceAdd, Nat.reduceMul, Nat.reduceLeDiff, ↓reduceIte, reduceCtorEq, true_and, and_true, and_self, forall_const, implies_true, true_implies, List.getElem?_toArray, List.getElem?_cons_succ, List.getElem?_cons_zero, List.append_nil, List.nil_append, List.cons_append, List.length_cons, List.length_nil, List.take_succ_cons, List.take_zero, List.drop_succ_cons, List.drop_zero, List.set_cons_zero, List.set_cons_succ, List.map_cons, List.map_nil, Nat.add_zero, Nat.zero_add, forall_eq, Prod.forall, Bool.not_true, Bool.not_false, Nat.lt_irrefl, Nat.zero_lt_succ, List.singleton_append, Prod.mk.injEq, Nat.zero_mul, Nat.one_mul, Nat.reducePow, Option.some.injEq, not_false_eq_true, Int.toNat_natCast, Nat.sub_zero, Nat.le_refl, Bool.or_false, Bool.false_or, Bool.or_true, Bool.true_or, Bool.and_true, Bool.true_and, Bool.and_false, Bool.false_and, Bool.or_self, Bool.and_self, List.append_eq, and_false, false_and]
  all_goals (try simp only [vcIf_iff, decide_eq_true_eq, decide_eq_false_iff_not, bne_iff_ne, ne_eq, beq_iff_eq, beq_eq_false_iff_ne, bne_eq_false_iff_eq, Bool.not_eq_true', Bool.not_eq_false', Int.ofNat_lt, Int.natCast_inj])
  all_goals (repeat' (first | apply And.intro | intro _))
  all_goals (first | omega | (simp_all; done) | grind [])
theorem ok_l2Copy : FnOk Try.prog E 149 c_l2Copy :=
  fn_ok (l := L_l2Copy) (perm := fun _ => []) tabOk mix trivial Try.func149 rfl (by kernel_rfl) (by decide) (by kernel_rfl) (anns := fun x _ => fun _ => none) (fun ⟨s, _⟩ k hp _ => vc_l2Copy s k hp) tot_fn
end Go.Proofs.Ytfoioficiffgkaa

namespace Go.Proofs.Ytfoioficiffgkaa
open Go.SE Go.RowKit
set_option linter.unusedSimpArgs false
set_option linter.unusedVariables false
set_option maxHeartbeats 1000000
set_option maxRecDepth 100000
/-! l2Mutate -/
abbrev c_l2Mutate : Con := ⟨[.rdr, .state], [.state], fun (rr, s, _) => s.vals.length ≤ 1048576 ∧ s.heap.length ≤ 1048576, .inr fun (rr, s, _) r => r.1.vals.length ≤ s.vals.length ∧ r.1.heap.length ≤ s.heap.length + 1, fun (rr, s, _) => 2⟩
abbrev L_l2Mutate : List (FuncId × Con) := [(53, c_pick), (84, c_num), (149, c_l2Copy)]
abbrev P_l2Mutate : List (FuncId × PT) := []
def VC_l2Mutate_1 (rr : Unit) (s : GState) (k : Nat) (r1 : Int × Unit) : Prop := (True ∧ (vcIf (r1.1 == (0 : Int)) (True ∧ True ∧ True ∧ True ∧ (vcIf (decide ((0 : Int) < ((s.vals.length : Nat) : Int))) (True ∧ True ∧ True ∧ (TN ∧ True) ∧ ((0 < ([(9 : Int), (-1 : Int), (9223372036854775807 : Int)] : List Int).length ∧ ([(9 : Int), (-1 : Int), (9223372036854775807 : Int)] : List Int).length ≤ 1000) ∧ (k + 1 + 1 ≤ 1099511627776) ∧ True) ∧ (∀ r2 : Int × Unit, (r2.1 ∈ ([(9 : Int), (-1 : Int), (9223372036854775807 : Int)] : List Int)) → (0 ≤ (0 : Int) ∧ (0 : Int) < ((s.vals.length : Nat) : Int)) ∧ (TF ∧ TF ∧ True ∧ ((112 : Nat) ∉ ([] : List Nat))) ∧ True ∧ (TF ∧ TF) ∧ ((⟨s.vals.set 0 r2.1, s.heap⟩ : GState).vals.length ≤ s.vals.length ∧ (⟨s.vals.set 0 r2.1, s.heap⟩ : GState).heap.length ≤ s.heap.length + 1) ∧ ((((112 : Nat) ≠ 113) ∧ True) ∧ True ∧ True) ∧ ((TF ∧ TF) ∧ (TF ∧ TF) ∧ True) ∧ True ∧ (True ∧ True ∧ True) ∧ (k + 1 + 1 ≤ k + 2))) (True ∧ (TF ∧ TF) ∧ (s.vals.length ≤ s.vals.length ∧ s.heap.length ≤ s.heap.length + 1) ∧ ((((112 : Nat) ≠ 113) ∧ True) ∧ True ∧ True) ∧ ((TF ∧ TF) ∧ (TF ∧ TF) ∧ True) ∧ True ∧ (True ∧ True ∧ True) ∧ (k + 1 ≤ k + 2)))) (True ∧ True ∧ (vcIf (r1.1 == (1 : Int)) (True ∧ True ∧ True ∧ True ∧ (vcIf (decide ((0 : Int) < ((s.heap.length : Nat) : Int))) (True ∧ True ∧ True ∧ (TN ∧ True) ∧ ((0 < ([(9 : Int), (-2 : Int), (-1 : Int)] : List Int).length ∧ ([(9 : Int), (-2 : Int), (-1 : Int)] : List Int).length ≤ 1000) ∧ (k + 1 + 1 ≤ 1099511627776) ∧ True) ∧ (∀ r3 : Int × Unit, (r3.1 ∈ ([(9 : Int), (-2 : Int), (-1 : Int)] : List Int)) → (0 ≤ (0 : Int) ∧ (0 : Int) < ((s.heap.length : Nat) : Int)) ∧ (TF ∧ TF ∧ True ∧ ((113 : Nat) ∉ ([] : List Nat))) ∧ True ∧ (TF ∧ TF) ∧ ((⟨s.vals, s.heap.set 0 r3.1⟩ : GState).vals.length ≤ s.vals.length ∧ (⟨s.vals, s.heap.set 0 r3.1⟩ : GState).heap.length ≤ s.heap.length + 1) ∧ ((((112 : Nat) ≠ 113) ∧ True) ∧ True ∧ True) ∧ ((TF ∧ TF) ∧ (TF ∧ TF) ∧ True) ∧ True ∧ (True ∧ True ∧ True) ∧ (k + 1 + 1 ≤ k + 2))) (True ∧ (TF ∧ TF) ∧ (s.vals.length ≤ s.vals.length ∧ s.heap.length ≤ s.heap.length + 1) ∧ ((((112 : Nat) ≠ 113) ∧ True) ∧ True ∧ True) ∧ ((TF ∧ TF) ∧ (TF ∧ TF) ∧ True) ∧ True ∧ (True ∧ True ∧ True) ∧ (k + 1 ≤ k + 2)))) (True ∧ True ∧ (vcIf (r1.1 == (2 : Int)) (True ∧ True ∧ (TN ∧ True) ∧ (TN ∧ TF ∧ TF ∧ (s.heap.length + ([(-1 : Int)] : List Int).length ≤ 4294967296)) ∧ True ∧ (TF ∧ TF) ∧ True ∧ (TF ∧ TF) ∧ ((⟨s.vals, s.heap ++ ([(-1 : Int)] : List Int)⟩ : GState).vals.length ≤ s.vals.length ∧ (⟨s.vals, s.heap ++ ([(-1 : Int)] : List Int)⟩ : GState).heap.length ≤ s.heap.length + 1) ∧ ((((112 : Nat) ≠ 624) ∧ True) ∧ True ∧ True) ∧ ((TF ∧ TF) ∧ (TF ∧ TF) ∧ True) ∧ True ∧ (True ∧ True ∧ True) ∧ (k + 1 ≤ k + 2)) (True ∧ True ∧ (vcIf (r1.1 == (3 : Int)) ((TN ∧ TN ∧ True) ∧ (TF ∧ TF) ∧ ((⟨([] : List Int), ([] : List Int)⟩ : GState).vals.length ≤ s.vals.length ∧ (⟨([] : List Int), ([] : List Int)⟩ : GState).heap.length ≤ s.heap.length + 1) ∧ ((((688 : Nat) ≠ 689) ∧ True) ∧ True ∧ True) ∧ ((TF ∧ TF) ∧ (TF ∧ TF) ∧ True) ∧ True ∧ (True ∧ True ∧ True) ∧ (k + 1 ≤ k + 2)) (True ∧ (TF ∧ TF) ∧ (s.vals.length ≤ s.vals.length ∧ s.heap.length ≤ s.heap.length + 1) ∧ ((((112 : Nat) ≠ 113) ∧ True) ∧ True ∧ True) ∧ ((TF ∧ TF) ∧ (TF ∧ TF) ∧ True) ∧ True ∧ (True ∧ True ∧ True) ∧ (k + 1 ≤ k + 2))))))))))
def VC_l2Mutate (rr : Unit) (s : GState) (k : Nat) : Prop := TN ∧ (TN ∧ TN ∧ TN ∧ True) ∧ True ∧ ((s.vals.length ≤ 1048576 ∧ s.heap.length ≤ 1048576) ∧ True ∧ TN ∧ TN ∧ True) ∧ (TN ∧ TN ∧ TN ∧ True) ∧ (TF ∧ TF) ∧ True ∧ (True ∧ (k + 1 ≤ 1099511627776) ∧ True) ∧ (∀ r1 : Int × Unit, (pickP (50 : Int) r1.1) → True ∧ (VC_l2Mutate_1 rr s k r1))
theorem vcn_l2Mutate (rr : Unit) (s : GState) (k : Nat) (hp : s.vals.length ≤ 1048576 ∧ s.heap.length ≤ 1048576) (hk : k + (2) ≤ 1099511627776) : VC_l2Mutate rr s k := by
  unfold VC_l2Mutate VC_l2Mutate_1
  simp only [cln, Nat.reduceEqDiff, Nat.reduceLeDiff, Nat.reduceAdd]
  all_goals (try simp only [opn])
  all_goals (repeat' (first | apply And.intro | intro _))
  all_goals (first | omega | (simp_all; done) | grind [])
theorem vce_l2Mutate (rr : Unit) (s : GState) (k : Nat) : VC_l2Mutate rr s k = vcQ tab (lookF L_l2Mutate) (lookP P_l2Mutate) (fun _ => false) (fun _ => none) (fun _ _ => none) (fun _ => []) (bodyOf Try.f115) (entry (encs c_l2Mutate.aks (rr, s, ())) (rdOf true k)) (retOk tab c_l2Mutate Try.f115.results.toList (rr, s, ()) k) := by kernel_rfl
theorem ok_l2Mutate : FnOk Try.prog E 115 c_l2Mutate :=
  fn_okQ (l := L_l2Mutate) (lp := P_l2Mutate) (hp := fun _ => false) (gcs := fun _ => none) (perm := fun _ => []) tabOk mix ⟨ok_pick, ok_num, ok_l2Copy, trivial⟩ trivial Try.func115 rfl (by kernel_rfl) (by decide) (by kernel_rfl) (anns := fun x _ => fun _ _ => none) (fun ⟨rr, s, _⟩ k hp hk => (vce_l2Mutate rr s k).mp (vcn_l2Mutate rr s k hp (hk rfl))) (fun ⟨_, s, _⟩ _ => ⟨(s, ()), ⟨Nat.le_refl _, Nat.le_succ _⟩⟩)
end Go.Proofs.Ytfoioficiffgkaa

namespace Go.Proofs.Ytfoioficiffgkaa
open Go.SE Go.RowKit
set_option linter.unusedSimpArgs false
set_option linter.unusedVariables false
set_option maxHeartbeats 1000000
set_option maxRecDepth 100000
/-! l4Args -/
abbrev c_l4Args : Con := ⟨[.rdr], [.state, .asn], fun _ => True, .inr fun (rr, _) r => r.1.vals.length ≤ 8 ∧ r.1.heap.length ≤ 9 ∧ r.2.1.facts.length ≤ 40 ∧ r.2.1.atoms.length ≤ 40, fun (rr, _) => 78⟩
abbrev L_l4Args : List (FuncId × Con) := [(52, c_l3Draw), (53, c_pick), (54, c_l3Mutate), (113, c_l4Build), (114, c_l2Draw), (115, c_l2Mutate)]
abbrev P_l4Args : List (FuncId × PT) := []
def VC_l4Args (rr : Unit) (k : Nat) : Prop := (TN ∧ TN ∧ TN ∧ True) ∧ (TN ∧ TN ∧ TN ∧ True) ∧ True ∧ (True ∧ (k + 20 ≤ 1099511627776) ∧ TN ∧ TN ∧ True) ∧ (∀ r1 : GAsn × Unit, (asV r1.1 = true) → (TN ∧ TN ∧ TN ∧ True) ∧ (TF ∧ TF) ∧ True ∧ True ∧ ((asV r1.1 = true) ∧ (k + 20 + 25 ≤ 1099511627776) ∧ TN ∧ TN ∧ True) ∧ (∀ r2 : GState × Unit, (r2.1.vals.length = 8 ∧ r2.1.heap.length = 8) → (TN ∧ TN ∧ TN ∧ True) ∧ (TF ∧ TF) ∧ True ∧ (True ∧ (k + 20 + 25 + 1 ≤ 1099511627776) ∧ True) ∧ (∀ r3 : Int × Unit, (pickP (8 : Int) r3.1) → True ∧ (vcIf (r3.1 == (0 : Int)) (True ∧ (True ∧ (k + 20 + 25 + 1 + 25 ≤ 1099511627776) ∧ TN ∧ TN ∧ True) ∧ (∀ r4 : GState × Unit, (r4.1.vals.length = 8 ∧ r4.1.heap.length = 8) → (TF ∧ TF) ∧ True ∧ True ∧ ((r4.1.vals.length ≤ 1048576 ∧ r4.1.heap.length ≤ 1048576) ∧ (k + 20 + 25 + 1 + 25 + 2 ≤ 1099511627776) ∧ TN ∧ TN ∧ True) ∧ (∀ r5 : GState × Unit, (r5.1.vals.length ≤ r4.1.vals.length ∧ r5.1.heap.length ≤ r4.1.heap.length + 1) → True ∧ True ∧ ((r1.1.facts.length ≤ 100000 ∧ r1.1.atoms.length ≤ 100000) ∧ (k + 20 + 25 + 1 + 25 + 2 + 4 ≤ 1099511627776) ∧ TN ∧ TN ∧ True) ∧ (∀ r6 : GAsn × Unit, (r6.1.facts.length ≤ r1.1.facts.length + 14 ∧ r6.1.atoms.length ≤ r1.1.atoms.length + 7) → (TF ∧ TF) ∧ (TF ∧ TF) ∧ (r5.1.vals.length ≤ 8 ∧ r5.1.heap.length ≤ 9 ∧ r6.1.facts.length ≤ 40 ∧ r6.1.atoms.length ≤ 40) ∧ ((((288 : Nat) ≠ 289) ∧ ((288 : Nat) ≠ 336) ∧ ((288 : Nat) ≠ 337) ∧ True) ∧ (((289 : Nat) ≠ 336) ∧ ((289 : Nat) ≠ 337) ∧ True) ∧ (((336 : Nat) ≠ 337) ∧ True) ∧ True ∧ True) ∧ ((TF ∧ TF) ∧ (TF ∧ TF) ∧ (TF ∧ TF) ∧ (TF ∧ TF) ∧ True) ∧ True ∧ (True ∧ True ∧ True ∧ True ∧ True) ∧ (k + 20 + 25 + 1 + 25 + 2 + 4 ≤ k + 78))))) (True ∧ True ∧ ((r2.1.vals.length ≤ 1048576 ∧ r2.1.heap.length ≤ 1048576) ∧ (k + 20 + 25 + 1 + 2 ≤ 1099511627776) ∧ TN ∧ TN ∧ True) ∧ (∀ r7 : GState × Unit, (r7.1.vals.length ≤ r2.1.vals.length ∧ r7.1.heap.length ≤ r2.1.heap.length + 1) → True ∧ True ∧ ((r1.1.facts.length ≤ 100000 ∧ r1.1.atoms.length ≤ 100000) ∧ (k + 20 + 25 + 1 + 2 + 4 ≤ 1099511627776) ∧ TN ∧ TN ∧ True) ∧ (∀ r8 : GAsn × Unit, (r8.1.facts.length ≤ r1.1.facts.length + 14 ∧ r8.1.atoms.length ≤ r1.1.atoms.length + 7) → (TF ∧ TF) ∧ (TF ∧ TF) ∧ (r7.1.vals.length ≤ 8 ∧ r7.1.heap.length ≤ 9 ∧ r8.1.facts.length ≤ 40 ∧ r8.1.atoms.length ≤ 40) ∧ ((((288 : Nat) ≠ 289) ∧ ((288 : Nat) ≠ 336) ∧ ((288 : Nat) ≠ 337) ∧ True) ∧ (((289 : Nat) ≠ 336) ∧ ((289 : Nat) ≠ 337) ∧ True) ∧ (((336 : Nat) ≠ 337) ∧ True) ∧ True ∧ True) ∧ ((TF ∧ TF) ∧ (TF ∧ TF) ∧ (TF ∧ TF) ∧ (TF ∧ TF) ∧ True) ∧ True ∧ (True ∧ True ∧ True ∧ True ∧ True) ∧ (k + 20 + 25 + 1 + 2 + 4 ≤ k + 78))))))))
theorem vcn_l4Args (rr : Unit) (k : Nat) (hk : k + (78) ≤ 1099511627776) : VC_l4Args rr k := by
  unfold VC_l4Args
  simp only [cln, Nat.reduceEqDiff, Nat.reduceLeDiff, Nat.reduceAdd]
  all_goals (try simp only [opn])
  all_goals (repeat' (first | apply And.intro | intro _))
  all_goals (first | omega | ((simp only [upd]; (repeat' split) <;> rfl); done) | (rename_i h; simp only [upd] at h; (repeat' split at h) <;> (first | (injection h with h; subst h; rfl) | (cases h))) | (simp_all; done) | grind [asV, fsV, pickP])
theorem vce_l4Args (rr : Unit) (k : Nat) : VC_l4Args rr k = vcQ tab (lookF L_l4Args) (lookP P_l4Args) (fun _ => false) (fun _ => none) (fun _ _ => none) (fun _ => []) (bodyOf Try.f59) (entry (encs c_l4Args.aks (rr, ())) (rdOf true k)) (retOk tab c_l4Args Try.f59.results.toList (rr, ()) k) := by kernel_rfl
theorem ok_l4Args : FnOk Try.prog E 59 c_l4Args :=
  fn_okQ (l := L_l4Args) (lp := P_l4Args) (hp := fun _ => false) (gcs := fun _ => none) (perm := fun _ => []) tabOk mix ⟨ok_l3Draw, ok_pick, ok_l3Mutate, ok_l4Build, ok_l2Draw, ok_l2Mutate, trivial⟩ trivial Try.func59 rfl (by kernel_rfl) (by decide) (by kernel_rfl) (anns := fun x _ => fun _ _ => none) (fun ⟨rr, _⟩ k _ hk => (vce_l4Args rr k).mp (vcn_l4Args rr k (hk rfl))) (fun _ _ => ⟨((⟨[], []⟩ : GState), (⟨[], []⟩ : GAsn), ()), ⟨Nat.zero_le _, Nat.zero_le _, Nat.zero_le _, Nat.zero_le _⟩⟩)
end Go.Proofs.Ytfoioficiffgkaa

namespace Go.Proofs.Ytfoioficiffgkaa
open Go.SE Go.RowKit
set_option linter.unusedSimpArgs false
set_option linter.unusedVariables false
set_option maxHeartbeats 1000000
set_option maxRecDepth 100000
/-! DrawHolds -/
abbrev c_DrawHolds : Con := ⟨[.sl .u8], [.state, .asn], fun _ => True, .inr fun (code, _) r => r.1.vals.length ≤ 8 ∧ r.1.heap.length ≤ 9 ∧ r.2.1.facts.length ≤ 40 ∧ r.2.1.atoms.length ≤ 40, fun (code, _) => 78⟩
abbrev L_DrawHolds : List (FuncId × Con) := [(59, c_l4Args)]
abbrev P_DrawHolds : List (FuncId × PT) := []
def VC_DrawHolds (code : List UInt8) (k : Nat) : Prop := (TN ∧ TN ∧ TN ∧ True) ∧ (TN ∧ TN ∧ TN ∧ True) ∧ (((4 : Nat) < 9) ∧ ((5 : Nat) < 9) ∧ ((4 : Nat) ≠ 0)) ∧ ((none : Option Nat) = none) ∧ TT ∧ TT ∧ True ∧ (True ∧ (0 + 78 ≤ 1099511627776) ∧ TN ∧ TN ∧ TN ∧ TN ∧ True) ∧ (∀ r1 : GState × GAsn × Unit, (r1.1.vals.length ≤ 8 ∧ r1.1.heap.length ≤ 9 ∧ r1.2.1.facts.length ≤ 40 ∧ r1.2.1.atoms.length ≤ 40) → True ∧ True ∧ (TF ∧ TF) ∧ (TF ∧ TF) ∧ (r1.1.vals.length ≤ 8 ∧ r1.1.heap.length ≤ 9 ∧ r1.2.1.facts.length ≤ 40 ∧ r1.2.1.atoms.length ≤ 40) ∧ ((((96 : Nat) ≠ 97) ∧ ((96 : Nat) ≠ 98) ∧ ((96 : Nat) ≠ 99) ∧ True) ∧ (((97 : Nat) ≠ 98) ∧ ((97 : Nat) ≠ 99) ∧ True) ∧ (((98 : Nat) ≠ 99) ∧ True) ∧ True ∧ True) ∧ ((TF ∧ TF) ∧ (TF ∧ TF) ∧ (TF ∧ TF) ∧ (TF ∧ TF) ∧ True) ∧ True ∧ (True ∧ True ∧ True ∧ True ∧ True) ∧ (0 + 78 ≤ 0 + 78))
theorem vcn_DrawHolds (code : List UInt8) (k : Nat) : VC_DrawHolds code k := by
  unfold VC_DrawHolds
  simp only [cln, Nat.reduceEqDiff, Nat.reduceLeDiff, Nat.reduceAdd]
  all_goals (try simp only [opn])
  all_goals (repeat' (first | apply And.intro | intro _))
  all_goals (first | omega | ((simp only [upd]; (repeat' split) <;> rfl); done) | (rename_i h; simp only [upd] at h; (repeat' split at h) <;> (first | (injection h with h; subst h; rfl) | (cases h))) | (simp_all; done) | grind [asV, fsV, pickP])
theorem vce_DrawHolds (code : List UInt8) (k : Nat) : VC_DrawHolds code k = vcOpenX tab (lookF L_DrawHolds) (lookP P_DrawHolds) (fun _ => false) (fun _ _ => none) (fun _ => []) ([0, 2, 3], [32, 33, 47, 48, 49, 63]) 51 Try.f19.ntmps (bodyOf Try.f19) (entry (encs c_DrawHolds.aks (code, ())) none) (retOk tab c_DrawHolds Try.f19.results.toList (code, ()) 0) := by kernel_rfl
theorem ok_DrawHolds : FnOk Try.prog E 19 c_DrawHolds :=
  draw_fnX (hp := fun _ => false) (perm := fun _ => []) (gl := ([0, 2, 3], [32, 33, 47, 48, 49, 63])) tabOk mix (kall_of (l := L_DrawHolds) ⟨ok_l4Args, trivial⟩) (pall_of (l := P_DrawHolds) trivial) open_l18Open fn_l18Open Try.func19 rfl (by kernel_rfl) (by decide) (by kernel_rfl) rfl rfl (anns := fun x => fun _ _ => none) (fun ⟨code, _⟩ _ => (vce_DrawHolds code 0).mp (vcn_DrawHolds code 0)) (fun _ _ => ⟨((⟨[], []⟩ : GState), (⟨[], []⟩ : GAsn), ()), ⟨Nat.zero_le _, Nat.zero_le _, Nat.zero_le _, Nat.zero_le _⟩⟩)
end Go.Proofs.Ytfoioficiffgkaa

namespace Go.Proofs.Ytfoioficiffgkaa
open Go.SE Go.RowKit
set_option linter.unusedSimpArgs false
set_option linter.unusedVariables false
set_option maxHeartbeats 1000000
set_option maxRecDepth 100000
/-! tsWith -/
abbrev c_tsWith : Con := ⟨[.u16, .int], [.u16], fun (s, t, _) => 0 ≤ s ∧ s < 512, .inl fun (s, t, _) => (tsWith s t, ()), fun _ => 0⟩
abbrev L_tsWith : List (FuncId × Con) := [(89, c_isTerm)]
abbrev P_tsWith : List (FuncId × PT) := []
def VC_tsWith (s : Int) (t : Int) (k : Nat) : Prop := True ∧ True ∧ (True ∧ True ∧ True) ∧ True ∧ (vcIf (!(isT t)) (True ∧ True ∧ (((s, ()) : Int × Unit) = (tsWith s t, ())) ∧ True ∧ True ∧ True ∧ True ∧ TF) (True ∧ True ∧ (0 ≤ t) ∧ True ∧ True ∧ (((bits .or .u16 s (IntKind.wrap .u16 ((1 : Int) * 2 ^ (min t.toNat (IntKind.bits .u16)))), ()) : Int × Unit) = (tsWith s t, ())) ∧ True ∧ True ∧ True ∧ True ∧ TF))
theorem vcn_tsWith (s : Int) (t : Int) (k : Nat) (hp : 0 ≤ s ∧ s < 512) : VC_tsWith s t k := by
  unfold VC_tsWith
  simp only [cln, Nat.reduceEqDiff, Nat.reduceLeDiff, Nat.reduceAdd]
  simp only [vcIf_iff]
  exact ⟨fun h => (tsWith_no (by simpa using h)).symm, fun h => ⟨(isT_iff.1 (by simpa using h)).1, tsWith_eq hp.1 hp.2 (by simpa using h)⟩⟩
theorem vce_tsWith (s : Int) (t : Int) (k : Nat) : VC_tsWith s t k = vcQ tab (lookF L_tsWith) (lookP P_tsWith) (fun _ => false) (fun _ => none) (fun _ _ => none) (fun _ => []) (bodyOf Try.f87) (entry (encs c_tsWith.aks (s, t, ())) (rdOf false k)) (retOk tab c_tsWith Try.f87.results.toList (s, t, ()) k) := by kernel_rfl
theorem ok_tsWith : FnOk Try.prog E 87 c_tsWith :=
  fn_okQ (l := L_tsWith) (lp := P_tsWith) (hp := fun _ => false) (gcs := fun _ => none) (perm := fun _ => []) tabOk mix ⟨ok_isTerm, trivial⟩ trivial Try.func87 rfl (by kernel_rfl) (by decide) (by kernel_rfl) (anns := fun x _ => fun _ _ => none) (fun ⟨s, t, _⟩ k hp _ => (vce_tsWith s t k).mp (vcn_tsWith s t k hp)) tot_fn
end Go.Proofs.Ytfoioficiffgkaa

namespace Go.Proofs.Ytfoioficiffgkaa
open Go.SE Go.RowKit
set_option linter.unusedSimpArgs false
set_option linter.unusedVariables false
set_option maxHeartbeats 1000000
set_option maxRecDepth 100000
/-! termsIn -/
abbrev c_termsIn : Con := ⟨[.asn], [.u16], fun (a, _) => a.facts.length ≤ 281474976710656 ∧ a.atoms.length ≤ 281474976710656, .inl fun (a, _) => (tsA a, ()), fun _ => 0⟩
abbrev L_termsIn : List (FuncId × Con) := [(87, c_tsWith)]
abbrev P_termsIn : List (FuncId × PT) := []
def an_termsIn (a : GAsn) : Nat → St → Option Ann
  | 3, se => some { α := Nat, ok := fun i => i ≤ a.facts.length, mu := fun i => a.facts.length - i, i0 := fun _ => 0, nx := fun a _ => (fun i => i + 1) a, live := [1, 2, 9, 10], sets := fun i => [(11, sv (.int .i64 i)), (3, sv (.int .u16 (tsF (a.facts.take i))))], mids := [31], blks := fun i => [], owns := fun i => [], rd := fun r _ => r, base := 100000 }
  | 8, se => some { α := Nat, ok := fun i => i ≤ a.atoms.length, mu := fun i => a.atoms.length - i, i0 := fun _ => 0, nx := fun a _ => (fun i => i + 1) a, live := [2, 24, 25], sets := fun i => [(26, sv (.int .i64 i)), (3, sv (.int .u16 (tsG (tsF a.facts) (a.atoms.take i))))], mids := [], blks := fun i => [], owns := fun i => [], rd := fun r _ => r, base := 200000 }
  | _, _ => none
def VC_termsIn_1 (a : GAsn) (k : Nat) (i1 : Nat) : Prop := (True ∧ (vcIf (decide (((i1 : Nat) : Int) < ((a.facts.length : Nat) : Int))) ((0 ≤ ((i1 : Nat) : Int) ∧ ((i1 : Nat) : Int) < ((a.facts.length : Nat) : Int)) ∧ True ∧ (TN ∧ True) ∧ (TF ∧ TF) ∧ True ∧ True ∧ True ∧ ((0 ≤ (tsF (a.facts.take i1) : Int) ∧ (tsF (a.facts.take i1) : Int) < 512) ∧ True ∧ True) ∧ True ∧ True ∧ ((0 ≤ (tsWith (tsF (a.facts.take i1) : Int) ((a.facts.getD i1 (⟨false, 0, 0⟩ : GFact)).a)) ∧ (tsWith (tsF (a.facts.take i1) : Int) ((a.facts.getD i1 (⟨false, 0, 0⟩ : GFact)).a)) < 512) ∧ True ∧ True) ∧ True ∧ (inK .i64 (((i1 : Nat) : Int) + (1 : Int))) ∧ True ∧ ((i1 + 1) ≤ a.facts.length) ∧ (a.facts.length - (i1 + 1) < a.facts.length - i1) ∧ TT ∧ (RL [.s (.c (.ptr 31 0)), .s (.c (.d (.val (.int .u16 (0 : Int))))), .s (.c (.d (.arr .fact a.facts))), .s (.c (.d (.val (.int .i64 ((a.facts.length : Nat) : Int)))))]) ∧ (([.s (.c (.d (.val (.int .i64 (((i1 : Nat) : Int) + (1 : Int)))))), .s (.c (.d (.val (.int .u16 (tsWith (tsWith (tsF (a.facts.take i1) : Int) ((a.facts.getD i1 (⟨false, 0, 0⟩ : GFact)).a)) ((a.facts.getD i1 (⟨false, 0, 0⟩ : GFact)).b))))))] : List S) = [.s (.c (.d (.val (.int .i64 (((i1 + 1) : Nat) : Int))))), .s (.c (.d (.val (.int .u16 (tsF (a.facts.take (i1 + 1)) : Int)))))]) ∧ (RM [some (.blk [.d (.arr .fact a.facts), .d (.arr .atom a.atoms)])]) ∧ (RM []) ∧ True ∧ TT) (True ∧ True ∧ True ∧ True ∧ ((0 ≤ a.atoms.length) ∧ TT ∧ (RL [.s (.c (.d (.val (.int .u16 (0 : Int))))), .s (.c (.d (.arr .atom a.atoms))), .s (.c (.d (.val (.int .i64 ((a.atoms.length : Nat) : Int)))))]) ∧ (([.s (.c (.d (.val (.int .i64 (0 : Int))))), .s (.c (.d (.val (.int .u16 (tsF (a.facts.take i1) : Int)))))] : List S) = [.s (.c (.d (.val (.int .i64 ((0 : Nat) : Int))))), .s (.c (.d (.val (.int .u16 (tsG (tsF a.facts) (a.atoms.take 0) : Int)))))]) ∧ (RM []) ∧ (RM []) ∧ True ∧ TT) ∧ (∀ i2 : Nat, (i2 ≤ a.atoms.length) → True ∧ (vcIf (decide (((i2 : Nat) : Int) < ((a.atoms.length : Nat) : Int))) ((0 ≤ ((i2 : Nat) : Int) ∧ ((i2 : Nat) : Int) < ((a.atoms.length : Nat) : Int)) ∧ True ∧ (TN ∧ True) ∧ (TF ∧ TF) ∧ True ∧ True ∧ True ∧ ((0 ≤ (tsG (tsF a.facts) (a.atoms.take i2) : Int) ∧ (tsG (tsF a.facts) (a.atoms.take i2) : Int) < 512) ∧ True ∧ True) ∧ True ∧ True ∧ ((0 ≤ (tsWith (tsG (tsF a.facts) (a.atoms.take i2) : Int) ((a.atoms.getD i2 (⟨0, 0, 0⟩ : GAtom)).a)) ∧ (tsWith (tsG (tsF a.facts) (a.atoms.take i2) : Int) ((a.atoms.getD i2 (⟨0, 0, 0⟩ : GAtom)).a)) < 512) ∧ True ∧ True) ∧ True ∧ (inK .i64 (((i2 : Nat) : Int) + (1 : Int))) ∧ True ∧ ((i2 + 1) ≤ a.atoms.length) ∧ (a.atoms.length - (i2 + 1) < a.atoms.length - i2) ∧ TT ∧ (RL [.s (.c (.d (.val (.int .u16 (0 : Int))))), .s (.c (.d (.arr .atom a.atoms))), .s (.c (.d (.val (.int .i64 ((a.atoms.length : Nat) : Int)))))]) ∧ (([.s (.c (.d (.val (.int .i64 (((i2 : Nat) : Int) + (1 : Int)))))), .s (.c (.d (.val (.int .u16 (tsWith (tsWith (tsG (tsF a.facts) (a.atoms.take i2) : Int) ((a.atoms.getD i2 (⟨0, 0, 0⟩ : GAtom)).a)) ((a.atoms.getD i2 (⟨0, 0, 0⟩ : GAtom)).b))))))] : List S) = [.s (.c (.d (.val (.int .i64 (((i2 + 1) : Nat) : Int))))), .s (.c (.d (.val (.int .u16 (tsG (tsF a.facts) (a.atoms.take (i2 + 1)) : Int)))))]) ∧ (RM []) ∧ (RM []) ∧ True ∧ TT) (True ∧ True ∧ ((((tsG (tsF a.facts) (a.atoms.take i2) : Int), ()) : Int × Unit) = (tsA a, ())) ∧ True ∧ True ∧ True ∧ True ∧ TF))))))
def VC_termsIn (a : GAsn) (k : Nat) : Prop := TN ∧ True ∧ True ∧ True ∧ True ∧ True ∧ True ∧ ((0 ≤ a.facts.length) ∧ TT ∧ (RL [.s (.c (.ptr 31 0)), .s (.c (.d (.val (.int .u16 (0 : Int))))), .s (.c (.d (.arr .fact a.facts))), .s (.c (.d (.val (.int .i64 ((a.facts.length : Nat) : Int)))))]) ∧ (([.s (.c (.d (.val (.int .i64 (0 : Int))))), .s (.c (.d (.val (.int .u16 (0 : Int)))))] : List S) = [.s (.c (.d (.val (.int .i64 ((0 : Nat) : Int))))), .s (.c (.d (.val (.int .u16 (tsF (a.facts.take 0) : Int)))))]) ∧ (RM [some (.blk [.d (.arr .fact a.facts), .d (.arr .atom a.atoms)])]) ∧ (RM []) ∧ True ∧ TT) ∧ (∀ i1 : Nat, (i1 ≤ a.facts.length) → (VC_termsIn_1 a k i1))
theorem vcn_termsIn (a : GAsn) (k : Nat) (hp : a.facts.length ≤ 281474976710656 ∧ a.atoms.length ≤ 281474976710656) : VC_termsIn a k := by
  unfold VC_termsIn VC_termsIn_1
  simp only [cln, Nat.reduceEqDiff, Nat.reduceLeDiff, Nat.reduceAdd]
  have hF := tsF_bd
  have hW1 : ∀ s t, 0 ≤ s → s < 512 → 0 ≤ tsWith s t := fun _ _ h0 h1 => (tsWith_bd h0 h1).1
  have hW2 : ∀ s t, 0 ≤ s → s < 512 → tsWith s t < 512 := fun _ _ h0 h1 => (tsWith_bd h0 h1).2
  have hF0 : tsF [] = 0 := rfl
  have hG0 : ∀ z, tsG z [] = z := fun _ => rfl
  have hG := fun l => tsG_bd l _ (tsF_bd a.facts)
  all_goals (try simp only [opn])
  all_goals (repeat' (first | apply And.intro | intro _))
  all_goals (first | omega | (simp_all; done) | grind [tsF_step, tsG_step, tsA, take_full, Ty.zero])
theorem vce_termsIn (a : GAsn) (k : Nat) : VC_termsIn a k = vcQ tab (lookF L_termsIn) (lookP P_termsIn) (fun _ => false) (fun _ => none) (an_termsIn a) (fun _ => []) (bodyOf Try.f72) (entry (encs c_termsIn.aks (a, ())) (rdOf false k)) (retOk tab c_termsIn Try.f72.results.toList (a, ()) k) := by kernel_rfl
theorem ok_termsIn : FnOk Try.prog E 72 c_termsIn :=
  fn_okQ (l := L_termsIn) (lp := P_termsIn) (hp := fun _ => false) (gcs := fun _ => none) (perm := fun _ => []) tabOk mix ⟨ok_tsWith, trivial⟩ trivial Try.func72 rfl (by kernel_rfl) (by decide) (by kernel_rfl) (anns := fun x _ => an_termsIn x.1) (fun ⟨a, _⟩ k hp _ => (vce_termsIn a k).mp (vcn_termsIn a k hp)) tot_fn
end Go.Proofs.Ytfoioficiffgkaa

namespace Go.Proofs.Ytfoioficiffgkaa
open Go.SE Go.RowKit
set_option linter.unusedSimpArgs false
set_option linter.unusedVariables false
set_option maxHeartbeats 1000000
set_option maxRecDepth 100000
/-! tsHas -/
abbrev c_tsHas : Con := ⟨[.u16, .int], [.bool], fun (s, t, _) => 0 ≤ s ∧ s < 512, .inl fun (s, t, _) => (tsHas s t, ()), fun _ => 0⟩
abbrev L_tsHas : List (FuncId × Con) := [(89, c_isTerm)]
abbrev P_tsHas : List (FuncId × PT) := []
def VC_tsHas (s : Int) (t : Int) (k : Nat) : Prop := True ∧ True ∧ (True ∧ True ∧ True) ∧ True ∧ (vcIf (isT t) (True ∧ True ∧ (0 ≤ t) ∧ True ∧ True ∧ True ∧ True ∧ ((((bits .and .u16 (Int.fdiv s (2 ^ (min t.toNat (IntKind.bits .u16)))) (1 : Int)) == (1 : Int), ()) : Bool × Unit) = (tsHas s t, ())) ∧ True ∧ True ∧ True ∧ True ∧ TF) (True ∧ True ∧ (((false, ()) : Bool × Unit) = (tsHas s t, ())) ∧ True ∧ True ∧ True ∧ True ∧ TF))
theorem vcn_tsHas (s : Int) (t : Int) (k : Nat) (hp : 0 ≤ s ∧ s < 512) : VC_tsHas s t k := by
  unfold VC_tsHas
  simp only [cln, Nat.reduceEqDiff, Nat.reduceLeDiff, Nat.reduceAdd]
  simp only [vcIf_iff]
  exact ⟨fun h => ⟨(isT_iff.1 h).1, tsHas_eq hp.1 hp.2 h⟩, fun h => by simp [tsHas, h]⟩
theorem vce_tsHas (s : Int) (t : Int) (k : Nat) : VC_tsHas s t k = vcQ tab (lookF L_tsHas) (lookP P_tsHas) (fun _ => false) (fun _ => none) (fun _ _ => none) (fun _ => []) (bodyOf Try.f128) (entry (encs c_tsHas.aks (s, t, ())) (rdOf false k)) (retOk tab c_tsHas Try.f128.results.toList (s, t, ()) k) := by kernel_rfl
theorem ok_tsHas : FnOk Try.prog E 128 c_tsHas :=
  fn_okQ (l := L_tsHas) (lp := P_tsHas) (hp := fun _ => false) (gcs := fun _ => none) (perm := fun _ => []) tabOk mix ⟨ok_isTerm, trivial⟩ trivial Try.func128 rfl (by kernel_rfl) (by decide) (by kernel_rfl) (anns := fun x _ => fun _ _ => none) (fun ⟨s, t, _⟩ k hp _ => (vce_tsHas s t k).mp (vcn_tsHas s t k hp)) tot_fn
end Go.Proofs.Ytfoioficiffgkaa

namespace Go.Proofs.Ytfoioficiffgkaa
open Go.SE Go.RowKit
set_option linter.unusedSimpArgs false
set_option linter.unusedVariables false
set_option maxHeartbeats 1000000
set_option maxRecDepth 100000
/-! factHolds -/
abbrev c_factHolds : Con := ⟨[.pkase, .fact], [.bool], fun (c, f, _) => c.length = 9 ∧ fV f = true, .inl fun (c, f, _) => (fh c f, ()), fun _ => 0⟩
abbrev L_factHolds : List (FuncId × Con) := []
abbrev P_factHolds : List (FuncId × PT) := []
def VC_factHolds (c : List Int) (f : GFact) (k : Nat) : Prop := TN ∧ True ∧ True ∧ True ∧ True ∧ True ∧ (0 ≤ f.a ∧ f.a < ((9 : Nat) : Int) ∧ c.length = 9) ∧ True ∧ True ∧ True ∧ True ∧ True ∧ (0 ≤ f.b ∧ f.b < ((9 : Nat) : Int) ∧ c.length = 9) ∧ True ∧ True ∧ True ∧ True ∧ True ∧ True ∧ (((((c.getD f.a.toNat (0 : Int)) == (c.getD f.b.toNat (0 : Int))) == f.eq, ()) : Bool × Unit) = (fh c f, ())) ∧ True ∧ True ∧ True ∧ True ∧ TF
theorem vcn_factHolds (c : List Int) (f : GFact) (k : Nat) (hp : c.length = 9 ∧ fV f = true) : VC_factHolds c f k := by
  unfold VC_factHolds
  simp only [cln, Nat.reduceEqDiff, Nat.reduceLeDiff, Nat.reduceAdd]
  have h1 := fV_isT hp.2
  have h2 := isT_iff.1 h1.1
  have h3 := isT_iff.1 h1.2
  all_goals (try simp only [opn])
  all_goals (repeat' (first | apply And.intro | intro _))
  all_goals (first | omega | (simp_all; done) | grind [fh, cl])
theorem vce_factHolds (c : List Int) (f : GFact) (k : Nat) : VC_factHolds c f k = vcQ tab (lookF L_factHolds) (lookP P_factHolds) (fun _ => false) (fun _ => none) (fun _ _ => none) (fun _ => []) (bodyOf Try.f88) (entry (encs c_factHolds.aks (c, f, ())) (rdOf false k)) (retOk tab c_factHolds Try.f88.results.toList (c, f, ()) k) := by kernel_rfl
theorem ok_factHolds : FnOk Try.prog E 88 c_factHolds :=
  fn_okQ (l := L_factHolds) (lp := P_factHolds) (hp := fun _ => false) (gcs := fun _ => none) (perm := fun _ => []) tabOk mix trivial trivial Try.func88 rfl (by kernel_rfl) (by decide) (by kernel_rfl) (anns := fun x _ => fun _ _ => none) (fun ⟨c, f, _⟩ k hp _ => (vce_factHolds c f k).mp (vcn_factHolds c f k hp)) tot_fn
end Go.Proofs.Ytfoioficiffgkaa

namespace Go.Proofs.Ytfoioficiffgkaa
open Go.SE Go.RowKit
set_option linter.unusedSimpArgs false
set_option linter.unusedVariables false
set_option maxHeartbeats 1000000
set_option maxRecDepth 100000
/-! isFilled -/
abbrev c_isFilled : Con := ⟨[.pkase, .atom], [.bool], fun (c, x, _) => c.length = 9 ∧ atV x = true, .inl fun (c, x, _) => (filB c x, ()), fun _ => 0⟩
abbrev L_isFilled : List (FuncId × Con) := []
abbrev P_isFilled : List (FuncId × PT) := []
def VC_isFilled (c : List Int) (x : GAtom) (k : Nat) : Prop := TN ∧ True ∧ True ∧ True ∧ True ∧ True ∧ (vcIf (x.kind == (1 : Int)) (True ∧ True ∧ (((true, ()) : Bool × Unit) = (filB c x, ())) ∧ True ∧ True ∧ True ∧ True ∧ TF) (True ∧ True ∧ True ∧ True ∧ (0 ≤ x.a ∧ x.a < ((9 : Nat) : Int) ∧ c.length = 9) ∧ True ∧ True ∧ True ∧ True ∧ True ∧ (0 ≤ x.b ∧ x.b < ((9 : Nat) : Int) ∧ c.length = 9) ∧ True ∧ True ∧ True ∧ True ∧ ((((c.getD x.a.toNat (0 : Int)) != (c.getD x.b.toNat (0 : Int)), ()) : Bool × Unit) = (filB c x, ())) ∧ True ∧ True ∧ True ∧ True ∧ TF))
theorem vcn_isFilled (c : List Int) (x : GAtom) (k : Nat) (hp : c.length = 9 ∧ atV x = true) : VC_isFilled c x k := by
  unfold VC_isFilled
  simp only [cln, Nat.reduceEqDiff, Nat.reduceLeDiff, Nat.reduceAdd]
  have h1 := atV_isT hp.2
  have h2 := isT_iff.1 h1.1
  have h3 := isT_iff.1 h1.2
  all_goals (try simp only [opn])
  all_goals (repeat' (first | apply And.intro | intro _))
  all_goals (first | omega | (simp_all; done) | grind [filB, cl])
theorem vce_isFilled (c : List Int) (x : GAtom) (k : Nat) : VC_isFilled c x k = vcQ tab (lookF L_isFilled) (lookP P_isFilled) (fun _ => false) (fun _ => none) (fun _ _ => none) (fun _ => []) (bodyOf Try.f150) (entry (encs c_isFilled.aks (c, x, ())) (rdOf false k)) (retOk tab c_isFilled Try.f150.results.toList (c, x, ()) k) := by kernel_rfl
theorem ok_isFilled : FnOk Try.prog E 150 c_isFilled :=
  fn_okQ (l := L_isFilled) (lp := P_isFilled) (hp := fun _ => false) (gcs := fun _ => none) (perm := fun _ => []) tabOk mix trivial trivial Try.func150 rfl (by kernel_rfl) (by decide) (by kernel_rfl) (anns := fun x _ => fun _ _ => none) (fun ⟨c, x, _⟩ k hp _ => (vce_isFilled c x k).mp (vcn_isFilled c x k hp)) tot_fn
end Go.Proofs.Ytfoioficiffgkaa

namespace Go.Proofs.Ytfoioficiffgkaa
open Go.SE Go.RowKit
set_option linter.unusedSimpArgs false
set_option linter.unusedVariables false
set_option maxHeartbeats 1000000
set_option maxRecDepth 100000
/-! possible -/
abbrev c_possible : Con := ⟨[.pkase, .asn, .int], [.bool], fun (c, a, last, _) => c.length = 9 ∧ asV a = true ∧ 0 ≤ last ∧ last ≤ 8, .inl fun (c, a, last, _) => (possI a c last, ()), fun _ => 0⟩
abbrev L_possible : List (FuncId × Con) := [(87, c_tsWith), (88, c_factHolds), (128, c_tsHas), (150, c_isFilled)]
abbrev P_possible : List (FuncId × PT) := []
def an_possible (c : List Int) (a : GAsn) (last : Int) : Nat → St → Option Ann
  | 2, se => some { α := Nat, ok := fun i => i ≤ a.facts.length ∧ possF c last (a.facts.take i) = true, mu := fun i => a.facts.length - i, i0 := fun _ => 0, nx := fun a _ => (fun i => i + 1) a, live := [0, 2, 4, 13, 14], sets := fun i => [(15, sv (.int .i64 i))], mids := [79], blks := fun i => [], owns := fun i => [], rd := fun r _ => r, base := 100000 }
  | 9, se => some { α := Nat, ok := fun i => i ≤ a.atoms.length ∧ possF c last a.facts = true ∧ okS [] (sts c last (a.atoms.take i)) = true, mu := fun i => a.atoms.length - i, i0 := fun _ => 0, nx := fun a _ => (fun i => i + 1) a, live := [0, 2, 37, 38], sets := fun i => [(39, sv (.int .i64 i)), (9, sv (.int .u16 (maskS (sts c last (a.atoms.take i)))))], mids := [], blks := fun i => [], owns := fun i => [], rd := fun r _ => r, base := 200000 }
  | _, _ => none
def VC_possible_1 (c : List Int) (a : GAsn) (last : Int) (k : Nat) (i2 : Nat) : Prop := (True ∧ (vcIf (decide (last < ((a.atoms.getD i2 (⟨0, 0, 0⟩ : GAtom)).b))) (True ∧ (inK .i64 (((i2 : Nat) : Int) + (1 : Int))) ∧ True ∧ ((i2 + 1) ≤ a.atoms.length ∧ possF c last a.facts = true ∧ okS [] (sts c last (a.atoms.take (i2 + 1))) = true) ∧ (a.atoms.length - (i2 + 1) < a.atoms.length - i2) ∧ TT ∧ (RL [.s (.c (.rv .int c)), .s (.c (.d (.val (.int .i64 last)))), .s (.c (.d (.arr .atom a.atoms))), .s (.c (.d (.val (.int .i64 ((a.atoms.length : Nat) : Int)))))]) ∧ (([.s (.c (.d (.val (.int .i64 (((i2 : Nat) : Int) + (1 : Int)))))), .s (.c (.d (.val (.int .u16 (maskS (sts c last (a.atoms.take i2)) : Int)))))] : List S) = [.s (.c (.d (.val (.int .i64 (((i2 + 1) : Nat) : Int))))), .s (.c (.d (.val (.int .u16 (maskS (sts c last (a.atoms.take (i2 + 1))) : Int)))))]) ∧ (RM []) ∧ (RM []) ∧ True ∧ TT) (True ∧ True ∧ ((c.length = 9 ∧ atV (a.atoms.getD i2 (⟨0, 0, 0⟩ : GAtom)) = true) ∧ True ∧ True) ∧ True ∧ True ∧ (vcIf (!(filB c (a.atoms.getD i2 (⟨0, 0, 0⟩ : GAtom)))) ((inK .i64 (((i2 : Nat) : Int) + (1 : Int))) ∧ True ∧ ((i2 + 1) ≤ a.atoms.length ∧ possF c last a.facts = true ∧ okS [] (sts c last (a.atoms.take (i2 + 1))) = true) ∧ (a.atoms.length - (i2 + 1) < a.atoms.length - i2) ∧ TT ∧ (RL [.s (.c (.rv .int c)), .s (.c (.d (.val (.int .i64 last)))), .s (.c (.d (.arr .atom a.atoms))), .s (.c (.d (.val (.int .i64 ((a.atoms.length : Nat) : Int)))))]) ∧ (([.s (.c (.d (.val (.int .i64 (((i2 : Nat) : Int) + (1 : Int)))))), .s (.c (.d (.val (.int .u16 (maskS (sts c last (a.atoms.take i2)) : Int)))))] : List S) = [.s (.c (.d (.val (.int .i64 (((i2 + 1) : Nat) : Int))))), .s (.c (.d (.val (.int .u16 (maskS (sts c last (a.atoms.take (i2 + 1))) : Int)))))]) ∧ (RM []) ∧ (RM []) ∧ True ∧ TT) (True ∧ True ∧ True ∧ True ∧ (0 ≤ ((a.atoms.getD i2 (⟨0, 0, 0⟩ : GAtom)).a) ∧ ((a.atoms.getD i2 (⟨0, 0, 0⟩ : GAtom)).a) < ((9 : Nat) : Int) ∧ c.length = 9) ∧ True ∧ True ∧ True ∧ (vcIf ((c.getD ((a.atoms.getD i2 (⟨0, 0, 0⟩ : GAtom)).a).toNat (0 : Int)) == (0 : Int)) (True ∧ True ∧ (((false, ()) : Bool × Unit) = (possI a c last, ())) ∧ True ∧ True ∧ True ∧ True ∧ TF) (True ∧ True ∧ True ∧ True ∧ True ∧ (0 ≤ ((a.atoms.getD i2 (⟨0, 0, 0⟩ : GAtom)).a) ∧ ((a.atoms.getD i2 (⟨0, 0, 0⟩ : GAtom)).a) < ((9 : Nat) : Int) ∧ c.length = 9) ∧ True ∧ ((0 ≤ (maskS (sts c last (a.atoms.take i2)) : Int) ∧ (maskS (sts c last (a.atoms.take i2)) : Int) < 512) ∧ True ∧ True) ∧ True ∧ (vcIf (tsHas (maskS (sts c last (a.atoms.take i2)) : Int) (c.getD ((a.atoms.getD i2 (⟨0, 0, 0⟩ : GAtom)).a).toNat (0 : Int))) (True ∧ (((false, ()) : Bool × Unit) = (possI a c last, ())) ∧ True ∧ True ∧ True ∧ True ∧ TF) (True ∧ True ∧ True ∧ True ∧ True ∧ (0 ≤ ((a.atoms.getD i2 (⟨0, 0, 0⟩ : GAtom)).a) ∧ ((a.atoms.getD i2 (⟨0, 0, 0⟩ : GAtom)).a) < ((9 : Nat) : Int) ∧ c.length = 9) ∧ True ∧ ((0 ≤ (maskS (sts c last (a.atoms.take i2)) : Int) ∧ (maskS (sts c last (a.atoms.take i2)) : Int) < 512) ∧ True ∧ True) ∧ True ∧ (inK .i64 (((i2 : Nat) : Int) + (1 : Int))) ∧ True ∧ ((i2 + 1) ≤ a.atoms.length ∧ possF c last a.facts = true ∧ okS [] (sts c last (a.atoms.take (i2 + 1))) = true) ∧ (a.atoms.length - (i2 + 1) < a.atoms.length - i2) ∧ TT ∧ (RL [.s (.c (.rv .int c)), .s (.c (.d (.val (.int .i64 last)))), .s (.c (.d (.arr .atom a.atoms))), .s (.c (.d (.val (.int .i64 ((a.atoms.length : Nat) : Int)))))]) ∧ (([.s (.c (.d (.val (.int .i64 (((i2 : Nat) : Int) + (1 : Int)))))), .s (.c (.d (.val (.int .u16 (tsWith (maskS (sts c last (a.atoms.take i2)) : Int) (c.getD ((a.atoms.getD i2 (⟨0, 0, 0⟩ : GAtom)).a).toNat (0 : Int)))))))] : List S) = [.s (.c (.d (.val (.int .i64 (((i2 + 1) : Nat) : Int))))), .s (.c (.d (.val (.int .u16 (maskS (sts c last (a.atoms.take (i2 + 1))) : Int)))))]) ∧ (RM []) ∧ (RM []) ∧ True ∧ TT)))))))))
def VC_possible_2 (c : List Int) (a : GAsn) (last : Int) (k : Nat) (i1 : Nat) : Prop := (True ∧ (vcIf (decide (((i1 : Nat) : Int) < ((a.facts.length : Nat) : Int))) ((0 ≤ ((i1 : Nat) : Int) ∧ ((i1 : Nat) : Int) < ((a.facts.length : Nat) : Int)) ∧ True ∧ (TN ∧ True) ∧ (TF ∧ TF) ∧ True ∧ True ∧ True ∧ True ∧ True ∧ (vcIf (decide (((a.facts.getD i1 (⟨false, 0, 0⟩ : GFact)).a) ≤ last)) (True ∧ True ∧ True ∧ True ∧ True ∧ True ∧ (vcIf (decide (((a.facts.getD i1 (⟨false, 0, 0⟩ : GFact)).b) ≤ last)) (True ∧ True ∧ ((c.length = 9 ∧ fV (a.facts.getD i1 (⟨false, 0, 0⟩ : GFact)) = true) ∧ True ∧ True) ∧ True ∧ True ∧ (vcIf (!(fh c (a.facts.getD i1 (⟨false, 0, 0⟩ : GFact)))) (True ∧ (((false, ()) : Bool × Unit) = (possI a c last, ())) ∧ True ∧ True ∧ True ∧ True ∧ TF) ((inK .i64 (((i1 : Nat) : Int) + (1 : Int))) ∧ True ∧ ((i1 + 1) ≤ a.facts.length ∧ possF c last (a.facts.take (i1 + 1)) = true) ∧ (a.facts.length - (i1 + 1) < a.facts.length - i1) ∧ TT ∧ (RL [.s (.c (.rv .int c)), .s (.c (.d (.val (.int .i64 last)))), .s (.c (.ptr 79 0)), .s (.c (.d (.arr .fact a.facts))), .s (.c (.d (.val (.int .i64 ((a.facts.length : Nat) : Int)))))]) ∧ (([.s (.c (.d (.val (.int .i64 (((i1 : Nat) : Int) + (1 : Int))))))] : List S) = [.s (.c (.d (.val (.int .i64 (((i1 + 1) : Nat) : Int)))))]) ∧ (RM [some (.blk [.d (.arr .fact a.facts), .d (.arr .atom a.atoms)])]) ∧ (RM []) ∧ True ∧ TT))) (True ∧ (inK .i64 (((i1 : Nat) : Int) + (1 : Int))) ∧ True ∧ ((i1 + 1) ≤ a.facts.length ∧ possF c last (a.facts.take (i1 + 1)) = true) ∧ (a.facts.length - (i1 + 1) < a.facts.length - i1) ∧ TT ∧ (RL [.s (.c (.rv .int c)), .s (.c (.d (.val (.int .i64 last)))), .s (.c (.ptr 79 0)), .s (.c (.d (.arr .fact a.facts))), .s (.c (.d (.val (.int .i64 ((a.facts.length : Nat) : Int)))))]) ∧ (([.s (.c (.d (.val (.int .i64 (((i1 : Nat) : Int) + (1 : Int))))))] : List S) = [.s (.c (.d (.val (.int .i64 (((i1 + 1) : Nat) : Int)))))]) ∧ (RM [some (.blk [.d (.arr .fact a.facts), .d (.arr .atom a.atoms)])]) ∧ (RM []) ∧ True ∧ TT))) (True ∧ True ∧ True ∧ (inK .i64 (((i1 : Nat) : Int) + (1 : Int))) ∧ True ∧ ((i1 + 1) ≤ a.facts.length ∧ possF c last (a.facts.take (i1 + 1)) = true) ∧ (a.facts.length - (i1 + 1) < a.facts.length - i1) ∧ TT ∧ (RL [.s (.c (.rv .int c)), .s (.c (.d (.val (.int .i64 last)))), .s (.c (.ptr 79 0)), .s (.c (.d (.arr .fact a.facts))), .s (.c (.d (.val (.int .i64 ((a.facts.length : Nat) : Int)))))]) ∧ (([.s (.c (.d (.val (.int .i64 (((i1 : Nat) : Int) + (1 : Int))))))] : List S) = [.s (.c (.d (.val (.int .i64 (((i1 + 1) : Nat) : Int)))))]) ∧ (RM [some (.blk [.d (.arr .fact a.facts), .d (.arr .atom a.atoms)])]) ∧ (RM []) ∧ True ∧ TT))) (True ∧ True ∧ True ∧ True ∧ True ∧ ((0 ≤ a.atoms.length ∧ possF c last a.facts = true ∧ okS [] (sts c last (a.atoms.take 0)) = true) ∧ TT ∧ (RL [.s (.c (.rv .int c)), .s (.c (.d (.val (.int .i64 last)))), .s (.c (.d (.arr .atom a.atoms))), .s (.c (.d (.val (.int .i64 ((a.atoms.length : Nat) : Int)))))]) ∧ (([.s (.c (.d (.val (.int .i64 (0 : Int))))), .s (.c (.d (.val (.int .u16 (0 : Int)))))] : List S) = [.s (.c (.d (.val (.int .i64 ((0 : Nat) : Int))))), .s (.c (.d (.val (.int .u16 (maskS (sts c last (a.atoms.take 0)) : Int)))))]) ∧ (RM []) ∧ (RM []) ∧ True ∧ TT) ∧ (∀ i2 : Nat, (i2 ≤ a.atoms.length ∧ possF c last a.facts = true ∧ okS [] (sts c last (a.atoms.take i2)) = true) → True ∧ (vcIf (decide (((i2 : Nat) : Int) < ((a.atoms.length : Nat) : Int))) ((0 ≤ ((i2 : Nat) : Int) ∧ ((i2 : Nat) : Int) < ((a.atoms.length : Nat) : Int)) ∧ True ∧ (TN ∧ True) ∧ (TF ∧ TF) ∧ True ∧ True ∧ True ∧ True ∧ True ∧ (vcIf (decide (last < ((a.atoms.getD i2 (⟨0, 0, 0⟩ : GAtom)).a))) (True ∧ True ∧ True ∧ (inK .i64 (((i2 : Nat) : Int) + (1 : Int))) ∧ True ∧ ((i2 + 1) ≤ a.atoms.length ∧ possF c last a.facts = true ∧ okS [] (sts c last (a.atoms.take (i2 + 1))) = true) ∧ (a.atoms.length - (i2 + 1) < a.atoms.length - i2) ∧ TT ∧ (RL [.s (.c (.rv .int c)), .s (.c (.d (.val (.int .i64 last)))), .s (.c (.d (.arr .atom a.atoms))), .s (.c (.d (.val (.int .i64 ((a.atoms.length : Nat) : Int)))))]) ∧ (([.s (.c (.d (.val (.int .i64 (((i2 : Nat) : Int) + (1 : Int)))))), .s (.c (.d (.val (.int .u16 (maskS (sts c last (a.atoms.take i2)) : Int)))))] : List S) = [.s (.c (.d (.val (.int .i64 (((i2 + 1) : Nat) : Int))))), .s (.c (.d (.val (.int .u16 (maskS (sts c last (a.atoms.take (i2 + 1))) : Int)))))]) ∧ (RM []) ∧ (RM []) ∧ True ∧ TT) (True ∧ True ∧ True ∧ True ∧ True ∧ (VC_possible_1 c a last k i2)))) (True ∧ (((true, ()) : Bool × Unit) = (possI a c last, ())) ∧ True ∧ True ∧ True ∧ True ∧ TF))))))
def VC_possible (c : List Int) (a : GAsn) (last : Int) (k : Nat) : Prop := TN ∧ True ∧ True ∧ True ∧ True ∧ True ∧ ((0 ≤ a.facts.length ∧ possF c last (a.facts.take 0) = true) ∧ TT ∧ (RL [.s (.c (.rv .int c)), .s (.c (.d (.val (.int .i64 last)))), .s (.c (.ptr 79 0)), .s (.c (.d (.arr .fact a.facts))), .s (.c (.d (.val (.int .i64 ((a.facts.length : Nat) : Int)))))]) ∧ (([.s (.c (.d (.val (.int .i64 (0 : Int)))))] : List S) = [.s (.c (.d (.val (.int .i64 ((0 : Nat) : Int)))))]) ∧ (RM [some (.blk [.d (.arr .fact a.facts), .d (.arr .atom a.atoms)])]) ∧ (RM []) ∧ True ∧ TT) ∧ (∀ i1 : Nat, (i1 ≤ a.facts.length ∧ possF c last (a.facts.take i1) = true) → (VC_possible_2 c a last k i1))
theorem vcn_possible (c : List Int) (a : GAsn) (last : Int) (k : Nat) (hp : c.length = 9 ∧ asV a = true ∧ 0 ≤ last ∧ last ≤ 8) : VC_possible c a last k := by
  unfold VC_possible VC_possible_2 VC_possible_1
  simp only [cln, Nat.reduceEqDiff, Nat.reduceLeDiff, Nat.reduceAdd]
  have hF := asV_facts hp.2.1
  have hX := fun i (h : i < a.atoms.length) => isT_iff.1 (asV_atom (d := ⟨0, 0, 0⟩) hp.2.1 h).1
  have hM := fun i => maskS_bd (sts c last (a.atoms.take i))
  all_goals (try simp only [opn])
  all_goals (repeat' (first | apply And.intro | intro _))
  all_goals (repeat (cases ‹_ ∧ _›))
  all_goals (first | omega | rfl | assumption | (simp_all; done) | (exact (hX _ (by assumption)).1) | (exact (hM _).1) | (exact (hM _).2) | (symm; exact possI_noF (by assumption) (by assumption) (by assumption) (by assumption)) | (rw [possF_step (d := ⟨false, 0, 0⟩) (by assumption)]; simp_all; done) | (rw [possF_step (d := ⟨false, 0, 0⟩) (by assumption)]; simp_all; omega) | (rw [← take_full (l := a.facts) (by assumption)]; assumption) | (rw [sts_skip (c := c) (last := last) (l := a.atoms) (d := ⟨0, 0, 0⟩) (by assumption) (by simp only [stB, Bool.and_eq_false_iff, decide_eq_false_iff_not]; first | (left; left; omega) | (left; right; omega) | (right; assumption))]; done) | (rw [sts_skip (c := c) (last := last) (l := a.atoms) (d := ⟨0, 0, 0⟩) (by assumption) (by simp only [stB, Bool.and_eq_false_iff, decide_eq_false_iff_not]; first | (left; left; omega) | (left; right; omega) | (right; assumption))]; assumption) | (rw [take_full (l := a.atoms) (by assumption)] at *; simp_all [possI]; done) | skip)
  all_goals (have hS := fun (j : Nat) (h1 : ¬ last < (a.atoms.getD j ⟨0, 0, 0⟩).a) (h2 : ¬ last < (a.atoms.getD j ⟨0, 0, 0⟩).b) (h3 : filB c (a.atoms.getD j ⟨0, 0, 0⟩) = true) => show stB c last (a.atoms.getD j ⟨0, 0, 0⟩) = true by (simp only [stB, Bool.and_eq_true, decide_eq_true_eq]; exact ⟨⟨by omega, by omega⟩, by assumption⟩))
  all_goals (first | (symm; exact possI_noA (by assumption) (hS _ (by assumption) (by assumption) (by assumption)) (.inl (by assumption))) | (symm; exact possI_noA (by assumption) (hS _ (by assumption) (by assumption) (by assumption)) (.inr (by assumption))) | (exact (okS_step (by assumption) (by assumption) (hS _ (by assumption) (by assumption) (by assumption)) (by assumption) (by assumption)).1) | (exact (okS_step (by assumption) (by assumption) (hS _ (by assumption) (by assumption) (by assumption)) (by assumption) (by assumption)).2.symm) | skip)
theorem vce_possible (c : List Int) (a : GAsn) (last : Int) (k : Nat) : VC_possible c a last k = vcQ tab (lookF L_possible) (lookP P_possible) (fun _ => false) (fun _ => none) (an_possible c a last) (fun _ => []) (bodyOf Try.f129) (entry (encs c_possible.aks (c, a, last, ())) (rdOf false k)) (retOk tab c_possible Try.f129.results.toList (c, a, last, ()) k) := by kernel_rfl
theorem ok_possible : FnOk Try.prog E 129 c_possible :=
  fn_okQ (l := L_possible) (lp := P_possible) (hp := fun _ => false) (gcs := fun _ => none) (perm := fun _ => []) tabOk mix ⟨ok_tsWith, ok_factHolds, ok_tsHas, ok_isFilled, trivial⟩ trivial Try.func129 rfl (by kernel_rfl) (by decide) (by kernel_rfl) (anns := fun x _ => an_possible x.1 x.2.1 x.2.2.1) (fun ⟨c, a, last, _⟩ k hp _ => (vce_possible c a last k).mp (vcn_possible c a last k hp)) tot_fn
end Go.Proofs.Ytfoioficiffgkaa
