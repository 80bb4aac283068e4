/-
  Contracts of single functions of the program, each shown by the engine: what a call returns for arguments within the contract's bounds.
-/
import Derived.Test.YtcnjahaoecngbaaFFnExactAssertionTermsa
import Derived.Test.YtcnjahaoecngbaaEe
import Derived.Test.YtcnjahaoecngbaaEd
import Derived.Test.YtcnjahaoecngbaaFFnExactAssertionTermsc
import Derived.Test.YtcnjahaoecngbaaFFnExactAssertionTermsb
set_option linter.unusedSimpArgs false
set_option linter.unusedVariables false
set_option linter.unusedSectionVars false

namespace Go.Proofs.Ytcnjahaoecngbaa
open Go.SE Go.RowKit
set_option linter.unusedSimpArgs false
set_option linter.unusedVariables false
set_option maxHeartbeats 1000000
set_option maxRecDepth 100000
/-! l3List -/
abbrev c_l3List : Con := ⟨[.sl .bool], [.sl .int], fun (l, _) => l.length ≤ 1048576, .inl fun (l, _) => (flL l, ()), fun _ => 0⟩
abbrev L_l3List : List (FuncId × Con) := []
abbrev P_l3List : List (FuncId × PT) := []
def an_l3List (l : List Bool) : Nat → St → Option Ann
  | 3, se => some { α := Nat, ok := fun i => i ≤ l.length, mu := fun i => l.length - i, i0 := fun _ => 0, nx := fun a _ => (fun i => i + 1) a, live := [0, 2], sets := fun i => [(4, sv (.int .i64 i))], mids := [32], blks := fun i => [], owns := fun i => [⟨7, .slot 3, .int, flU l i⟩], rd := fun r _ => r, base := 100000 }
  | _, _ => none
def VC_l3List (l : List Bool) (k : Nat) : Prop := TN ∧ (TN ∧ True) ∧ True ∧ True ∧ ((0 ≤ l.length) ∧ TT ∧ (RL [.s (.c (.d (.arr .bool l))), .s (.c (.own 32))]) ∧ (([.s (.c (.d (.val (.int .i64 (0 : Int)))))] : List S) = [.s (.c (.d (.val (.int .i64 ((0 : Nat) : Int)))))]) ∧ (RM [some (.sl 32 .int ([] : List Int))]) ∧ (RM []) ∧ (((some ([] : List Int) : Option (List Int)) = some (flU l 0)) ∧ True) ∧ TT) ∧ (∀ i1 : Nat, (i1 ≤ l.length) → True ∧ True ∧ True ∧ True ∧ (vcIf (decide (((i1 : Nat) : Int) < ((l.length : Nat) : Int))) (True ∧ True ∧ (0 ≤ ((i1 : Nat) : Int) ∧ ((i1 : Nat) : Int) < ((l.length : Nat) : Int)) ∧ True ∧ (vcIf (l.getD i1 false) (True ∧ True ∧ (TN ∧ True) ∧ (TN ∧ TF ∧ TF ∧ ((flU l i1).length + ([((i1 : Nat) : Int)] : List Int).length ≤ 4294967296)) ∧ True ∧ True ∧ (inK .i64 (((i1 : Nat) : Int) + (1 : Int))) ∧ True ∧ ((i1 + 1) ≤ l.length) ∧ (l.length - (i1 + 1) < l.length - i1) ∧ TT ∧ (RL [.s (.c (.d (.arr .bool l))), .s (.c (.own 32))]) ∧ (([.s (.c (.d (.val (.int .i64 (((i1 : Nat) : Int) + (1 : Int))))))] : List S) = [.s (.c (.d (.val (.int .i64 (((i1 + 1) : Nat) : Int)))))]) ∧ (RM [some (.sl 32 .int ([] : List Int))]) ∧ (RM []) ∧ (((some ((flU l i1) ++ ([((i1 : Nat) : Int)] : List Int)) : Option (List Int)) = some (flU l (i1 + 1))) ∧ True) ∧ TT) (True ∧ (inK .i64 (((i1 : Nat) : Int) + (1 : Int))) ∧ True ∧ ((i1 + 1) ≤ l.length) ∧ (l.length - (i1 + 1) < l.length - i1) ∧ TT ∧ (RL [.s (.c (.d (.arr .bool l))), .s (.c (.own 32))]) ∧ (([.s (.c (.d (.val (.int .i64 (((i1 : Nat) : Int) + (1 : Int))))))] : List S) = [.s (.c (.d (.val (.int .i64 (((i1 + 1) : Nat) : Int)))))]) ∧ (RM [some (.sl 32 .int ([] : List Int))]) ∧ (RM []) ∧ (((some (flU l i1) : Option (List Int)) = some (flU l (i1 + 1))) ∧ True) ∧ TT))) (True ∧ True ∧ (((flU l i1, ()) : (List Int) × Unit) = (flL l, ())) ∧ (True ∧ True) ∧ ((TF ∧ TF) ∧ True) ∧ True ∧ (True ∧ True) ∧ TF)))
theorem vcn_l3List (l : List Bool) (k : Nat) (hp : l.length ≤ 1048576) : VC_l3List l k := by
  unfold VC_l3List
  simp only [TT, TF, TN, RL, RM, true_and, and_true, eq_self, implies_true, forall_const, List.cons.injEq, S.s.injEq, S0.c.injEq, S0.agg.injEq, CV.d.injEq, CV.own.injEq, CV.ptr.injEq, DC.val.injEq, Value.int.injEq, Value.bool.injEq, Option.some.injEq, Res.blk.injEq, Prod.mk.injEq, inK, min_i64, max_i64, min_u16, max_u16, min_u8, max_u8, min_u64, max_u64, vcIf_true, vcIf_false, List.mem_nil_iff, List.not_mem_nil, not_false_eq_true, Nat.reduceEqDiff, Nat.reduceLeDiff, ne_eq, Bool.and_true, Nat.add_zero, List.append_nil, List.nil_append, List.length_nil, List.length_cons, Nat.zero_add, Nat.reduceAdd, Int.toNat_natCast, Nat.sub_zero, List.drop_zero, List.map_nil, List.take_zero, forall_eq]
  have hs := flU_step l
  have hl := flU_len l
  all_goals (try simp only [vcIf_iff, decide_eq_true_eq, decide_eq_false_iff_not, bne_iff_ne, ne_eq, beq_iff_eq, beq_eq_false_iff_ne, bne_eq_false_iff_eq, Bool.not_eq_true', Bool.not_eq_false', Int.ofNat_lt, Int.natCast_inj])
  all_goals (repeat' (first | apply And.intro | intro _))
  all_goals (first | omega | (simp_all; done) | grind [flL, flU])
theorem vce_l3List (l : List Bool) (k : Nat) : VC_l3List l k = vcQ tab (lookF L_l3List) (lookP P_l3List) (fun _ => false) (fun _ => none) (an_l3List l) (fun _ => []) (bodyOf Try.f124) (entry (encs c_l3List.aks (l, ())) (rdOf false k)) (retOk tab c_l3List Try.f124.results.toList (l, ()) k) := by kernel_rfl
theorem vc_l3List (l : List Bool) (k : Nat) (hp : l.length ≤ 1048576) : vcQ tab (lookF L_l3List) (lookP P_l3List) (fun _ => false) (fun _ => none) (an_l3List l) (fun _ => []) (bodyOf Try.f124) (entry (encs c_l3List.aks (l, ())) (rdOf false k)) (retOk tab c_l3List Try.f124.results.toList (l, ()) k) := (vce_l3List l k).mp (vcn_l3List l k hp)
theorem ok_l3List : FnOk Try.prog E 124 c_l3List :=
  fn_okQ (l := L_l3List) (lp := P_l3List) (hp := fun _ => false) (gcs := fun _ => none) (perm := fun _ => []) tabOk mix trivial trivial Try.func124 rfl (by kernel_rfl) (by decide) (by kernel_rfl) (anns := fun x _ => an_l3List x.1) (fun ⟨l, _⟩ k hp _ => vc_l3List l k hp) tot_fn
end Go.Proofs.Ytcnjahaoecngbaa

namespace Go.Proofs.Ytcnjahaoecngbaa
open Go.SE Go.RowKit
set_option linter.unusedSimpArgs false
set_option linter.unusedVariables false
set_option maxHeartbeats 1000000
set_option maxRecDepth 100000
/-! sAssertionTerms -/
abbrev c_sAssertionTerms : Con := ⟨[.asn], [.sl .int], fun (a, _) => a.facts.length ≤ 281474976710656 ∧ a.atoms.length ≤ 281474976710656, .inl fun (a, _) => (terms a, ()), fun _ => 0⟩
abbrev L_sAssertionTerms : List (FuncId × Con) := [(82, c_sAssertionValid), (95, c_l3Terms), (124, c_l3List)]
abbrev P_sAssertionTerms : List (FuncId × PT) := []
def VC_sAssertionTerms (a : GAsn) (k : Nat) : Prop := TN ∧ TN ∧ True ∧ ((a.facts.length ≤ 281474976710656 ∧ a.atoms.length ≤ 281474976710656) ∧ True ∧ True) ∧ True ∧ (vcIf (!(asV a)) ((TN ∧ True) ∧ True ∧ (((([] : List Int), ()) : (List Int) × Unit) = (terms a, ())) ∧ (True ∧ True) ∧ ((TF ∧ TF) ∧ True) ∧ True ∧ (True ∧ True) ∧ TF) (True ∧ ((asV a = true) ∧ True ∧ TN ∧ True) ∧ (((fl9 (occ a)).length ≤ 1048576) ∧ True ∧ TN ∧ True) ∧ True ∧ ((((flL (fl9 (occ a))), ()) : (List Int) × Unit) = (terms a, ())) ∧ (True ∧ True) ∧ ((TF ∧ TF) ∧ True) ∧ True ∧ (True ∧ True) ∧ TF))
theorem vcn_sAssertionTerms (a : GAsn) (k : Nat) (hp : a.facts.length ≤ 281474976710656 ∧ a.atoms.length ≤ 281474976710656) : VC_sAssertionTerms a k := by
  unfold VC_sAssertionTerms
  simp only [TT, TF, TN, RL, RM, true_and, and_true, eq_self, implies_true, forall_const, List.cons.injEq, S.s.injEq, S0.c.injEq, S0.agg.injEq, CV.d.injEq, CV.own.injEq, CV.ptr.injEq, DC.val.injEq, Value.int.injEq, Value.bool.injEq, Option.some.injEq, Res.blk.injEq, Prod.mk.injEq, inK, min_i64, max_i64, min_u16, max_u16, min_u8, max_u8, min_u64, max_u64, vcIf_true, vcIf_false, List.mem_nil_iff, List.not_mem_nil, not_false_eq_true, Nat.reduceEqDiff, Nat.reduceLeDiff, ne_eq, Bool.and_true, Nat.add_zero, List.append_nil, List.nil_append, List.length_nil, List.length_cons, Nat.zero_add, Nat.reduceAdd, Int.toNat_natCast, Nat.sub_zero, List.drop_zero, List.map_nil, List.take_zero, forall_eq]
  have hl := fl9_len (occ a)
  have ht := @terms_fl a
  all_goals (try simp only [vcIf_iff, decide_eq_true_eq, decide_eq_false_iff_not, bne_iff_ne, ne_eq, beq_iff_eq, beq_eq_false_iff_ne, bne_eq_false_iff_eq, Bool.not_eq_true', Bool.not_eq_false', Int.ofNat_lt, Int.natCast_inj])
  all_goals (repeat' (first | apply And.intro | intro _))
  all_goals (first | omega | (simp_all; done) | grind [terms])
theorem vce_sAssertionTerms (a : GAsn) (k : Nat) : VC_sAssertionTerms a k = vcQ tab (lookF L_sAssertionTerms) (lookP P_sAssertionTerms) (fun _ => false) (fun _ => none) (fun _ _ => none) (fun _ => []) (bodyOf Try.f56) (entry (encs c_sAssertionTerms.aks (a, ())) (rdOf false k)) (retOk tab c_sAssertionTerms Try.f56.results.toList (a, ()) k) := by kernel_rfl
theorem vc_sAssertionTerms (a : GAsn) (k : Nat) (hp : a.facts.length ≤ 281474976710656 ∧ a.atoms.length ≤ 281474976710656) : vcQ tab (lookF L_sAssertionTerms) (lookP P_sAssertionTerms) (fun _ => false) (fun _ => none) (fun _ _ => none) (fun _ => []) (bodyOf Try.f56) (entry (encs c_sAssertionTerms.aks (a, ())) (rdOf false k)) (retOk tab c_sAssertionTerms Try.f56.results.toList (a, ()) k) := (vce_sAssertionTerms a k).mp (vcn_sAssertionTerms a k hp)
theorem ok_sAssertionTerms : FnOk Try.prog E 56 c_sAssertionTerms :=
  fn_okQ (l := L_sAssertionTerms) (lp := P_sAssertionTerms) (hp := fun _ => false) (gcs := fun _ => none) (perm := fun _ => []) tabOk mix ⟨ok_sAssertionValid, ok_l3Terms, ok_l3List, trivial⟩ trivial Try.func56 rfl (by kernel_rfl) (by decide) (by kernel_rfl) (anns := fun x _ => fun _ _ => none) (fun ⟨a, _⟩ k hp _ => vc_sAssertionTerms a k hp) tot_fn
end Go.Proofs.Ytcnjahaoecngbaa

namespace Go.Proofs.Ytcnjahaoecngbaa
open Go.SE Go.RowKit
set_option linter.unusedSimpArgs false
set_option linter.unusedVariables false
set_option maxHeartbeats 1000000
set_option maxRecDepth 100000
/-! eqIntS -/
abbrev c_eqIntS : Con := ⟨[.sl .int, .sl .int], [.bool], fun (a, b, _) => a.length ≤ 281474976710656 ∧ b.length ≤ 281474976710656, .inl fun (a, b, _) => (decide (a = b), ()), fun _ => 0⟩
abbrev L_eqIntS : List (FuncId × Con) := []
def an_eqIntS (a : List Int) (b : List Int) : Nat → Option Ann
  | 4 => some { α := Nat, ok := fun i => i ≤ a.length ∧ a.length = b.length ∧ a.take i = b.take i, mu := fun i => a.length - i, i0 := fun _ => 0, nx := fun a _ => (fun i => i + 1) a, live := [0, 1], sets := fun i => [(5, sv (.int .i64 i))], mids := [], blks := fun i => [], owns := fun i => [], rd := fun r _ => r, base := 100000 }
  | _ => none
theorem vc_eqIntS (a : List Int) (b : List Int) (k : Nat) (hp : a.length ≤ 281474976710656 ∧ b.length ≤ 281474976710656) : vc tab (lookF L_eqIntS) (an_eqIntS a b) (fun _ => []) (bodyOf Try.f57) (entry (encs c_eqIntS.aks (a, b, ())) (rdOf false k)) (retOk tab c_eqIntS Try.f57.results.toList (a, b, ()) k) := by
  dsimp only [bodyOf, Try.f57, rdOf]
  simp (maxSteps := 10000000) only [c_eqIntS, L_eqIntS, an_eqIntS, SE.lookF, tab2, tab3, tab4, tab5, tab7, tab9, tab12, tab13, tab21, tab22, tab23, tab24, tab25, tab26, tab29, tab31, tab35, tab41, tab42, tab43, tab44, tab60, tab61, tab62, tab63, tab69, tab78, tab102, tab103, tab107, tab108, tab116, tab127, tab128, tab132, tab133, tab137, tab138, tab146, tab151, tab152, tab161, tab162, tab170, tab176, tab194, tab195, tab196, tab217, tab230, SE.entry, SE.envOf, SE.rdOf, Option.get_some, SE.vc, SE.vcReg, SE.vcLoop, SE.condK, SE.seqK, SE.blockK, SE.vcOps, SE.vcStep, SE.vcOp, SE.vcTr, SE.vcDet_some, SE.vcDet_none, SE.vcIf_true, SE.vcIf_false, SE.vcEach, SE.pickOps, SE.gslot, SE.trOp, SE.moveId, SE.trMove, SE.trPick, SE.trAlloc, SE.trBox, SE.trBuild, SE.trBuildSlice, SE.trLoad, SE.trStore, SE.trNilCheck, SE.trBin, SE.trUn, SE.trConvert, SE.trFieldAddr, SE.trField, SE.trIndexAddr, SE.trIndex, SE.trSlice, SE.trMakeSlice, SE.trExtract, SE.trLen, SE.trAppend, SE.trCopy, SE.trFn, SE.trCall, SE.argsS, SE.ev, SE.constS, SE.junk, SE.sv, SE.upd_app, SE.adds, SE.sets, SE.nid, SE.St.app, SE.St.put, SE.free, SE.freeL, SE.allFree, SE.rids, SE.AK.rids, SE.castL, SE.rdl, SE.AK.dec, SE.decs, SE.AK.enc, SE.encs, SE.AK.res, SE.ress, SE.pack1, SE.zcells, SE.zeroOf, SE.partCells, SE.putc, SE.fills, SE.datas, SE.elemOf, SE.elemsOf, SE.notSpent, SE.cellsAt, SE.weak, SE.dcellsAt, SE.slAt, SE.rdPlus, SE.intAt, SE.updElem, SE.kill, SE.noJunk, SE.inK, SE.binI, SE.shf, SE.isShift, SE.eqCells, SE.aggS, SE.intOp, SE.nested, SE.hasRdr, SE.refsC, SE.refsCs, SE.ownsC, SE.refsAr, SE.rdFits, SE.costIf, SE.Con.post, SE.Con.det, SE.Ty.cells, SE.Ty.sz, SE.Ty.zero, SE.Ty.flat, SE.Ty.dec, SE.retOk, SE.loadsS, SE.loadS, SE.decRs, SE.decR, SE.outC, SE.rdC, SE.allDiff, SE.notIn, SE.notFrozen, SE.apartL, SE.rdEnd, SE.firstReg, SE.headC, SE.fitsC, SE.idsC, SE.keepE, SE.keepM, SE.keepB, SE.inL, SE.puts, SE.ownRes, SE.ownEnv, SE.renL, SE.srcId, SE.lookR, SE.envSame, SE.envSets, SE.memSame, SE.memBlks, SE.memOwns, SE.famsOf, SE.allIn, SE.closedE, SE.closedV, SE.closedM, SE.closedR, SE.rdLe, SE.S.refs, SE.S0.refs, SE.CV.refs, SE.refsL, SE.refsT, SE.S.ren, SE.S0.ren, SE.CV.ren, SE.Res.refs, SE.Res.ren, min_i64, max_i64, min_u16, max_u16, min_u8, max_u8, min_u64, max_u64, S.s.injEq, S0.c.injEq, CV.d.injEq, DC.val.injEq, Value.int.injEq, Value.bool.injEq, Value.string.injEq, eta_fact, eta_atom, eta_asn, eta_state, List.mem_cons, List.mem_nil_iff, or_false, false_or, or_true, true_or, Option.map_some, Option.map_none, Option.bind_some, Option.getD_some, Option.getD_none, Nat.reduceEqDiff, Nat.reduceAdd, Nat.reduceMul, Nat.reduceLeDiff, ↓reduceIte, reduceCtorEq, true_and, and_true, and_self, forall_const, implies_true, true_implies, List.getElem?_toArray, List.getElem?_cons_succ, List.getElem?_cons_zero, List.append_nil, List.nil_append, List.cons_append, List.length_cons, List.length_nil, List.take_succ_cons, List.take_zero, List.drop_succ_cons, List.drop_zero, List.set_cons_zero, List.set_cons_succ, List.map_cons, List.map_nil, Nat.add_zero, Nat.zero_add, forall_eq, Prod.forall, Bool.not_true, Bool.not_false, Nat.lt_irrefl, Nat.zero_lt_succ, List.singleton_append, Prod.mk.injEq, Nat.zero_mul, Nat.one_mul, Nat.reducePow, Option.some.injEq, not_false_eq_true, Int.toNat_natCast, Nat.sub_zero, Nat.le_refl, Bool.or_false, Bool.false_or, Bool.or_true, Bool.true_or, Bool.and_true, Bool.true_and, Bool.and_false, Bool.false_and, Bool.or_self, Bool.and_self, List.append_eq, and_false, false_and]
  all_goals (try simp only [vcIf_iff, decide_eq_true_eq, decide_eq_false_iff_not, bne_iff_ne, ne_eq, beq_iff_eq, beq_eq_false_iff_ne, bne_eq_false_iff_eq, Bool.not_eq_true', Bool.not_eq_false', Int.ofNat_lt, Int.natCast_inj])
  all_goals (repeat' (first | apply And.intro | intro _))
  all_goals (first | omega | (simp_all; done) | grind [same_step, same_not, take_full])
theorem ok_eqIntS : FnOk Try.prog E 57 c_eqIntS :=
  fn_ok (l := L_eqIntS) (perm := fun _ => []) tabOk mix trivial Try.func57 rfl (by kernel_rfl) (by decide) (by kernel_rfl) (anns := fun x _ => an_eqIntS x.1 x.2.1) (fun ⟨a, b, _⟩ k hp _ => vc_eqIntS a b k hp) tot_fn
end Go.Proofs.Ytcnjahaoecngbaa

namespace Go.Proofs.Ytcnjahaoecngbaa
open Go.SE Go.RowKit
set_option linter.unusedSimpArgs false
set_option linter.unusedVariables false
set_option maxHeartbeats 1000000
set_option maxRecDepth 100000
/-! markIntS -/
abbrev m_markIntS : MCon := ⟨[], .int, [.int], fun _ l (n, _) => 0 ≤ n ∧ n ≤ 4611686018427387904 ∧ l.length ≤ 281474976710656, fun _ l (n, _) => .int .i64 (n + (l.length : Int)), fun _ l (n, _) => mkI l n⟩
abbrev pt_markIntS : PT := ptM m_markIntS
abbrev L_markIntS : List (FuncId × Con) := []
abbrev P_markIntS : List (FuncId × PT) := []
def an_markIntS (l : List Int) (n : Int) : Nat → St → Option Ann
  | 2, se => some { α := Nat, ok := fun i => i ≤ l.length, mu := fun i => l.length - i, i0 := fun _ => 0, nx := fun a _ => (fun i => i + 1) a, live := [4], sets := fun i => [(5, sv (.int .i64 i)), (1, sv (.int .i64 (n + (i : Int))))], mids := [], blks := fun i => [], owns := fun i => [⟨7, .slot 0, .int, mkU (fI n) l i⟩], rd := fun r _ => r, base := 100000 }
  | _, _ => none
def VC_markIntS (l : List Int) (n : Int) (k : Nat) : Prop := True ∧ True ∧ ((0 ≤ l.length) ∧ TT ∧ (RL [.s (.c (.d (.val (.int .i64 (0 : Int)))))]) ∧ (([.s (.c (.d (.val (.int .i64 (0 : Int))))), .s (.c (.d (.val (.int .i64 n))))] : List S) = [.s (.c (.d (.val (.int .i64 ((0 : Nat) : Int))))), .s (.c (.d (.val (.int .i64 (n + (0 : Int) : Int)))))]) ∧ (RM []) ∧ (RM []) ∧ (((some l : Option (List Int)) = some (mkU (fI n) l 0)) ∧ True) ∧ TT) ∧ (∀ i1 : Nat, (i1 ≤ l.length) → True ∧ True ∧ True ∧ True ∧ (vcIf (decide (((i1 : Nat) : Int) < (((mkU (fI n) l i1).length : Nat) : Int))) (True ∧ True ∧ True ∧ (0 ≤ ((i1 : Nat) : Int) ∧ ((i1 : Nat) : Int) < (((mkU (fI n) l i1).length : Nat) : Int)) ∧ (TF ∧ TF ∧ True ∧ ((7 : Nat) ∉ ([] : List Nat))) ∧ True ∧ (inK .i64 ((n + (i1 : Int) : Int) + (1 : Int))) ∧ True ∧ True ∧ (inK .i64 (((i1 : Nat) : Int) + (1 : Int))) ∧ True ∧ ((i1 + 1) ≤ l.length) ∧ (l.length - (i1 + 1) < l.length - i1) ∧ TT ∧ (RL [.s (.c (.d (.val (.int .i64 (0 : Int)))))]) ∧ (([.s (.c (.d (.val (.int .i64 (((i1 : Nat) : Int) + (1 : Int)))))), .s (.c (.d (.val (.int .i64 ((n + (i1 : Int) : Int) + (1 : Int))))))] : List S) = [.s (.c (.d (.val (.int .i64 (((i1 + 1) : Nat) : Int))))), .s (.c (.d (.val (.int .i64 (n + ((i1 + 1) : Int) : Int)))))]) ∧ (RM []) ∧ (RM []) ∧ (((some ((mkU (fI n) l i1).set i1 (n + (i1 : Int) : Int)) : Option (List Int)) = some (mkU (fI n) l (i1 + 1))) ∧ True) ∧ TT) (True ∧ True ∧ ((some [.c (.d (.val (.int .i64 (n + (i1 : Int) : Int))))] : Option (List S0)) = some [.c (.d (.val (.int .i64 (n + (l.length : Int)))))]) ∧ ((some (mkU (fI n) l i1) : Option (List Int)) = some (mkI l n)))))
theorem vcn_markIntS (l : List Int) (n : Int) (k : Nat) (hp : 0 ≤ n ∧ n ≤ 4611686018427387904 ∧ l.length ≤ 281474976710656) : VC_markIntS l n k := by
  unfold VC_markIntS
  simp only [TT, TF, TN, RL, RM, true_and, and_true, eq_self, implies_true, forall_const, List.cons.injEq, S.s.injEq, S0.c.injEq, S0.agg.injEq, CV.d.injEq, CV.own.injEq, CV.ptr.injEq, DC.val.injEq, Value.int.injEq, Value.bool.injEq, Option.some.injEq, Res.blk.injEq, Prod.mk.injEq, inK, min_i64, max_i64, min_u16, max_u16, min_u8, max_u8, min_u64, max_u64, vcIf_true, vcIf_false, List.mem_nil_iff, List.not_mem_nil, not_false_eq_true, Nat.reduceEqDiff, Nat.reduceLeDiff, ne_eq, Bool.and_true, Nat.add_zero, List.append_nil, List.nil_append, List.length_nil, List.length_cons, Nat.zero_add, Nat.reduceAdd, Int.toNat_natCast, Nat.sub_zero, List.drop_zero, List.map_nil, List.take_zero, forall_eq]
  all_goals (try simp only [vcIf_iff, decide_eq_true_eq, decide_eq_false_iff_not, bne_iff_ne, ne_eq, beq_iff_eq, beq_eq_false_iff_ne, bne_eq_false_iff_eq, Bool.not_eq_true', Bool.not_eq_false', Int.ofNat_lt, Int.natCast_inj])
  all_goals (repeat' (first | apply And.intro | intro _))
  all_goals (try simp (disch := assumption) only [set3_len, mkU_sl, mkU_len] at *)
  all_goals (first | omega | (simp_all; done) | exact mkU_zero.symm | exact mkU_full (by assumption) (by assumption) | (rw [← mkU_set (by assumption)]; (try simp (disch := assumption) only [set_twice, mkU_gs, fI]); first | done | rfl | (congr 2 <;> omega) | (congr 3 <;> omega)) | grind [mkU_zero, mkU_full])
theorem vce_markIntS (l : List Int) (n : Int) (k : Nat) : VC_markIntS l n k = vcR tab (lookF L_markIntS) (lookP P_markIntS) (fun _ => false) (an_markIntS l n) (fun _ => []) [7] (bodyOf Try.f58) (isoSt m_markIntS () l (n, ())) (isoQ tab m_markIntS Try.f58.results.toList () l (n, ())) := by kernel_rfl
theorem ptok_markIntS : PTOk Try.prog E 58 pt_markIntS :=
  mut_ok (l := L_markIntS) (lp := P_markIntS) (hp := fun _ => false) (perm := fun _ => []) tabOk mix trivial trivial Try.func58 rfl (by kernel_rfl) rfl (by decide) (by kernel_rfl) (anns := fun x l y => an_markIntS l y.1) (fun _ l ⟨n, _⟩ hp => (vce_markIntS l n 0).mp (vcn_markIntS l n 0 hp))
end Go.Proofs.Ytcnjahaoecngbaa

namespace Go.Proofs.Ytcnjahaoecngbaa
open Go.SE Go.RowKit
set_option linter.unusedSimpArgs false
set_option linter.unusedVariables false
set_option maxHeartbeats 1000000
set_option maxRecDepth 100000
/-! heldIntS -/
abbrev c_heldIntS : Con := ⟨[.sl .int, .int], [.int], fun (l, n, _) => 0 ≤ n ∧ n ≤ 4611686018427387904 ∧ l.length ≤ 281474976710656, .inl fun (l, n, _) => (hdI l n, ()), fun _ => 0⟩
abbrev L_heldIntS : List (FuncId × Con) := []
abbrev P_heldIntS : List (FuncId × PT) := []
def an_heldIntS (l : List Int) (n : Int) : Nat → St → Option Ann
  | 2, se => some { α := Nat, ok := fun i => i ≤ l.length ∧ hdI' (fI n) l i, mu := fun i => l.length - i, i0 := fun _ => 0, nx := fun a _ => (fun i => i + 1) a, live := [0], sets := fun i => [(5, sv (.int .i64 i)), (1, sv (.int .i64 (n + (i : Int))))], mids := [], blks := fun i => [], owns := fun i => [], rd := fun r _ => r, base := 100000 }
  | _, _ => none
def VC_heldIntS (l : List Int) (n : Int) (k : Nat) : Prop := True ∧ True ∧ ((0 ≤ l.length ∧ hdI' (fI n) l 0) ∧ TT ∧ (RL [.s (.c (.d (.arr .int l)))]) ∧ (([.s (.c (.d (.val (.int .i64 (0 : Int))))), .s (.c (.d (.val (.int .i64 n))))] : List S) = [.s (.c (.d (.val (.int .i64 ((0 : Nat) : Int))))), .s (.c (.d (.val (.int .i64 (n + (0 : Int) : Int)))))]) ∧ (RM []) ∧ (RM []) ∧ True ∧ TT) ∧ (∀ i1 : Nat, (i1 ≤ l.length ∧ hdI' (fI n) l i1) → True ∧ True ∧ True ∧ True ∧ (vcIf (decide (((i1 : Nat) : Int) < ((l.length : Nat) : Int))) (True ∧ True ∧ (0 ≤ ((i1 : Nat) : Int) ∧ ((i1 : Nat) : Int) < ((l.length : Nat) : Int)) ∧ True ∧ True ∧ True ∧ (vcIf ((l.getD i1 (0 : Int)) != (n + (i1 : Int) : Int)) (True ∧ ((((-1 : Int), ()) : Int × Unit) = (hdI l n, ())) ∧ True ∧ True ∧ True ∧ True ∧ TF) (True ∧ (inK .i64 ((n + (i1 : Int) : Int) + (1 : Int))) ∧ True ∧ True ∧ (inK .i64 (((i1 : Nat) : Int) + (1 : Int))) ∧ True ∧ ((i1 + 1) ≤ l.length ∧ hdI' (fI n) l (i1 + 1)) ∧ (l.length - (i1 + 1) < l.length - i1) ∧ TT ∧ (RL [.s (.c (.d (.arr .int l)))]) ∧ (([.s (.c (.d (.val (.int .i64 (((i1 : Nat) : Int) + (1 : Int)))))), .s (.c (.d (.val (.int .i64 ((n + (i1 : Int) : Int) + (1 : Int))))))] : List S) = [.s (.c (.d (.val (.int .i64 (((i1 + 1) : Nat) : Int))))), .s (.c (.d (.val (.int .i64 (n + ((i1 + 1) : Int) : Int)))))]) ∧ (RM []) ∧ (RM []) ∧ True ∧ TT))) (True ∧ True ∧ ((((n + (i1 : Int) : Int), ()) : Int × Unit) = (hdI l n, ())) ∧ True ∧ True ∧ True ∧ True ∧ TF)))
theorem vcn_heldIntS (l : List Int) (n : Int) (k : Nat) (hp : 0 ≤ n ∧ n ≤ 4611686018427387904 ∧ l.length ≤ 281474976710656) : VC_heldIntS l n k := by
  unfold VC_heldIntS
  simp only [TT, TF, TN, RL, RM, true_and, and_true, eq_self, implies_true, forall_const, List.cons.injEq, S.s.injEq, S0.c.injEq, S0.agg.injEq, CV.d.injEq, CV.own.injEq, CV.ptr.injEq, DC.val.injEq, Value.int.injEq, Value.bool.injEq, Option.some.injEq, Res.blk.injEq, Prod.mk.injEq, inK, min_i64, max_i64, min_u16, max_u16, min_u8, max_u8, min_u64, max_u64, vcIf_true, vcIf_false, List.mem_nil_iff, List.not_mem_nil, not_false_eq_true, Nat.reduceEqDiff, Nat.reduceLeDiff, ne_eq, Bool.and_true, Nat.add_zero, List.append_nil, List.nil_append, List.length_nil, List.length_cons, Nat.zero_add, Nat.reduceAdd, Int.toNat_natCast, Nat.sub_zero, List.drop_zero, List.map_nil, List.take_zero, forall_eq]
  all_goals (try simp only [vcIf_iff, decide_eq_true_eq, decide_eq_false_iff_not, bne_iff_ne, ne_eq, beq_iff_eq, beq_eq_false_iff_ne, bne_eq_false_iff_eq, Bool.not_eq_true', Bool.not_eq_false', Int.ofNat_lt, Int.natCast_inj])
  all_goals (repeat' (first | apply And.intro | intro _))
  all_goals (repeat (cases ‹_ ∧ _›))
  all_goals (first | omega | exact hd_zero _ _ | (simp_all; done) | skip)
  all_goals (first | (refine hd_step (d := Ty.zero .int) (by assumption) (by assumption) ?_; simp only [Ty.zero, fI] at *; first | assumption | (cases h : l.getD _ _; simp_all; omega) | grind) | (have h5 := hd_full (by assumption) (by assumption) (by assumption); unfold hdI mkI; rw [decide_eq_true h5, cond_true]; omega) | (have h5 : l ≠ mkI l n := hd_not (d := Ty.zero .int) (by assumption) (fun e => by simp only [Ty.zero, fI] at *; first | (simp_all; done) | (simp_all; omega)); unfold hdI; rw [decide_eq_false h5]; rfl) | grind)
theorem vce_heldIntS (l : List Int) (n : Int) (k : Nat) : VC_heldIntS l n k = vcQ tab (lookF L_heldIntS) (lookP P_heldIntS) (fun _ => false) (fun _ => none) (an_heldIntS l n) (fun _ => []) (bodyOf Try.f59) (entry (encs c_heldIntS.aks (l, n, ())) (rdOf false k)) (retOk tab c_heldIntS Try.f59.results.toList (l, n, ()) k) := by kernel_rfl
theorem vc_heldIntS (l : List Int) (n : Int) (k : Nat) (hp : 0 ≤ n ∧ n ≤ 4611686018427387904 ∧ l.length ≤ 281474976710656) : vcQ tab (lookF L_heldIntS) (lookP P_heldIntS) (fun _ => false) (fun _ => none) (an_heldIntS l n) (fun _ => []) (bodyOf Try.f59) (entry (encs c_heldIntS.aks (l, n, ())) (rdOf false k)) (retOk tab c_heldIntS Try.f59.results.toList (l, n, ()) k) := (vce_heldIntS l n k).mp (vcn_heldIntS l n k hp)
theorem ok_heldIntS : FnOk Try.prog E 59 c_heldIntS :=
  fn_okQ (l := L_heldIntS) (lp := P_heldIntS) (hp := fun _ => false) (gcs := fun _ => none) (perm := fun _ => []) tabOk mix trivial trivial Try.func59 rfl (by kernel_rfl) (by decide) (by kernel_rfl) (anns := fun x _ => an_heldIntS x.1 x.2.1) (fun ⟨l, n, _⟩ k hp _ => vc_heldIntS l n k hp) tot_fn
end Go.Proofs.Ytcnjahaoecngbaa

namespace Go.Proofs.Ytcnjahaoecngbaa
open Go.SE Go.RowKit
set_option linter.unusedSimpArgs false
set_option linter.unusedVariables false
set_option maxHeartbeats 1000000
set_option maxRecDepth 100000
/-! FnExactAssertionTerms -/
abbrev c_FnExactAssertionTerms : Con := ⟨[.asn], [.bool], fun (a, _) => a.facts.length ≤ 281474976710656 ∧ a.atoms.length ≤ 281474976710656, .inl fun (a, _) => (true, ()), fun _ => 0⟩
abbrev L_FnExactAssertionTerms : List (FuncId × Con) := [(29, c_iAssertionTerms), (37, c_szAssertion), (39, c_toAssertion), (41, c_eqAssertion), (56, c_sAssertionTerms), (57, c_eqIntS), (59, c_heldIntS)]
abbrev P_FnExactAssertionTerms : List (FuncId × PT) := [(42, pt_markAssertion), (58, pt_markIntS)]
def hp_FnExactAssertionTerms : Nat → Bool
  | 13 => true
  | 17 => true
  | _ => false
def VC_FnExactAssertionTerms_1 (a : GAsn) (k : Nat) : Prop := (True ∧ (vcIf (!(decide ((terms a) = (terms a)))) (True ∧ (((false, ()) : Bool × Unit) = (true, ())) ∧ True ∧ True ∧ True ∧ True ∧ TF) (True ∧ True ∧ ((a.facts.length ≤ 1048576 ∧ a.atoms.length ≤ 1048576) ∧ True ∧ TN ∧ TN ∧ True) ∧ ((a.facts.length ≤ 281474976710656 ∧ a.atoms.length ≤ 281474976710656 ∧ a.facts.length ≤ 281474976710656 ∧ a.atoms.length ≤ 281474976710656) ∧ True ∧ True) ∧ True ∧ (vcIf (!(decide (a = a))) (True ∧ (((false, ()) : Bool × Unit) = (true, ())) ∧ True ∧ True ∧ True ∧ True ∧ TF) (True ∧ True ∧ True ∧ ((2 : Nat) ≤ 14) ∧ TN ∧ True ∧ True ∧ True ∧ True ∧ TF ∧ TF ∧ True ∧ True ∧ (0 ≤ (1 : Int) ∧ (1 : Int) ≤ 4611686018427387904 ∧ a.facts.length ≤ 281474976710656) ∧ True ∧ True ∧ True ∧ True ∧ TF ∧ TF ∧ True ∧ True ∧ (0 ≤ ((1 : Int) + 3 * (a.facts.length : Int)) ∧ ((1 : Int) + 3 * (a.facts.length : Int)) ≤ 4611686018427387904 ∧ a.atoms.length ≤ 281474976710656) ∧ True ∧ True ∧ True ∧ True ∧ True ∧ True ∧ True ∧ (vcIf (decide ((((1 : Int) + 3 * (a.facts.length : Int)) + 3 * (a.atoms.length : Int)) < (0 : Int))) (True ∧ True ∧ (((false, ()) : Bool × Unit) = (true, ())) ∧ True ∧ True ∧ True ∧ True ∧ TF) (True ∧ True ∧ (((terms a).length ≤ 281474976710656 ∧ (terms a).length ≤ 281474976710656) ∧ True ∧ True) ∧ True ∧ True ∧ (vcIf (!(decide ((terms a) = (terms a)))) (True ∧ (((false, ()) : Bool × Unit) = (true, ())) ∧ True ∧ True ∧ True ∧ True ∧ TF) (True ∧ True ∧ True ∧ TF ∧ TF ∧ True ∧ True ∧ (0 ≤ (1 : Int) ∧ (1 : Int) ≤ 4611686018427387904 ∧ (terms a).length ≤ 281474976710656) ∧ True ∧ True ∧ True ∧ True ∧ ((0 ≤ (1 : Int) ∧ (1 : Int) ≤ 4611686018427387904 ∧ (mkI (terms a) (1 : Int)).length ≤ 281474976710656) ∧ True ∧ True) ∧ True ∧ True ∧ True ∧ (vcIf (decide ((hdI (mkI (terms a) (1 : Int)) (1 : Int)) < (0 : Int))) (True ∧ (((false, ()) : Bool × Unit) = (true, ())) ∧ True ∧ True ∧ True ∧ True ∧ TF) (True ∧ True ∧ True ∧ (vcIf ((hdI (mkI (terms a) (1 : Int)) (1 : Int)) != ((1 : Int) + ((terms a).length : Int))) (True ∧ (((false, ()) : Bool × Unit) = (true, ())) ∧ True ∧ True ∧ True ∧ True ∧ TF) (True ∧ ((a.facts.length ≤ 1048576 ∧ a.atoms.length ≤ 1048576) ∧ True ∧ TN ∧ TN ∧ True) ∧ ((a.facts.length ≤ 281474976710656 ∧ a.atoms.length ≤ 281474976710656) ∧ True ∧ TN ∧ True) ∧ True ∧ True ∧ True ∧ (((terms a).length ≤ 281474976710656 ∧ (terms a).length ≤ 281474976710656) ∧ True ∧ True) ∧ True ∧ (vcIf (!(decide ((terms a) = (terms a)))) (True ∧ (((false, ()) : Bool × Unit) = (true, ())) ∧ True ∧ True ∧ True ∧ True ∧ TF) (True ∧ True ∧ True ∧ ((0 ≤ (1 : Int) ∧ (1 : Int) ≤ 4611686018427387904 ∧ (mkI (terms a) (1 : Int)).length ≤ 281474976710656) ∧ True ∧ True) ∧ True ∧ True ∧ True ∧ (vcIf (decide ((hdI (mkI (terms a) (1 : Int)) (1 : Int)) < (0 : Int))) (True ∧ (((false, ()) : Bool × Unit) = (true, ())) ∧ True ∧ True ∧ True ∧ True ∧ TF) (True ∧ True ∧ True ∧ (vcIf ((hdI (mkI (terms a) (1 : Int)) (1 : Int)) != ((1 : Int) + ((terms a).length : Int))) (True ∧ (((false, ()) : Bool × Unit) = (true, ())) ∧ True ∧ True ∧ True ∧ True ∧ TF) (True ∧ (((true, ()) : Bool × Unit) = (true, ())) ∧ True ∧ True ∧ True ∧ True ∧ TF)))))))))))))))))))
def VC_FnExactAssertionTerms (a : GAsn) (k : Nat) : Prop := TN ∧ True ∧ True ∧ True ∧ True ∧ ((a.facts.length ≤ 281474976710656 ∧ a.atoms.length ≤ 281474976710656 ∧ 0 ≤ (1048576 : Int) ∧ (1048576 : Int) ≤ 1048576) ∧ True ∧ True) ∧ True ∧ True ∧ True ∧ (vcIf (decide ((szA a (1048576 : Int)) < (0 : Int))) (True ∧ (((true, ()) : Bool × Unit) = (true, ())) ∧ True ∧ True ∧ True ∧ True ∧ TF) (True ∧ ((a.facts.length ≤ 1048576 ∧ a.atoms.length ≤ 1048576) ∧ True ∧ TN ∧ TN ∧ True) ∧ ((a.facts.length ≤ 281474976710656 ∧ a.atoms.length ≤ 281474976710656) ∧ True ∧ TN ∧ True) ∧ True ∧ True ∧ ((a.facts.length ≤ 1048576 ∧ a.atoms.length ≤ 1048576) ∧ True ∧ TN ∧ TN ∧ True) ∧ (TN ∧ TN ∧ TN ∧ True) ∧ (TF ∧ TF) ∧ True ∧ ((a.facts.length ≤ 281474976710656 ∧ a.atoms.length ≤ 281474976710656) ∧ True ∧ TN ∧ True) ∧ True ∧ True ∧ True ∧ (((terms a).length ≤ 281474976710656 ∧ (terms a).length ≤ 281474976710656) ∧ True ∧ True) ∧ (VC_FnExactAssertionTerms_1 a k)))
theorem vcn_FnExactAssertionTerms (a : GAsn) (k : Nat) (hp : a.facts.length ≤ 281474976710656 ∧ a.atoms.length ≤ 281474976710656) : VC_FnExactAssertionTerms a k := by
  unfold VC_FnExactAssertionTerms VC_FnExactAssertionTerms_1
  simp only [TT, TF, TN, RL, RM, true_and, and_true, eq_self, implies_true, forall_const, List.cons.injEq, S.s.injEq, S0.c.injEq, S0.agg.injEq, CV.d.injEq, CV.own.injEq, CV.ptr.injEq, DC.val.injEq, Value.int.injEq, Value.bool.injEq, Option.some.injEq, Res.blk.injEq, Prod.mk.injEq, inK, min_i64, max_i64, min_u16, max_u16, min_u8, max_u8, min_u64, max_u64, vcIf_true, vcIf_false, List.mem_nil_iff, List.not_mem_nil, not_false_eq_true, Nat.reduceEqDiff, Nat.reduceLeDiff, ne_eq, Bool.and_true, Nat.add_zero, List.append_nil, List.nil_append, List.length_nil, List.length_cons, Nat.zero_add, Nat.reduceAdd, Int.toNat_natCast, Nat.sub_zero, List.drop_zero, List.map_nil, List.take_zero, forall_eq, bne_self_eq_false, beq_self_eq_true, decide_true, eq_self, Bool.not_true, Bool.not_false, vcIf_true, vcIf_false, Bool.false_and, Bool.true_and, Bool.or_false, Bool.or_true]
  have hk := terms_len a
  all_goals (try simp only [vcIf_iff, decide_eq_true_eq, decide_eq_false_iff_not, bne_iff_ne, ne_eq, beq_iff_eq, beq_eq_false_iff_ne, bne_eq_false_iff_eq, Bool.not_eq_true', Bool.not_eq_false', Int.ofNat_lt, Int.natCast_inj])
  all_goals (repeat' (first | apply And.intro | intro _))
  all_goals (first | omega | (simp_all; done) | grind [szA, sz1, mkF_len, mkG_len, mkI_len, hdI_mk])
theorem vce_FnExactAssertionTerms (a : GAsn) (k : Nat) : VC_FnExactAssertionTerms a k = vcQ tab (lookF L_FnExactAssertionTerms) (lookP P_FnExactAssertionTerms) (hp_FnExactAssertionTerms) (fun _ => none) (fun _ _ => none) (fun _ => []) (bodyOf Try.f12) (entry (encs c_FnExactAssertionTerms.aks (a, ())) (rdOf false k)) (retOk tab c_FnExactAssertionTerms Try.f12.results.toList (a, ()) k) := by kernel_rfl
theorem vc_FnExactAssertionTerms (a : GAsn) (k : Nat) (hp : a.facts.length ≤ 281474976710656 ∧ a.atoms.length ≤ 281474976710656) : vcQ tab (lookF L_FnExactAssertionTerms) (lookP P_FnExactAssertionTerms) (hp_FnExactAssertionTerms) (fun _ => none) (fun _ _ => none) (fun _ => []) (bodyOf Try.f12) (entry (encs c_FnExactAssertionTerms.aks (a, ())) (rdOf false k)) (retOk tab c_FnExactAssertionTerms Try.f12.results.toList (a, ()) k) := (vce_FnExactAssertionTerms a k).mp (vcn_FnExactAssertionTerms a k hp)
theorem ok_FnExactAssertionTerms : FnOk Try.prog E 12 c_FnExactAssertionTerms :=
  fn_okQ (l := L_FnExactAssertionTerms) (lp := P_FnExactAssertionTerms) (hp := hp_FnExactAssertionTerms) (gcs := fun _ => none) (perm := fun _ => []) tabOk mix ⟨ok_iAssertionTerms, ok_szAssertion, ok_toAssertion, ok_eqAssertion, ok_sAssertionTerms, ok_eqIntS, ok_heldIntS, trivial⟩ ⟨ptok_markAssertion, ptok_markIntS, trivial⟩ Try.func12 rfl (by kernel_rfl) (by decide) (by kernel_rfl) (anns := fun x _ => fun _ _ => none) (fun ⟨a, _⟩ k hp _ => vc_FnExactAssertionTerms a k hp) tot_fn
end Go.Proofs.Ytcnjahaoecngbaa
