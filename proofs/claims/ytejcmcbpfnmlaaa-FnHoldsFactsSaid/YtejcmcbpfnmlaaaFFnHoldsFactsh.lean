/-
  Contracts of single functions of the program, each shown by the engine: what a call returns for arguments within the contract's bounds.
-/
import Derived.Test.YtejcmcbpfnmlaaaFFnHoldsFactsa
import Derived.Test.YtejcmcbpfnmlaaaFFnHoldsFactsg
import Derived.Test.YtejcmcbpfnmlaaaEe
import Derived.Test.YtejcmcbpfnmlaaaEf
import Derived.Test.YtejcmcbpfnmlaaaFFnHoldsFactse
import Derived.Test.YtejcmcbpfnmlaaaFFnHoldsFactsf
set_option linter.unusedSimpArgs false
set_option linter.unusedVariables false
set_option linter.unusedSectionVars false

namespace Go.Proofs.Ytejcmcbpfnmlaaa
open Go.SE Go.RowKit
set_option linter.unusedSimpArgs false
set_option linter.unusedVariables false
set_option maxHeartbeats 1000000
set_option maxRecDepth 100000
/-! sUsedCells -/
abbrev c_sUsedCells : Con := ⟨[.state], [.sl .int], fun (s, _) => s.vals.length ≤ 281474976710656 ∧ s.heap.length ≤ 281474976710656, .inl fun (s, _) => (cond (stV s) (usL s 8) [], ()), fun _ => 0⟩
abbrev L_sUsedCells : List (FuncId × Con) := [(92, c_sStateValid), (166, c_l2Has)]
abbrev P_sUsedCells : List (FuncId × PT) := []
def an_sUsedCells (s : GState) : Nat → St → Option Ann
  | 3, se => some { α := Nat, ok := fun i => i ≤ 8 ∧ (stV s = true ∨ i = 0), mu := fun i => 8 - i, i0 := fun _ => 0, nx := fun a _ => (fun i => i + 1) a, live := [1, 2], sets := fun i => [(4, sv (.int .i64 ((i : Int) + 1)))], mids := [31, 32], blks := fun i => [], owns := fun i => [⟨7, .slot 3, .int, usL s i⟩], rd := fun r _ => r, base := 100000 }
  | _, _ => none
def VC_sUsedCells (s : GState) (k : Nat) : Prop := TN ∧ TN ∧ (TN ∧ True) ∧ True ∧ True ∧ ((0 ≤ 8 ∧ (stV s = true ∨ 0 = 0)) ∧ TT ∧ (RL [.s (.c (.ptr 31 0)), .s (.c (.own 32))]) ∧ (([.s (.c (.d (.val (.int .i64 (1 : Int)))))] : List S) = [.s (.c (.d (.val (.int .i64 ((0 : Int) + 1 : Int)))))]) ∧ (RM [some (.blk [.d (.arr .int s.vals), .d (.arr .int s.heap)]), some (.sl 32 .int ([] : List Int))]) ∧ (RM []) ∧ (((some ([] : List Int) : Option (List Int)) = some (usL s 0)) ∧ True) ∧ TT) ∧ (∀ i1 : Nat, (i1 ≤ 8 ∧ (stV s = true ∨ i1 = 0)) → True ∧ True ∧ True ∧ (vcIf (decide (((i1 : Int) + 1 : Int) ≤ (8 : Int))) (True ∧ ((s.vals.length ≤ 281474976710656 ∧ s.heap.length ≤ 281474976710656) ∧ True ∧ True) ∧ True ∧ (vcIf (stV s) (True ∧ True ∧ ((stV s = true) ∧ True ∧ True) ∧ (vcIf (al s ((i1 : Int) + 1 : Int)) (True ∧ True ∧ (TN ∧ True) ∧ (TN ∧ TF ∧ TF ∧ ((usL s i1).length + ([((i1 : Int) + 1 : Int)] : List Int).length ≤ 4294967296)) ∧ True ∧ True ∧ (inK .i64 (((i1 : Int) + 1 : Int) + (1 : Int))) ∧ True ∧ ((i1 + 1) ≤ 8 ∧ (stV s = true ∨ (i1 + 1) = 0)) ∧ (8 - (i1 + 1) < 8 - i1) ∧ TT ∧ (RL [.s (.c (.ptr 31 0)), .s (.c (.own 32))]) ∧ (([.s (.c (.d (.val (.int .i64 (((i1 : Int) + 1 : Int) + (1 : Int))))))] : List S) = [.s (.c (.d (.val (.int .i64 (((i1 + 1) : Int) + 1 : Int)))))]) ∧ (RM [some (.blk [.d (.arr .int s.vals), .d (.arr .int s.heap)]), some (.sl 32 .int ([] : List Int))]) ∧ (RM []) ∧ (((some ((usL s i1) ++ ([((i1 : Int) + 1 : Int)] : List Int)) : Option (List Int)) = some (usL s (i1 + 1))) ∧ True) ∧ TT) (True ∧ (inK .i64 (((i1 : Int) + 1 : Int) + (1 : Int))) ∧ True ∧ ((i1 + 1) ≤ 8 ∧ (stV s = true ∨ (i1 + 1) = 0)) ∧ (8 - (i1 + 1) < 8 - i1) ∧ TT ∧ (RL [.s (.c (.ptr 31 0)), .s (.c (.own 32))]) ∧ (([.s (.c (.d (.val (.int .i64 (((i1 : Int) + 1 : Int) + (1 : Int))))))] : List S) = [.s (.c (.d (.val (.int .i64 (((i1 + 1) : Int) + 1 : Int)))))]) ∧ (RM [some (.blk [.d (.arr .int s.vals), .d (.arr .int s.heap)]), some (.sl 32 .int ([] : List Int))]) ∧ (RM []) ∧ (((some (usL s i1) : Option (List Int)) = some (usL s (i1 + 1))) ∧ True) ∧ TT))) (True ∧ True ∧ (((usL s i1, ()) : (List Int) × Unit) = (cond (stV s) (usL s 8) [], ())) ∧ (True ∧ True) ∧ ((TF ∧ TF) ∧ True) ∧ True ∧ (True ∧ True) ∧ TF))) (True ∧ True ∧ True ∧ (((usL s i1, ()) : (List Int) × Unit) = (cond (stV s) (usL s 8) [], ())) ∧ (True ∧ True) ∧ ((TF ∧ TF) ∧ True) ∧ True ∧ (True ∧ True) ∧ TF)))
theorem vcn_sUsedCells (s : GState) (k : Nat) (hp : s.vals.length ≤ 281474976710656 ∧ s.heap.length ≤ 281474976710656) : VC_sUsedCells s k := by
  unfold VC_sUsedCells
  simp only [TT, TF, TN, RL, RM, true_and, and_true, eq_self, implies_true, forall_const, List.cons.injEq, S.s.injEq, S0.c.injEq, S0.agg.injEq, CV.d.injEq, CV.own.injEq, CV.ptr.injEq, DC.val.injEq, Value.int.injEq, Value.bool.injEq, Option.some.injEq, Res.blk.injEq, Prod.mk.injEq, inK, min_i64, max_i64, min_u16, max_u16, min_u8, max_u8, min_u64, max_u64, vcIf_true, vcIf_false, List.mem_nil_iff, List.not_mem_nil, not_false_eq_true, Nat.reduceEqDiff, Nat.reduceLeDiff, ne_eq, Bool.and_true, Nat.add_zero, List.append_nil, List.nil_append, List.length_nil, List.length_cons, Nat.zero_add, Nat.reduceAdd, Int.toNat_natCast, Nat.sub_zero, List.drop_zero, List.map_nil, List.take_zero, forall_eq]
  all_goals (try simp only [vcIf_iff, decide_eq_true_eq, decide_eq_false_iff_not, bne_iff_ne, ne_eq, beq_iff_eq, beq_eq_false_iff_ne, bne_eq_false_iff_eq, Bool.not_eq_true', Bool.not_eq_false', Int.ofNat_lt, Int.natCast_inj])
  all_goals (repeat' (first | apply And.intro | intro _))
  all_goals (repeat (cases ‹_ ∧ _›))
  all_goals (first | omega | rfl | assumption | (simp_all; done) | skip)
  all_goals (first | exact us_c1 (by assumption) (by assumption) | exact us_c2 (by assumption) (by assumption) | exact us_c3 (by assumption) (by assumption) | exact us_c4 (by assumption) (by assumption) (by assumption) | exact Nat.le_trans (us_len _ (by assumption)) (by decide) | skip)
theorem vce_sUsedCells (s : GState) (k : Nat) : VC_sUsedCells s k = vcQ tab (lookF L_sUsedCells) (lookP P_sUsedCells) (fun _ => false) (fun _ => none) (an_sUsedCells s) (fun _ => []) (bodyOf Try.f142) (entry (encs c_sUsedCells.aks (s, ())) (rdOf false k)) (retOk tab c_sUsedCells Try.f142.results.toList (s, ()) k) := by kernel_rfl
theorem vc_sUsedCells (s : GState) (k : Nat) (hp : s.vals.length ≤ 281474976710656 ∧ s.heap.length ≤ 281474976710656) : vcQ tab (lookF L_sUsedCells) (lookP P_sUsedCells) (fun _ => false) (fun _ => none) (an_sUsedCells s) (fun _ => []) (bodyOf Try.f142) (entry (encs c_sUsedCells.aks (s, ())) (rdOf false k)) (retOk tab c_sUsedCells Try.f142.results.toList (s, ()) k) := (vce_sUsedCells s k).mp (vcn_sUsedCells s k hp)
theorem ok_sUsedCells : FnOk Try.prog E 142 c_sUsedCells :=
  fn_okQ (l := L_sUsedCells) (lp := P_sUsedCells) (hp := fun _ => false) (gcs := fun _ => none) (perm := fun _ => []) tabOk mix ⟨ok_sStateValid, ok_l2Has, trivial⟩ trivial Try.func142 rfl (by kernel_rfl) (by decide) (by kernel_rfl) (anns := fun x _ => an_sUsedCells x.1) (fun ⟨s, _⟩ k hp _ => vc_sUsedCells s k hp) tot_fn
end Go.Proofs.Ytejcmcbpfnmlaaa

namespace Go.Proofs.Ytejcmcbpfnmlaaa
open Go.SE Go.RowKit
set_option linter.unusedSimpArgs false
set_option linter.unusedVariables false
set_option maxHeartbeats 1000000
set_option maxRecDepth 100000
/-! l4Holds -/
abbrev c_l4Holds : Con := ⟨[.state, .asn], [.bool], fun (s, a, _) => stV s = true ∧ asV a = true, .inl fun (s, a, _) => (HOL s a, ()), fun _ => 0⟩
abbrev L_l4Holds : List (FuncId × Con) := [(140, c_l4Part), (141, c_l3List), (142, c_sUsedCells)]
abbrev P_l4Holds : List (FuncId × PT) := []
def VC_l4Holds (s : GState) (a : GAsn) (k : Nat) : Prop := TN ∧ TN ∧ True ∧ True ∧ True ∧ ((stV s = true ∧ asV a = true) ∧ True ∧ TN ∧ True) ∧ (∀ r1 : (List Bool) × Bool × Unit, (r1.2.1 = poB s a ∧ (r1.2.1 = true → r1.1 = fl9 (fun t => (poL s a).contains t)) ∧ r1.1.length = 9) → True ∧ True ∧ True ∧ True ∧ True ∧ True ∧ True ∧ (vcIf r1.2.1 (True ∧ ((r1.1.length ≤ 1048576) ∧ True ∧ TN ∧ True) ∧ True ∧ True ∧ ((s.vals.length ≤ 281474976710656 ∧ s.heap.length ≤ 281474976710656) ∧ True ∧ TN ∧ True) ∧ True ∧ True ∧ True ∧ True ∧ ((((((flL r1.1).length : Nat) : Int) == (((cond (stV s) (usL s 8) []).length : Nat) : Int), ()) : Bool × Unit) = (HOL s a, ())) ∧ True ∧ True ∧ True ∧ True ∧ TF) (True ∧ True ∧ (((false, ()) : Bool × Unit) = (HOL s a, ())) ∧ True ∧ True ∧ True ∧ True ∧ TF)))
theorem vcn_l4Holds (s : GState) (a : GAsn) (k : Nat) (hp : stV s = true ∧ asV a = true) : VC_l4Holds s a k := by
  unfold VC_l4Holds
  simp only [TT, TF, TN, RL, RM, true_and, and_true, eq_self, implies_true, forall_const, List.cons.injEq, S.s.injEq, S0.c.injEq, S0.agg.injEq, CV.d.injEq, CV.own.injEq, CV.ptr.injEq, DC.val.injEq, Value.int.injEq, Value.bool.injEq, Option.some.injEq, Res.blk.injEq, Prod.mk.injEq, inK, min_i64, max_i64, min_u16, max_u16, min_u8, max_u8, min_u64, max_u64, vcIf_true, vcIf_false, List.mem_nil_iff, List.not_mem_nil, not_false_eq_true, Nat.reduceEqDiff, Nat.reduceLeDiff, ne_eq, Bool.and_true, Nat.add_zero, List.append_nil, List.nil_append, List.length_nil, List.length_cons, Nat.zero_add, Nat.reduceAdd, Int.toNat_natCast, Nat.sub_zero, List.drop_zero, List.map_nil, List.take_zero, forall_eq]
  have hb := stV_big hp.1
  have hs := hp.1
  all_goals (try simp only [vcIf_iff, decide_eq_true_eq, decide_eq_false_iff_not, bne_iff_ne, ne_eq, beq_iff_eq, beq_eq_false_iff_ne, bne_eq_false_iff_eq, Bool.not_eq_true', Bool.not_eq_false', Int.ofNat_lt, Int.natCast_inj])
  all_goals (repeat' (first | apply And.intro | intro _))
  all_goals (repeat (cases ‹_ ∧ _›))
  all_goals (first | omega | assumption | skip)
  all_goals (first
   | exact hol_q hs (by assumption) (by assumption) (by assumption)
   | exact (hol_poF ((‹_ = poB s a›).symm.trans (by assumption))).symm
   | skip)
theorem vce_l4Holds (s : GState) (a : GAsn) (k : Nat) : VC_l4Holds s a k = vcQ tab (lookF L_l4Holds) (lookP P_l4Holds) (fun _ => false) (fun _ => none) (fun _ _ => none) (fun _ => []) (bodyOf Try.f93) (entry (encs c_l4Holds.aks (s, a, ())) (rdOf false k)) (retOk tab c_l4Holds Try.f93.results.toList (s, a, ()) k) := by kernel_rfl
theorem vc_l4Holds (s : GState) (a : GAsn) (k : Nat) (hp : stV s = true ∧ asV a = true) : vcQ tab (lookF L_l4Holds) (lookP P_l4Holds) (fun _ => false) (fun _ => none) (fun _ _ => none) (fun _ => []) (bodyOf Try.f93) (entry (encs c_l4Holds.aks (s, a, ())) (rdOf false k)) (retOk tab c_l4Holds Try.f93.results.toList (s, a, ()) k) := (vce_l4Holds s a k).mp (vcn_l4Holds s a k hp)
theorem ok_l4Holds : FnOk Try.prog E 93 c_l4Holds :=
  fn_okQ (l := L_l4Holds) (lp := P_l4Holds) (hp := fun _ => false) (gcs := fun _ => none) (perm := fun _ => []) tabOk mix ⟨ok_l4Part, ok_l3List, ok_sUsedCells, trivial⟩ trivial Try.func93 rfl (by kernel_rfl) (by decide) (by kernel_rfl) (anns := fun x _ => fun _ _ => none) (fun ⟨s, a, _⟩ k hp _ => vc_l4Holds s a k hp) tot_fn
end Go.Proofs.Ytejcmcbpfnmlaaa

namespace Go.Proofs.Ytejcmcbpfnmlaaa
open Go.SE Go.RowKit
set_option linter.unusedSimpArgs false
set_option linter.unusedVariables false
set_option maxHeartbeats 1000000
set_option maxRecDepth 100000
/-! sHolds -/
abbrev c_sHolds : Con := ⟨[.state, .asn], [.bool], fun (s, a, _) => s.vals.length ≤ 281474976710656 ∧ s.heap.length ≤ 281474976710656 ∧ a.facts.length ≤ 281474976710656 ∧ a.atoms.length ≤ 281474976710656, .inl fun (s, a, _) => (HOL s a, ()), fun _ => 0⟩
abbrev L_sHolds : List (FuncId × Con) := [(73, c_sAssertionValid), (92, c_sStateValid), (93, c_l4Holds)]
abbrev P_sHolds : List (FuncId × PT) := []
def VC_sHolds (s : GState) (a : GAsn) (k : Nat) : Prop := TN ∧ TN ∧ True ∧ True ∧ ((s.vals.length ≤ 281474976710656 ∧ s.heap.length ≤ 281474976710656) ∧ True ∧ True) ∧ True ∧ (vcIf (stV s) (True ∧ ((a.facts.length ≤ 281474976710656 ∧ a.atoms.length ≤ 281474976710656) ∧ True ∧ True) ∧ True ∧ True ∧ (vcIf (asV a) (True ∧ True ∧ ((stV s = true ∧ asV a = true) ∧ True ∧ True) ∧ True ∧ True ∧ ((((HOL s a), ()) : Bool × Unit) = (HOL s a, ())) ∧ True ∧ True ∧ True ∧ True ∧ TF) (True ∧ True ∧ (((false, ()) : Bool × Unit) = (HOL s a, ())) ∧ True ∧ True ∧ True ∧ True ∧ TF))) (True ∧ True ∧ True ∧ True ∧ (((false, ()) : Bool × Unit) = (HOL s a, ())) ∧ True ∧ True ∧ True ∧ True ∧ TF))
theorem vcn_sHolds (s : GState) (a : GAsn) (k : Nat) (hp : s.vals.length ≤ 281474976710656 ∧ s.heap.length ≤ 281474976710656 ∧ a.facts.length ≤ 281474976710656 ∧ a.atoms.length ≤ 281474976710656) : VC_sHolds s a k := by
  unfold VC_sHolds
  simp only [TT, TF, TN, RL, RM, true_and, and_true, eq_self, implies_true, forall_const, List.cons.injEq, S.s.injEq, S0.c.injEq, S0.agg.injEq, CV.d.injEq, CV.own.injEq, CV.ptr.injEq, DC.val.injEq, Value.int.injEq, Value.bool.injEq, Option.some.injEq, Res.blk.injEq, Prod.mk.injEq, inK, min_i64, max_i64, min_u16, max_u16, min_u8, max_u8, min_u64, max_u64, vcIf_true, vcIf_false, List.mem_nil_iff, List.not_mem_nil, not_false_eq_true, Nat.reduceEqDiff, Nat.reduceLeDiff, ne_eq, Bool.and_true, Nat.add_zero, List.append_nil, List.nil_append, List.length_nil, List.length_cons, Nat.zero_add, Nat.reduceAdd, Int.toNat_natCast, Nat.sub_zero, List.drop_zero, List.map_nil, List.take_zero, forall_eq]
  all_goals (try simp only [vcIf_iff, decide_eq_true_eq, decide_eq_false_iff_not, bne_iff_ne, ne_eq, beq_iff_eq, beq_eq_false_iff_ne, bne_eq_false_iff_eq, Bool.not_eq_true', Bool.not_eq_false', Int.ofNat_lt, Int.natCast_inj])
  all_goals (repeat' (first | apply And.intro | intro _))
  all_goals (repeat (cases ‹_ ∧ _›))
  all_goals (first | omega | rfl | assumption | (simp_all; done) | skip)
  all_goals (first | exact (hol_no1 (by assumption)).symm | exact (hol_no2 (by assumption)).symm | skip)
theorem vce_sHolds (s : GState) (a : GAsn) (k : Nat) : VC_sHolds s a k = vcQ tab (lookF L_sHolds) (lookP P_sHolds) (fun _ => false) (fun _ => none) (fun _ _ => none) (fun _ => []) (bodyOf Try.f34) (entry (encs c_sHolds.aks (s, a, ())) (rdOf false k)) (retOk tab c_sHolds Try.f34.results.toList (s, a, ()) k) := by kernel_rfl
theorem vc_sHolds (s : GState) (a : GAsn) (k : Nat) (hp : s.vals.length ≤ 281474976710656 ∧ s.heap.length ≤ 281474976710656 ∧ a.facts.length ≤ 281474976710656 ∧ a.atoms.length ≤ 281474976710656) : vcQ tab (lookF L_sHolds) (lookP P_sHolds) (fun _ => false) (fun _ => none) (fun _ _ => none) (fun _ => []) (bodyOf Try.f34) (entry (encs c_sHolds.aks (s, a, ())) (rdOf false k)) (retOk tab c_sHolds Try.f34.results.toList (s, a, ()) k) := (vce_sHolds s a k).mp (vcn_sHolds s a k hp)
theorem ok_sHolds : FnOk Try.prog E 34 c_sHolds :=
  fn_okQ (l := L_sHolds) (lp := P_sHolds) (hp := fun _ => false) (gcs := fun _ => none) (perm := fun _ => []) tabOk mix ⟨ok_sAssertionValid, ok_sStateValid, ok_l4Holds, trivial⟩ trivial Try.func34 rfl (by kernel_rfl) (by decide) (by kernel_rfl) (anns := fun x _ => fun _ _ => none) (fun ⟨s, a, _⟩ k hp _ => vc_sHolds s a k hp) tot_fn
end Go.Proofs.Ytejcmcbpfnmlaaa

namespace Go.Proofs.Ytejcmcbpfnmlaaa
open Go.SE Go.RowKit
set_option linter.unusedSimpArgs false
set_option linter.unusedVariables false
set_option maxHeartbeats 1000000
set_option maxRecDepth 100000
/-! FnHoldsFacts -/
abbrev c_FnHoldsFacts : Con := ⟨[.sl .u8, .sl .u8], [.bool], fun (code, more, _) => code.length ≤ 281474976710656 ∧ more.length ≤ 281474976710656, .inl fun (code, more, _) => (true, ()), fun _ => 0⟩
abbrev L_FnHoldsFacts : List (FuncId × Con) := [(30, c_iStarAssertions), (31, c_DrawHolds), (32, c_DrawTestHolds), (33, c_iHolds), (34, c_sHolds), (35, c_iStateValid), (36, c_iFactsHold)]
abbrev P_FnHoldsFacts : List (FuncId × PT) := []
def VC_FnHoldsFacts_1 (code : List UInt8) (more : List UInt8) (k : Nat) (r1 : GState × GAsn × Unit) (r2 : GState × GFact × Unit) : Prop := ((TF ∧ TF) ∧ True ∧ True ∧ ((r1.1.vals.length ≤ 281474976710656 ∧ r1.1.heap.length ≤ 281474976710656 ∧ r1.2.1.facts.length ≤ 281474976710656 ∧ r1.2.1.atoms.length ≤ 281474976710656) ∧ True ∧ True) ∧ True ∧ True ∧ True ∧ (TN ∧ True) ∧ (TN ∧ TN ∧ True) ∧ ((r1.2.1.facts.length ≤ 1048576 ∧ r1.2.1.atoms.length ≤ 1048576 ∧ (⟨([r2.2.1] : List GFact), ([] : List GAtom)⟩ : GAsn).facts.length ≤ 1048576 ∧ (⟨([r2.2.1] : List GFact), ([] : List GAtom)⟩ : GAsn).atoms.length ≤ 1048576) ∧ True ∧ TN ∧ TN ∧ True) ∧ True ∧ True ∧ True ∧ (TN ∧ TN ∧ TN ∧ True) ∧ (TF ∧ TF) ∧ True ∧ True ∧ True ∧ True ∧ ((r1.1.vals.length ≤ 281474976710656 ∧ r1.1.heap.length ≤ 281474976710656 ∧ r1.2.1.facts.length ≤ 281474976710656 ∧ r1.2.1.atoms.length ≤ 281474976710656) ∧ True ∧ True) ∧ True ∧ True ∧ (vcIf ((HOL r1.1 r1.2.1) != (HOL r1.1 r1.2.1)) (True ∧ True ∧ True ∧ True ∧ True ∧ True ∧ ((r1.1.vals.length ≤ 281474976710656 ∧ r1.1.heap.length ≤ 281474976710656 ∧ r1.2.1.facts.length ≤ 281474976710656 ∧ r1.2.1.atoms.length ≤ 281474976710656) ∧ True ∧ True) ∧ True ∧ True ∧ ((((HOL r1.1 r1.2.1) == (HOL r1.1 r1.2.1), ()) : Bool × Unit) = (true, ())) ∧ True ∧ True ∧ True ∧ True ∧ TF) (True ∧ True ∧ True ∧ True ∧ (vcIf (!(starOk r1.2.1 (⟨([r2.2.1] : List GFact), ([] : List GAtom)⟩ : GAsn))) (True ∧ True ∧ True ∧ True ∧ ((r1.1.vals.length ≤ 281474976710656 ∧ r1.1.heap.length ≤ 281474976710656 ∧ r1.2.1.facts.length ≤ 281474976710656 ∧ r1.2.1.atoms.length ≤ 281474976710656) ∧ True ∧ True) ∧ True ∧ True ∧ ((((HOL r1.1 r1.2.1) == (HOL r1.1 r1.2.1), ()) : Bool × Unit) = (true, ())) ∧ True ∧ True ∧ True ∧ True ∧ TF) (True ∧ ((r1.1.vals.length ≤ 281474976710656 ∧ r1.1.heap.length ≤ 281474976710656) ∧ True ∧ True) ∧ True ∧ True ∧ (vcIf (!(stV r1.1)) (True ∧ True ∧ True ∧ ((r1.1.vals.length ≤ 281474976710656 ∧ r1.1.heap.length ≤ 281474976710656 ∧ r1.2.1.facts.length ≤ 281474976710656 ∧ r1.2.1.atoms.length ≤ 281474976710656) ∧ True ∧ True) ∧ True ∧ True ∧ ((((HOL r1.1 r1.2.1) == (HOL r1.1 r1.2.1), ()) : Bool × Unit) = (true, ())) ∧ True ∧ True ∧ True ∧ True ∧ TF) (True ∧ True ∧ ((r1.1.vals.length ≤ 281474976710656 ∧ r1.1.heap.length ≤ 281474976710656 ∧ (starL r1.2.1 (⟨([r2.2.1] : List GFact), ([] : List GAtom)⟩ : GAsn)).facts.length ≤ 281474976710656 ∧ (starL r1.2.1 (⟨([r2.2.1] : List GFact), ([] : List GAtom)⟩ : GAsn)).atoms.length ≤ 281474976710656) ∧ True ∧ True) ∧ True ∧ True ∧ (vcIf (HOL r1.1 r1.2.1) (True ∧ (TN ∧ True) ∧ True ∧ True ∧ ((([r2.2.1] : List GFact).length ≤ 281474976710656 ∧ r1.1.vals.length ≤ 281474976710656) ∧ True ∧ True) ∧ True ∧ True ∧ True ∧ ((((HOL r1.1 (starL r1.2.1 (⟨([r2.2.1] : List GFact), ([] : List GAtom)⟩ : GAsn))) == (fsV ([r2.2.1] : List GFact) && (r1.1.vals.length == 8 && ([r2.2.1] : List GFact).all (holdF r1.1.vals))), ()) : Bool × Unit) = (true, ())) ∧ True ∧ True ∧ True ∧ True ∧ TF) (True ∧ True ∧ True ∧ ((((HOL r1.1 (starL r1.2.1 (⟨([r2.2.1] : List GFact), ([] : List GAtom)⟩ : GAsn))) == false, ()) : Bool × Unit) = (true, ())) ∧ True ∧ True ∧ True ∧ True ∧ TF)))))))))
def VC_FnHoldsFacts (code : List UInt8) (more : List UInt8) (k : Nat) : Prop := True ∧ True ∧ True ∧ True ∧ True ∧ (vcIf (decide ((1048576 : Int) < ((code.length : Nat) : Int))) (True ∧ True ∧ (((true, ()) : Bool × Unit) = (true, ())) ∧ True ∧ True ∧ True ∧ True ∧ TF) (True ∧ True ∧ True ∧ True ∧ (vcIf (decide ((1048576 : Int) < ((more.length : Nat) : Int))) (True ∧ (((true, ()) : Bool × Unit) = (true, ())) ∧ True ∧ True ∧ True ∧ True ∧ TF) (True ∧ (True ∧ True ∧ TN ∧ TN ∧ TN ∧ TN ∧ True) ∧ (∀ r1 : GState × GAsn × Unit, (r1.1.vals.length ≤ 8 ∧ r1.1.heap.length ≤ 9 ∧ r1.2.1.facts.length ≤ 40 ∧ r1.2.1.atoms.length ≤ 40) → True ∧ True ∧ True ∧ (TN ∧ TN ∧ TN ∧ True) ∧ (TN ∧ TN ∧ TN ∧ True) ∧ (TF ∧ TF) ∧ (TF ∧ TF) ∧ True ∧ (True ∧ True ∧ TN ∧ TN ∧ True) ∧ (∀ r2 : GState × GFact × Unit, (r2.1.vals.length ≤ 8 ∧ r2.1.heap.length ≤ 9) → True ∧ True ∧ True ∧ (TN ∧ TN ∧ TN ∧ True) ∧ (TN ∧ True) ∧ (TF ∧ TF) ∧ (VC_FnHoldsFacts_1 code more k r1 r2)))))))
theorem vcn_FnHoldsFacts (code : List UInt8) (more : List UInt8) (k : Nat) (hp : code.length ≤ 281474976710656 ∧ more.length ≤ 281474976710656) : VC_FnHoldsFacts code more k := by
  unfold VC_FnHoldsFacts VC_FnHoldsFacts_1
  simp only [TT, TF, TN, RL, RM, true_and, and_true, eq_self, implies_true, forall_const, List.cons.injEq, S.s.injEq, S0.c.injEq, S0.agg.injEq, CV.d.injEq, CV.own.injEq, CV.ptr.injEq, DC.val.injEq, Value.int.injEq, Value.bool.injEq, Option.some.injEq, Res.blk.injEq, Prod.mk.injEq, inK, min_i64, max_i64, min_u16, max_u16, min_u8, max_u8, min_u64, max_u64, vcIf_true, vcIf_false, List.mem_nil_iff, List.not_mem_nil, not_false_eq_true, Nat.reduceEqDiff, Nat.reduceLeDiff, ne_eq, Bool.and_true, Nat.add_zero, List.append_nil, List.nil_append, List.length_nil, List.length_cons, Nat.zero_add, Nat.reduceAdd, Int.toNat_natCast, Nat.sub_zero, List.drop_zero, List.map_nil, List.take_zero, forall_eq, bne_self_eq_false, beq_self_eq_true, decide_true, eq_self, Bool.not_true, Bool.not_false, vcIf_true, vcIf_false, Bool.false_and, Bool.true_and, Bool.or_false, Bool.or_true]
  all_goals (try simp only [vcIf_iff, decide_eq_true_eq, decide_eq_false_iff_not, bne_iff_ne, ne_eq, beq_iff_eq, beq_eq_false_iff_ne, bne_eq_false_iff_eq, Bool.not_eq_true', Bool.not_eq_false', Int.ofNat_lt, Int.natCast_inj])
  all_goals (repeat' (first | apply And.intro | intro _))
  all_goals (repeat (cases ‹_ ∧ _›))
  all_goals (first | omega | with_reducible assumption | (simp_all; done) | skip)
  all_goals (first
   | exact Nat.le_trans (starL_lenF _ _) (by simp only [List.length_cons, List.length_nil]; omega) | exact Nat.le_trans (starL_lenA _ _) (by simp only [List.length_cons, List.length_nil]; omega)
   | exact Nat.le_trans (subL_lenF _ _ _) (by omega) | exact Nat.le_trans (subL_lenA _ _ _) (by omega)
   | with_reducible exact hol_star1 (by assumption) (by assumption) (by assumption) | with_reducible exact hol_star0 (by assumption) (by assumption) | with_reducible exact hol_starI (by assumption) (by assumption)
   | with_reducible exact (imp_fh2 (by assumption) (by assumption) (by assumption)).elim | with_reducible exact imp_fh (by assumption) (by assumption)
   | with_reducible exact cons_neg (by assumption)
   | with_reducible exact hol_subV (by assumption) (by assumption) (by assumption) (by assumption)
   | with_reducible exact (alc_q1 (by assumption) (by assumption) (by assumption)).elim | with_reducible exact (alc_q3 (by assumption) (by assumption) (by assumption)).elim | with_reducible exact alc_q2 (by assumption) (by assumption)
   | skip)
theorem vce_FnHoldsFacts (code : List UInt8) (more : List UInt8) (k : Nat) : VC_FnHoldsFacts code more k = vcQ tab (lookF L_FnHoldsFacts) (lookP P_FnHoldsFacts) (fun _ => false) (fun _ => none) (fun _ _ => none) (fun _ => []) (bodyOf Try.f6) (entry (encs c_FnHoldsFacts.aks (code, more, ())) (rdOf false k)) (retOk tab c_FnHoldsFacts Try.f6.results.toList (code, more, ()) k) := by kernel_rfl
theorem vc_FnHoldsFacts (code : List UInt8) (more : List UInt8) (k : Nat) (hp : code.length ≤ 281474976710656 ∧ more.length ≤ 281474976710656) : vcQ tab (lookF L_FnHoldsFacts) (lookP P_FnHoldsFacts) (fun _ => false) (fun _ => none) (fun _ _ => none) (fun _ => []) (bodyOf Try.f6) (entry (encs c_FnHoldsFacts.aks (code, more, ())) (rdOf false k)) (retOk tab c_FnHoldsFacts Try.f6.results.toList (code, more, ()) k) := (vce_FnHoldsFacts code more k).mp (vcn_FnHoldsFacts code more k hp)
theorem ok_FnHoldsFacts : FnOk Try.prog E 6 c_FnHoldsFacts :=
  fn_okQ (l := L_FnHoldsFacts) (lp := P_FnHoldsFacts) (hp := fun _ => false) (gcs := fun _ => none) (perm := fun _ => []) tabOk mix ⟨ok_iStarAssertions, ok_DrawHolds, ok_DrawTestHolds, ok_iHolds, ok_sHolds, ok_iStateValid, ok_iFactsHold, trivial⟩ trivial Try.func6 rfl (by kernel_rfl) (by decide) (by kernel_rfl) (anns := fun x _ => fun _ _ => none) (fun ⟨code, more, _⟩ k hp _ => vc_FnHoldsFacts code more k hp) tot_fn
end Go.Proofs.Ytejcmcbpfnmlaaa
