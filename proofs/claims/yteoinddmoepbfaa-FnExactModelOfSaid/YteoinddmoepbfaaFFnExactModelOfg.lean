/-
  Contracts of single functions of the program, each shown by the engine: what a call returns for arguments within the contract's bounds.
-/
import Derived.Test.YteoinddmoepbfaaFFnExactModelOfa
import Derived.Test.YteoinddmoepbfaaFFnExactModelOfe
import Derived.Test.YteoinddmoepbfaaFFnExactModelOff
import Derived.Test.YteoinddmoepbfaaEe
import Derived.Test.YteoinddmoepbfaaEf
import Derived.Test.YteoinddmoepbfaaEg
import Derived.Test.YteoinddmoepbfaaFFnExactModelOfb
import Derived.Test.YteoinddmoepbfaaFFnExactModelOfd
set_option linter.unusedSimpArgs false
set_option linter.unusedVariables false
set_option linter.unusedSectionVars false

namespace Go.Proofs.Yteoinddmoepbfaa
open Go.SE Go.RowKit
set_option linter.unusedSimpArgs false
set_option linter.unusedVariables false
set_option maxHeartbeats 1000000
set_option maxRecDepth 100000
/-! iModelOf -/
abbrev c_iModelOf : Con := ⟨[.asn], [.state, .bool], fun (a, _) => a.facts.length ≤ 281474976710656 ∧ a.atoms.length ≤ 281474976710656, .inl fun (a, _) => (mdL a, asV a && !(casesF a).isEmpty, ()), fun _ => 0⟩
abbrev L_iModelOf : List (FuncId × Con) := [(18, c_iAssertionValid), (73, c_firstCase), (106, c_caseState)]
abbrev P_iModelOf : List (FuncId × PT) := []
def VC_iModelOf (a : GAsn) (k : Nat) : Prop := TN ∧ (TN ∧ TN ∧ TN ∧ True) ∧ True ∧ True ∧ ((a.facts.length ≤ 281474976710656 ∧ a.atoms.length ≤ 281474976710656) ∧ True ∧ True) ∧ True ∧ (vcIf (!(asV a)) ((TN ∧ TN ∧ True) ∧ (TF ∧ TF) ∧ True ∧ ((((⟨([] : List Int), ([] : List Int)⟩ : GState), false, ()) : GState × Bool × Unit) = (mdL a, asV a && !(casesF a).isEmpty, ())) ∧ ((((144 : Nat) ≠ 145) ∧ True) ∧ True ∧ True) ∧ ((TF ∧ TF) ∧ (TF ∧ TF) ∧ True) ∧ True ∧ (True ∧ True ∧ True) ∧ TF) (True ∧ ((asV a = true) ∧ True ∧ True) ∧ True ∧ True ∧ True ∧ (TN ∧ True) ∧ ((((casesF a).headD (List.replicate 9 0)).length = (List.replicate 9 (0 : Int)).length) ∧ TF ∧ TF) ∧ True ∧ True ∧ True ∧ (vcIf (!(!(casesF a).isEmpty)) ((TN ∧ TN ∧ True) ∧ (TF ∧ TF) ∧ True ∧ ((((⟨([] : List Int), ([] : List Int)⟩ : GState), false, ()) : GState × Bool × Unit) = (mdL a, asV a && !(casesF a).isEmpty, ())) ∧ ((((272 : Nat) ≠ 273) ∧ True) ∧ True ∧ True) ∧ ((TF ∧ TF) ∧ (TF ∧ TF) ∧ True) ∧ True ∧ (True ∧ True ∧ True) ∧ TF) (True ∧ (9 = ((casesF a).headD (List.replicate 9 0)).length * 1) ∧ ((asV a = true ∧ CaseOk a ((casesF a).headD (List.replicate 9 0))) ∧ True ∧ TN ∧ TN ∧ True) ∧ (TF ∧ TF) ∧ True ∧ ((((md a ((casesF a).headD (List.replicate 9 0))), true, ()) : GState × Bool × Unit) = (mdL a, asV a && !(casesF a).isEmpty, ())) ∧ ((((320 : Nat) ≠ 321) ∧ True) ∧ True ∧ True) ∧ ((TF ∧ TF) ∧ (TF ∧ TF) ∧ True) ∧ True ∧ (True ∧ True ∧ True) ∧ TF))))
theorem vcn_iModelOf (a : GAsn) (k : Nat) (hp : a.facts.length ≤ 281474976710656 ∧ a.atoms.length ≤ 281474976710656) : VC_iModelOf a k := by
  unfold VC_iModelOf
  simp only [TT, TF, TN, RL, RM, true_and, and_true, eq_self, implies_true, forall_const, List.cons.injEq, S.s.injEq, S0.c.injEq, S0.agg.injEq, CV.d.injEq, CV.own.injEq, CV.ptr.injEq, DC.val.injEq, Value.int.injEq, Value.bool.injEq, Option.some.injEq, Res.blk.injEq, Prod.mk.injEq, inK, min_i64, max_i64, min_u16, max_u16, min_u8, max_u8, min_u64, max_u64, vcIf_true, vcIf_false, List.mem_nil_iff, List.not_mem_nil, not_false_eq_true, Nat.reduceEqDiff, Nat.reduceLeDiff, ne_eq, Bool.and_true, Nat.add_zero, List.append_nil, List.nil_append, List.length_nil, List.length_cons, Nat.zero_add, Nat.reduceAdd, Int.toNat_natCast, Nat.sub_zero, List.drop_zero, List.map_nil, List.take_zero, forall_eq]
  have hl := casesF_len a
  all_goals (try simp only [vcIf_iff, decide_eq_true_eq, decide_eq_false_iff_not, bne_iff_ne, ne_eq, beq_iff_eq, beq_eq_false_iff_ne, bne_eq_false_iff_eq, Bool.not_eq_true', Bool.not_eq_false', Int.ofNat_lt, Int.natCast_inj])
  all_goals (repeat' (first | apply And.intro | intro _))
  all_goals (repeat (cases ‹_ ∧ _›))
  all_goals (first | omega | rfl | assumption | (simp_all; done) | skip)
  all_goals (first
   | exact mdL_no1 (by assumption) | exact mdL_no2 (by assumption) | exact mdL_yes (by assumption) (by assumption) _ | exact head_ok (by assumption) (by assumption) _ | omega | skip)
theorem vce_iModelOf (a : GAsn) (k : Nat) : VC_iModelOf a k = vcQ tab (lookF L_iModelOf) (lookP P_iModelOf) (fun _ => false) (fun _ => none) (fun _ _ => none) (fun _ => []) (bodyOf Try.f47) (entry (encs c_iModelOf.aks (a, ())) (rdOf false k)) (retOk tab c_iModelOf Try.f47.results.toList (a, ()) k) := by kernel_rfl
theorem vc_iModelOf (a : GAsn) (k : Nat) (hp : a.facts.length ≤ 281474976710656 ∧ a.atoms.length ≤ 281474976710656) : vcQ tab (lookF L_iModelOf) (lookP P_iModelOf) (fun _ => false) (fun _ => none) (fun _ _ => none) (fun _ => []) (bodyOf Try.f47) (entry (encs c_iModelOf.aks (a, ())) (rdOf false k)) (retOk tab c_iModelOf Try.f47.results.toList (a, ()) k) := (vce_iModelOf a k).mp (vcn_iModelOf a k hp)
theorem ok_iModelOf : FnOk Try.prog E 47 c_iModelOf :=
  fn_okQ (l := L_iModelOf) (lp := P_iModelOf) (hp := fun _ => false) (gcs := fun _ => none) (perm := fun _ => []) tabOk mix ⟨ok_iAssertionValid, ok_firstCase, ok_caseState, trivial⟩ trivial Try.func47 rfl (by kernel_rfl) (by decide) (by kernel_rfl) (anns := fun x _ => fun _ _ => none) (fun ⟨a, _⟩ k hp _ => vc_iModelOf a k hp) tot_fn
end Go.Proofs.Yteoinddmoepbfaa

namespace Go.Proofs.Yteoinddmoepbfaa
open Go.SE Go.RowKit
set_option linter.unusedSimpArgs false
set_option linter.unusedVariables false
set_option maxHeartbeats 1000000
set_option maxRecDepth 100000
/-! heldIntS -/
abbrev c_heldIntS : Con := ⟨[.sl .int, .int], [.int], fun (l, n, _) => 0 ≤ n ∧ n ≤ 4611686018427387904 ∧ l.length ≤ 281474976710656, .inl fun (l, n, _) => (hdI l n, ()), fun _ => 0⟩
abbrev L_heldIntS : List (FuncId × Con) := []
abbrev P_heldIntS : List (FuncId × PT) := []
def an_heldIntS (l : List Int) (n : Int) : Nat → St → Option Ann
  | 2, se => some { α := Nat, ok := fun i => i ≤ l.length ∧ hdI' (fI n) l i, mu := fun i => l.length - i, i0 := fun _ => 0, nx := fun a _ => (fun i => i + 1) a, live := [0], sets := fun i => [(5, sv (.int .i64 i)), (1, sv (.int .i64 (n + (i : Int))))], mids := [], blks := fun i => [], owns := fun i => [], rd := fun r _ => r, base := 100000 }
  | _, _ => none
def VC_heldIntS (l : List Int) (n : Int) (k : Nat) : Prop := True ∧ True ∧ ((0 ≤ l.length ∧ hdI' (fI n) l 0) ∧ TT ∧ (RL [.s (.c (.d (.arr .int l)))]) ∧ (([.s (.c (.d (.val (.int .i64 (0 : Int))))), .s (.c (.d (.val (.int .i64 n))))] : List S) = [.s (.c (.d (.val (.int .i64 ((0 : Nat) : Int))))), .s (.c (.d (.val (.int .i64 (n + (0 : Int) : Int)))))]) ∧ (RM []) ∧ (RM []) ∧ True ∧ TT) ∧ (∀ i1 : Nat, (i1 ≤ l.length ∧ hdI' (fI n) l i1) → True ∧ True ∧ True ∧ True ∧ (vcIf (decide (((i1 : Nat) : Int) < ((l.length : Nat) : Int))) (True ∧ True ∧ (0 ≤ ((i1 : Nat) : Int) ∧ ((i1 : Nat) : Int) < ((l.length : Nat) : Int)) ∧ True ∧ True ∧ True ∧ (vcIf ((l.getD i1 (0 : Int)) != (n + (i1 : Int) : Int)) (True ∧ ((((-1 : Int), ()) : Int × Unit) = (hdI l n, ())) ∧ True ∧ True ∧ True ∧ True ∧ TF) (True ∧ (inK .i64 ((n + (i1 : Int) : Int) + (1 : Int))) ∧ True ∧ True ∧ (inK .i64 (((i1 : Nat) : Int) + (1 : Int))) ∧ True ∧ ((i1 + 1) ≤ l.length ∧ hdI' (fI n) l (i1 + 1)) ∧ (l.length - (i1 + 1) < l.length - i1) ∧ TT ∧ (RL [.s (.c (.d (.arr .int l)))]) ∧ (([.s (.c (.d (.val (.int .i64 (((i1 : Nat) : Int) + (1 : Int)))))), .s (.c (.d (.val (.int .i64 ((n + (i1 : Int) : Int) + (1 : Int))))))] : List S) = [.s (.c (.d (.val (.int .i64 (((i1 + 1) : Nat) : Int))))), .s (.c (.d (.val (.int .i64 (n + ((i1 + 1) : Int) : Int)))))]) ∧ (RM []) ∧ (RM []) ∧ True ∧ TT))) (True ∧ True ∧ ((((n + (i1 : Int) : Int), ()) : Int × Unit) = (hdI l n, ())) ∧ True ∧ True ∧ True ∧ True ∧ TF)))
theorem vcn_heldIntS (l : List Int) (n : Int) (k : Nat) (hp : 0 ≤ n ∧ n ≤ 4611686018427387904 ∧ l.length ≤ 281474976710656) : VC_heldIntS l n k := by
  unfold VC_heldIntS
  simp only [TT, TF, TN, RL, RM, true_and, and_true, eq_self, implies_true, forall_const, List.cons.injEq, S.s.injEq, S0.c.injEq, S0.agg.injEq, CV.d.injEq, CV.own.injEq, CV.ptr.injEq, DC.val.injEq, Value.int.injEq, Value.bool.injEq, Option.some.injEq, Res.blk.injEq, Prod.mk.injEq, inK, min_i64, max_i64, min_u16, max_u16, min_u8, max_u8, min_u64, max_u64, vcIf_true, vcIf_false, List.mem_nil_iff, List.not_mem_nil, not_false_eq_true, Nat.reduceEqDiff, Nat.reduceLeDiff, ne_eq, Bool.and_true, Nat.add_zero, List.append_nil, List.nil_append, List.length_nil, List.length_cons, Nat.zero_add, Nat.reduceAdd, Int.toNat_natCast, Nat.sub_zero, List.drop_zero, List.map_nil, List.take_zero, forall_eq]
  all_goals (try simp only [vcIf_iff, decide_eq_true_eq, decide_eq_false_iff_not, bne_iff_ne, ne_eq, beq_iff_eq, beq_eq_false_iff_ne, bne_eq_false_iff_eq, Bool.not_eq_true', Bool.not_eq_false', Int.ofNat_lt, Int.natCast_inj])
  all_goals (repeat' (first | apply And.intro | intro _))
  all_goals (repeat (cases ‹_ ∧ _›))
  all_goals (first | omega | exact hd_zero _ _ | (simp_all; done) | skip)
  all_goals (first | (refine hd_step (d := Ty.zero .int) (by assumption) (by assumption) ?_; simp only [Ty.zero, fI] at *; first | assumption | (cases h : l.getD _ _; simp_all; omega) | grind) | (have h5 := hd_full (by assumption) (by assumption) (by assumption); unfold hdI mkI; rw [decide_eq_true h5, cond_true]; omega) | (have h5 : l ≠ mkI l n := hd_not (d := Ty.zero .int) (by assumption) (fun e => by simp only [Ty.zero, fI] at *; first | (simp_all; done) | (simp_all; omega)); unfold hdI; rw [decide_eq_false h5]; rfl) | grind)
theorem vce_heldIntS (l : List Int) (n : Int) (k : Nat) : VC_heldIntS l n k = vcQ tab (lookF L_heldIntS) (lookP P_heldIntS) (fun _ => false) (fun _ => none) (an_heldIntS l n) (fun _ => []) (bodyOf Try.f40) (entry (encs c_heldIntS.aks (l, n, ())) (rdOf false k)) (retOk tab c_heldIntS Try.f40.results.toList (l, n, ()) k) := by kernel_rfl
theorem vc_heldIntS (l : List Int) (n : Int) (k : Nat) (hp : 0 ≤ n ∧ n ≤ 4611686018427387904 ∧ l.length ≤ 281474976710656) : vcQ tab (lookF L_heldIntS) (lookP P_heldIntS) (fun _ => false) (fun _ => none) (an_heldIntS l n) (fun _ => []) (bodyOf Try.f40) (entry (encs c_heldIntS.aks (l, n, ())) (rdOf false k)) (retOk tab c_heldIntS Try.f40.results.toList (l, n, ()) k) := (vce_heldIntS l n k).mp (vcn_heldIntS l n k hp)
theorem ok_heldIntS : FnOk Try.prog E 40 c_heldIntS :=
  fn_okQ (l := L_heldIntS) (lp := P_heldIntS) (hp := fun _ => false) (gcs := fun _ => none) (perm := fun _ => []) tabOk mix trivial trivial Try.func40 rfl (by kernel_rfl) (by decide) (by kernel_rfl) (anns := fun x _ => an_heldIntS x.1 x.2.1) (fun ⟨l, n, _⟩ k hp _ => vc_heldIntS l n k hp) tot_fn
end Go.Proofs.Yteoinddmoepbfaa

namespace Go.Proofs.Yteoinddmoepbfaa
open Go.SE Go.RowKit
set_option linter.unusedSimpArgs false
set_option linter.unusedVariables false
set_option maxHeartbeats 1000000
set_option maxRecDepth 100000
/-! heldState -/
abbrev c_heldState : Con := ⟨[.state, .int], [.int], fun (s, n, _) => s.vals.length ≤ 281474976710656 ∧ s.heap.length ≤ 281474976710656 ∧ 0 ≤ n ∧ n ≤ 2305843009213693952, .inl fun (s, n, _) => (hdS s n, ()), fun _ => 0⟩
abbrev L_heldState : List (FuncId × Con) := [(40, c_heldIntS)]
abbrev P_heldState : List (FuncId × PT) := []
def VC_heldState (s : GState) (n : Int) (k : Nat) : Prop := TN ∧ True ∧ True ∧ True ∧ True ∧ ((0 ≤ n ∧ n ≤ 4611686018427387904 ∧ s.vals.length ≤ 281474976710656) ∧ True ∧ True) ∧ True ∧ True ∧ True ∧ (vcIf (decide ((hdI s.vals n) < (0 : Int))) (True ∧ ((((-1 : Int), ()) : Int × Unit) = (hdS s n, ())) ∧ True ∧ True ∧ True ∧ True ∧ TF) (True ∧ True ∧ True ∧ ((0 ≤ (hdI s.vals n) ∧ (hdI s.vals n) ≤ 4611686018427387904 ∧ s.heap.length ≤ 281474976710656) ∧ True ∧ True) ∧ True ∧ True ∧ True ∧ (vcIf (decide ((hdI s.heap (hdI s.vals n)) < (0 : Int))) (True ∧ ((((-1 : Int), ()) : Int × Unit) = (hdS s n, ())) ∧ True ∧ True ∧ True ∧ True ∧ TF) (True ∧ True ∧ ((((hdI s.heap (hdI s.vals n)), ()) : Int × Unit) = (hdS s n, ())) ∧ True ∧ True ∧ True ∧ True ∧ TF))))
theorem vcn_heldState (s : GState) (n : Int) (k : Nat) (hp : s.vals.length ≤ 281474976710656 ∧ s.heap.length ≤ 281474976710656 ∧ 0 ≤ n ∧ n ≤ 2305843009213693952) : VC_heldState s n k := by
  unfold VC_heldState
  simp only [TT, TF, TN, RL, RM, true_and, and_true, eq_self, implies_true, forall_const, List.cons.injEq, S.s.injEq, S0.c.injEq, S0.agg.injEq, CV.d.injEq, CV.own.injEq, CV.ptr.injEq, DC.val.injEq, Value.int.injEq, Value.bool.injEq, Option.some.injEq, Res.blk.injEq, Prod.mk.injEq, inK, min_i64, max_i64, min_u16, max_u16, min_u8, max_u8, min_u64, max_u64, vcIf_true, vcIf_false, List.mem_nil_iff, List.not_mem_nil, not_false_eq_true, Nat.reduceEqDiff, Nat.reduceLeDiff, ne_eq, Bool.and_true, Nat.add_zero, List.append_nil, List.nil_append, List.length_nil, List.length_cons, Nat.zero_add, Nat.reduceAdd, Int.toNat_natCast, Nat.sub_zero, List.drop_zero, List.map_nil, List.take_zero, forall_eq]
  have h1 := hdI_le s.vals n hp.2.2.1
  all_goals (try simp only [vcIf_iff, decide_eq_true_eq, decide_eq_false_iff_not, bne_iff_ne, ne_eq, beq_iff_eq, beq_eq_false_iff_ne, bne_eq_false_iff_eq, Bool.not_eq_true', Bool.not_eq_false', Int.ofNat_lt, Int.natCast_inj])
  all_goals (repeat' (first | apply And.intro | intro _))
  all_goals (repeat (cases ‹_ ∧ _›))
  all_goals (first | omega | rfl | assumption | (simp_all; done) | skip)
  all_goals (first | omega | (unfold hdS; rw [if_pos (by assumption)]; done) | (unfold hdS; rw [if_neg (by assumption), if_pos (by assumption)]; done) | (unfold hdS; rw [if_neg (by assumption), if_neg (by assumption)]; done) | skip)
theorem vce_heldState (s : GState) (n : Int) (k : Nat) : VC_heldState s n k = vcQ tab (lookF L_heldState) (lookP P_heldState) (fun _ => false) (fun _ => none) (fun _ _ => none) (fun _ => []) (bodyOf Try.f48) (entry (encs c_heldState.aks (s, n, ())) (rdOf false k)) (retOk tab c_heldState Try.f48.results.toList (s, n, ()) k) := by kernel_rfl
theorem vc_heldState (s : GState) (n : Int) (k : Nat) (hp : s.vals.length ≤ 281474976710656 ∧ s.heap.length ≤ 281474976710656 ∧ 0 ≤ n ∧ n ≤ 2305843009213693952) : vcQ tab (lookF L_heldState) (lookP P_heldState) (fun _ => false) (fun _ => none) (fun _ _ => none) (fun _ => []) (bodyOf Try.f48) (entry (encs c_heldState.aks (s, n, ())) (rdOf false k)) (retOk tab c_heldState Try.f48.results.toList (s, n, ()) k) := (vce_heldState s n k).mp (vcn_heldState s n k hp)
theorem ok_heldState : FnOk Try.prog E 48 c_heldState :=
  fn_okQ (l := L_heldState) (lp := P_heldState) (hp := fun _ => false) (gcs := fun _ => none) (perm := fun _ => []) tabOk mix ⟨ok_heldIntS, trivial⟩ trivial Try.func48 rfl (by kernel_rfl) (by decide) (by kernel_rfl) (anns := fun x _ => fun _ _ => none) (fun ⟨s, n, _⟩ k hp _ => vc_heldState s n k hp) tot_fn
end Go.Proofs.Yteoinddmoepbfaa

namespace Go.Proofs.Yteoinddmoepbfaa
open Go.SE Go.RowKit
set_option linter.unusedSimpArgs false
set_option linter.unusedVariables false
set_option maxHeartbeats 1000000
set_option maxRecDepth 100000
/-! FnExactModelOf -/
abbrev c_FnExactModelOf : Con := ⟨[.asn], [.bool], fun (a, _) => a.facts.length ≤ 281474976710656 ∧ a.atoms.length ≤ 281474976710656, .inl fun (a, _) => (true, ()), fun _ => 0⟩
abbrev L_FnExactModelOf : List (FuncId × Con) := [(20, c_szAssertion), (22, c_toAssertion), (24, c_eqAssertion), (37, c_eqState), (46, c_sModelOf), (47, c_iModelOf), (48, c_heldState)]
abbrev P_FnExactModelOf : List (FuncId × PT) := [(28, pt_markAssertion), (38, pt_markState)]
def hp_FnExactModelOf : Nat → Bool
  | 13 => true
  | 17 => true
  | _ => false
def VC_FnExactModelOf_1 (a : GAsn) (k : Nat) : Prop := ((0 ≤ (1 : Int) ∧ (1 : Int) ≤ 4611686018427387904 ∧ ((mdL a).vals).length ≤ 281474976710656) ∧ True ∧ True ∧ True ∧ True ∧ TF ∧ TF ∧ True ∧ True ∧ (0 ≤ ((1 : Int) + (((mdL a).vals).length : Int)) ∧ ((1 : Int) + (((mdL a).vals).length : Int)) ≤ 4611686018427387904 ∧ ((mdL a).heap).length ≤ 281474976710656) ∧ True ∧ True ∧ True ∧ True ∧ True ∧ True ∧ True ∧ (((⟨mkI ((mdL a).vals) (1 : Int), mkI ((mdL a).heap) ((1 : Int) + (((mdL a).vals).length : Int))⟩ : GState).vals.length ≤ 281474976710656 ∧ (⟨mkI ((mdL a).vals) (1 : Int), mkI ((mdL a).heap) ((1 : Int) + (((mdL a).vals).length : Int))⟩ : GState).heap.length ≤ 281474976710656 ∧ 0 ≤ (1 : Int) ∧ (1 : Int) ≤ 2305843009213693952) ∧ True ∧ True) ∧ True ∧ True ∧ True ∧ (vcIf (decide ((hdS (⟨mkI ((mdL a).vals) (1 : Int), mkI ((mdL a).heap) ((1 : Int) + (((mdL a).vals).length : Int))⟩ : GState) (1 : Int)) < (0 : Int))) (True ∧ (((false, ()) : Bool × Unit) = (true, ())) ∧ True ∧ True ∧ True ∧ True ∧ TF) (True ∧ True ∧ True ∧ (vcIf ((hdS (⟨mkI ((mdL a).vals) (1 : Int), mkI ((mdL a).heap) ((1 : Int) + (((mdL a).vals).length : Int))⟩ : GState) (1 : Int)) != (((1 : Int) + (((mdL a).vals).length : Int)) + (((mdL a).heap).length : Int))) (True ∧ (((false, ()) : Bool × Unit) = (true, ())) ∧ True ∧ True ∧ True ∧ True ∧ TF) (True ∧ ((a.facts.length ≤ 1048576 ∧ a.atoms.length ≤ 1048576) ∧ True ∧ TN ∧ TN ∧ True) ∧ ((a.facts.length ≤ 281474976710656 ∧ a.atoms.length ≤ 281474976710656) ∧ True ∧ TN ∧ TN ∧ True) ∧ True ∧ True ∧ True ∧ (TN ∧ TN ∧ TN ∧ True) ∧ (TF ∧ TF) ∧ True ∧ True ∧ True ∧ (((mdL a).vals.length ≤ 281474976710656 ∧ (mdL a).heap.length ≤ 281474976710656 ∧ (mdL a).vals.length ≤ 281474976710656 ∧ (mdL a).heap.length ≤ 281474976710656) ∧ True ∧ True) ∧ True ∧ True ∧ (vcIf (!(decide ((mdL a) = (mdL a)))) (True ∧ True ∧ (((false, ()) : Bool × Unit) = (true, ())) ∧ True ∧ True ∧ True ∧ True ∧ TF) (True ∧ True ∧ True ∧ True ∧ (vcIf ((asV a && !(casesF a).isEmpty) != (asV a && !(casesF a).isEmpty)) (True ∧ (((false, ()) : Bool × Unit) = (true, ())) ∧ True ∧ True ∧ True ∧ True ∧ TF) (True ∧ True ∧ True ∧ (((⟨mkI ((mdL a).vals) (1 : Int), mkI ((mdL a).heap) ((1 : Int) + (((mdL a).vals).length : Int))⟩ : GState).vals.length ≤ 281474976710656 ∧ (⟨mkI ((mdL a).vals) (1 : Int), mkI ((mdL a).heap) ((1 : Int) + (((mdL a).vals).length : Int))⟩ : GState).heap.length ≤ 281474976710656 ∧ 0 ≤ (1 : Int) ∧ (1 : Int) ≤ 2305843009213693952) ∧ True ∧ True) ∧ True ∧ True ∧ True ∧ (vcIf (decide ((hdS (⟨mkI ((mdL a).vals) (1 : Int), mkI ((mdL a).heap) ((1 : Int) + (((mdL a).vals).length : Int))⟩ : GState) (1 : Int)) < (0 : Int))) (True ∧ (((false, ()) : Bool × Unit) = (true, ())) ∧ True ∧ True ∧ True ∧ True ∧ TF) (True ∧ True ∧ True ∧ (vcIf ((hdS (⟨mkI ((mdL a).vals) (1 : Int), mkI ((mdL a).heap) ((1 : Int) + (((mdL a).vals).length : Int))⟩ : GState) (1 : Int)) != (((1 : Int) + (((mdL a).vals).length : Int)) + (((mdL a).heap).length : Int))) (True ∧ (((false, ()) : Bool × Unit) = (true, ())) ∧ True ∧ True ∧ True ∧ True ∧ TF) (True ∧ (((true, ()) : Bool × Unit) = (true, ())) ∧ True ∧ True ∧ True ∧ True ∧ TF)))))))))))))
def VC_FnExactModelOf_2 (a : GAsn) (k : Nat) : Prop := (((a.facts.length ≤ 281474976710656 ∧ a.atoms.length ≤ 281474976710656 ∧ 0 ≤ (1048576 : Int) ∧ (1048576 : Int) ≤ 1048576) ∧ True ∧ True) ∧ True ∧ True ∧ True ∧ (vcIf (decide ((szA a (1048576 : Int)) < (0 : Int))) (True ∧ (((true, ()) : Bool × Unit) = (true, ())) ∧ True ∧ True ∧ True ∧ True ∧ TF) (True ∧ ((a.facts.length ≤ 1048576 ∧ a.atoms.length ≤ 1048576) ∧ True ∧ TN ∧ TN ∧ True) ∧ ((a.facts.length ≤ 281474976710656 ∧ a.atoms.length ≤ 281474976710656) ∧ True ∧ TN ∧ TN ∧ True) ∧ True ∧ True ∧ True ∧ (TN ∧ TN ∧ TN ∧ True) ∧ (TF ∧ TF) ∧ True ∧ True ∧ ((a.facts.length ≤ 1048576 ∧ a.atoms.length ≤ 1048576) ∧ True ∧ TN ∧ TN ∧ True) ∧ (TN ∧ TN ∧ TN ∧ True) ∧ (TF ∧ TF) ∧ True ∧ ((a.facts.length ≤ 281474976710656 ∧ a.atoms.length ≤ 281474976710656) ∧ True ∧ TN ∧ TN ∧ True) ∧ True ∧ True ∧ True ∧ (TN ∧ TN ∧ TN ∧ True) ∧ (TF ∧ TF) ∧ True ∧ True ∧ True ∧ (((mdL a).vals.length ≤ 281474976710656 ∧ (mdL a).heap.length ≤ 281474976710656 ∧ (mdL a).vals.length ≤ 281474976710656 ∧ (mdL a).heap.length ≤ 281474976710656) ∧ True ∧ True) ∧ True ∧ True ∧ (vcIf (!(decide ((mdL a) = (mdL a)))) (True ∧ True ∧ (((false, ()) : Bool × Unit) = (true, ())) ∧ True ∧ True ∧ True ∧ True ∧ TF) (True ∧ True ∧ True ∧ True ∧ (vcIf ((asV a && !(casesF a).isEmpty) != (asV a && !(casesF a).isEmpty)) (True ∧ (((false, ()) : Bool × Unit) = (true, ())) ∧ True ∧ True ∧ True ∧ True ∧ TF) (True ∧ True ∧ ((a.facts.length ≤ 1048576 ∧ a.atoms.length ≤ 1048576) ∧ True ∧ TN ∧ TN ∧ True) ∧ ((a.facts.length ≤ 281474976710656 ∧ a.atoms.length ≤ 281474976710656 ∧ a.facts.length ≤ 281474976710656 ∧ a.atoms.length ≤ 281474976710656) ∧ True ∧ True) ∧ True ∧ (vcIf (!(decide (a = a))) (True ∧ (((false, ()) : Bool × Unit) = (true, ())) ∧ True ∧ True ∧ True ∧ True ∧ TF) (True ∧ True ∧ True ∧ ((2 : Nat) ≤ 14) ∧ TN ∧ True ∧ True ∧ True ∧ True ∧ TF ∧ TF ∧ True ∧ True ∧ (0 ≤ (1 : Int) ∧ (1 : Int) ≤ 4611686018427387904 ∧ a.facts.length ≤ 281474976710656) ∧ True ∧ True ∧ True ∧ True ∧ TF ∧ TF ∧ True ∧ True ∧ (0 ≤ ((1 : Int) + 3 * (a.facts.length : Int)) ∧ ((1 : Int) + 3 * (a.facts.length : Int)) ≤ 4611686018427387904 ∧ a.atoms.length ≤ 281474976710656) ∧ True ∧ True ∧ True ∧ True ∧ True ∧ True ∧ True ∧ (vcIf (decide ((((1 : Int) + 3 * (a.facts.length : Int)) + 3 * (a.atoms.length : Int)) < (0 : Int))) (True ∧ True ∧ True ∧ True ∧ (((false, ()) : Bool × Unit) = (true, ())) ∧ True ∧ True ∧ True ∧ True ∧ TF) (True ∧ True ∧ (((mdL a).vals.length ≤ 281474976710656 ∧ (mdL a).heap.length ≤ 281474976710656 ∧ (mdL a).vals.length ≤ 281474976710656 ∧ (mdL a).heap.length ≤ 281474976710656) ∧ True ∧ True) ∧ True ∧ True ∧ True ∧ (vcIf (!(decide ((mdL a) = (mdL a)))) (True ∧ True ∧ (((false, ()) : Bool × Unit) = (true, ())) ∧ True ∧ True ∧ True ∧ True ∧ TF) (True ∧ True ∧ True ∧ True ∧ (vcIf ((asV a && !(casesF a).isEmpty) != (asV a && !(casesF a).isEmpty)) (True ∧ (((false, ()) : Bool × Unit) = (true, ())) ∧ True ∧ True ∧ True ∧ True ∧ TF) (True ∧ True ∧ True ∧ ((2 : Nat) ≤ 14) ∧ TN ∧ True ∧ True ∧ True ∧ True ∧ TF ∧ TF ∧ True ∧ True ∧ (VC_FnExactModelOf_1 a k))))))))))))))))
def VC_FnExactModelOf (a : GAsn) (k : Nat) : Prop := TN ∧ True ∧ True ∧ True ∧ True ∧ (VC_FnExactModelOf_2 a k)
theorem vcn_FnExactModelOf (a : GAsn) (k : Nat) (hp : a.facts.length ≤ 281474976710656 ∧ a.atoms.length ≤ 281474976710656) : VC_FnExactModelOf a k := by
  unfold VC_FnExactModelOf VC_FnExactModelOf_2 VC_FnExactModelOf_1
  simp only [TT, TF, TN, RL, RM, true_and, and_true, eq_self, implies_true, forall_const, List.cons.injEq, S.s.injEq, S0.c.injEq, S0.agg.injEq, CV.d.injEq, CV.own.injEq, CV.ptr.injEq, DC.val.injEq, Value.int.injEq, Value.bool.injEq, Option.some.injEq, Res.blk.injEq, Prod.mk.injEq, inK, min_i64, max_i64, min_u16, max_u16, min_u8, max_u8, min_u64, max_u64, vcIf_true, vcIf_false, List.mem_nil_iff, List.not_mem_nil, not_false_eq_true, Nat.reduceEqDiff, Nat.reduceLeDiff, ne_eq, Bool.and_true, Nat.add_zero, List.append_nil, List.nil_append, List.length_nil, List.length_cons, Nat.zero_add, Nat.reduceAdd, Int.toNat_natCast, Nat.sub_zero, List.drop_zero, List.map_nil, List.take_zero, forall_eq, bne_self_eq_false, beq_self_eq_true, decide_true, eq_self, Bool.not_true, Bool.not_false, vcIf_true, vcIf_false, Bool.false_and, Bool.true_and, Bool.or_false, Bool.or_true]
  have hk := mdL_len a
  have hm := hdS_mk (mdL a).vals (mdL a).heap 1 (by omega)
  all_goals (try simp only [vcIf_iff, decide_eq_true_eq, decide_eq_false_iff_not, bne_iff_ne, ne_eq, beq_iff_eq, beq_eq_false_iff_ne, bne_eq_false_iff_eq, Bool.not_eq_true', Bool.not_eq_false', Int.ofNat_lt, Int.natCast_inj])
  all_goals (repeat' (first | apply And.intro | intro _))
  all_goals (first | omega | (simp_all; done) | grind [szA, sz1, mkF_len, mkG_len, mkI_len, hdS_mk])
theorem vce_FnExactModelOf (a : GAsn) (k : Nat) : VC_FnExactModelOf a k = vcQ tab (lookF L_FnExactModelOf) (lookP P_FnExactModelOf) (hp_FnExactModelOf) (fun _ => none) (fun _ _ => none) (fun _ => []) (bodyOf Try.f11) (entry (encs c_FnExactModelOf.aks (a, ())) (rdOf false k)) (retOk tab c_FnExactModelOf Try.f11.results.toList (a, ()) k) := by kernel_rfl
theorem vc_FnExactModelOf (a : GAsn) (k : Nat) (hp : a.facts.length ≤ 281474976710656 ∧ a.atoms.length ≤ 281474976710656) : vcQ tab (lookF L_FnExactModelOf) (lookP P_FnExactModelOf) (hp_FnExactModelOf) (fun _ => none) (fun _ _ => none) (fun _ => []) (bodyOf Try.f11) (entry (encs c_FnExactModelOf.aks (a, ())) (rdOf false k)) (retOk tab c_FnExactModelOf Try.f11.results.toList (a, ()) k) := (vce_FnExactModelOf a k).mp (vcn_FnExactModelOf a k hp)
theorem ok_FnExactModelOf : FnOk Try.prog E 11 c_FnExactModelOf :=
  fn_okQ (l := L_FnExactModelOf) (lp := P_FnExactModelOf) (hp := hp_FnExactModelOf) (gcs := fun _ => none) (perm := fun _ => []) tabOk mix ⟨ok_szAssertion, ok_toAssertion, ok_eqAssertion, ok_eqState, ok_sModelOf, ok_iModelOf, ok_heldState, trivial⟩ ⟨ptok_markAssertion, ptok_markState, trivial⟩ Try.func11 rfl (by kernel_rfl) (by decide) (by kernel_rfl) (anns := fun x _ => fun _ _ => none) (fun ⟨a, _⟩ k hp _ => vc_FnExactModelOf a k hp) tot_fn
end Go.Proofs.Yteoinddmoepbfaa
