/-
  Contracts of single functions of the program, each shown by the engine: what a call returns for arguments within the contract's bounds.
-/
import Derived.Test.YteoinddmoepbfaaFFnExactAllocateda
import Derived.Test.YteoinddmoepbfaaEe
import Derived.Test.YteoinddmoepbfaaEf
import Derived.Test.YteoinddmoepbfaaEg
import Derived.Test.YteoinddmoepbfaaFFnExactAllocatedb
set_option linter.unusedSimpArgs false
set_option linter.unusedVariables false
set_option linter.unusedSectionVars false

namespace Go.Proofs.Yteoinddmoepbfaa
open Go.SE Go.RowKit
set_option linter.unusedSimpArgs false
set_option linter.unusedVariables false
set_option maxHeartbeats 1000000
set_option maxRecDepth 100000
/-! l5Fits -/
abbrev c_l5Fits : Con := ⟨[.sl .fact, .sl .int], [.bool], fun (l, c, _) => l.length ≤ 1048576 ∧ l.all fV = true ∧ c.length = 9, .inl fun (l, c, _) => (sFit l c, ()), fun _ => 0⟩
abbrev L_l5Fits : List (FuncId × Con) := []
abbrev P_l5Fits : List (FuncId × PT) := []
def an_l5Fits (l : List GFact) (c : List Int) : Nat → St → Option Ann
  | 2, se => some { α := Nat, ok := fun i => i ≤ l.length ∧ sFit (l.take i) c = true, mu := fun i => l.length - i, i0 := fun _ => 0, nx := fun a _ => (fun i => i + 1) a, live := [0, 1], sets := fun i => [(5, sv (.int .i64 i))], mids := [], blks := fun i => [], owns := fun i => [], rd := fun r _ => r, base := 100000 }
  | _, _ => none
def VC_l5Fits (l : List GFact) (c : List Int) (k : Nat) : Prop := True ∧ True ∧ ((0 ≤ l.length ∧ sFit (l.take 0) c = true) ∧ TT ∧ (RL [.s (.c (.d (.arr .fact l))), .s (.c (.d (.arr .int c)))]) ∧ (([.s (.c (.d (.val (.int .i64 (0 : Int)))))] : List S) = [.s (.c (.d (.val (.int .i64 ((0 : Nat) : Int)))))]) ∧ (RM []) ∧ (RM []) ∧ True ∧ TT) ∧ (∀ i1 : Nat, (i1 ≤ l.length ∧ sFit (l.take i1) c = true) → True ∧ True ∧ True ∧ True ∧ (vcIf (decide (((i1 : Nat) : Int) < ((l.length : Nat) : Int))) (True ∧ True ∧ True ∧ (0 ≤ ((i1 : Nat) : Int) ∧ ((i1 : Nat) : Int) < ((l.length : Nat) : Int)) ∧ True ∧ True ∧ (0 ≤ ((l.getD i1 (⟨false, 0, 0⟩ : GFact)).a) ∧ ((l.getD i1 (⟨false, 0, 0⟩ : GFact)).a) < ((c.length : Nat) : Int)) ∧ True ∧ True ∧ True ∧ True ∧ True ∧ (0 ≤ ((i1 : Nat) : Int) ∧ ((i1 : Nat) : Int) < ((l.length : Nat) : Int)) ∧ True ∧ True ∧ (0 ≤ ((l.getD i1 (⟨false, 0, 0⟩ : GFact)).b) ∧ ((l.getD i1 (⟨false, 0, 0⟩ : GFact)).b) < ((c.length : Nat) : Int)) ∧ True ∧ True ∧ True ∧ True ∧ True ∧ (vcIf (decide ((0 : Int) ≤ (c.getD ((l.getD i1 (⟨false, 0, 0⟩ : GFact)).a).toNat (0 : Int)))) (True ∧ True ∧ True ∧ True ∧ (vcIf (decide ((0 : Int) ≤ (c.getD ((l.getD i1 (⟨false, 0, 0⟩ : GFact)).b).toNat (0 : Int)))) (True ∧ True ∧ True ∧ True ∧ True ∧ (0 ≤ ((i1 : Nat) : Int) ∧ ((i1 : Nat) : Int) < ((l.length : Nat) : Int)) ∧ True ∧ True ∧ True ∧ True ∧ (vcIf (((c.getD ((l.getD i1 (⟨false, 0, 0⟩ : GFact)).a).toNat (0 : Int)) == (c.getD ((l.getD i1 (⟨false, 0, 0⟩ : GFact)).b).toNat (0 : Int))) != ((l.getD i1 (⟨false, 0, 0⟩ : GFact)).eq)) (True ∧ (((false, ()) : Bool × Unit) = (sFit l c, ())) ∧ True ∧ True ∧ True ∧ True ∧ TF) (True ∧ (inK .i64 (((i1 : Nat) : Int) + (1 : Int))) ∧ True ∧ ((i1 + 1) ≤ l.length ∧ sFit (l.take (i1 + 1)) c = true) ∧ (l.length - (i1 + 1) < l.length - i1) ∧ TT ∧ (RL [.s (.c (.d (.arr .fact l))), .s (.c (.d (.arr .int c)))]) ∧ (([.s (.c (.d (.val (.int .i64 (((i1 : Nat) : Int) + (1 : Int))))))] : List S) = [.s (.c (.d (.val (.int .i64 (((i1 + 1) : Nat) : Int)))))]) ∧ (RM []) ∧ (RM []) ∧ True ∧ TT))) (True ∧ True ∧ (inK .i64 (((i1 : Nat) : Int) + (1 : Int))) ∧ True ∧ ((i1 + 1) ≤ l.length ∧ sFit (l.take (i1 + 1)) c = true) ∧ (l.length - (i1 + 1) < l.length - i1) ∧ TT ∧ (RL [.s (.c (.d (.arr .fact l))), .s (.c (.d (.arr .int c)))]) ∧ (([.s (.c (.d (.val (.int .i64 (((i1 : Nat) : Int) + (1 : Int))))))] : List S) = [.s (.c (.d (.val (.int .i64 (((i1 + 1) : Nat) : Int)))))]) ∧ (RM []) ∧ (RM []) ∧ True ∧ TT))) (True ∧ True ∧ True ∧ True ∧ (inK .i64 (((i1 : Nat) : Int) + (1 : Int))) ∧ True ∧ ((i1 + 1) ≤ l.length ∧ sFit (l.take (i1 + 1)) c = true) ∧ (l.length - (i1 + 1) < l.length - i1) ∧ TT ∧ (RL [.s (.c (.d (.arr .fact l))), .s (.c (.d (.arr .int c)))]) ∧ (([.s (.c (.d (.val (.int .i64 (((i1 : Nat) : Int) + (1 : Int))))))] : List S) = [.s (.c (.d (.val (.int .i64 (((i1 + 1) : Nat) : Int)))))]) ∧ (RM []) ∧ (RM []) ∧ True ∧ TT))) (True ∧ (((true, ()) : Bool × Unit) = (sFit l c, ())) ∧ True ∧ True ∧ True ∧ True ∧ TF)))
theorem vcn_l5Fits (l : List GFact) (c : List Int) (k : Nat) (hp : l.length ≤ 1048576 ∧ l.all fV = true ∧ c.length = 9) : VC_l5Fits l c k := by
  unfold VC_l5Fits
  simp only [TT, TF, TN, RL, RM, true_and, and_true, eq_self, implies_true, forall_const, List.cons.injEq, S.s.injEq, S0.c.injEq, S0.agg.injEq, CV.d.injEq, CV.own.injEq, CV.ptr.injEq, DC.val.injEq, Value.int.injEq, Value.bool.injEq, Option.some.injEq, Res.blk.injEq, Prod.mk.injEq, inK, min_i64, max_i64, min_u16, max_u16, min_u8, max_u8, min_u64, max_u64, vcIf_true, vcIf_false, List.mem_nil_iff, List.not_mem_nil, not_false_eq_true, Nat.reduceEqDiff, Nat.reduceLeDiff, ne_eq, Bool.and_true, Nat.add_zero, List.append_nil, List.nil_append, List.length_nil, List.length_cons, Nat.zero_add, Nat.reduceAdd, Int.toNat_natCast, Nat.sub_zero, List.drop_zero, List.map_nil, List.take_zero, forall_eq]
  have hV := hp.2.1
  all_goals (try simp only [vcIf_iff, decide_eq_true_eq, decide_eq_false_iff_not, bne_iff_ne, ne_eq, beq_iff_eq, beq_eq_false_iff_ne, bne_eq_false_iff_eq, Bool.not_eq_true', Bool.not_eq_false', Int.ofNat_lt, Int.natCast_inj])
  all_goals (repeat' (first | apply And.intro | intro _))
  all_goals (repeat (cases ‹_ ∧ _›))
  all_goals (first | omega | rfl | assumption | (simp_all; done) | skip)
  all_goals (first
   | (have h1 := fact_idx (l := l) hV (by assumption); omega)
   | (symm; exact sFit_no (by assumption) (by assumption) (by assumption) (by unfold fh cl; rw [beq_eq_false_iff_ne]; assumption))
   | (rw [sFit_step (d := ⟨false, 0, 0⟩) (by assumption)]; unfold fh cl; simp_all; done)
   | (rw [take_full (l := l) (by assumption)] at *; simp_all; done) | skip)
theorem vce_l5Fits (l : List GFact) (c : List Int) (k : Nat) : VC_l5Fits l c k = vcQ tab (lookF L_l5Fits) (lookP P_l5Fits) (fun _ => false) (fun _ => none) (an_l5Fits l c) (fun _ => []) (bodyOf Try.f118) (entry (encs c_l5Fits.aks (l, c, ())) (rdOf false k)) (retOk tab c_l5Fits Try.f118.results.toList (l, c, ()) k) := by kernel_rfl
theorem vc_l5Fits (l : List GFact) (c : List Int) (k : Nat) (hp : l.length ≤ 1048576 ∧ l.all fV = true ∧ c.length = 9) : vcQ tab (lookF L_l5Fits) (lookP P_l5Fits) (fun _ => false) (fun _ => none) (an_l5Fits l c) (fun _ => []) (bodyOf Try.f118) (entry (encs c_l5Fits.aks (l, c, ())) (rdOf false k)) (retOk tab c_l5Fits Try.f118.results.toList (l, c, ()) k) := (vce_l5Fits l c k).mp (vcn_l5Fits l c k hp)
theorem ok_l5Fits : FnOk Try.prog E 118 c_l5Fits :=
  fn_okQ (l := L_l5Fits) (lp := P_l5Fits) (hp := fun _ => false) (gcs := fun _ => none) (perm := fun _ => []) tabOk mix trivial trivial Try.func118 rfl (by kernel_rfl) (by decide) (by kernel_rfl) (anns := fun x _ => an_l5Fits x.1 x.2.1) (fun ⟨l, c, _⟩ k hp _ => vc_l5Fits l c k hp) tot_fn
end Go.Proofs.Yteoinddmoepbfaa

namespace Go.Proofs.Yteoinddmoepbfaa
open Go.SE Go.RowKit
set_option linter.unusedSimpArgs false
set_option linter.unusedVariables false
set_option maxHeartbeats 1000000
set_option maxRecDepth 100000
/-! l5Early -/
abbrev c_l5Early : Con := ⟨[.sl .atom, .sl .int], [.bool], fun (l, c, _) => l.length ≤ 1048576 ∧ l.all atV = true ∧ c.length = 9 ∧ le8 c = true, .inl fun (l, c, _) => (sEarly l c, ()), fun _ => 0⟩
abbrev L_l5Early : List (FuncId × Con) := []
abbrev P_l5Early : List (FuncId × PT) := []
def an_l5Early (l : List GAtom) (c : List Int) : Nat → St → Option Ann
  | 3, se => some { α := Nat, ok := fun i => i ≤ l.length ∧ okS [] (est c (l.take i)) = true, mu := fun i => l.length - i, i0 := fun _ => 0, nx := fun a _ => (fun i => i + 1) a, live := [0, 1], sets := fun i => [(6, sv (.int .i64 i))], mids := [], blks := fun i => [], owns := fun i => [⟨7, .slot 5, .bool, fl9 (fun t => (est c (l.take i)).contains t)⟩], rd := fun r _ => r, base := 100000 }
  | _, _ => none
def VC_l5Early_1 (l : List GAtom) (c : List Int) (k : Nat) (i1 : Nat) : Prop := ((0 ≤ ((l.getD i1 (⟨0, 0, 0⟩ : GAtom)).a) ∧ ((l.getD i1 (⟨0, 0, 0⟩ : GAtom)).a) < ((c.length : Nat) : Int)) ∧ True ∧ True ∧ True ∧ True ∧ (0 ≤ ((i1 : Nat) : Int) ∧ ((i1 : Nat) : Int) < ((l.length : Nat) : Int)) ∧ True ∧ True ∧ True ∧ True ∧ (vcIf (((l.getD i1 (⟨0, 0, 0⟩ : GAtom)).kind) != (1 : Int)) (True ∧ True ∧ (inK .i64 (((i1 : Nat) : Int) + (1 : Int))) ∧ True ∧ ((i1 + 1) ≤ l.length ∧ okS [] (est c (l.take (i1 + 1))) = true) ∧ (l.length - (i1 + 1) < l.length - i1) ∧ TT ∧ (RL [.s (.c (.d (.arr .atom l))), .s (.c (.d (.arr .int c)))]) ∧ (([.s (.c (.d (.val (.int .i64 (((i1 : Nat) : Int) + (1 : Int))))))] : List S) = [.s (.c (.d (.val (.int .i64 (((i1 + 1) : Nat) : Int)))))]) ∧ (RM []) ∧ (RM []) ∧ (((some (fl9 (fun t => (est c (l.take i1)).contains t)) : Option (List Bool)) = some (fl9 (fun t => (est c (l.take (i1 + 1))).contains t))) ∧ True) ∧ TT) (True ∧ True ∧ True ∧ (vcIf (decide ((c.getD ((l.getD i1 (⟨0, 0, 0⟩ : GAtom)).a).toNat (0 : Int)) < (0 : Int))) (True ∧ (inK .i64 (((i1 : Nat) : Int) + (1 : Int))) ∧ True ∧ ((i1 + 1) ≤ l.length ∧ okS [] (est c (l.take (i1 + 1))) = true) ∧ (l.length - (i1 + 1) < l.length - i1) ∧ TT ∧ (RL [.s (.c (.d (.arr .atom l))), .s (.c (.d (.arr .int c)))]) ∧ (([.s (.c (.d (.val (.int .i64 (((i1 : Nat) : Int) + (1 : Int))))))] : List S) = [.s (.c (.d (.val (.int .i64 (((i1 + 1) : Nat) : Int)))))]) ∧ (RM []) ∧ (RM []) ∧ (((some (fl9 (fun t => (est c (l.take i1)).contains t)) : Option (List Bool)) = some (fl9 (fun t => (est c (l.take (i1 + 1))).contains t))) ∧ True) ∧ TT) (True ∧ True ∧ True ∧ (vcIf ((c.getD ((l.getD i1 (⟨0, 0, 0⟩ : GAtom)).a).toNat (0 : Int)) == (0 : Int)) (True ∧ True ∧ (((false, ()) : Bool × Unit) = (sEarly l c, ())) ∧ True ∧ True ∧ True ∧ True ∧ TF) (True ∧ True ∧ (0 ≤ (c.getD ((l.getD i1 (⟨0, 0, 0⟩ : GAtom)).a).toNat (0 : Int)) ∧ (c.getD ((l.getD i1 (⟨0, 0, 0⟩ : GAtom)).a).toNat (0 : Int)) < (((fl9 (fun t => (est c (l.take i1)).contains t)).length : Nat) : Int)) ∧ True ∧ True ∧ (vcIf ((fl9 (fun t => (est c (l.take i1)).contains t)).getD (c.getD ((l.getD i1 (⟨0, 0, 0⟩ : GAtom)).a).toNat (0 : Int)).toNat false) (True ∧ (((false, ()) : Bool × Unit) = (sEarly l c, ())) ∧ True ∧ True ∧ True ∧ True ∧ TF) (True ∧ True ∧ (0 ≤ (c.getD ((l.getD i1 (⟨0, 0, 0⟩ : GAtom)).a).toNat (0 : Int)) ∧ (c.getD ((l.getD i1 (⟨0, 0, 0⟩ : GAtom)).a).toNat (0 : Int)) < (((fl9 (fun t => (est c (l.take i1)).contains t)).length : Nat) : Int)) ∧ (TF ∧ TF ∧ True ∧ ((7 : Nat) ∉ ([] : List Nat))) ∧ True ∧ (inK .i64 (((i1 : Nat) : Int) + (1 : Int))) ∧ True ∧ ((i1 + 1) ≤ l.length ∧ okS [] (est c (l.take (i1 + 1))) = true) ∧ (l.length - (i1 + 1) < l.length - i1) ∧ TT ∧ (RL [.s (.c (.d (.arr .atom l))), .s (.c (.d (.arr .int c)))]) ∧ (([.s (.c (.d (.val (.int .i64 (((i1 : Nat) : Int) + (1 : Int))))))] : List S) = [.s (.c (.d (.val (.int .i64 (((i1 + 1) : Nat) : Int)))))]) ∧ (RM []) ∧ (RM []) ∧ (((some ((fl9 (fun t => (est c (l.take i1)).contains t)).set (c.getD ((l.getD i1 (⟨0, 0, 0⟩ : GAtom)).a).toNat (0 : Int)).toNat true) : Option (List Bool)) = some (fl9 (fun t => (est c (l.take (i1 + 1))).contains t))) ∧ True) ∧ TT)))))))))
def VC_l5Early (l : List GAtom) (c : List Int) (k : Nat) : Prop := True ∧ (TN ∧ (0 ≤ (9 : Int) ∧ (9 : Int) ≤ (9 : Int) ∧ (9 : Int) ≤ 4294967296)) ∧ True ∧ True ∧ ((0 ≤ l.length ∧ okS [] (est c (l.take 0)) = true) ∧ TT ∧ (RL [.s (.c (.d (.arr .atom l))), .s (.c (.d (.arr .int c)))]) ∧ (([.s (.c (.d (.val (.int .i64 (0 : Int)))))] : List S) = [.s (.c (.d (.val (.int .i64 ((0 : Nat) : Int)))))]) ∧ (RM []) ∧ (RM []) ∧ (((some (List.replicate 9 false) : Option (List Bool)) = some (fl9 (fun t => (est c (l.take 0)).contains t))) ∧ True) ∧ TT) ∧ (∀ i1 : Nat, (i1 ≤ l.length ∧ okS [] (est c (l.take i1)) = true) → True ∧ True ∧ True ∧ True ∧ (vcIf (decide (((i1 : Nat) : Int) < ((l.length : Nat) : Int))) (True ∧ True ∧ True ∧ (0 ≤ ((i1 : Nat) : Int) ∧ ((i1 : Nat) : Int) < ((l.length : Nat) : Int)) ∧ True ∧ True ∧ (VC_l5Early_1 l c k i1)) (True ∧ (((true, ()) : Bool × Unit) = (sEarly l c, ())) ∧ True ∧ True ∧ True ∧ True ∧ TF)))
theorem vcn_l5Early (l : List GAtom) (c : List Int) (k : Nat) (hp : l.length ≤ 1048576 ∧ l.all atV = true ∧ c.length = 9 ∧ le8 c = true) : VC_l5Early l c k := by
  unfold VC_l5Early VC_l5Early_1
  simp only [TT, TF, TN, RL, RM, true_and, and_true, eq_self, implies_true, forall_const, List.cons.injEq, S.s.injEq, S0.c.injEq, S0.agg.injEq, CV.d.injEq, CV.own.injEq, CV.ptr.injEq, DC.val.injEq, Value.int.injEq, Value.bool.injEq, Option.some.injEq, Res.blk.injEq, Prod.mk.injEq, inK, min_i64, max_i64, min_u16, max_u16, min_u8, max_u8, min_u64, max_u64, vcIf_true, vcIf_false, List.mem_nil_iff, List.not_mem_nil, not_false_eq_true, Nat.reduceEqDiff, Nat.reduceLeDiff, ne_eq, Bool.and_true, Nat.add_zero, List.append_nil, List.nil_append, List.length_nil, List.length_cons, Nat.zero_add, Nat.reduceAdd, Int.toNat_natCast, Nat.sub_zero, List.drop_zero, List.map_nil, List.take_zero, forall_eq]
  have h8 := le8_get hp.2.2.2
  have hV := hp.2.1
  all_goals (try simp only [vcIf_iff, decide_eq_true_eq, decide_eq_false_iff_not, bne_iff_ne, ne_eq, beq_iff_eq, beq_eq_false_iff_ne, bne_eq_false_iff_eq, Bool.not_eq_true', Bool.not_eq_false', Int.ofNat_lt, Int.natCast_inj])
  all_goals (repeat' (first | apply And.intro | intro _))
  all_goals (repeat (cases ‹_ ∧ _›))
  all_goals (first | omega | rfl | assumption | (simp_all; done) | skip)
  all_goals (first
   | (have h1 := atom_idx (l := l) hV (by assumption); omega)
   | (rw [early_skip (d := ⟨0, 0, 0⟩) (by assumption) (.inl (by assumption))]; done)
   | (rw [early_skip (d := ⟨0, 0, 0⟩) (by assumption) (.inl (by assumption))]; assumption)
   | (rw [early_skip (d := ⟨0, 0, 0⟩) (by assumption) (.inr (by assumption))]; done)
   | (rw [early_skip (d := ⟨0, 0, 0⟩) (by assumption) (.inr (by assumption))]; assumption)
   | exact early_no (d := ⟨0, 0, 0⟩) (by assumption) (by assumption) (by assumption) (by assumption) (.inl (by assumption))
   | exact early_no (d := ⟨0, 0, 0⟩) (by assumption) (by assumption) (by assumption) (by assumption) (.inr (by assumption))
   | exact (early_go (d := ⟨0, 0, 0⟩) (by assumption) (by assumption) (by assumption) (by assumption) (by assumption) (by assumption) (by assumption)).1
   | exact (early_go (d := ⟨0, 0, 0⟩) (by assumption) (by assumption) (by assumption) (by assumption) (by assumption) (by assumption) (by assumption)).2
   | (rw [fl9_len]; exact Int.lt_of_le_of_lt (h8 _) (by decide))
   | (unfold sEarly; rw [take_full (l := l) (by assumption)] at *; simp_all; done) | skip)
theorem vce_l5Early (l : List GAtom) (c : List Int) (k : Nat) : VC_l5Early l c k = vcQ tab (lookF L_l5Early) (lookP P_l5Early) (fun _ => false) (fun _ => none) (an_l5Early l c) (fun _ => []) (bodyOf Try.f119) (entry (encs c_l5Early.aks (l, c, ())) (rdOf false k)) (retOk tab c_l5Early Try.f119.results.toList (l, c, ()) k) := by kernel_rfl
theorem vc_l5Early (l : List GAtom) (c : List Int) (k : Nat) (hp : l.length ≤ 1048576 ∧ l.all atV = true ∧ c.length = 9 ∧ le8 c = true) : vcQ tab (lookF L_l5Early) (lookP P_l5Early) (fun _ => false) (fun _ => none) (an_l5Early l c) (fun _ => []) (bodyOf Try.f119) (entry (encs c_l5Early.aks (l, c, ())) (rdOf false k)) (retOk tab c_l5Early Try.f119.results.toList (l, c, ()) k) := (vce_l5Early l c k).mp (vcn_l5Early l c k hp)
theorem ok_l5Early : FnOk Try.prog E 119 c_l5Early :=
  fn_okQ (l := L_l5Early) (lp := P_l5Early) (hp := fun _ => false) (gcs := fun _ => none) (perm := fun _ => []) tabOk mix trivial trivial Try.func119 rfl (by kernel_rfl) (by decide) (by kernel_rfl) (anns := fun x _ => an_l5Early x.1 x.2.1) (fun ⟨l, c, _⟩ k hp _ => vc_l5Early l c k hp) tot_fn
end Go.Proofs.Yteoinddmoepbfaa

namespace Go.Proofs.Yteoinddmoepbfaa
open Go.SE Go.RowKit
set_option linter.unusedSimpArgs false
set_option linter.unusedVariables false
set_option maxHeartbeats 1000000
set_option maxRecDepth 100000
/-! l5Apart -/
abbrev c_l5Apart : Con := ⟨[.sl .atom], [.bool], fun (l, _) => l.length ≤ 1048576, .inl fun (l, _) => (sApart l, ()), fun _ => 0⟩
abbrev L_l5Apart : List (FuncId × Con) := []
abbrev P_l5Apart : List (FuncId × PT) := []
def an_l5Apart (l : List GAtom) : Nat → St → Option Ann
  | 2, se => some { α := Nat, ok := fun i => i ≤ l.length ∧ sApart (l.take i) = true, mu := fun i => l.length - i, i0 := fun _ => 0, nx := fun a _ => (fun i => i + 1) a, live := [0], sets := fun i => [(3, sv (.int .i64 i))], mids := [], blks := fun i => [], owns := fun i => [], rd := fun r _ => r, base := 100000 }
  | 7, se => some { α := Nat, ok := fun j => (j : Int) ≤ intAt se 3 ∧ ((l.take j).all fun x => !(x.a == (l.getD (intAt se 3).toNat ⟨0, 0, 0⟩).a)) = true, mu := fun j => (intAt se 3).toNat - j, i0 := fun _ => 0, nx := fun a _ => (fun j => j + 1) a, live := [0, 3], sets := fun j => [(4, sv (.int .i64 j))], mids := [], blks := fun j => [], owns := fun j => [], rd := fun r _ => r, base := 200000 }
  | _, _ => none
def VC_l5Apart (l : List GAtom) (k : Nat) : Prop := True ∧ True ∧ ((0 ≤ l.length ∧ sApart (l.take 0) = true) ∧ TT ∧ (RL [.s (.c (.d (.arr .atom l)))]) ∧ (([.s (.c (.d (.val (.int .i64 (0 : Int)))))] : List S) = [.s (.c (.d (.val (.int .i64 ((0 : Nat) : Int)))))]) ∧ (RM []) ∧ (RM []) ∧ True ∧ TT) ∧ (∀ i1 : Nat, (i1 ≤ l.length ∧ sApart (l.take i1) = true) → True ∧ True ∧ True ∧ True ∧ (vcIf (decide (((i1 : Nat) : Int) < ((l.length : Nat) : Int))) (True ∧ True ∧ (0 ≤ ((i1 : Nat) : Int) ∧ ((i1 : Nat) : Int) < ((l.length : Nat) : Int)) ∧ True ∧ True ∧ True ∧ (vcIf (((l.getD i1 (⟨0, 0, 0⟩ : GAtom)).a) == (0 : Int)) (True ∧ (((false, ()) : Bool × Unit) = (sApart l, ())) ∧ True ∧ True ∧ True ∧ True ∧ TF) (True ∧ (((0 : Int) ≤ ((i1 : Nat) : Int) ∧ ((l.take 0).all fun x => !(x.a == (l.getD (((i1 : Nat) : Int)).toNat ⟨0, 0, 0⟩).a)) = true) ∧ TT ∧ (RL [.s (.c (.d (.arr .atom l))), .s (.c (.d (.val (.int .i64 ((i1 : Nat) : Int)))))]) ∧ (([.s (.c (.d (.val (.int .i64 (0 : Int)))))] : List S) = [.s (.c (.d (.val (.int .i64 ((0 : Nat) : Int)))))]) ∧ (RM []) ∧ (RM []) ∧ True ∧ TT) ∧ (∀ j2 : Nat, ((j2 : Int) ≤ ((i1 : Nat) : Int) ∧ ((l.take j2).all fun x => !(x.a == (l.getD (((i1 : Nat) : Int)).toNat ⟨0, 0, 0⟩).a)) = true) → True ∧ True ∧ True ∧ (vcIf (decide (((j2 : Nat) : Int) < ((i1 : Nat) : Int))) (True ∧ True ∧ (0 ≤ ((j2 : Nat) : Int) ∧ ((j2 : Nat) : Int) < ((l.length : Nat) : Int)) ∧ True ∧ True ∧ True ∧ True ∧ (0 ≤ ((i1 : Nat) : Int) ∧ ((i1 : Nat) : Int) < ((l.length : Nat) : Int)) ∧ True ∧ True ∧ True ∧ (vcIf (((l.getD j2 (⟨0, 0, 0⟩ : GAtom)).a) == ((l.getD i1 (⟨0, 0, 0⟩ : GAtom)).a)) (True ∧ (((false, ()) : Bool × Unit) = (sApart l, ())) ∧ True ∧ True ∧ True ∧ True ∧ TF) (True ∧ (inK .i64 (((j2 : Nat) : Int) + (1 : Int))) ∧ True ∧ (((j2 + 1) : Int) ≤ ((i1 : Nat) : Int) ∧ ((l.take (j2 + 1)).all fun x => !(x.a == (l.getD (((i1 : Nat) : Int)).toNat ⟨0, 0, 0⟩).a)) = true) ∧ ((((i1 : Nat) : Int)).toNat - (j2 + 1) < (((i1 : Nat) : Int)).toNat - j2) ∧ TT ∧ (RL [.s (.c (.d (.arr .atom l))), .s (.c (.d (.val (.int .i64 ((i1 : Nat) : Int)))))]) ∧ (([.s (.c (.d (.val (.int .i64 (((j2 : Nat) : Int) + (1 : Int))))))] : List S) = [.s (.c (.d (.val (.int .i64 (((j2 + 1) : Nat) : Int)))))]) ∧ (RM []) ∧ (RM []) ∧ True ∧ TT))) (True ∧ (inK .i64 (((i1 : Nat) : Int) + (1 : Int))) ∧ True ∧ ((i1 + 1) ≤ l.length ∧ sApart (l.take (i1 + 1)) = true) ∧ (l.length - (i1 + 1) < l.length - i1) ∧ TT ∧ (RL [.s (.c (.d (.arr .atom l)))]) ∧ (([.s (.c (.d (.val (.int .i64 (((i1 : Nat) : Int) + (1 : Int))))))] : List S) = [.s (.c (.d (.val (.int .i64 (((i1 + 1) : Nat) : Int)))))]) ∧ (RM []) ∧ (RM []) ∧ True ∧ TT)))))) (True ∧ (((true, ()) : Bool × Unit) = (sApart l, ())) ∧ True ∧ True ∧ True ∧ True ∧ TF)))
theorem vcn_l5Apart (l : List GAtom) (k : Nat) (hp : l.length ≤ 1048576) : VC_l5Apart l k := by
  unfold VC_l5Apart
  simp only [TT, TF, TN, RL, RM, true_and, and_true, eq_self, implies_true, forall_const, List.cons.injEq, S.s.injEq, S0.c.injEq, S0.agg.injEq, CV.d.injEq, CV.own.injEq, CV.ptr.injEq, DC.val.injEq, Value.int.injEq, Value.bool.injEq, Option.some.injEq, Res.blk.injEq, Prod.mk.injEq, inK, min_i64, max_i64, min_u16, max_u16, min_u8, max_u8, min_u64, max_u64, vcIf_true, vcIf_false, List.mem_nil_iff, List.not_mem_nil, not_false_eq_true, Nat.reduceEqDiff, Nat.reduceLeDiff, ne_eq, Bool.and_true, Nat.add_zero, List.append_nil, List.nil_append, List.length_nil, List.length_cons, Nat.zero_add, Nat.reduceAdd, Int.toNat_natCast, Nat.sub_zero, List.drop_zero, List.map_nil, List.take_zero, forall_eq]
  all_goals (try simp only [vcIf_iff, decide_eq_true_eq, decide_eq_false_iff_not, bne_iff_ne, ne_eq, beq_iff_eq, beq_eq_false_iff_ne, bne_eq_false_iff_eq, Bool.not_eq_true', Bool.not_eq_false', Int.ofNat_lt, Int.natCast_inj])
  all_goals (repeat' (first | apply And.intro | intro _))
  all_goals (repeat (cases ‹_ ∧ _›))
  all_goals (first | omega | rfl | assumption | (simp_all; done) | skip)
  all_goals (first
   | (symm; exact sApart_zero (d := ⟨0, 0, 0⟩) (by assumption) (by assumption))
   | (symm; exact sApart_two (d := ⟨0, 0, 0⟩) (h := by assumption) (hj := by assumption) (h0 := by assumption))
   | exact apart_in (by omega) (by assumption) (by assumption)
   | exact apart_fin (by assumption) (by assumption) (by assumption) (by assumption) (by assumption) (by assumption)
   | (rw [take_full (l := l) (by assumption)] at *; simp_all; done) | skip)
theorem vce_l5Apart (l : List GAtom) (k : Nat) : VC_l5Apart l k = vcQ tab (lookF L_l5Apart) (lookP P_l5Apart) (fun _ => false) (fun _ => none) (an_l5Apart l) (fun _ => []) (bodyOf Try.f120) (entry (encs c_l5Apart.aks (l, ())) (rdOf false k)) (retOk tab c_l5Apart Try.f120.results.toList (l, ()) k) := by kernel_rfl
theorem vc_l5Apart (l : List GAtom) (k : Nat) (hp : l.length ≤ 1048576) : vcQ tab (lookF L_l5Apart) (lookP P_l5Apart) (fun _ => false) (fun _ => none) (an_l5Apart l) (fun _ => []) (bodyOf Try.f120) (entry (encs c_l5Apart.aks (l, ())) (rdOf false k)) (retOk tab c_l5Apart Try.f120.results.toList (l, ()) k) := (vce_l5Apart l k).mp (vcn_l5Apart l k hp)
theorem ok_l5Apart : FnOk Try.prog E 120 c_l5Apart :=
  fn_okQ (l := L_l5Apart) (lp := P_l5Apart) (hp := fun _ => false) (gcs := fun _ => none) (perm := fun _ => []) tabOk mix trivial trivial Try.func120 rfl (by kernel_rfl) (by decide) (by kernel_rfl) (anns := fun x _ => an_l5Apart x.1) (fun ⟨l, _⟩ k hp _ => vc_l5Apart l k hp) tot_fn
end Go.Proofs.Yteoinddmoepbfaa

namespace Go.Proofs.Yteoinddmoepbfaa
open Go.SE Go.RowKit
set_option linter.unusedSimpArgs false
set_option linter.unusedVariables false
set_option maxHeartbeats 1000000
set_option maxRecDepth 100000
/-! l5Cases -/
abbrev m_l5Cases : CCon := ⟨[], .ints, [.asn, .sl .bool, .sl .int, .int], fun _ o (a, tm, c, t, _) => vA a = true ∧ tm.length = 9 ∧ c.length = 9 ∧ le8 c = true ∧ 1 ≤ t ∧ t ≤ 9 ∧ o.length + (sQ (sFin a) a tm c t).length ≤ 4294967296, fun _ o (a, tm, c, t, _) => o ++ sQ (sFin a) a tm c t⟩
abbrev pt_l5Cases : PT := ptC m_l5Cases
abbrev mu_l5Cases : Args m_l5Cases.k1 → List m_l5Cases.t.den → Args m_l5Cases.k2 → Nat := fun _ o (a, tm, c, t, _) => (9 - t).toNat
abbrev L_l5Cases : List (FuncId × Con) := [(88, c_l5Filled), (118, c_l5Fits), (119, c_l5Early), (120, c_l5Apart)]
abbrev P_l5Cases (m : Nat) : List (FuncId × PT) := [(125, ptC (m_l5Cases.lim mu_l5Cases m))]
def an_l5Cases (o : List (List Int)) (a : GAsn) (tm : List Bool) (c : List Int) (t : Int) : Nat → St → Option Ann
  | 10, se => some { α := Nat, ok := fun i => (i : Int) ≤ t + 1, mu := fun i => (t + 1).toNat - i, i0 := fun _ => 0, nx := fun a _ => (fun i => i + 1) a, live := [2, 3, 4, 6, 10], sets := fun i => [(11, sv (.int .i64 i))], mids := [127, 176], blks := fun i => [], owns := fun i => [⟨7, .slot 0, .ints, o ++ brS (sFin a) a tm c t i⟩], rd := fun r _ => r, base := 100000 }
  | _, _ => none
def hp_l5Cases : Nat → Bool
  | 8 => true
  | 15 => true
  | _ => false
def VC_l5Cases_1 (o : List (List Int)) (a : GAsn) (tm : List Bool) (c : List Int) (t : Int) (m : Nat) (k : Nat) (i1 : Nat) : Prop := (True ∧ (vcIf (decide (((i1 : Nat) : Int) < t)) (True ∧ True ∧ (0 ≤ ((i1 : Nat) : Int) ∧ ((i1 : Nat) : Int) < ((c.length : Nat) : Int)) ∧ True ∧ True ∧ True ∧ True ∧ (vcIf ((c.getD i1 (0 : Int)) != ((i1 : Nat) : Int)) (True ∧ (inK .i64 (((i1 : Nat) : Int) + (1 : Int))) ∧ True ∧ (((i1 + 1) : Int) ≤ t + 1) ∧ ((t + 1).toNat - (i1 + 1) < (t + 1).toNat - i1) ∧ TT ∧ (RL [.s (.c (.d (.arr .bool tm))), .s (.c (.d (.arr .int c))), .s (.c (.d (.val (.int .i64 t)))), .s (.c (.ptr 127 0)), .s (.c (.own 176))]) ∧ (([.s (.c (.d (.val (.int .i64 (((i1 : Nat) : Int) + (1 : Int))))))] : List S) = [.s (.c (.d (.val (.int .i64 (((i1 + 1) : Nat) : Int)))))]) ∧ (RM [some (.blk [.d (.arr .fact a.facts), .d (.arr .atom a.atoms)]), some (.sl 176 .ints ([] : List (List Int)))]) ∧ (RM []) ∧ (((some (o ++ brS (sFin a) a tm c t i1) : Option (List (List Int))) = some (o ++ brS (sFin a) a tm c t (i1 + 1))) ∧ True) ∧ TT) ((TN ∧ True) ∧ True ∧ (TN ∧ TF ∧ TF ∧ (([] : List Int).length + c.length ≤ 4294967296)) ∧ True ∧ True ∧ True ∧ True ∧ (0 ≤ t ∧ t < (((([] : List Int) ++ c).length : Nat) : Int)) ∧ (TF ∧ TF ∧ True ∧ ((101120 : Nat) ∉ ([] : List Nat))) ∧ True ∧ True ∧ True ∧ True ∧ True ∧ (inK .i64 (t + (1 : Int))) ∧ TF ∧ TF ∧ (TF ∧ True) ∧ (((7 : Nat) ≠ 101120) ∧ True) ∧ ((none : Option Nat) = none) ∧ TN ∧ ((vA a = true ∧ tm.length = 9 ∧ ((([] : List Int) ++ c).set t.toNat ((i1 : Nat) : Int)).length = 9 ∧ le8 ((([] : List Int) ++ c).set t.toNat ((i1 : Nat) : Int)) = true ∧ 1 ≤ (t + (1 : Int)) ∧ (t + (1 : Int)) ≤ 9 ∧ (o ++ brS (sFin a) a tm c t i1).length + (sQ (sFin a) a tm ((([] : List Int) ++ c).set t.toNat ((i1 : Nat) : Int)) (t + (1 : Int))).length ≤ 4294967296) ∧ (9 - (t + (1 : Int))).toNat < m) ∧ True ∧ True ∧ (inK .i64 (((i1 : Nat) : Int) + (1 : Int))) ∧ True ∧ (((i1 + 1) : Int) ≤ t + 1) ∧ ((t + 1).toNat - (i1 + 1) < (t + 1).toNat - i1) ∧ TT ∧ (RL [.s (.c (.d (.arr .bool tm))), .s (.c (.d (.arr .int c))), .s (.c (.d (.val (.int .i64 t)))), .s (.c (.ptr 127 0)), .s (.c (.own 176))]) ∧ (([.s (.c (.d (.val (.int .i64 (((i1 : Nat) : Int) + (1 : Int))))))] : List S) = [.s (.c (.d (.val (.int .i64 (((i1 + 1) : Nat) : Int)))))]) ∧ (RM [some (.blk [.d (.arr .fact a.facts), .d (.arr .atom a.atoms)]), some (.sl 176 .ints ([] : List (List Int)))]) ∧ (RM []) ∧ (((some ((o ++ brS (sFin a) a tm c t i1) ++ sQ (sFin a) a tm ((([] : List Int) ++ c).set t.toNat ((i1 : Nat) : Int)) (t + (1 : Int))) : Option (List (List Int))) = some (o ++ brS (sFin a) a tm c t (i1 + 1))) ∧ True) ∧ TT))) (True ∧ (TN ∧ True) ∧ True ∧ (TN ∧ TF ∧ TF ∧ (([] : List Int).length + c.length ≤ 4294967296)) ∧ True ∧ True ∧ True ∧ True ∧ (0 ≤ t ∧ t < (((([] : List Int) ++ c).length : Nat) : Int)) ∧ (TF ∧ TF ∧ True ∧ ((101120 : Nat) ∉ ([] : List Nat))) ∧ True ∧ True ∧ True ∧ True ∧ True ∧ (inK .i64 (t + (1 : Int))) ∧ TF ∧ TF ∧ (TF ∧ True) ∧ (((7 : Nat) ≠ 101120) ∧ True) ∧ ((none : Option Nat) = none) ∧ TN ∧ ((vA a = true ∧ tm.length = 9 ∧ ((([] : List Int) ++ c).set t.toNat ((i1 : Nat) : Int)).length = 9 ∧ le8 ((([] : List Int) ++ c).set t.toNat ((i1 : Nat) : Int)) = true ∧ 1 ≤ (t + (1 : Int)) ∧ (t + (1 : Int)) ≤ 9 ∧ (o ++ brS (sFin a) a tm c t i1).length + (sQ (sFin a) a tm ((([] : List Int) ++ c).set t.toNat ((i1 : Nat) : Int)) (t + (1 : Int))).length ≤ 4294967296) ∧ (9 - (t + (1 : Int))).toNat < m) ∧ True ∧ True ∧ (inK .i64 (((i1 : Nat) : Int) + (1 : Int))) ∧ True ∧ (((i1 + 1) : Int) ≤ t + 1) ∧ ((t + 1).toNat - (i1 + 1) < (t + 1).toNat - i1) ∧ TT ∧ (RL [.s (.c (.d (.arr .bool tm))), .s (.c (.d (.arr .int c))), .s (.c (.d (.val (.int .i64 t)))), .s (.c (.ptr 127 0)), .s (.c (.own 176))]) ∧ (([.s (.c (.d (.val (.int .i64 (((i1 : Nat) : Int) + (1 : Int))))))] : List S) = [.s (.c (.d (.val (.int .i64 (((i1 + 1) : Nat) : Int)))))]) ∧ (RM [some (.blk [.d (.arr .fact a.facts), .d (.arr .atom a.atoms)]), some (.sl 176 .ints ([] : List (List Int)))]) ∧ (RM []) ∧ (((some ((o ++ brS (sFin a) a tm c t i1) ++ sQ (sFin a) a tm ((([] : List Int) ++ c).set t.toNat ((i1 : Nat) : Int)) (t + (1 : Int))) : Option (List (List Int))) = some (o ++ brS (sFin a) a tm c t (i1 + 1))) ∧ True) ∧ TT)))
def VC_l5Cases (o : List (List Int)) (a : GAsn) (tm : List Bool) (c : List Int) (t : Int) (m : Nat) (k : Nat) : Prop := TN ∧ TN ∧ True ∧ True ∧ True ∧ ((a.facts.length ≤ 1048576 ∧ a.facts.all fV = true ∧ c.length = 9) ∧ True ∧ True) ∧ True ∧ True ∧ (vcIf (!(sFit a.facts c)) (True ∧ True ∧ True ∧ ((some o : Option (List (List Int))) = some (o ++ sQ (sFin a) a tm c t)) ∧ TF ∧ TF) (True ∧ True ∧ True ∧ ((a.atoms.length ≤ 1048576 ∧ a.atoms.all atV = true ∧ c.length = 9 ∧ le8 c = true) ∧ True ∧ True) ∧ True ∧ True ∧ (vcIf (!(sEarly a.atoms c)) (True ∧ True ∧ ((some o : Option (List (List Int))) = some (o ++ sQ (sFin a) a tm c t)) ∧ TF ∧ TF) (True ∧ True ∧ (vcIf (decide ((8 : Int) < t)) (True ∧ True ∧ True ∧ ((a.atoms.length ≤ 1048576 ∧ a.atoms.all atV = true ∧ c.length = 9) ∧ True ∧ TN ∧ True) ∧ (((fL c a.atoms).length ≤ 1048576) ∧ True ∧ True) ∧ (vcIf (sApart (fL c a.atoms)) (True ∧ (TN ∧ True) ∧ True ∧ (TN ∧ TF ∧ TF ∧ (([] : List Int).length + c.length ≤ 4294967296)) ∧ (TN ∧ TF ∧ True) ∧ (TN ∧ TF ∧ TF ∧ (o.length + ([([] : List Int) ++ c] : List (List Int)).length ≤ 4294967296)) ∧ True ∧ True ∧ True ∧ ((some (o ++ ([([] : List Int) ++ c] : List (List Int))) : Option (List (List Int))) = some (o ++ sQ (sFin a) a tm c t)) ∧ TF ∧ TF) (True ∧ True ∧ ((some o : Option (List (List Int))) = some (o ++ sQ (sFin a) a tm c t)) ∧ TF ∧ TF))) (True ∧ True ∧ (0 ≤ t ∧ t < ((tm.length : Nat) : Int)) ∧ True ∧ True ∧ (vcIf (!(tm.getD t.toNat false)) (True ∧ True ∧ True ∧ True ∧ True ∧ (inK .i64 (t + (1 : Int))) ∧ TF ∧ TF ∧ True ∧ True ∧ ((none : Option Nat) = none) ∧ TN ∧ ((vA a = true ∧ tm.length = 9 ∧ c.length = 9 ∧ le8 c = true ∧ 1 ≤ (t + (1 : Int)) ∧ (t + (1 : Int)) ≤ 9 ∧ o.length + (sQ (sFin a) a tm c (t + (1 : Int))).length ≤ 4294967296) ∧ (9 - (t + (1 : Int))).toNat < m) ∧ True ∧ ((some (o ++ sQ (sFin a) a tm c (t + (1 : Int))) : Option (List (List Int))) = some (o ++ sQ (sFin a) a tm c t)) ∧ TF ∧ TF) (True ∧ (((0 : Int) ≤ t + 1) ∧ TT ∧ (RL [.s (.c (.d (.arr .bool tm))), .s (.c (.d (.arr .int c))), .s (.c (.d (.val (.int .i64 t)))), .s (.c (.ptr 127 0)), .s (.c (.own 176))]) ∧ (([.s (.c (.d (.val (.int .i64 (0 : Int)))))] : List S) = [.s (.c (.d (.val (.int .i64 ((0 : Nat) : Int)))))]) ∧ (RM [some (.blk [.d (.arr .fact a.facts), .d (.arr .atom a.atoms)]), some (.sl 176 .ints ([] : List (List Int)))]) ∧ (RM []) ∧ (((some o : Option (List (List Int))) = some (o ++ brS (sFin a) a tm c t 0)) ∧ True) ∧ TT) ∧ (∀ i1 : Nat, ((i1 : Int) ≤ t + 1) → True ∧ True ∧ True ∧ (vcIf (decide (((i1 : Nat) : Int) ≤ t)) (True ∧ True ∧ True ∧ (VC_l5Cases_1 o a tm c t m k i1)) (True ∧ True ∧ ((some (o ++ brS (sFin a) a tm c t i1) : Option (List (List Int))) = some (o ++ sQ (sFin a) a tm c t)) ∧ TF ∧ TF)))))))))))
theorem vcn_l5Cases (o : List (List Int)) (a : GAsn) (tm : List Bool) (c : List Int) (t : Int) (m : Nat) (k : Nat) (hp : (vA a = true ∧ tm.length = 9 ∧ c.length = 9 ∧ le8 c = true ∧ 1 ≤ t ∧ t ≤ 9 ∧ o.length + (sQ (sFin a) a tm c t).length ≤ 4294967296) ∧ (9 - t).toNat < m + 1) : VC_l5Cases o a tm c t m k := by
  unfold VC_l5Cases VC_l5Cases_1
  simp only [TT, TF, TN, RL, RM, true_and, and_true, eq_self, implies_true, forall_const, List.cons.injEq, S.s.injEq, S0.c.injEq, S0.agg.injEq, CV.d.injEq, CV.own.injEq, CV.ptr.injEq, DC.val.injEq, Value.int.injEq, Value.bool.injEq, Option.some.injEq, Res.blk.injEq, Prod.mk.injEq, inK, min_i64, max_i64, min_u16, max_u16, min_u8, max_u8, min_u64, max_u64, vcIf_true, vcIf_false, List.mem_nil_iff, List.not_mem_nil, not_false_eq_true, Nat.reduceEqDiff, Nat.reduceLeDiff, ne_eq, Bool.and_true, Nat.add_zero, List.append_nil, List.nil_append, List.length_nil, List.length_cons, Nat.zero_add, Nat.reduceAdd, Int.toNat_natCast, Nat.sub_zero, List.drop_zero, List.map_nil, List.take_zero, forall_eq]
  have hV := vA_iff.1 hp.1.1
  have hA : (fL c a.atoms).length ≤ 1048576 := Nat.le_trans (fL_len _ _) (Nat.le_trans hV.2.2.2 (by decide))
  all_goals (try simp only [vcIf_iff, decide_eq_true_eq, decide_eq_false_iff_not, bne_iff_ne, ne_eq, beq_iff_eq, beq_eq_false_iff_ne, bne_eq_false_iff_eq, Bool.not_eq_true', Bool.not_eq_false', Int.ofNat_lt, Int.natCast_inj])
  all_goals (repeat' (first | apply And.intro | intro _))
  all_goals (repeat (cases ‹_ ∧ _›))
  all_goals (first | omega | rfl | assumption | (simp_all; done) | skip)
  all_goals (first
   | exact hV.1 | exact hV.2.1 | exact Nat.le_trans hV.2.2.1 (by decide) | exact Nat.le_trans hV.2.2.2 (by decide) | exact Nat.le_trans (fL_len _ _) (Nat.le_trans hV.2.2.2 (by decide))
   | exact le8_set (by assumption) (by omega)
   | (rw [fits_no1 (by assumption), List.append_nil]; done) | (rw [fits_no2 (by assumption), List.append_nil]; done)
   | (rw [last_yes (by assumption) (by assumption) (by assumption) (by assumption)]; done) | (rw [last_no (by assumption) (by assumption) (by assumption) (by assumption), List.append_nil]; done)
   | (rw [last_yes (by assumption) (by assumption) (by assumption) (by assumption)] at *; simp only [List.length_singleton] at *; omega)
   | (rw [sQ_skip (t := t) (by assumption) (by omega) (fits_yes (by assumption) (by assumption)) (by assumption)]; done)
   | (rw [sQ_skip (t := t) (by assumption) (by omega) (fits_yes (by assumption) (by assumption)) (by assumption)] at *; first | assumption | rfl)
   | (rw [brS_zero, List.append_nil]; done)
   | (rw [brS_skip (by assumption) (by assumption)]; done)
   | (rw [brS_take (.inr (by assumption)), List.append_assoc]; done)
   | (rw [brS_take (.inl (by omega)), List.append_assoc]; done)
   | exact brS_fit (by assumption) (by assumption) (by assumption) (fits_yes (by assumption) (by assumption)) (by assumption) (by assumption) (.inr (by assumption))
   | exact brS_fit (by assumption) (by assumption) (by assumption) (fits_yes (by assumption) (by assumption)) (by assumption) (by assumption) (.inl (by omega))
   | (rw [brS_full (by assumption) (by omega) (fits_yes (by assumption) (by assumption)) (by assumption) (by assumption) (by assumption)]; done)
   | skip)
theorem vce_l5Cases (o : List (List Int)) (a : GAsn) (tm : List Bool) (c : List Int) (t : Int) (m : Nat) (k : Nat) : VC_l5Cases o a tm c t m k = vcQ tab (lookF L_l5Cases) (lookP (P_l5Cases m)) (hp_l5Cases) (fun _ => none) (an_l5Cases o a tm c t) (fun _ => []) (bodyOf Try.f125) (isoStC (m_l5Cases.lim mu_l5Cases (m + 1)) () o (a, tm, c, t, ())) (isoQC tab (m_l5Cases.lim mu_l5Cases (m + 1)) Try.f125.results.toList () o (a, tm, c, t, ())) := by kernel_rfl
theorem ptok_l5Cases : PTOk Try.prog E 125 pt_l5Cases :=
  ptC_rec (mu := mu_l5Cases) (fun m ih => cons_ok (c := (m_l5Cases.lim mu_l5Cases (m + 1))) (fn := Try.f125) (l := L_l5Cases) (lp := P_l5Cases m) (hp := hp_l5Cases) (perm := fun _ => []) tabOk mix ⟨ok_l5Filled, ok_l5Fits, ok_l5Early, ok_l5Apart, trivial⟩ ⟨ih, trivial⟩ Try.func125 rfl (by kernel_rfl) (show m_l5Cases.k1.length + m_l5Cases.k2.length + 1 ≤ Try.f125.ntmps by decide) (by kernel_rfl) (anns := fun x l y => an_l5Cases l y.1 y.2.1 y.2.2.1 y.2.2.2.1) (fun _ o ⟨a, tm, c, t, _⟩ hp => (vce_l5Cases o a tm c t m 0).mp (vcn_l5Cases o a tm c t m 0 hp))) ⟨_, _, Try.func125, by kernel_rfl, rfl⟩
end Go.Proofs.Yteoinddmoepbfaa

namespace Go.Proofs.Yteoinddmoepbfaa
open Go.SE Go.RowKit
set_option linter.unusedSimpArgs false
set_option linter.unusedVariables false
set_option maxHeartbeats 1000000
set_option maxRecDepth 100000
/-! l5All -/
abbrev c_l5All : Con := ⟨[.asn, .sl .bool], [.sl .ints], fun (a, tm, _) => vA a = true ∧ tm.length = 9, .inl fun (a, tm, _) => (sQ (sFin a) a tm opens 1, ()), fun _ => 0⟩
abbrev L_l5All : List (FuncId × Con) := [(65, c_l5Open)]
abbrev P_l5All : List (FuncId × PT) := [(125, pt_l5Cases)]
def hp_l5All : Nat → Bool
  | 1 => true
  | _ => false
def VC_l5All (a : GAsn) (tm : List Bool) (k : Nat) : Prop := TT ∧ TN ∧ TN ∧ TT ∧ (TN ∧ True) ∧ True ∧ True ∧ (True ∧ True ∧ TN ∧ True) ∧ TF ∧ TF ∧ (TF ∧ True) ∧ (((80 : Nat) ≠ 128) ∧ True) ∧ ((none : Option Nat) = none) ∧ TN ∧ (vA a = true ∧ tm.length = 9 ∧ opens.length = 9 ∧ le8 opens = true ∧ 1 ≤ (1 : Int) ∧ (1 : Int) ≤ 9 ∧ ([] : List (List Int)).length + (sQ (sFin a) a tm opens (1 : Int)).length ≤ 4294967296) ∧ True ∧ ((none : Option Nat) = none) ∧ (((([] : List (List Int)) ++ sQ (sFin a) a tm opens (1 : Int), ()) : (List (List Int)) × Unit) = (sQ (sFin a) a tm opens 1, ())) ∧ (True ∧ True) ∧ ((TF ∧ TF) ∧ True) ∧ True ∧ (True ∧ True) ∧ TF
theorem vcn_l5All (a : GAsn) (tm : List Bool) (k : Nat) (hp : vA a = true ∧ tm.length = 9) : VC_l5All a tm k := by
  unfold VC_l5All
  simp only [TT, TF, TN, RL, RM, true_and, and_true, eq_self, implies_true, forall_const, List.cons.injEq, S.s.injEq, S0.c.injEq, S0.agg.injEq, CV.d.injEq, CV.own.injEq, CV.ptr.injEq, DC.val.injEq, Value.int.injEq, Value.bool.injEq, Option.some.injEq, Res.blk.injEq, Prod.mk.injEq, inK, min_i64, max_i64, min_u16, max_u16, min_u8, max_u8, min_u64, max_u64, vcIf_true, vcIf_false, List.mem_nil_iff, List.not_mem_nil, not_false_eq_true, Nat.reduceEqDiff, Nat.reduceLeDiff, ne_eq, Bool.and_true, Nat.add_zero, List.append_nil, List.nil_append, List.length_nil, List.length_cons, Nat.zero_add, Nat.reduceAdd, Int.toNat_natCast, Nat.sub_zero, List.drop_zero, List.map_nil, List.take_zero, forall_eq]
  all_goals (try simp only [vcIf_iff, decide_eq_true_eq, decide_eq_false_iff_not, bne_iff_ne, ne_eq, beq_iff_eq, beq_eq_false_iff_ne, bne_eq_false_iff_eq, Bool.not_eq_true', Bool.not_eq_false', Int.ofNat_lt, Int.natCast_inj])
  all_goals (repeat' (first | apply And.intro | intro _))
  all_goals (repeat (cases ‹_ ∧ _›))
  all_goals (first | omega | rfl | assumption | exact sQ_max | (simp_all; done) | skip)
theorem vce_l5All (a : GAsn) (tm : List Bool) (k : Nat) : VC_l5All a tm k = vcY tab (lookF L_l5All) (lookP P_l5All) noSpB ((fun _ _ _ _ _ _ => none)) (fun b => !b) hp_l5All (fun _ => none) (fun _ _ _ => none) (fun _ => []) (bodyOf Try.f86) (entry (encs c_l5All.aks (a, tm, ())) none) false (retR tab c_l5All Try.f86.results.toList (a, tm, ())) := by kernel_rfl
abbrev spc_l5All (a : GAsn) (tm : List Bool) : SpCode Bool := (fun _ _ _ _ _ _ => none)
theorem spcok_l5All (a : GAsn) (tm : List Bool) (wE : World) (ro0 : Nat → Option (Array Value)) (ρ : Nat) : SpcOk Fence.wide 0 Try.prog E (AC wE ro0 ρ) Try.f86.ntmps (spc_l5All a tm) :=
  fun _ _ _ _ _ _ _ h => by cases h
theorem vcr_l5All : ∀ x : Args c_l5All.aks, c_l5All.pre x → vcY tab (lookF L_l5All) (lookP P_l5All) noSpB (spc_l5All x.1 x.2.1) (fun b => !b) hp_l5All (fun _ => none) (fun _ _ _ => none) (fun _ => []) (bodyOf Try.f86) (entry (encs c_l5All.aks x) none) false (retR tab c_l5All Try.f86.results.toList x) :=
  fun ⟨a, tm, _⟩ hp => (vce_l5All a tm 0).mp (vcn_l5All a tm 0 hp)
theorem ok_l5All : FnOk Try.prog E 86 c_l5All :=
  fnR_ok (con := c_l5All) (fn := Try.f86) (l := L_l5All) (lp := P_l5All) (hp := hp_l5All) (gcs := fun _ => none) (perm := fun _ => []) (spc := fun x => spc_l5All x.1 x.2.1) (anns := fun x => (fun _ _ _ => none)) tabOk mix ⟨ok_l5Open, trivial⟩ ⟨ptok_l5Cases, trivial⟩ rfl Try.func86 rfl (by kernel_rfl) (by decide) (by kernel_rfl) (fun x _ => spcok_l5All x.1 x.2.1) vcr_l5All tot_fn
end Go.Proofs.Yteoinddmoepbfaa

namespace Go.Proofs.Yteoinddmoepbfaa
open Go.SE Go.RowKit
set_option linter.unusedSimpArgs false
set_option linter.unusedVariables false
set_option maxHeartbeats 1000000
set_option maxRecDepth 100000
/-! l5Begins -/
abbrev c_l5Begins : Con := ⟨[.sl .atom, .int], [.bool], fun (l, c, _) => l.length ≤ 1048576, .inl fun (l, c, _) => (bgn l c, ()), fun _ => 0⟩
abbrev L_l5Begins : List (FuncId × Con) := []
abbrev P_l5Begins : List (FuncId × PT) := []
def an_l5Begins (l : List GAtom) (c : Int) : Nat → St → Option Ann
  | 2, se => some { α := Nat, ok := fun i => i ≤ l.length ∧ bgn (l.take i) c = false, mu := fun i => l.length - i, i0 := fun _ => 0, nx := fun a _ => (fun i => i + 1) a, live := [0, 1], sets := fun i => [(5, sv (.int .i64 i))], mids := [], blks := fun i => [], owns := fun i => [], rd := fun r _ => r, base := 100000 }
  | _, _ => none
def VC_l5Begins (l : List GAtom) (c : Int) (k : Nat) : Prop := True ∧ True ∧ ((0 ≤ l.length ∧ bgn (l.take 0) c = false) ∧ TT ∧ (RL [.s (.c (.d (.arr .atom l))), .s (.c (.d (.val (.int .i64 c))))]) ∧ (([.s (.c (.d (.val (.int .i64 (0 : Int)))))] : List S) = [.s (.c (.d (.val (.int .i64 ((0 : Nat) : Int)))))]) ∧ (RM []) ∧ (RM []) ∧ True ∧ TT) ∧ (∀ i1 : Nat, (i1 ≤ l.length ∧ bgn (l.take i1) c = false) → True ∧ True ∧ True ∧ True ∧ (vcIf (decide (((i1 : Nat) : Int) < ((l.length : Nat) : Int))) (True ∧ True ∧ (0 ≤ ((i1 : Nat) : Int) ∧ ((i1 : Nat) : Int) < ((l.length : Nat) : Int)) ∧ True ∧ True ∧ True ∧ True ∧ (vcIf (((l.getD i1 (⟨0, 0, 0⟩ : GAtom)).a) == c) (True ∧ (((true, ()) : Bool × Unit) = (bgn l c, ())) ∧ True ∧ True ∧ True ∧ True ∧ TF) (True ∧ (inK .i64 (((i1 : Nat) : Int) + (1 : Int))) ∧ True ∧ ((i1 + 1) ≤ l.length ∧ bgn (l.take (i1 + 1)) c = false) ∧ (l.length - (i1 + 1) < l.length - i1) ∧ TT ∧ (RL [.s (.c (.d (.arr .atom l))), .s (.c (.d (.val (.int .i64 c))))]) ∧ (([.s (.c (.d (.val (.int .i64 (((i1 : Nat) : Int) + (1 : Int))))))] : List S) = [.s (.c (.d (.val (.int .i64 (((i1 + 1) : Nat) : Int)))))]) ∧ (RM []) ∧ (RM []) ∧ True ∧ TT))) (True ∧ (((false, ()) : Bool × Unit) = (bgn l c, ())) ∧ True ∧ True ∧ True ∧ True ∧ TF)))
theorem vcn_l5Begins (l : List GAtom) (c : Int) (k : Nat) (hp : l.length ≤ 1048576) : VC_l5Begins l c k := by
  unfold VC_l5Begins
  simp only [TT, TF, TN, RL, RM, true_and, and_true, eq_self, implies_true, forall_const, List.cons.injEq, S.s.injEq, S0.c.injEq, S0.agg.injEq, CV.d.injEq, CV.own.injEq, CV.ptr.injEq, DC.val.injEq, Value.int.injEq, Value.bool.injEq, Option.some.injEq, Res.blk.injEq, Prod.mk.injEq, inK, min_i64, max_i64, min_u16, max_u16, min_u8, max_u8, min_u64, max_u64, vcIf_true, vcIf_false, List.mem_nil_iff, List.not_mem_nil, not_false_eq_true, Nat.reduceEqDiff, Nat.reduceLeDiff, ne_eq, Bool.and_true, Nat.add_zero, List.append_nil, List.nil_append, List.length_nil, List.length_cons, Nat.zero_add, Nat.reduceAdd, Int.toNat_natCast, Nat.sub_zero, List.drop_zero, List.map_nil, List.take_zero, forall_eq]
  all_goals (try simp only [vcIf_iff, decide_eq_true_eq, decide_eq_false_iff_not, bne_iff_ne, ne_eq, beq_iff_eq, beq_eq_false_iff_ne, bne_eq_false_iff_eq, Bool.not_eq_true', Bool.not_eq_false', Int.ofNat_lt, Int.natCast_inj])
  all_goals (repeat' (first | apply And.intro | intro _))
  all_goals (repeat (cases ‹_ ∧ _›))
  all_goals (first | omega | rfl | assumption | (simp_all; done) | skip)
  all_goals (first
   | exact (bgn_yes (by assumption) (by assumption)).symm
   | exact bgn_step (by assumption) (by assumption) (by assumption)
   | exact (bgn_end (by assumption) (by assumption)).symm
   | skip)
theorem vce_l5Begins (l : List GAtom) (c : Int) (k : Nat) : VC_l5Begins l c k = vcQ tab (lookF L_l5Begins) (lookP P_l5Begins) (fun _ => false) (fun _ => none) (an_l5Begins l c) (fun _ => []) (bodyOf Try.f87) (entry (encs c_l5Begins.aks (l, c, ())) (rdOf false k)) (retOk tab c_l5Begins Try.f87.results.toList (l, c, ()) k) := by kernel_rfl
theorem vc_l5Begins (l : List GAtom) (c : Int) (k : Nat) (hp : l.length ≤ 1048576) : vcQ tab (lookF L_l5Begins) (lookP P_l5Begins) (fun _ => false) (fun _ => none) (an_l5Begins l c) (fun _ => []) (bodyOf Try.f87) (entry (encs c_l5Begins.aks (l, c, ())) (rdOf false k)) (retOk tab c_l5Begins Try.f87.results.toList (l, c, ()) k) := (vce_l5Begins l c k).mp (vcn_l5Begins l c k hp)
theorem ok_l5Begins : FnOk Try.prog E 87 c_l5Begins :=
  fn_okQ (l := L_l5Begins) (lp := P_l5Begins) (hp := fun _ => false) (gcs := fun _ => none) (perm := fun _ => []) tabOk mix trivial trivial Try.func87 rfl (by kernel_rfl) (by decide) (by kernel_rfl) (anns := fun x _ => an_l5Begins x.1 x.2.1) (fun ⟨l, c, _⟩ k hp _ => vc_l5Begins l c k hp) tot_fn
end Go.Proofs.Yteoinddmoepbfaa

namespace Go.Proofs.Yteoinddmoepbfaa
open Go.SE Go.RowKit
set_option linter.unusedSimpArgs false
set_option linter.unusedVariables false
set_option maxHeartbeats 1000000
set_option maxRecDepth 100000
/-! sAllocated -/
abbrev c_sAllocated : Con := ⟨[.asn, .int], [.bool], fun (a, t, _) => a.facts.length ≤ 281474976710656 ∧ a.atoms.length ≤ 281474976710656, .inl fun (a, t, _) => (ALC a t, ()), fun _ => 0⟩
abbrev L_sAllocated : List (FuncId × Con) := [(61, c_sAssertionValid), (63, c_l3Terms), (85, c_l1Is), (86, c_l5All), (87, c_l5Begins), (88, c_l5Filled)]
abbrev P_sAllocated : List (FuncId × PT) := []
def an_sAllocated (a : GAsn) (t : Int) : Nat → St → Option Ann
  | 7, se => some { α := Nat, ok := fun i => i ≤ List.length (casesB a (hz a (qT t))) ∧ (List.take i (casesB a (hz a (qT t)))).all (fun c => bgn (fL c a.atoms) (c.getD t.toNat 0)) = true, mu := fun i => List.length (casesB a (hz a (qT t))) - i, i0 := fun _ => 0, nx := fun a _ => (fun i => i + 1) a, live := [1, 2, 6], sets := fun i => [(7, sv (.int .i64 i))], mids := [47, 368], blks := fun i => [], owns := fun i => [], rd := fun r _ => r, base := 100000 }
  | _, _ => none
def VC_sAllocated_1 (a : GAsn) (t : Int) (k : Nat) : Prop := (((asV a = true) ∧ True ∧ TN ∧ True) ∧ True ∧ True ∧ True ∧ (0 ≤ t ∧ t < (((fl9 (occ a)).length : Nat) : Int)) ∧ (TF ∧ TF ∧ True ∧ ((272 : Nat) ∉ ([] : List Nat))) ∧ True ∧ True ∧ ((vA a = true ∧ ((fl9 (occ a)).set t.toNat true).length = 9) ∧ (TF ∧ True) ∧ True ∧ TN ∧ True) ∧ True ∧ True ∧ ((0 ≤ List.length (casesB a (hz a (qT t))) ∧ (List.take 0 (casesB a (hz a (qT t)))).all (fun c => bgn (fL c a.atoms) (c.getD t.toNat 0)) = true) ∧ TT ∧ (RL [.s (.c (.d (.val (.int .i64 t)))), .s (.c (.ptr 47 0)), .s (.c (.own 368))]) ∧ (([.s (.c (.d (.val (.int .i64 (0 : Int)))))] : List S) = [.s (.c (.d (.val (.int .i64 ((0 : Nat) : Int)))))]) ∧ (RM [some (.blk [.d (.arr .fact a.facts), .d (.arr .atom a.atoms)]), some (.sl 368 .ints (sQ (sFin a) a ((fl9 (occ a)).set t.toNat true) opens 1))]) ∧ (RM []) ∧ True ∧ TT) ∧ (∀ i1 : Nat, (i1 ≤ List.length (casesB a (hz a (qT t))) ∧ (List.take i1 (casesB a (hz a (qT t)))).all (fun c => bgn (fL c a.atoms) (c.getD t.toNat 0)) = true) → True ∧ True ∧ True ∧ True ∧ (vcIf (decide (((i1 : Nat) : Int) < (((sQ (sFin a) a ((fl9 (occ a)).set t.toNat true) opens 1).length : Nat) : Int))) (True ∧ True ∧ True ∧ True ∧ (0 ≤ ((i1 : Nat) : Int) ∧ ((i1 : Nat) : Int) < (((sQ (sFin a) a ((fl9 (occ a)).set t.toNat true) opens 1).length : Nat) : Int)) ∧ True ∧ ((a.atoms.length ≤ 1048576 ∧ a.atoms.all atV = true ∧ ((sQ (sFin a) a ((fl9 (occ a)).set t.toNat true) opens 1).getD i1 ([] : List Int)).length = 9) ∧ True ∧ TN ∧ True) ∧ True ∧ True ∧ (0 ≤ ((i1 : Nat) : Int) ∧ ((i1 : Nat) : Int) < (((sQ (sFin a) a ((fl9 (occ a)).set t.toNat true) opens 1).length : Nat) : Int)) ∧ True ∧ True ∧ (0 ≤ t ∧ t < ((((sQ (sFin a) a ((fl9 (occ a)).set t.toNat true) opens 1).getD i1 ([] : List Int)).length : Nat) : Int)) ∧ True ∧ (((fL ((sQ (sFin a) a ((fl9 (occ a)).set t.toNat true) opens 1).getD i1 ([] : List Int)) a.atoms).length ≤ 1048576) ∧ True ∧ True) ∧ True ∧ (vcIf (!(bgn (fL ((sQ (sFin a) a ((fl9 (occ a)).set t.toNat true) opens 1).getD i1 ([] : List Int)) a.atoms) (((sQ (sFin a) a ((fl9 (occ a)).set t.toNat true) opens 1).getD i1 ([] : List Int)).getD t.toNat (0 : Int)))) (True ∧ (((false, ()) : Bool × Unit) = (ALC a t, ())) ∧ True ∧ True ∧ True ∧ True ∧ TF) (True ∧ (inK .i64 (((i1 : Nat) : Int) + (1 : Int))) ∧ True ∧ ((i1 + 1) ≤ List.length (casesB a (hz a (qT t))) ∧ (List.take (i1 + 1) (casesB a (hz a (qT t)))).all (fun c => bgn (fL c a.atoms) (c.getD t.toNat 0)) = true) ∧ (List.length (casesB a (hz a (qT t))) - (i1 + 1) < List.length (casesB a (hz a (qT t))) - i1) ∧ TT ∧ (RL [.s (.c (.d (.val (.int .i64 t)))), .s (.c (.ptr 47 0)), .s (.c (.own 368))]) ∧ (([.s (.c (.d (.val (.int .i64 (((i1 : Nat) : Int) + (1 : Int))))))] : List S) = [.s (.c (.d (.val (.int .i64 (((i1 + 1) : Nat) : Int)))))]) ∧ (RM [some (.blk [.d (.arr .fact a.facts), .d (.arr .atom a.atoms)]), some (.sl 368 .ints (sQ (sFin a) a ((fl9 (occ a)).set t.toNat true) opens 1))]) ∧ (RM []) ∧ True ∧ TT))) (True ∧ (((true, ()) : Bool × Unit) = (ALC a t, ())) ∧ True ∧ True ∧ True ∧ True ∧ TF))))
def VC_sAllocated (a : GAsn) (t : Int) (k : Nat) : Prop := TN ∧ True ∧ True ∧ ((a.facts.length ≤ 281474976710656 ∧ a.atoms.length ≤ 281474976710656) ∧ True ∧ True) ∧ True ∧ True ∧ (vcIf (!(asV a)) (True ∧ True ∧ (((false, ()) : Bool × Unit) = (ALC a t, ())) ∧ True ∧ True ∧ True ∧ True ∧ TF) (True ∧ (True ∧ True ∧ True) ∧ True ∧ True ∧ (vcIf (!(isT t)) (True ∧ (((false, ()) : Bool × Unit) = (ALC a t, ())) ∧ True ∧ True ∧ True ∧ True ∧ TF) (True ∧ (VC_sAllocated_1 a t k)))))
theorem vcn_sAllocated (a : GAsn) (t : Int) (k : Nat) (hp : a.facts.length ≤ 281474976710656 ∧ a.atoms.length ≤ 281474976710656) : VC_sAllocated a t k := by
  unfold VC_sAllocated VC_sAllocated_1
  simp only [TT, TF, TN, RL, RM, true_and, and_true, eq_self, implies_true, forall_const, List.cons.injEq, S.s.injEq, S0.c.injEq, S0.agg.injEq, CV.d.injEq, CV.own.injEq, CV.ptr.injEq, DC.val.injEq, Value.int.injEq, Value.bool.injEq, Option.some.injEq, Res.blk.injEq, Prod.mk.injEq, inK, min_i64, max_i64, min_u16, max_u16, min_u8, max_u8, min_u64, max_u64, vcIf_true, vcIf_false, List.mem_nil_iff, List.not_mem_nil, not_false_eq_true, Nat.reduceEqDiff, Nat.reduceLeDiff, ne_eq, Bool.and_true, Nat.add_zero, List.append_nil, List.nil_append, List.length_nil, List.length_cons, Nat.zero_add, Nat.reduceAdd, Int.toNat_natCast, Nat.sub_zero, List.drop_zero, List.map_nil, List.take_zero, forall_eq]
  all_goals (try simp only [vcIf_iff, decide_eq_true_eq, decide_eq_false_iff_not, bne_iff_ne, ne_eq, beq_iff_eq, beq_eq_false_iff_ne, bne_eq_false_iff_eq, Bool.not_eq_true', Bool.not_eq_false', Int.ofNat_lt, Int.natCast_inj])
  all_goals (repeat' (first | apply And.intro | intro _))
  all_goals (repeat (cases ‹_ ∧ _›))
  all_goals (first | omega | rfl | assumption | (simp_all; done) | skip)
  all_goals (first | (exact (alc_bad1 (by assumption)).symm) | (exact (alc_bad2 (by assumption)).symm) | skip)
  all_goals (have ha := ‹asV a = true›; have ht := ‹isT t = true›; have hs := asV_facts ha; have h1 := isT_iff.1 ht; have hl := fl9_len (occ a); have hm := alc_max ha ht; try rw [sAlc ha ht] at *)
  all_goals (first
   | omega
   | exact vA_of ha
   | exact hs.2.2.1
   | (rw [List.length_set]; exact hl)
   | exact alc_len ha ht (by assumption)
   | (have h9 := alc_len ha ht (i := _) (by assumption); omega)
   | (rw [alc_len ha ht (by assumption)]; omega)
   | exact Nat.le_trans (fL_len _ _) (by omega)
   | exact (alc_no ha ht (alc_get (by assumption)) (by assumption)).symm
   | exact alc_step (by assumption) (by assumption) (by assumption)
   | exact (alc_all ha ht (alc_end (by assumption) (by assumption))).symm
   | skip)
theorem vce_sAllocated (a : GAsn) (t : Int) (k : Nat) : VC_sAllocated a t k = vcQ tab (lookF L_sAllocated) (lookP P_sAllocated) (fun _ => false) (fun _ => none) (an_sAllocated a t) (fun _ => []) (bodyOf Try.f30) (entry (encs c_sAllocated.aks (a, t, ())) (rdOf false k)) (retOk tab c_sAllocated Try.f30.results.toList (a, t, ()) k) := by kernel_rfl
theorem vc_sAllocated (a : GAsn) (t : Int) (k : Nat) (hp : a.facts.length ≤ 281474976710656 ∧ a.atoms.length ≤ 281474976710656) : vcQ tab (lookF L_sAllocated) (lookP P_sAllocated) (fun _ => false) (fun _ => none) (an_sAllocated a t) (fun _ => []) (bodyOf Try.f30) (entry (encs c_sAllocated.aks (a, t, ())) (rdOf false k)) (retOk tab c_sAllocated Try.f30.results.toList (a, t, ()) k) := (vce_sAllocated a t k).mp (vcn_sAllocated a t k hp)
theorem ok_sAllocated : FnOk Try.prog E 30 c_sAllocated :=
  fn_okQ (l := L_sAllocated) (lp := P_sAllocated) (hp := fun _ => false) (gcs := fun _ => none) (perm := fun _ => []) tabOk mix ⟨ok_sAssertionValid, ok_l3Terms, ok_l1Is, ok_l5All, ok_l5Begins, ok_l5Filled, trivial⟩ trivial Try.func30 rfl (by kernel_rfl) (by decide) (by kernel_rfl) (anns := fun x _ => an_sAllocated x.1 x.2.1) (fun ⟨a, t, _⟩ k hp _ => vc_sAllocated a t k hp) tot_fn
end Go.Proofs.Yteoinddmoepbfaa

namespace Go.Proofs.Yteoinddmoepbfaa
open Go.SE Go.RowKit
set_option linter.unusedSimpArgs false
set_option linter.unusedVariables false
set_option maxHeartbeats 1000000
set_option maxRecDepth 100000
/-! isTerm -/
abbrev c_isTerm : Con := ⟨[.int], [.bool], fun _ => True, .inl fun (t, _) => (isT t, ()), fun _ => 0⟩
abbrev L_isTerm : List (FuncId × Con) := []
theorem vc_isTerm (t : Int) (k : Nat) : vc tab (lookF L_isTerm) (fun _ => none) (fun _ => []) (bodyOf Try.f68) (entry (encs c_isTerm.aks (t, ())) (rdOf false k)) (retOk tab c_isTerm Try.f68.results.toList (t, ()) k) := by
  dsimp only [bodyOf, Try.f68, rdOf]
  simp (maxSteps := 10000000) only [c_isTerm, L_isTerm, SE.lookF, tab2, tab3, tab4, tab5, tab7, tab9, tab12, tab13, tab21, tab22, tab23, tab24, tab25, tab26, tab27, tab28, tab35, tab36, tab37, tab38, tab43, tab51, tab52, tab53, tab57, tab74, tab75, tab82, tab83, tab88, tab89, tab90, tab112, tab128, tab131, tab132, tab143, tab148, tab149, tab150, tab168, tab180, SE.entry, SE.envOf, SE.rdOf, Option.get_some, SE.vc, SE.vcReg, SE.vcLoop, SE.condK, SE.seqK, SE.blockK, SE.vcOps, SE.vcStep, SE.vcOp, SE.vcTr, SE.vcDet_some, SE.vcDet_none, SE.vcIf_true, SE.vcIf_false, SE.vcEach, SE.pickOps, SE.gslot, SE.trOp, SE.moveId, SE.trMove, SE.trPick, SE.trAlloc, SE.trBox, SE.trBuild, SE.trBuildSlice, SE.trLoad, SE.trStore, SE.trNilCheck, SE.trBin, SE.trUn, SE.trConvert, SE.trFieldAddr, SE.trField, SE.trIndexAddr, SE.trIndex, SE.trSlice, SE.trMakeSlice, SE.trExtract, SE.trLen, SE.trAppend, SE.trCopy, SE.trFn, SE.trCall, SE.argsS, SE.ev, SE.constS, SE.junk, SE.sv, SE.upd_app, SE.adds, SE.sets, SE.nid, SE.St.app, SE.St.put, SE.free, SE.freeL, SE.allFree, SE.rids, SE.AK.rids, SE.castL, SE.rdl, SE.AK.dec, SE.decs, SE.AK.enc, SE.encs, SE.AK.res, SE.ress, SE.pack1, SE.zcells, SE.zeroOf, SE.partCells, SE.putc, SE.fills, SE.datas, SE.elemOf, SE.elemsOf, SE.notSpent, SE.cellsAt, SE.weak, SE.dcellsAt, SE.slAt, SE.rdPlus, SE.intAt, SE.updElem, SE.kill, SE.noJunk, SE.inK, SE.binI, SE.shf, SE.isShift, SE.eqCells, SE.aggS, SE.intOp, SE.nested, SE.hasRdr, SE.refsC, SE.refsCs, SE.ownsC, SE.refsAr, SE.rdFits, SE.costIf, SE.Con.post, SE.Con.det, SE.Ty.cells, SE.Ty.sz, SE.Ty.zero, SE.Ty.flat, SE.Ty.dec, SE.retOk, SE.loadsS, SE.loadS, SE.decRs, SE.decR, SE.outC, SE.rdC, SE.allDiff, SE.notIn, SE.notFrozen, SE.apartL, SE.rdEnd, SE.firstReg, SE.headC, SE.fitsC, SE.idsC, SE.keepE, SE.keepM, SE.keepB, SE.inL, SE.puts, SE.ownRes, SE.ownEnv, SE.renL, SE.srcId, SE.lookR, SE.envSame, SE.envSets, SE.memSame, SE.memBlks, SE.memOwns, SE.famsOf, SE.allIn, SE.closedE, SE.closedV, SE.closedM, SE.closedR, SE.rdLe, SE.S.refs, SE.S0.refs, SE.CV.refs, SE.refsL, SE.refsT, SE.S.ren, SE.S0.ren, SE.CV.ren, SE.Res.refs, SE.Res.ren, min_i64, max_i64, min_u16, max_u16, min_u8, max_u8, min_u64, max_u64, S.s.injEq, S0.c.injEq, CV.d.injEq, DC.val.injEq, Value.int.injEq, Value.bool.injEq, Value.string.injEq, eta_fact, eta_atom, eta_asn, eta_state, List.mem_cons, List.mem_nil_iff, or_false, false_or, or_true, true_or, Option.map_some, Option.map_none, Option.bind_some, Option.getD_some, Option.getD_none, Nat.reduceEqDiff, Nat.reduceAdd, Nat.reduceMul, Nat.reduceLeDiff, ↓reduceIte, reduceCtorEq, true_and, and_true, and_self, forall_const, implies_true, true_implies, List.getElem?_toArray, List.getElem?_cons_succ, List.getElem?_cons_zero, List.append_nil, List.nil_append, List.cons_append, List.length_cons, List.length_nil, List.take_succ_cons, List.take_zero, List.drop_succ_cons, List.drop_zero, List.set_cons_zero, List.set_cons_succ, List.map_cons, List.map_nil, Nat.add_zero, Nat.zero_add, forall_eq, Prod.forall, Bool.not_true, Bool.not_false, Nat.lt_irrefl, Nat.zero_lt_succ, List.singleton_append, Prod.mk.injEq, Nat.zero_mul, Nat.one_mul, Nat.reducePow, Option.some.injEq, not_false_eq_true, Int.toNat_natCast, Nat.sub_zero, Nat.le_refl, Bool.or_false, Bool.false_or, Bool.or_true, Bool.true_or, Bool.and_true, Bool.true_and, Bool.and_false, Bool.false_and, Bool.or_self, Bool.and_self, List.append_eq, and_false, false_and]
  cases h : decide (0 ≤ t) <;> simp [vcIf, isT, h]
theorem ok_isTerm : FnOk Try.prog E 68 c_isTerm :=
  fn_ok (l := L_isTerm) (perm := fun _ => []) tabOk mix trivial Try.func68 rfl (by kernel_rfl) (by decide) (by kernel_rfl) (anns := fun x _ => fun _ => none) (fun ⟨t, _⟩ k _ _ => vc_isTerm t k) tot_fn
end Go.Proofs.Yteoinddmoepbfaa
