/-
  Contracts of single functions of the program, each shown by the engine: what a call returns for arguments within the contract's bounds.
-/
import Derived.Test.YtejcmcbpfnmlaaaFFnSymTesta
import Derived.Test.YtejcmcbpfnmlaaaEe
import Derived.Test.YtejcmcbpfnmlaaaEf
import Derived.Test.YtejcmcbpfnmlaaaEg
import Derived.Test.YtejcmcbpfnmlaaaFFnSymTestd
import Derived.Test.YtejcmcbpfnmlaaaEd
set_option linter.unusedSimpArgs false
set_option linter.unusedVariables false
set_option linter.unusedSectionVars false

namespace Go.Proofs.Ytejcmcbpfnmlaaa
open Go.SE Go.RowKit
set_option linter.unusedSimpArgs false
set_option linter.unusedVariables false
set_option maxHeartbeats 1000000
set_option maxRecDepth 100000
/-! l5Fits -/
abbrev c_l5Fits : Con := ⟨[.sl .fact, .sl .int], [.bool], fun (l, c, _) => l.length ≤ 1048576 ∧ l.all fV = true ∧ c.length = 9, .inl fun (l, c, _) => (sFit l c, ()), fun _ => 0⟩
abbrev L_l5Fits : List (FuncId × Con) := []
abbrev P_l5Fits : List (FuncId × PT) := []
def an_l5Fits (l : List GFact) (c : List Int) : Nat → St → Option Ann
  | 2, se => some { α := Nat, ok := fun i => i ≤ l.length ∧ sFit (l.take i) c = true, mu := fun i => l.length - i, i0 := fun _ => 0, nx := fun a _ => (fun i => i + 1) a, live := [0, 1], sets := fun i => [(5, sv (.int .i64 i))], mids := [], blks := fun i => [], owns := fun i => [], rd := fun r _ => r, base := 100000 }
  | _, _ => none
def VC_l5Fits (l : List GFact) (c : List Int) (k : Nat) : Prop := True ∧ True ∧ ((0 ≤ l.length ∧ sFit (l.take 0) c = true) ∧ TT ∧ (RL [.s (.c (.d (.arr .fact l))), .s (.c (.d (.arr .int c)))]) ∧ (([.s (.c (.d (.val (.int .i64 (0 : Int)))))] : List S) = [.s (.c (.d (.val (.int .i64 ((0 : Nat) : Int)))))]) ∧ (RM []) ∧ (RM []) ∧ True ∧ TT) ∧ (∀ i1 : Nat, (i1 ≤ l.length ∧ sFit (l.take i1) c = true) → True ∧ True ∧ True ∧ True ∧ (vcIf (decide (((i1 : Nat) : Int) < ((l.length : Nat) : Int))) (True ∧ True ∧ True ∧ (0 ≤ ((i1 : Nat) : Int) ∧ ((i1 : Nat) : Int) < ((l.length : Nat) : Int)) ∧ True ∧ True ∧ (0 ≤ ((l.getD i1 (⟨false, 0, 0⟩ : GFact)).a) ∧ ((l.getD i1 (⟨false, 0, 0⟩ : GFact)).a) < ((c.length : Nat) : Int)) ∧ True ∧ True ∧ True ∧ True ∧ True ∧ (0 ≤ ((i1 : Nat) : Int) ∧ ((i1 : Nat) : Int) < ((l.length : Nat) : Int)) ∧ True ∧ True ∧ (0 ≤ ((l.getD i1 (⟨false, 0, 0⟩ : GFact)).b) ∧ ((l.getD i1 (⟨false, 0, 0⟩ : GFact)).b) < ((c.length : Nat) : Int)) ∧ True ∧ True ∧ True ∧ True ∧ True ∧ (vcIf (decide ((0 : Int) ≤ (c.getD ((l.getD i1 (⟨false, 0, 0⟩ : GFact)).a).toNat (0 : Int)))) (True ∧ True ∧ True ∧ True ∧ (vcIf (decide ((0 : Int) ≤ (c.getD ((l.getD i1 (⟨false, 0, 0⟩ : GFact)).b).toNat (0 : Int)))) (True ∧ True ∧ True ∧ True ∧ True ∧ (0 ≤ ((i1 : Nat) : Int) ∧ ((i1 : Nat) : Int) < ((l.length : Nat) : Int)) ∧ True ∧ True ∧ True ∧ True ∧ (vcIf (((c.getD ((l.getD i1 (⟨false, 0, 0⟩ : GFact)).a).toNat (0 : Int)) == (c.getD ((l.getD i1 (⟨false, 0, 0⟩ : GFact)).b).toNat (0 : Int))) != ((l.getD i1 (⟨false, 0, 0⟩ : GFact)).eq)) (True ∧ (((false, ()) : Bool × Unit) = (sFit l c, ())) ∧ True ∧ True ∧ True ∧ True ∧ TF) (True ∧ (inK .i64 (((i1 : Nat) : Int) + (1 : Int))) ∧ True ∧ ((i1 + 1) ≤ l.length ∧ sFit (l.take (i1 + 1)) c = true) ∧ (l.length - (i1 + 1) < l.length - i1) ∧ TT ∧ (RL [.s (.c (.d (.arr .fact l))), .s (.c (.d (.arr .int c)))]) ∧ (([.s (.c (.d (.val (.int .i64 (((i1 : Nat) : Int) + (1 : Int))))))] : List S) = [.s (.c (.d (.val (.int .i64 (((i1 + 1) : Nat) : Int)))))]) ∧ (RM []) ∧ (RM []) ∧ True ∧ TT))) (True ∧ True ∧ (inK .i64 (((i1 : Nat) : Int) + (1 : Int))) ∧ True ∧ ((i1 + 1) ≤ l.length ∧ sFit (l.take (i1 + 1)) c = true) ∧ (l.length - (i1 + 1) < l.length - i1) ∧ TT ∧ (RL [.s (.c (.d (.arr .fact l))), .s (.c (.d (.arr .int c)))]) ∧ (([.s (.c (.d (.val (.int .i64 (((i1 : Nat) : Int) + (1 : Int))))))] : List S) = [.s (.c (.d (.val (.int .i64 (((i1 + 1) : Nat) : Int)))))]) ∧ (RM []) ∧ (RM []) ∧ True ∧ TT))) (True ∧ True ∧ True ∧ True ∧ (inK .i64 (((i1 : Nat) : Int) + (1 : Int))) ∧ True ∧ ((i1 + 1) ≤ l.length ∧ sFit (l.take (i1 + 1)) c = true) ∧ (l.length - (i1 + 1) < l.length - i1) ∧ TT ∧ (RL [.s (.c (.d (.arr .fact l))), .s (.c (.d (.arr .int c)))]) ∧ (([.s (.c (.d (.val (.int .i64 (((i1 : Nat) : Int) + (1 : Int))))))] : List S) = [.s (.c (.d (.val (.int .i64 (((i1 + 1) : Nat) : Int)))))]) ∧ (RM []) ∧ (RM []) ∧ True ∧ TT))) (True ∧ (((true, ()) : Bool × Unit) = (sFit l c, ())) ∧ True ∧ True ∧ True ∧ True ∧ TF)))
theorem vcn_l5Fits (l : List GFact) (c : List Int) (k : Nat) (hp : l.length ≤ 1048576 ∧ l.all fV = true ∧ c.length = 9) : VC_l5Fits l c k := by
  unfold VC_l5Fits
  simp only [TT, TF, TN, RL, RM, true_and, and_true, eq_self, implies_true, forall_const, List.cons.injEq, S.s.injEq, S0.c.injEq, S0.agg.injEq, CV.d.injEq, CV.own.injEq, CV.ptr.injEq, DC.val.injEq, Value.int.injEq, Value.bool.injEq, Option.some.injEq, Res.blk.injEq, Prod.mk.injEq, inK, min_i64, max_i64, min_u16, max_u16, min_u8, max_u8, min_u64, max_u64, vcIf_true, vcIf_false, List.mem_nil_iff, List.not_mem_nil, not_false_eq_true, Nat.reduceEqDiff, Nat.reduceLeDiff, ne_eq, Bool.and_true, Nat.add_zero, List.append_nil, List.nil_append, List.length_nil, List.length_cons, Nat.zero_add, Nat.reduceAdd, Int.toNat_natCast, Nat.sub_zero, List.drop_zero, List.map_nil, List.take_zero, forall_eq]
  have hV := hp.2.1
  all_goals (try simp only [vcIf_iff, decide_eq_true_eq, decide_eq_false_iff_not, bne_iff_ne, ne_eq, beq_iff_eq, beq_eq_false_iff_ne, bne_eq_false_iff_eq, Bool.not_eq_true', Bool.not_eq_false', Int.ofNat_lt, Int.natCast_inj])
  all_goals (repeat' (first | apply And.intro | intro _))
  all_goals (repeat (cases ‹_ ∧ _›))
  all_goals (first | omega | rfl | assumption | (simp_all; done) | skip)
  all_goals (first
   | (have h1 := fact_idx (l := l) hV (by assumption); omega)
   | (symm; exact sFit_no (by assumption) (by assumption) (by assumption) (by unfold fh cl; rw [beq_eq_false_iff_ne]; assumption))
   | (rw [sFit_step (d := ⟨false, 0, 0⟩) (by assumption)]; unfold fh cl; simp_all; done)
   | (rw [take_full (l := l) (by assumption)] at *; simp_all; done) | skip)
theorem vce_l5Fits (l : List GFact) (c : List Int) (k : Nat) : VC_l5Fits l c k = vcQ tab (lookF L_l5Fits) (lookP P_l5Fits) (fun _ => false) (fun _ => none) (an_l5Fits l c) (fun _ => []) (bodyOf Try.f145) (entry (encs c_l5Fits.aks (l, c, ())) (rdOf false k)) (retOk tab c_l5Fits Try.f145.results.toList (l, c, ()) k) := by kernel_rfl
theorem vc_l5Fits (l : List GFact) (c : List Int) (k : Nat) (hp : l.length ≤ 1048576 ∧ l.all fV = true ∧ c.length = 9) : vcQ tab (lookF L_l5Fits) (lookP P_l5Fits) (fun _ => false) (fun _ => none) (an_l5Fits l c) (fun _ => []) (bodyOf Try.f145) (entry (encs c_l5Fits.aks (l, c, ())) (rdOf false k)) (retOk tab c_l5Fits Try.f145.results.toList (l, c, ()) k) := (vce_l5Fits l c k).mp (vcn_l5Fits l c k hp)
theorem ok_l5Fits : FnOk Try.prog E 145 c_l5Fits :=
  fn_okQ (l := L_l5Fits) (lp := P_l5Fits) (hp := fun _ => false) (gcs := fun _ => none) (perm := fun _ => []) tabOk mix trivial trivial Try.func145 rfl (by kernel_rfl) (by decide) (by kernel_rfl) (anns := fun x _ => an_l5Fits x.1 x.2.1) (fun ⟨l, c, _⟩ k hp _ => vc_l5Fits l c k hp) tot_fn
end Go.Proofs.Ytejcmcbpfnmlaaa

namespace Go.Proofs.Ytejcmcbpfnmlaaa
open Go.SE Go.RowKit
set_option linter.unusedSimpArgs false
set_option linter.unusedVariables false
set_option maxHeartbeats 1000000
set_option maxRecDepth 100000
/-! l5Early -/
abbrev c_l5Early : Con := ⟨[.sl .atom, .sl .int], [.bool], fun (l, c, _) => l.length ≤ 1048576 ∧ l.all atV = true ∧ c.length = 9 ∧ le8 c = true, .inl fun (l, c, _) => (sEarly l c, ()), fun _ => 0⟩
abbrev L_l5Early : List (FuncId × Con) := []
abbrev P_l5Early : List (FuncId × PT) := []
def an_l5Early (l : List GAtom) (c : List Int) : Nat → St → Option Ann
  | 3, se => some { α := Nat, ok := fun i => i ≤ l.length ∧ okS [] (est c (l.take i)) = true, mu := fun i => l.length - i, i0 := fun _ => 0, nx := fun a _ => (fun i => i + 1) a, live := [0, 1], sets := fun i => [(6, sv (.int .i64 i))], mids := [], blks := fun i => [], owns := fun i => [⟨7, .slot 5, .bool, fl9 (fun t => (est c (l.take i)).contains t)⟩], rd := fun r _ => r, base := 100000 }
  | _, _ => none
def VC_l5Early_1 (l : List GAtom) (c : List Int) (k : Nat) (i1 : Nat) : Prop := ((0 ≤ ((l.getD i1 (⟨0, 0, 0⟩ : GAtom)).a) ∧ ((l.getD i1 (⟨0, 0, 0⟩ : GAtom)).a) < ((c.length : Nat) : Int)) ∧ True ∧ True ∧ True ∧ True ∧ (0 ≤ ((i1 : Nat) : Int) ∧ ((i1 : Nat) : Int) < ((l.length : Nat) : Int)) ∧ True ∧ True ∧ True ∧ True ∧ (vcIf (((l.getD i1 (⟨0, 0, 0⟩ : GAtom)).kind) != (1 : Int)) (True ∧ True ∧ (inK .i64 (((i1 : Nat) : Int) + (1 : Int))) ∧ True ∧ ((i1 + 1) ≤ l.length ∧ okS [] (est c (l.take (i1 + 1))) = true) ∧ (l.length - (i1 + 1) < l.length - i1) ∧ TT ∧ (RL [.s (.c (.d (.arr .atom l))), .s (.c (.d (.arr .int c)))]) ∧ (([.s (.c (.d (.val (.int .i64 (((i1 : Nat) : Int) + (1 : Int))))))] : List S) = [.s (.c (.d (.val (.int .i64 (((i1 + 1) : Nat) : Int)))))]) ∧ (RM []) ∧ (RM []) ∧ (((some (fl9 (fun t => (est c (l.take i1)).contains t)) : Option (List Bool)) = some (fl9 (fun t => (est c (l.take (i1 + 1))).contains t))) ∧ True) ∧ TT) (True ∧ True ∧ True ∧ (vcIf (decide ((c.getD ((l.getD i1 (⟨0, 0, 0⟩ : GAtom)).a).toNat (0 : Int)) < (0 : Int))) (True ∧ (inK .i64 (((i1 : Nat) : Int) + (1 : Int))) ∧ True ∧ ((i1 + 1) ≤ l.length ∧ okS [] (est c (l.take (i1 + 1))) = true) ∧ (l.length - (i1 + 1) < l.length - i1) ∧ TT ∧ (RL [.s (.c (.d (.arr .atom l))), .s (.c (.d (.arr .int c)))]) ∧ (([.s (.c (.d (.val (.int .i64 (((i1 : Nat) : Int) + (1 : Int))))))] : List S) = [.s (.c (.d (.val (.int .i64 (((i1 + 1) : Nat) : Int)))))]) ∧ (RM []) ∧ (RM []) ∧ (((some (fl9 (fun t => (est c (l.take i1)).contains t)) : Option (List Bool)) = some (fl9 (fun t => (est c (l.take (i1 + 1))).contains t))) ∧ True) ∧ TT) (True ∧ True ∧ True ∧ (vcIf ((c.getD ((l.getD i1 (⟨0, 0, 0⟩ : GAtom)).a).toNat (0 : Int)) == (0 : Int)) (True ∧ True ∧ (((false, ()) : Bool × Unit) = (sEarly l c, ())) ∧ True ∧ True ∧ True ∧ True ∧ TF) (True ∧ True ∧ (0 ≤ (c.getD ((l.getD i1 (⟨0, 0, 0⟩ : GAtom)).a).toNat (0 : Int)) ∧ (c.getD ((l.getD i1 (⟨0, 0, 0⟩ : GAtom)).a).toNat (0 : Int)) < (((fl9 (fun t => (est c (l.take i1)).contains t)).length : Nat) : Int)) ∧ True ∧ True ∧ (vcIf ((fl9 (fun t => (est c (l.take i1)).contains t)).getD (c.getD ((l.getD i1 (⟨0, 0, 0⟩ : GAtom)).a).toNat (0 : Int)).toNat false) (True ∧ (((false, ()) : Bool × Unit) = (sEarly l c, ())) ∧ True ∧ True ∧ True ∧ True ∧ TF) (True ∧ True ∧ (0 ≤ (c.getD ((l.getD i1 (⟨0, 0, 0⟩ : GAtom)).a).toNat (0 : Int)) ∧ (c.getD ((l.getD i1 (⟨0, 0, 0⟩ : GAtom)).a).toNat (0 : Int)) < (((fl9 (fun t => (est c (l.take i1)).contains t)).length : Nat) : Int)) ∧ (TF ∧ TF ∧ True ∧ ((7 : Nat) ∉ ([] : List Nat))) ∧ True ∧ (inK .i64 (((i1 : Nat) : Int) + (1 : Int))) ∧ True ∧ ((i1 + 1) ≤ l.length ∧ okS [] (est c (l.take (i1 + 1))) = true) ∧ (l.length - (i1 + 1) < l.length - i1) ∧ TT ∧ (RL [.s (.c (.d (.arr .atom l))), .s (.c (.d (.arr .int c)))]) ∧ (([.s (.c (.d (.val (.int .i64 (((i1 : Nat) : Int) + (1 : Int))))))] : List S) = [.s (.c (.d (.val (.int .i64 (((i1 + 1) : Nat) : Int)))))]) ∧ (RM []) ∧ (RM []) ∧ (((some ((fl9 (fun t => (est c (l.take i1)).contains t)).set (c.getD ((l.getD i1 (⟨0, 0, 0⟩ : GAtom)).a).toNat (0 : Int)).toNat true) : Option (List Bool)) = some (fl9 (fun t => (est c (l.take (i1 + 1))).contains t))) ∧ True) ∧ TT)))))))))
def VC_l5Early (l : List GAtom) (c : List Int) (k : Nat) : Prop := True ∧ (TN ∧ (0 ≤ (9 : Int) ∧ (9 : Int) ≤ (9 : Int) ∧ (9 : Int) ≤ 4294967296)) ∧ True ∧ True ∧ ((0 ≤ l.length ∧ okS [] (est c (l.take 0)) = true) ∧ TT ∧ (RL [.s (.c (.d (.arr .atom l))), .s (.c (.d (.arr .int c)))]) ∧ (([.s (.c (.d (.val (.int .i64 (0 : Int)))))] : List S) = [.s (.c (.d (.val (.int .i64 ((0 : Nat) : Int)))))]) ∧ (RM []) ∧ (RM []) ∧ (((some (List.replicate 9 false) : Option (List Bool)) = some (fl9 (fun t => (est c (l.take 0)).contains t))) ∧ True) ∧ TT) ∧ (∀ i1 : Nat, (i1 ≤ l.length ∧ okS [] (est c (l.take i1)) = true) → True ∧ True ∧ True ∧ True ∧ (vcIf (decide (((i1 : Nat) : Int) < ((l.length : Nat) : Int))) (True ∧ True ∧ True ∧ (0 ≤ ((i1 : Nat) : Int) ∧ ((i1 : Nat) : Int) < ((l.length : Nat) : Int)) ∧ True ∧ True ∧ (VC_l5Early_1 l c k i1)) (True ∧ (((true, ()) : Bool × Unit) = (sEarly l c, ())) ∧ True ∧ True ∧ True ∧ True ∧ TF)))
theorem vcn_l5Early (l : List GAtom) (c : List Int) (k : Nat) (hp : l.length ≤ 1048576 ∧ l.all atV = true ∧ c.length = 9 ∧ le8 c = true) : VC_l5Early l c k := by
  unfold VC_l5Early VC_l5Early_1
  simp only [TT, TF, TN, RL, RM, true_and, and_true, eq_self, implies_true, forall_const, List.cons.injEq, S.s.injEq, S0.c.injEq, S0.agg.injEq, CV.d.injEq, CV.own.injEq, CV.ptr.injEq, DC.val.injEq, Value.int.injEq, Value.bool.injEq, Option.some.injEq, Res.blk.injEq, Prod.mk.injEq, inK, min_i64, max_i64, min_u16, max_u16, min_u8, max_u8, min_u64, max_u64, vcIf_true, vcIf_false, List.mem_nil_iff, List.not_mem_nil, not_false_eq_true, Nat.reduceEqDiff, Nat.reduceLeDiff, ne_eq, Bool.and_true, Nat.add_zero, List.append_nil, List.nil_append, List.length_nil, List.length_cons, Nat.zero_add, Nat.reduceAdd, Int.toNat_natCast, Nat.sub_zero, List.drop_zero, List.map_nil, List.take_zero, forall_eq]
  have h8 := le8_get hp.2.2.2
  have hV := hp.2.1
  all_goals (try simp only [vcIf_iff, decide_eq_true_eq, decide_eq_false_iff_not, bne_iff_ne, ne_eq, beq_iff_eq, beq_eq_false_iff_ne, bne_eq_false_iff_eq, Bool.not_eq_true', Bool.not_eq_false', Int.ofNat_lt, Int.natCast_inj])
  all_goals (repeat' (first | apply And.intro | intro _))
  all_goals (repeat (cases ‹_ ∧ _›))
  all_goals (first | omega | rfl | assumption | (simp_all; done) | skip)
  all_goals (first
   | (have h1 := atom_idx (l := l) hV (by assumption); omega)
   | (rw [early_skip (d := ⟨0, 0, 0⟩) (by assumption) (.inl (by assumption))]; done)
   | (rw [early_skip (d := ⟨0, 0, 0⟩) (by assumption) (.inl (by assumption))]; assumption)
   | (rw [early_skip (d := ⟨0, 0, 0⟩) (by assumption) (.inr (by assumption))]; done)
   | (rw [early_skip (d := ⟨0, 0, 0⟩) (by assumption) (.inr (by assumption))]; assumption)
   | exact early_no (d := ⟨0, 0, 0⟩) (by assumption) (by assumption) (by assumption) (by assumption) (.inl (by assumption))
   | exact early_no (d := ⟨0, 0, 0⟩) (by assumption) (by assumption) (by assumption) (by assumption) (.inr (by assumption))
   | exact (early_go (d := ⟨0, 0, 0⟩) (by assumption) (by assumption) (by assumption) (by assumption) (by assumption) (by assumption) (by assumption)).1
   | exact (early_go (d := ⟨0, 0, 0⟩) (by assumption) (by assumption) (by assumption) (by assumption) (by assumption) (by assumption) (by assumption)).2
   | (rw [fl9_len]; exact Int.lt_of_le_of_lt (h8 _) (by decide))
   | (unfold sEarly; rw [take_full (l := l) (by assumption)] at *; simp_all; done) | skip)
theorem vce_l5Early (l : List GAtom) (c : List Int) (k : Nat) : VC_l5Early l c k = vcQ tab (lookF L_l5Early) (lookP P_l5Early) (fun _ => false) (fun _ => none) (an_l5Early l c) (fun _ => []) (bodyOf Try.f146) (entry (encs c_l5Early.aks (l, c, ())) (rdOf false k)) (retOk tab c_l5Early Try.f146.results.toList (l, c, ()) k) := by kernel_rfl
theorem vc_l5Early (l : List GAtom) (c : List Int) (k : Nat) (hp : l.length ≤ 1048576 ∧ l.all atV = true ∧ c.length = 9 ∧ le8 c = true) : vcQ tab (lookF L_l5Early) (lookP P_l5Early) (fun _ => false) (fun _ => none) (an_l5Early l c) (fun _ => []) (bodyOf Try.f146) (entry (encs c_l5Early.aks (l, c, ())) (rdOf false k)) (retOk tab c_l5Early Try.f146.results.toList (l, c, ()) k) := (vce_l5Early l c k).mp (vcn_l5Early l c k hp)
theorem ok_l5Early : FnOk Try.prog E 146 c_l5Early :=
  fn_okQ (l := L_l5Early) (lp := P_l5Early) (hp := fun _ => false) (gcs := fun _ => none) (perm := fun _ => []) tabOk mix trivial trivial Try.func146 rfl (by kernel_rfl) (by decide) (by kernel_rfl) (anns := fun x _ => an_l5Early x.1 x.2.1) (fun ⟨l, c, _⟩ k hp _ => vc_l5Early l c k hp) tot_fn
end Go.Proofs.Ytejcmcbpfnmlaaa

namespace Go.Proofs.Ytejcmcbpfnmlaaa
open Go.SE Go.RowKit
set_option linter.unusedSimpArgs false
set_option linter.unusedVariables false
set_option maxHeartbeats 1000000
set_option maxRecDepth 100000
/-! l5Apart -/
abbrev c_l5Apart : Con := ⟨[.sl .atom], [.bool], fun (l, _) => l.length ≤ 1048576, .inl fun (l, _) => (sApart l, ()), fun _ => 0⟩
abbrev L_l5Apart : List (FuncId × Con) := []
abbrev P_l5Apart : List (FuncId × PT) := []
def an_l5Apart (l : List GAtom) : Nat → St → Option Ann
  | 2, se => some { α := Nat, ok := fun i => i ≤ l.length ∧ sApart (l.take i) = true, mu := fun i => l.length - i, i0 := fun _ => 0, nx := fun a _ => (fun i => i + 1) a, live := [0], sets := fun i => [(3, sv (.int .i64 i))], mids := [], blks := fun i => [], owns := fun i => [], rd := fun r _ => r, base := 100000 }
  | 7, se => some { α := Nat, ok := fun j => (j : Int) ≤ intAt se 3 ∧ ((l.take j).all fun x => !(x.a == (l.getD (intAt se 3).toNat ⟨0, 0, 0⟩).a)) = true, mu := fun j => (intAt se 3).toNat - j, i0 := fun _ => 0, nx := fun a _ => (fun j => j + 1) a, live := [0, 3], sets := fun j => [(4, sv (.int .i64 j))], mids := [], blks := fun j => [], owns := fun j => [], rd := fun r _ => r, base := 200000 }
  | _, _ => none
def VC_l5Apart (l : List GAtom) (k : Nat) : Prop := True ∧ True ∧ ((0 ≤ l.length ∧ sApart (l.take 0) = true) ∧ TT ∧ (RL [.s (.c (.d (.arr .atom l)))]) ∧ (([.s (.c (.d (.val (.int .i64 (0 : Int)))))] : List S) = [.s (.c (.d (.val (.int .i64 ((0 : Nat) : Int)))))]) ∧ (RM []) ∧ (RM []) ∧ True ∧ TT) ∧ (∀ i1 : Nat, (i1 ≤ l.length ∧ sApart (l.take i1) = true) → True ∧ True ∧ True ∧ True ∧ (vcIf (decide (((i1 : Nat) : Int) < ((l.length : Nat) : Int))) (True ∧ True ∧ (0 ≤ ((i1 : Nat) : Int) ∧ ((i1 : Nat) : Int) < ((l.length : Nat) : Int)) ∧ True ∧ True ∧ True ∧ (vcIf (((l.getD i1 (⟨0, 0, 0⟩ : GAtom)).a) == (0 : Int)) (True ∧ (((false, ()) : Bool × Unit) = (sApart l, ())) ∧ True ∧ True ∧ True ∧ True ∧ TF) (True ∧ (((0 : Int) ≤ ((i1 : Nat) : Int) ∧ ((l.take 0).all fun x => !(x.a == (l.getD (((i1 : Nat) : Int)).toNat ⟨0, 0, 0⟩).a)) = true) ∧ TT ∧ (RL [.s (.c (.d (.arr .atom l))), .s (.c (.d (.val (.int .i64 ((i1 : Nat) : Int)))))]) ∧ (([.s (.c (.d (.val (.int .i64 (0 : Int)))))] : List S) = [.s (.c (.d (.val (.int .i64 ((0 : Nat) : Int)))))]) ∧ (RM []) ∧ (RM []) ∧ True ∧ TT) ∧ (∀ j2 : Nat, ((j2 : Int) ≤ ((i1 : Nat) : Int) ∧ ((l.take j2).all fun x => !(x.a == (l.getD (((i1 : Nat) : Int)).toNat ⟨0, 0, 0⟩).a)) = true) → True ∧ True ∧ True ∧ (vcIf (decide (((j2 : Nat) : Int) < ((i1 : Nat) : Int))) (True ∧ True ∧ (0 ≤ ((j2 : Nat) : Int) ∧ ((j2 : Nat) : Int) < ((l.length : Nat) : Int)) ∧ True ∧ True ∧ True ∧ True ∧ (0 ≤ ((i1 : Nat) : Int) ∧ ((i1 : Nat) : Int) < ((l.length : Nat) : Int)) ∧ True ∧ True ∧ True ∧ (vcIf (((l.getD j2 (⟨0, 0, 0⟩ : GAtom)).a) == ((l.getD i1 (⟨0, 0, 0⟩ : GAtom)).a)) (True ∧ (((false, ()) : Bool × Unit) = (sApart l, ())) ∧ True ∧ True ∧ True ∧ True ∧ TF) (True ∧ (inK .i64 (((j2 : Nat) : Int) + (1 : Int))) ∧ True ∧ (((j2 + 1) : Int) ≤ ((i1 : Nat) : Int) ∧ ((l.take (j2 + 1)).all fun x => !(x.a == (l.getD (((i1 : Nat) : Int)).toNat ⟨0, 0, 0⟩).a)) = true) ∧ ((((i1 : Nat) : Int)).toNat - (j2 + 1) < (((i1 : Nat) : Int)).toNat - j2) ∧ TT ∧ (RL [.s (.c (.d (.arr .atom l))), .s (.c (.d (.val (.int .i64 ((i1 : Nat) : Int)))))]) ∧ (([.s (.c (.d (.val (.int .i64 (((j2 : Nat) : Int) + (1 : Int))))))] : List S) = [.s (.c (.d (.val (.int .i64 (((j2 + 1) : Nat) : Int)))))]) ∧ (RM []) ∧ (RM []) ∧ True ∧ TT))) (True ∧ (inK .i64 (((i1 : Nat) : Int) + (1 : Int))) ∧ True ∧ ((i1 + 1) ≤ l.length ∧ sApart (l.take (i1 + 1)) = true) ∧ (l.length - (i1 + 1) < l.length - i1) ∧ TT ∧ (RL [.s (.c (.d (.arr .atom l)))]) ∧ (([.s (.c (.d (.val (.int .i64 (((i1 : Nat) : Int) + (1 : Int))))))] : List S) = [.s (.c (.d (.val (.int .i64 (((i1 + 1) : Nat) : Int)))))]) ∧ (RM []) ∧ (RM []) ∧ True ∧ TT)))))) (True ∧ (((true, ()) : Bool × Unit) = (sApart l, ())) ∧ True ∧ True ∧ True ∧ True ∧ TF)))
theorem vcn_l5Apart (l : List GAtom) (k : Nat) (hp : l.length ≤ 1048576) : VC_l5Apart l k := by
  unfold VC_l5Apart
  simp only [TT, TF, TN, RL, RM, true_and, and_true, eq_self, implies_true, forall_const, List.cons.injEq, S.s.injEq, S0.c.injEq, S0.agg.injEq, CV.d.injEq, CV.own.injEq, CV.ptr.injEq, DC.val.injEq, Value.int.injEq, Value.bool.injEq, Option.some.injEq, Res.blk.injEq, Prod.mk.injEq, inK, min_i64, max_i64, min_u16, max_u16, min_u8, max_u8, min_u64, max_u64, vcIf_true, vcIf_false, List.mem_nil_iff, List.not_mem_nil, not_false_eq_true, Nat.reduceEqDiff, Nat.reduceLeDiff, ne_eq, Bool.and_true, Nat.add_zero, List.append_nil, List.nil_append, List.length_nil, List.length_cons, Nat.zero_add, Nat.reduceAdd, Int.toNat_natCast, Nat.sub_zero, List.drop_zero, List.map_nil, List.take_zero, forall_eq]
  all_goals (try simp only [vcIf_iff, decide_eq_true_eq, decide_eq_false_iff_not, bne_iff_ne, ne_eq, beq_iff_eq, beq_eq_false_iff_ne, bne_eq_false_iff_eq, Bool.not_eq_true', Bool.not_eq_false', Int.ofNat_lt, Int.natCast_inj])
  all_goals (repeat' (first | apply And.intro | intro _))
  all_goals (repeat (cases ‹_ ∧ _›))
  all_goals (first | omega | rfl | assumption | (simp_all; done) | skip)
  all_goals (first
   | (symm; exact sApart_zero (d := ⟨0, 0, 0⟩) (by assumption) (by assumption))
   | (symm; exact sApart_two (d := ⟨0, 0, 0⟩) (h := by assumption) (hj := by assumption) (h0 := by assumption))
   | exact apart_in (by omega) (by assumption) (by assumption)
   | exact apart_fin (by assumption) (by assumption) (by assumption) (by assumption) (by assumption) (by assumption)
   | (rw [take_full (l := l) (by assumption)] at *; simp_all; done) | skip)
theorem vce_l5Apart (l : List GAtom) (k : Nat) : VC_l5Apart l k = vcQ tab (lookF L_l5Apart) (lookP P_l5Apart) (fun _ => false) (fun _ => none) (an_l5Apart l) (fun _ => []) (bodyOf Try.f147) (entry (encs c_l5Apart.aks (l, ())) (rdOf false k)) (retOk tab c_l5Apart Try.f147.results.toList (l, ()) k) := by kernel_rfl
theorem vc_l5Apart (l : List GAtom) (k : Nat) (hp : l.length ≤ 1048576) : vcQ tab (lookF L_l5Apart) (lookP P_l5Apart) (fun _ => false) (fun _ => none) (an_l5Apart l) (fun _ => []) (bodyOf Try.f147) (entry (encs c_l5Apart.aks (l, ())) (rdOf false k)) (retOk tab c_l5Apart Try.f147.results.toList (l, ()) k) := (vce_l5Apart l k).mp (vcn_l5Apart l k hp)
theorem ok_l5Apart : FnOk Try.prog E 147 c_l5Apart :=
  fn_okQ (l := L_l5Apart) (lp := P_l5Apart) (hp := fun _ => false) (gcs := fun _ => none) (perm := fun _ => []) tabOk mix trivial trivial Try.func147 rfl (by kernel_rfl) (by decide) (by kernel_rfl) (anns := fun x _ => an_l5Apart x.1) (fun ⟨l, _⟩ k hp _ => vc_l5Apart l k hp) tot_fn
end Go.Proofs.Ytejcmcbpfnmlaaa

namespace Go.Proofs.Ytejcmcbpfnmlaaa
open Go.SE Go.RowKit
set_option linter.unusedSimpArgs false
set_option linter.unusedVariables false
set_option maxHeartbeats 1000000
set_option maxRecDepth 100000
/-! l5First -/
abbrev c_l5First : Con := ⟨[.asn, .sl .bool, .sl .int, .int], [.sl .int, .bool], fun (a, tm, c, t, _) => vA a = true ∧ tm.length = 9 ∧ c.length = 9 ∧ le8 c = true ∧ 1 ≤ t ∧ t ≤ 9, .inl fun (a, tm, c, t, _) => ((sQ (sFin a) a tm c t).headD [], !(sQ (sFin a) a tm c t).isEmpty, ()), fun _ => 0⟩
abbrev mu_l5First : Args c_l5First.aks → Nat := fun (a, tm, c, t, _) => (9 - t).toNat
abbrev L_l5First (m : Nat) : List (FuncId × Con) := [(98, c_l5First.lim mu_l5First m), (106, c_l5Filled), (145, c_l5Fits), (146, c_l5Early), (147, c_l5Apart)]
abbrev P_l5First : List (FuncId × PT) := []
def an_l5First (a : GAsn) (tm : List Bool) (c : List Int) (t : Int) : Nat → St → Option Ann
  | 10, se => some { α := Nat, ok := fun i => (i : Int) ≤ t + 1 ∧ ∀ j, j < i → brE (sFin a) a tm c t j = [], mu := fun i => (t + 1).toNat - i, i0 := fun _ => 0, nx := fun a _ => (fun i => i + 1) a, live := [1, 2, 3, 4], sets := fun i => [(10, sv (.int .i64 i))], mids := [79], blks := fun i => [], owns := fun i => [], rd := fun r _ => r, base := 100000 }
  | _, _ => none
def VC_l5First_1 (a : GAsn) (tm : List Bool) (c : List Int) (t : Int) (m : Nat) (k : Nat) (i1 : Nat) : Prop := (True ∧ (vcIf (decide (((i1 : Nat) : Int) < t)) (True ∧ True ∧ (0 ≤ ((i1 : Nat) : Int) ∧ ((i1 : Nat) : Int) < ((c.length : Nat) : Int)) ∧ True ∧ True ∧ True ∧ True ∧ (vcIf ((c.getD i1 (0 : Int)) != ((i1 : Nat) : Int)) (True ∧ (inK .i64 (((i1 : Nat) : Int) + (1 : Int))) ∧ True ∧ (((i1 + 1) : Int) ≤ t + 1 ∧ ∀ j, j < (i1 + 1) → brE (sFin a) a tm c t j = []) ∧ ((t + 1).toNat - (i1 + 1) < (t + 1).toNat - i1) ∧ TT ∧ (RL [.s (.c (.d (.arr .bool tm))), .s (.c (.d (.arr .int c))), .s (.c (.d (.val (.int .i64 t)))), .s (.c (.ptr 79 0))]) ∧ (([.s (.c (.d (.val (.int .i64 (((i1 : Nat) : Int) + (1 : Int))))))] : List S) = [.s (.c (.d (.val (.int .i64 (((i1 + 1) : Nat) : Int)))))]) ∧ (RM [some (.blk [.d (.arr .fact a.facts), .d (.arr .atom a.atoms)])]) ∧ (RM []) ∧ True ∧ TT) ((TN ∧ True) ∧ True ∧ (TN ∧ TF ∧ TF ∧ (([] : List Int).length + c.length ≤ 4294967296)) ∧ True ∧ True ∧ True ∧ True ∧ (0 ≤ t ∧ t < (((([] : List Int) ++ c).length : Nat) : Int)) ∧ (TF ∧ TF ∧ True ∧ ((101104 : Nat) ∉ ([] : List Nat))) ∧ True ∧ True ∧ True ∧ True ∧ (inK .i64 (t + (1 : Int))) ∧ (((vA a = true ∧ tm.length = 9 ∧ ((([] : List Int) ++ c).set t.toNat ((i1 : Nat) : Int)).length = 9 ∧ le8 ((([] : List Int) ++ c).set t.toNat ((i1 : Nat) : Int)) = true ∧ 1 ≤ (t + (1 : Int)) ∧ (t + (1 : Int)) ≤ 9) ∧ (9 - (t + (1 : Int))).toNat < m) ∧ True ∧ TN ∧ True) ∧ True ∧ True ∧ True ∧ True ∧ True ∧ True ∧ (vcIf (!(sQ (sFin a) a tm ((([] : List Int) ++ c).set t.toNat ((i1 : Nat) : Int)) (t + (1 : Int))).isEmpty) (True ∧ True ∧ True ∧ (((((sQ (sFin a) a tm ((([] : List Int) ++ c).set t.toNat ((i1 : Nat) : Int)) (t + (1 : Int))).headD []), true, ()) : (List Int) × Bool × Unit) = ((sQ (sFin a) a tm c t).headD [], !(sQ (sFin a) a tm c t).isEmpty, ())) ∧ (True ∧ True) ∧ ((TF ∧ TF) ∧ True) ∧ True ∧ (True ∧ True) ∧ TF) (True ∧ (inK .i64 (((i1 : Nat) : Int) + (1 : Int))) ∧ True ∧ (((i1 + 1) : Int) ≤ t + 1 ∧ ∀ j, j < (i1 + 1) → brE (sFin a) a tm c t j = []) ∧ ((t + 1).toNat - (i1 + 1) < (t + 1).toNat - i1) ∧ TT ∧ (RL [.s (.c (.d (.arr .bool tm))), .s (.c (.d (.arr .int c))), .s (.c (.d (.val (.int .i64 t)))), .s (.c (.ptr 79 0))]) ∧ (([.s (.c (.d (.val (.int .i64 (((i1 : Nat) : Int) + (1 : Int))))))] : List S) = [.s (.c (.d (.val (.int .i64 (((i1 + 1) : Nat) : Int)))))]) ∧ (RM [some (.blk [.d (.arr .fact a.facts), .d (.arr .atom a.atoms)])]) ∧ (RM []) ∧ True ∧ TT))))) (True ∧ (TN ∧ True) ∧ True ∧ (TN ∧ TF ∧ TF ∧ (([] : List Int).length + c.length ≤ 4294967296)) ∧ True ∧ True ∧ True ∧ True ∧ (0 ≤ t ∧ t < (((([] : List Int) ++ c).length : Nat) : Int)) ∧ (TF ∧ TF ∧ True ∧ ((101104 : Nat) ∉ ([] : List Nat))) ∧ True ∧ True ∧ True ∧ True ∧ (inK .i64 (t + (1 : Int))) ∧ (((vA a = true ∧ tm.length = 9 ∧ ((([] : List Int) ++ c).set t.toNat ((i1 : Nat) : Int)).length = 9 ∧ le8 ((([] : List Int) ++ c).set t.toNat ((i1 : Nat) : Int)) = true ∧ 1 ≤ (t + (1 : Int)) ∧ (t + (1 : Int)) ≤ 9) ∧ (9 - (t + (1 : Int))).toNat < m) ∧ True ∧ TN ∧ True) ∧ True ∧ True ∧ True ∧ True ∧ True ∧ True ∧ (vcIf (!(sQ (sFin a) a tm ((([] : List Int) ++ c).set t.toNat ((i1 : Nat) : Int)) (t + (1 : Int))).isEmpty) (True ∧ True ∧ True ∧ (((((sQ (sFin a) a tm ((([] : List Int) ++ c).set t.toNat ((i1 : Nat) : Int)) (t + (1 : Int))).headD []), true, ()) : (List Int) × Bool × Unit) = ((sQ (sFin a) a tm c t).headD [], !(sQ (sFin a) a tm c t).isEmpty, ())) ∧ (True ∧ True) ∧ ((TF ∧ TF) ∧ True) ∧ True ∧ (True ∧ True) ∧ TF) (True ∧ (inK .i64 (((i1 : Nat) : Int) + (1 : Int))) ∧ True ∧ (((i1 + 1) : Int) ≤ t + 1 ∧ ∀ j, j < (i1 + 1) → brE (sFin a) a tm c t j = []) ∧ ((t + 1).toNat - (i1 + 1) < (t + 1).toNat - i1) ∧ TT ∧ (RL [.s (.c (.d (.arr .bool tm))), .s (.c (.d (.arr .int c))), .s (.c (.d (.val (.int .i64 t)))), .s (.c (.ptr 79 0))]) ∧ (([.s (.c (.d (.val (.int .i64 (((i1 : Nat) : Int) + (1 : Int))))))] : List S) = [.s (.c (.d (.val (.int .i64 (((i1 + 1) : Nat) : Int)))))]) ∧ (RM [some (.blk [.d (.arr .fact a.facts), .d (.arr .atom a.atoms)])]) ∧ (RM []) ∧ True ∧ TT)))))
def VC_l5First_2 (a : GAsn) (tm : List Bool) (c : List Int) (t : Int) (m : Nat) (k : Nat) : Prop := (True ∧ ((a.facts.length ≤ 1048576 ∧ a.facts.all fV = true ∧ c.length = 9) ∧ True ∧ True) ∧ True ∧ True ∧ (vcIf (!(sFit a.facts c)) (True ∧ (TN ∧ True) ∧ True ∧ True ∧ (((([] : List Int), false, ()) : (List Int) × Bool × Unit) = ((sQ (sFin a) a tm c t).headD [], !(sQ (sFin a) a tm c t).isEmpty, ())) ∧ (True ∧ True) ∧ ((TF ∧ TF) ∧ True) ∧ True ∧ (True ∧ True) ∧ TF) (True ∧ True ∧ True ∧ ((a.atoms.length ≤ 1048576 ∧ a.atoms.all atV = true ∧ c.length = 9 ∧ le8 c = true) ∧ True ∧ True) ∧ True ∧ True ∧ (vcIf (!(sEarly a.atoms c)) ((TN ∧ True) ∧ True ∧ True ∧ (((([] : List Int), false, ()) : (List Int) × Bool × Unit) = ((sQ (sFin a) a tm c t).headD [], !(sQ (sFin a) a tm c t).isEmpty, ())) ∧ (True ∧ True) ∧ ((TF ∧ TF) ∧ True) ∧ True ∧ (True ∧ True) ∧ TF) (True ∧ True ∧ (vcIf (decide ((8 : Int) < t)) (True ∧ True ∧ True ∧ ((a.atoms.length ≤ 1048576 ∧ a.atoms.all atV = true ∧ c.length = 9) ∧ True ∧ TN ∧ True) ∧ (((fL c a.atoms).length ≤ 1048576) ∧ True ∧ True) ∧ (vcIf (sApart (fL c a.atoms)) ((TN ∧ True) ∧ True ∧ (TN ∧ TF ∧ TF ∧ (([] : List Int).length + c.length ≤ 4294967296)) ∧ True ∧ True ∧ (((([] : List Int) ++ c, true, ()) : (List Int) × Bool × Unit) = ((sQ (sFin a) a tm c t).headD [], !(sQ (sFin a) a tm c t).isEmpty, ())) ∧ (True ∧ True) ∧ ((TF ∧ TF) ∧ True) ∧ True ∧ (True ∧ True) ∧ TF) ((TN ∧ True) ∧ True ∧ True ∧ (((([] : List Int), false, ()) : (List Int) × Bool × Unit) = ((sQ (sFin a) a tm c t).headD [], !(sQ (sFin a) a tm c t).isEmpty, ())) ∧ (True ∧ True) ∧ ((TF ∧ TF) ∧ True) ∧ True ∧ (True ∧ True) ∧ TF))) (True ∧ True ∧ (0 ≤ t ∧ t < ((tm.length : Nat) : Int)) ∧ True ∧ True ∧ (vcIf (!(tm.getD t.toNat false)) (True ∧ True ∧ True ∧ True ∧ (inK .i64 (t + (1 : Int))) ∧ (((vA a = true ∧ tm.length = 9 ∧ c.length = 9 ∧ le8 c = true ∧ 1 ≤ (t + (1 : Int)) ∧ (t + (1 : Int)) ≤ 9) ∧ (9 - (t + (1 : Int))).toNat < m) ∧ True ∧ TN ∧ True) ∧ True ∧ True ∧ True ∧ True ∧ (((((sQ (sFin a) a tm c (t + (1 : Int))).headD []), (!(sQ (sFin a) a tm c (t + (1 : Int))).isEmpty), ()) : (List Int) × Bool × Unit) = ((sQ (sFin a) a tm c t).headD [], !(sQ (sFin a) a tm c t).isEmpty, ())) ∧ (True ∧ True) ∧ ((TF ∧ TF) ∧ True) ∧ True ∧ (True ∧ True) ∧ TF) (True ∧ (((0 : Int) ≤ t + 1 ∧ ∀ j, j < 0 → brE (sFin a) a tm c t j = []) ∧ TT ∧ (RL [.s (.c (.d (.arr .bool tm))), .s (.c (.d (.arr .int c))), .s (.c (.d (.val (.int .i64 t)))), .s (.c (.ptr 79 0))]) ∧ (([.s (.c (.d (.val (.int .i64 (0 : Int)))))] : List S) = [.s (.c (.d (.val (.int .i64 ((0 : Nat) : Int)))))]) ∧ (RM [some (.blk [.d (.arr .fact a.facts), .d (.arr .atom a.atoms)])]) ∧ (RM []) ∧ True ∧ TT) ∧ (∀ i1 : Nat, ((i1 : Int) ≤ t + 1 ∧ ∀ j, j < i1 → brE (sFin a) a tm c t j = []) → True ∧ True ∧ True ∧ (vcIf (decide (((i1 : Nat) : Int) ≤ t)) (True ∧ True ∧ True ∧ (VC_l5First_1 a tm c t m k i1)) ((TN ∧ True) ∧ True ∧ True ∧ (((([] : List Int), false, ()) : (List Int) × Bool × Unit) = ((sQ (sFin a) a tm c t).headD [], !(sQ (sFin a) a tm c t).isEmpty, ())) ∧ (True ∧ True) ∧ ((TF ∧ TF) ∧ True) ∧ True ∧ (True ∧ True) ∧ TF))))))))))))
def VC_l5First (a : GAsn) (tm : List Bool) (c : List Int) (t : Int) (m : Nat) (k : Nat) : Prop := TN ∧ TN ∧ True ∧ True ∧ True ∧ (VC_l5First_2 a tm c t m k)
theorem vcn_l5First (a : GAsn) (tm : List Bool) (c : List Int) (t : Int) (m : Nat) (k : Nat) (hp : (vA a = true ∧ tm.length = 9 ∧ c.length = 9 ∧ le8 c = true ∧ 1 ≤ t ∧ t ≤ 9) ∧ (9 - t).toNat < m + 1) : VC_l5First a tm c t m k := by
  unfold VC_l5First VC_l5First_2 VC_l5First_1
  simp only [TT, TF, TN, RL, RM, true_and, and_true, eq_self, implies_true, forall_const, List.cons.injEq, S.s.injEq, S0.c.injEq, S0.agg.injEq, CV.d.injEq, CV.own.injEq, CV.ptr.injEq, DC.val.injEq, Value.int.injEq, Value.bool.injEq, Option.some.injEq, Res.blk.injEq, Prod.mk.injEq, inK, min_i64, max_i64, min_u16, max_u16, min_u8, max_u8, min_u64, max_u64, vcIf_true, vcIf_false, List.mem_nil_iff, List.not_mem_nil, not_false_eq_true, Nat.reduceEqDiff, Nat.reduceLeDiff, ne_eq, Bool.and_true, Nat.add_zero, List.append_nil, List.nil_append, List.length_nil, List.length_cons, Nat.zero_add, Nat.reduceAdd, Int.toNat_natCast, Nat.sub_zero, List.drop_zero, List.map_nil, List.take_zero, forall_eq]
  have hV := vA_iff.1 hp.1.1
  have hA : (fL c a.atoms).length ≤ 1048576 := Nat.le_trans (fL_len _ _) (Nat.le_trans hV.2.2.2 (by decide))
  all_goals (try simp only [vcIf_iff, decide_eq_true_eq, decide_eq_false_iff_not, bne_iff_ne, ne_eq, beq_iff_eq, beq_eq_false_iff_ne, bne_eq_false_iff_eq, Bool.not_eq_true', Bool.not_eq_false', Int.ofNat_lt, Int.natCast_inj])
  all_goals (repeat' (first | apply And.intro | intro _))
  all_goals (repeat (cases ‹_ ∧ _›))
  all_goals (first | omega | rfl | assumption | (simp_all; done) | skip)
  all_goals (first
   | exact hV.1 | exact hV.2.1 | exact Nat.le_trans hV.2.2.1 (by decide) | exact Nat.le_trans hV.2.2.2 (by decide) | exact Nat.le_trans (fL_len _ _) (Nat.le_trans hV.2.2.2 (by decide))
   | (rw [fits_no1 (by assumption)]; rfl) | (rw [fits_no2 (by assumption)]; rfl)
   | (rw [last_yes (by assumption) (by assumption) (by assumption) (by assumption)]; rfl) | (rw [last_no (by assumption) (by assumption) (by assumption) (by assumption)]; rfl)
   | (rw [sQ_skip (t := t) (by assumption) (by omega) (fits_yes (by assumption) (by assumption)) (by assumption)]; done)
   | exact brE_skip (by assumption) (by assumption) (by assumption) _ (by assumption)
   | exact brE_none (by assumption) (by assumption) _ (by assumption)
   | exact le8_set (by assumption) (by omega)
   | exact (sQ_hit (by assumption) (by omega) (fits_yes (by assumption) (by assumption)) (by assumption) (by assumption) (by assumption) (.inr (by assumption)) (by assumption)).1.symm
   | exact (sQ_hit (by assumption) (by omega) (fits_yes (by assumption) (by assumption)) (by assumption) (by assumption) (by assumption) (.inl (by omega)) (by assumption)).1.symm
   | (rw [(sQ_hit (by assumption) (by omega) (fits_yes (by assumption) (by assumption)) (by assumption) (by assumption) (by assumption) (.inr (by assumption)) (by assumption)).2]; rfl)
   | (rw [(sQ_hit (by assumption) (by omega) (fits_yes (by assumption) (by assumption)) (by assumption) (by assumption) (by assumption) (.inl (by omega)) (by assumption)).2]; rfl)
   | (rw [sQ_none (by assumption) (by omega) (fits_yes (by assumption) (by assumption)) (by assumption) (by assumption) (by assumption)]; rfl)
   | skip)
theorem vce_l5First (a : GAsn) (tm : List Bool) (c : List Int) (t : Int) (m : Nat) (k : Nat) : VC_l5First a tm c t m k = vcQ tab (lookF (L_l5First m)) (lookP P_l5First) (fun _ => false) (fun _ => none) (an_l5First a tm c t) (fun _ => []) (bodyOf Try.f98) (entry (encs c_l5First.aks (a, tm, c, t, ())) (rdOf false k)) (retOk tab (c_l5First.lim mu_l5First (m + 1)) Try.f98.results.toList (a, tm, c, t, ()) k) := by kernel_rfl
theorem ok_l5First : FnOk Try.prog E 98 c_l5First :=
  fn_rec (mu := mu_l5First) (fun m ih => fn_okQ (con := c_l5First.lim mu_l5First (m + 1)) (fn := Try.f98) (l := L_l5First m) (lp := P_l5First) (hp := fun _ => false) (gcs := fun _ => none) (perm := fun _ => []) tabOk mix ⟨ih, ok_l5Filled, ok_l5Fits, ok_l5Early, ok_l5Apart, trivial⟩ trivial Try.func98 rfl (by kernel_rfl) (show c_l5First.aks.length ≤ Try.f98.ntmps by decide) (by kernel_rfl) (anns := fun x _ => an_l5First x.1 x.2.1 x.2.2.1 x.2.2.2.1) (fun ⟨a, tm, c, t, _⟩ k hp _ => (vce_l5First a tm c t m k).mp (vcn_l5First a tm c t m k hp)) tot_fn) ⟨_, _, Try.func98, by kernel_rfl, rfl⟩ tot_fn
end Go.Proofs.Ytejcmcbpfnmlaaa

namespace Go.Proofs.Ytejcmcbpfnmlaaa
open Go.SE Go.RowKit
set_option linter.unusedSimpArgs false
set_option linter.unusedVariables false
set_option maxHeartbeats 1000000
set_option maxRecDepth 100000
/-! l5Open -/
abbrev c_l5Open : Con := ⟨[], [.sl .int], fun _ => True, .inl fun _ => (opens, ()), fun _ => 0⟩
abbrev L_l5Open : List (FuncId × Con) := []
abbrev P_l5Open : List (FuncId × PT) := []
def an_l5Open  : Nat → St → Option Ann
  | 2, se => some { α := Nat, ok := fun i => i ≤ 8, mu := fun i => 8 - i, i0 := fun _ => 0, nx := fun a _ => (fun i => i + 1) a, live := [0], sets := fun i => [], mids := [0], blks := fun i => [], owns := fun i => [⟨7, .slot 1, .int, 0 :: List.replicate i (-1)⟩], rd := fun r _ => r, base := 100000 }
  | _, _ => none
def VC_l5Open (k : Nat) : Prop := TN ∧ (TN ∧ True) ∧ True ∧ ((0 ≤ 8) ∧ TT ∧ (RL [.s (.c (.own 0))]) ∧ (RL []) ∧ (RM [some (.sl 0 .int ([] : List Int))]) ∧ (RM []) ∧ (((some ([(0 : Int)] : List Int) : Option (List Int)) = some (0 :: List.replicate 0 (-1))) ∧ True) ∧ TT) ∧ (∀ i1 : Nat, (i1 ≤ 8) → True ∧ True ∧ True ∧ (vcIf (decide ((((0 :: List.replicate i1 (-1)).length : Nat) : Int) ≤ (8 : Int))) (True ∧ (TN ∧ True) ∧ (TN ∧ TF ∧ TF ∧ ((0 :: List.replicate i1 (-1)).length + ([(-1 : Int)] : List Int).length ≤ 4294967296)) ∧ True ∧ ((i1 + 1) ≤ 8) ∧ (8 - (i1 + 1) < 8 - i1) ∧ TT ∧ (RL [.s (.c (.own 0))]) ∧ (RL []) ∧ (RM [some (.sl 0 .int ([] : List Int))]) ∧ (RM []) ∧ (((some ((0 :: List.replicate i1 (-1)) ++ ([(-1 : Int)] : List Int)) : Option (List Int)) = some (0 :: List.replicate (i1 + 1) (-1))) ∧ True) ∧ TT) (True ∧ True ∧ (((0 :: List.replicate i1 (-1), ()) : (List Int) × Unit) = (opens, ())) ∧ (True ∧ True) ∧ ((TF ∧ TF) ∧ True) ∧ True ∧ (True ∧ True) ∧ TF)))
theorem vcn_l5Open  (k : Nat) : VC_l5Open  k := by
  unfold VC_l5Open
  simp only [TT, TF, TN, RL, RM, true_and, and_true, eq_self, implies_true, forall_const, List.cons.injEq, S.s.injEq, S0.c.injEq, S0.agg.injEq, CV.d.injEq, CV.own.injEq, CV.ptr.injEq, DC.val.injEq, Value.int.injEq, Value.bool.injEq, Option.some.injEq, Res.blk.injEq, Prod.mk.injEq, inK, min_i64, max_i64, min_u16, max_u16, min_u8, max_u8, min_u64, max_u64, vcIf_true, vcIf_false, List.mem_nil_iff, List.not_mem_nil, not_false_eq_true, Nat.reduceEqDiff, Nat.reduceLeDiff, ne_eq, Bool.and_true, Nat.add_zero, List.append_nil, List.nil_append, List.length_nil, List.length_cons, Nat.zero_add, Nat.reduceAdd, Int.toNat_natCast, Nat.sub_zero, List.drop_zero, List.map_nil, List.take_zero, forall_eq]
  all_goals (try simp only [vcIf_iff, decide_eq_true_eq, decide_eq_false_iff_not, bne_iff_ne, ne_eq, beq_iff_eq, beq_eq_false_iff_ne, bne_eq_false_iff_eq, Bool.not_eq_true', Bool.not_eq_false', Int.ofNat_lt, Int.natCast_inj])
  all_goals (repeat' (first | apply And.intro | intro _))
  all_goals (repeat (cases ‹_ ∧ _›))
  all_goals (first | omega | rfl | assumption | (simp_all; done) | skip)
  all_goals (first
   | exact open_lt (by assumption) | (have h1 := open_lt (by assumption); omega) | (rw [List.replicate_succ']; rfl) | exact open_end (by assumption) (by assumption) | skip)
theorem vce_l5Open  (k : Nat) : VC_l5Open  k = vcQ tab (lookF L_l5Open) (lookP P_l5Open) (fun _ => false) (fun _ => none) (an_l5Open ) (fun _ => []) (bodyOf Try.f99) (entry (encs c_l5Open.aks ()) (rdOf false k)) (retOk tab c_l5Open Try.f99.results.toList () k) := by kernel_rfl
theorem vc_l5Open  (k : Nat) : vcQ tab (lookF L_l5Open) (lookP P_l5Open) (fun _ => false) (fun _ => none) (an_l5Open ) (fun _ => []) (bodyOf Try.f99) (entry (encs c_l5Open.aks ()) (rdOf false k)) (retOk tab c_l5Open Try.f99.results.toList () k) := (vce_l5Open  k).mp (vcn_l5Open  k)
theorem ok_l5Open : FnOk Try.prog E 99 c_l5Open :=
  fn_okQ (l := L_l5Open) (lp := P_l5Open) (hp := fun _ => false) (gcs := fun _ => none) (perm := fun _ => []) tabOk mix trivial trivial Try.func99 rfl (by kernel_rfl) (by decide) (by kernel_rfl) (anns := fun x _ => an_l5Open ) (fun _ k _ _ => vc_l5Open  k) tot_fn
end Go.Proofs.Ytejcmcbpfnmlaaa

namespace Go.Proofs.Ytejcmcbpfnmlaaa
open Go.SE Go.RowKit
set_option linter.unusedSimpArgs false
set_option linter.unusedVariables false
set_option maxHeartbeats 1000000
set_option maxRecDepth 100000
/-! sConsistent -/
abbrev c_sConsistent : Con := ⟨[.asn], [.bool], fun (a, _) => a.facts.length ≤ 281474976710656 ∧ a.atoms.length ≤ 281474976710656, .inl fun (a, _) => (asV a && !(casesF a).isEmpty, ()), fun _ => 0⟩
abbrev L_sConsistent : List (FuncId × Con) := [(73, c_sAssertionValid), (75, c_l3Terms), (98, c_l5First), (99, c_l5Open)]
abbrev P_sConsistent : List (FuncId × PT) := []
def VC_sConsistent (a : GAsn) (k : Nat) : Prop := TN ∧ True ∧ True ∧ ((a.facts.length ≤ 281474976710656 ∧ a.atoms.length ≤ 281474976710656) ∧ True ∧ True) ∧ True ∧ (vcIf (!(asV a)) (True ∧ (((false, ()) : Bool × Unit) = (asV a && !(casesF a).isEmpty, ())) ∧ True ∧ True ∧ True ∧ True ∧ TF) (True ∧ True ∧ ((asV a = true) ∧ True ∧ TN ∧ True) ∧ (True ∧ True ∧ TN ∧ True) ∧ ((vA a = true ∧ (fl9 (occ a)).length = 9 ∧ opens.length = 9 ∧ le8 opens = true ∧ 1 ≤ (1 : Int) ∧ (1 : Int) ≤ 9) ∧ True ∧ TN ∧ True) ∧ True ∧ True ∧ True ∧ True ∧ True ∧ True ∧ True ∧ ((((!(sQ (sFin a) a (fl9 (occ a)) opens (1 : Int)).isEmpty), ()) : Bool × Unit) = (asV a && !(casesF a).isEmpty, ())) ∧ True ∧ True ∧ True ∧ True ∧ TF))
theorem vcn_sConsistent (a : GAsn) (k : Nat) (hp : a.facts.length ≤ 281474976710656 ∧ a.atoms.length ≤ 281474976710656) : VC_sConsistent a k := by
  unfold VC_sConsistent
  simp only [TT, TF, TN, RL, RM, true_and, and_true, eq_self, implies_true, forall_const, List.cons.injEq, S.s.injEq, S0.c.injEq, S0.agg.injEq, CV.d.injEq, CV.own.injEq, CV.ptr.injEq, DC.val.injEq, Value.int.injEq, Value.bool.injEq, Option.some.injEq, Res.blk.injEq, Prod.mk.injEq, inK, min_i64, max_i64, min_u16, max_u16, min_u8, max_u8, min_u64, max_u64, vcIf_true, vcIf_false, List.mem_nil_iff, List.not_mem_nil, not_false_eq_true, Nat.reduceEqDiff, Nat.reduceLeDiff, ne_eq, Bool.and_true, Nat.add_zero, List.append_nil, List.nil_append, List.length_nil, List.length_cons, Nat.zero_add, Nat.reduceAdd, Int.toNat_natCast, Nat.sub_zero, List.drop_zero, List.map_nil, List.take_zero, forall_eq]
  all_goals (try simp only [vcIf_iff, decide_eq_true_eq, decide_eq_false_iff_not, bne_iff_ne, ne_eq, beq_iff_eq, beq_eq_false_iff_ne, bne_eq_false_iff_eq, Bool.not_eq_true', Bool.not_eq_false', Int.ofNat_lt, Int.natCast_inj])
  all_goals (repeat' (first | apply And.intro | intro _))
  all_goals (repeat (cases ‹_ ∧ _›))
  all_goals (first | omega | rfl | assumption | (simp_all; done) | skip)
  all_goals (have ha := (by assumption : asV a = true))
  all_goals (first | exact vA_of ha | (rw [sCases ha, ha]; rfl) | skip)
theorem vce_sConsistent (a : GAsn) (k : Nat) : VC_sConsistent a k = vcQ tab (lookF L_sConsistent) (lookP P_sConsistent) (fun _ => false) (fun _ => none) (fun _ _ => none) (fun _ => []) (bodyOf Try.f61) (entry (encs c_sConsistent.aks (a, ())) (rdOf false k)) (retOk tab c_sConsistent Try.f61.results.toList (a, ()) k) := by kernel_rfl
theorem vc_sConsistent (a : GAsn) (k : Nat) (hp : a.facts.length ≤ 281474976710656 ∧ a.atoms.length ≤ 281474976710656) : vcQ tab (lookF L_sConsistent) (lookP P_sConsistent) (fun _ => false) (fun _ => none) (fun _ _ => none) (fun _ => []) (bodyOf Try.f61) (entry (encs c_sConsistent.aks (a, ())) (rdOf false k)) (retOk tab c_sConsistent Try.f61.results.toList (a, ()) k) := (vce_sConsistent a k).mp (vcn_sConsistent a k hp)
theorem ok_sConsistent : FnOk Try.prog E 61 c_sConsistent :=
  fn_okQ (l := L_sConsistent) (lp := P_sConsistent) (hp := fun _ => false) (gcs := fun _ => none) (perm := fun _ => []) tabOk mix ⟨ok_sAssertionValid, ok_l3Terms, ok_l5First, ok_l5Open, trivial⟩ trivial Try.func61 rfl (by kernel_rfl) (by decide) (by kernel_rfl) (anns := fun x _ => fun _ _ => none) (fun ⟨a, _⟩ k hp _ => vc_sConsistent a k hp) tot_fn
end Go.Proofs.Ytejcmcbpfnmlaaa

namespace Go.Proofs.Ytejcmcbpfnmlaaa
open Go.SE Go.RowKit
set_option linter.unusedSimpArgs false
set_option linter.unusedVariables false
set_option maxHeartbeats 1000000
set_option maxRecDepth 100000
/-! sSymTest -/
abbrev c_sSymTest : Con := ⟨[.asn, .fact], [.asn, .bool], fun (a, f, _) => a.facts.length ≤ 1048576 ∧ a.atoms.length ≤ 1048576, .inl fun (a, f, _) => (stL a f, stOk a f, ()), fun _ => 0⟩
abbrev L_sSymTest : List (FuncId × Con) := [(60, c_sStarAssertions), (61, c_sConsistent)]
abbrev P_sSymTest : List (FuncId × PT) := []
def VC_sSymTest (a : GAsn) (f : GFact) (k : Nat) : Prop := TN ∧ TN ∧ (TN ∧ TN ∧ TN ∧ True) ∧ True ∧ True ∧ True ∧ (TN ∧ True) ∧ (TN ∧ TN ∧ True) ∧ ((a.facts.length ≤ 1048576 ∧ a.atoms.length ≤ 1048576 ∧ (⟨([f] : List GFact), ([] : List GAtom)⟩ : GAsn).facts.length ≤ 1048576 ∧ (⟨([f] : List GFact), ([] : List GAtom)⟩ : GAsn).atoms.length ≤ 1048576) ∧ True ∧ TN ∧ TN ∧ True) ∧ True ∧ True ∧ True ∧ (TN ∧ TN ∧ TN ∧ True) ∧ (TF ∧ TF) ∧ True ∧ True ∧ True ∧ True ∧ (vcIf (!(starOk a (⟨([f] : List GFact), ([] : List GAtom)⟩ : GAsn))) (True ∧ (TN ∧ TN ∧ True) ∧ (TF ∧ TF) ∧ True ∧ ((((⟨([] : List GFact), ([] : List GAtom)⟩ : GAsn), false, ()) : GAsn × Bool × Unit) = (stL a f, stOk a f, ())) ∧ ((((368 : Nat) ≠ 369) ∧ True) ∧ True ∧ True) ∧ ((TF ∧ TF) ∧ (TF ∧ TF) ∧ True) ∧ True ∧ (True ∧ True ∧ True) ∧ TF) (True ∧ (((starL a (⟨([f] : List GFact), ([] : List GAtom)⟩ : GAsn)).facts.length ≤ 281474976710656 ∧ (starL a (⟨([f] : List GFact), ([] : List GAtom)⟩ : GAsn)).atoms.length ≤ 281474976710656) ∧ True ∧ True) ∧ True ∧ True ∧ (vcIf (!(asV (starL a (⟨([f] : List GFact), ([] : List GAtom)⟩ : GAsn)) && !(casesF (starL a (⟨([f] : List GFact), ([] : List GAtom)⟩ : GAsn))).isEmpty)) ((TN ∧ TN ∧ True) ∧ (TF ∧ TF) ∧ True ∧ ((((⟨([] : List GFact), ([] : List GAtom)⟩ : GAsn), false, ()) : GAsn × Bool × Unit) = (stL a f, stOk a f, ())) ∧ ((((368 : Nat) ≠ 369) ∧ True) ∧ True ∧ True) ∧ ((TF ∧ TF) ∧ (TF ∧ TF) ∧ True) ∧ True ∧ (True ∧ True ∧ True) ∧ TF) (True ∧ (TF ∧ TF) ∧ True ∧ ((((starL a (⟨([f] : List GFact), ([] : List GAtom)⟩ : GAsn)), true, ()) : GAsn × Bool × Unit) = (stL a f, stOk a f, ())) ∧ ((((208 : Nat) ≠ 209) ∧ True) ∧ True ∧ True) ∧ ((TF ∧ TF) ∧ (TF ∧ TF) ∧ True) ∧ True ∧ (True ∧ True ∧ True) ∧ TF))))
theorem vcn_sSymTest (a : GAsn) (f : GFact) (k : Nat) (hp : a.facts.length ≤ 1048576 ∧ a.atoms.length ≤ 1048576) : VC_sSymTest a f k := by
  unfold VC_sSymTest
  simp only [TT, TF, TN, RL, RM, true_and, and_true, eq_self, implies_true, forall_const, List.cons.injEq, S.s.injEq, S0.c.injEq, S0.agg.injEq, CV.d.injEq, CV.own.injEq, CV.ptr.injEq, DC.val.injEq, Value.int.injEq, Value.bool.injEq, Option.some.injEq, Res.blk.injEq, Prod.mk.injEq, inK, min_i64, max_i64, min_u16, max_u16, min_u8, max_u8, min_u64, max_u64, vcIf_true, vcIf_false, List.mem_nil_iff, List.not_mem_nil, not_false_eq_true, Nat.reduceEqDiff, Nat.reduceLeDiff, ne_eq, Bool.and_true, Nat.add_zero, List.append_nil, List.nil_append, List.length_nil, List.length_cons, Nat.zero_add, Nat.reduceAdd, Int.toNat_natCast, Nat.sub_zero, List.drop_zero, List.map_nil, List.take_zero, forall_eq]
  all_goals (try simp only [vcIf_iff, decide_eq_true_eq, decide_eq_false_iff_not, bne_iff_ne, ne_eq, beq_iff_eq, beq_eq_false_iff_ne, bne_eq_false_iff_eq, Bool.not_eq_true', Bool.not_eq_false', Int.ofNat_lt, Int.natCast_inj])
  all_goals (repeat' (first | apply And.intro | intro _))
  all_goals (repeat (cases ‹_ ∧ _›))
  all_goals (first | omega | rfl | assumption | (simp_all; done) | skip)
  all_goals (first
   | exact st_no (st_bad (by assumption))
   | exact (st_bad (by assumption)).symm
   | (have h1 := st_star ‹starOk a ⟨[f], []⟩ = true›; simp only [h1.1] at *; have h2 := asV_facts h1.2; omega)
   | (have h1 := st_star ‹starOk a ⟨[f], []⟩ = true›; simp only [h1.1] at *
      first
      | exact st_no (f := f) (by assumption)
      | exact (show stOk a f = false by assumption).symm
      | exact st_yes (f := f) (by assumption)
      | exact (show stOk a f = true by assumption).symm)
   | skip)
theorem vce_sSymTest (a : GAsn) (f : GFact) (k : Nat) : VC_sSymTest a f k = vcQ tab (lookF L_sSymTest) (lookP P_sSymTest) (fun _ => false) (fun _ => none) (fun _ _ => none) (fun _ => []) (bodyOf Try.f17) (entry (encs c_sSymTest.aks (a, f, ())) (rdOf false k)) (retOk tab c_sSymTest Try.f17.results.toList (a, f, ()) k) := by kernel_rfl
theorem vc_sSymTest (a : GAsn) (f : GFact) (k : Nat) (hp : a.facts.length ≤ 1048576 ∧ a.atoms.length ≤ 1048576) : vcQ tab (lookF L_sSymTest) (lookP P_sSymTest) (fun _ => false) (fun _ => none) (fun _ _ => none) (fun _ => []) (bodyOf Try.f17) (entry (encs c_sSymTest.aks (a, f, ())) (rdOf false k)) (retOk tab c_sSymTest Try.f17.results.toList (a, f, ()) k) := (vce_sSymTest a f k).mp (vcn_sSymTest a f k hp)
theorem ok_sSymTest : FnOk Try.prog E 17 c_sSymTest :=
  fn_okQ (l := L_sSymTest) (lp := P_sSymTest) (hp := fun _ => false) (gcs := fun _ => none) (perm := fun _ => []) tabOk mix ⟨ok_sStarAssertions, ok_sConsistent, trivial⟩ trivial Try.func17 rfl (by kernel_rfl) (by decide) (by kernel_rfl) (anns := fun x _ => fun _ _ => none) (fun ⟨a, f, _⟩ k hp _ => vc_sSymTest a f k hp) tot_fn
end Go.Proofs.Ytejcmcbpfnmlaaa

namespace Go.Proofs.Ytejcmcbpfnmlaaa
open Go.SE Go.RowKit
set_option linter.unusedSimpArgs false
set_option linter.unusedVariables false
set_option maxHeartbeats 1000000
set_option maxRecDepth 100000
/-! sameListsF -/
abbrev c_sameListsF : Con := ⟨[.sl .fact, .sl .fact], [.bool], fun (a, b, _) => a.length ≤ 281474976710656 ∧ b.length ≤ 281474976710656, .inl fun (a, b, _) => (decide (a = b), ()), fun _ => 0⟩
abbrev L_sameListsF : List (FuncId × Con) := []
def an_sameListsF (a : List GFact) (b : List GFact) : Nat → Option Ann
  | 4 => some { α := Nat, ok := fun i => i ≤ a.length ∧ a.length = b.length ∧ a.take i = b.take i, mu := fun i => a.length - i, i0 := fun _ => 0, nx := fun a _ => (fun i => i + 1) a, live := [1, 12, 13], sets := fun i => [(14, sv (.int .i64 i))], mids := [], blks := fun i => [], owns := fun i => [], rd := fun r _ => r, base := 100000 }
  | _ => none
theorem vc_sameListsF (a : List GFact) (b : List GFact) (k : Nat) (hp : a.length ≤ 281474976710656 ∧ b.length ≤ 281474976710656) : vc tab (lookF L_sameListsF) (an_sameListsF a b) (fun _ => []) (bodyOf Try.f62) (entry (encs c_sameListsF.aks (a, b, ())) (rdOf false k)) (retOk tab c_sameListsF Try.f62.results.toList (a, b, ()) k) := by
  dsimp only [bodyOf, Try.f62, rdOf]
  simp (maxSteps := 10000000) only [c_sameListsF, L_sameListsF, an_sameListsF, SE.lookF, tab2, tab3, tab4, tab5, tab7, tab9, tab12, tab13, tab21, tab22, tab23, tab24, tab25, tab26, tab27, tab28, tab39, tab42, tab46, tab47, tab65, tab66, tab67, tab68, tab79, tab80, tab84, tab85, tab90, tab91, tab94, tab111, tab140, tab141, tab157, tab159, tab160, tab161, tab162, tab182, tab194, SE.entry, SE.envOf, SE.rdOf, Option.get_some, SE.vc, SE.vcReg, SE.vcLoop, SE.condK, SE.seqK, SE.blockK, SE.vcOps, SE.vcStep, SE.vcOp, SE.vcTr, SE.vcDet_some, SE.vcDet_none, SE.vcIf_true, SE.vcIf_false, SE.vcEach, SE.pickOps, SE.gslot, SE.trOp, SE.moveId, SE.trMove, SE.trPick, SE.trAlloc, SE.trBox, SE.trBuild, SE.trBuildSlice, SE.trLoad, SE.trStore, SE.trNilCheck, SE.trBin, SE.trUn, SE.trConvert, SE.trFieldAddr, SE.trField, SE.trIndexAddr, SE.trIndex, SE.trSlice, SE.trMakeSlice, SE.trExtract, SE.trLen, SE.trAppend, SE.trCopy, SE.trFn, SE.trCall, SE.argsS, SE.ev, SE.constS, SE.junk, SE.sv, SE.upd_app, SE.adds, SE.sets, SE.nid, SE.St.app, SE.St.put, SE.free, SE.freeL, SE.allFree, SE.rids, SE.AK.rids, SE.castL, SE.rdl, SE.AK.dec, SE.decs, SE.AK.enc, SE.encs, SE.AK.res, SE.ress, SE.pack1, SE.zcells, SE.zeroOf, SE.partCells, SE.putc, SE.fills, SE.datas, SE.elemOf, SE.elemsOf, SE.notSpent, SE.cellsAt, SE.weak, SE.dcellsAt, SE.slAt, SE.rdPlus, SE.intAt, SE.updElem, SE.kill, SE.noJunk, SE.inK, SE.binI, SE.shf, SE.isShift, SE.eqCells, SE.aggS, SE.intOp, SE.nested, SE.hasRdr, SE.refsC, SE.refsCs, SE.ownsC, SE.refsAr, SE.rdFits, SE.costIf, SE.Con.post, SE.Con.det, SE.Ty.cells, SE.Ty.sz, SE.Ty.zero, SE.Ty.flat, SE.Ty.dec, SE.retOk, SE.loadsS, SE.loadS, SE.decRs, SE.decR, SE.outC, SE.rdC, SE.allDiff, SE.notIn, SE.notFrozen, SE.apartL, SE.rdEnd, SE.firstReg, SE.headC, SE.fitsC, SE.idsC, SE.keepE, SE.keepM, SE.keepB, SE.inL, SE.puts, SE.ownRes, SE.ownEnv, SE.renL, SE.srcId, SE.lookR, SE.envSame, SE.envSets, SE.memSame, SE.memBlks, SE.memOwns, SE.famsOf, SE.allIn, SE.closedE, SE.closedV, SE.closedM, SE.closedR, SE.rdLe, SE.S.refs, SE.S0.refs, SE.CV.refs, SE.refsL, SE.refsT, SE.S.ren, SE.S0.ren, SE.CV.ren, SE.Res.refs, SE.Res.ren, min_i64, max_i64, min_u16, max_u16, min_u8, max_u8, min_u64, max_u64, S.s.injEq, S0.c.injEq, CV.d.injEq, DC.val.injEq, Value.int.injEq, Value.bool.injEq, Value.string.injEq, eta_fact, eta_atom, eta_asn, eta_state, List.mem_cons, List.mem_nil_iff, or_false, false_or, or_true, true_or, Option.map_some, Option.map_none, Option.bind_some, Option.getD_some, Option.getD_none, Nat.reduceEqDiff, Nat.reduceAdd, Nat.reduceMul, Nat.reduceLeDiff, ↓reduceIte, reduceCtorEq, true_and, and_true, and_self, forall_const, implies_true, true_implies, List.getElem?_toArray, List.getElem?_cons_succ, List.getElem?_cons_zero, List.append_nil, List.nil_append, List.cons_append, List.length_cons, List.length_nil, List.take_succ_cons, List.take_zero, List.drop_succ_cons, List.drop_zero, List.set_cons_zero, List.set_cons_succ, List.map_cons, List.map_nil, Nat.add_zero, Nat.zero_add, forall_eq, Prod.forall, Bool.not_true, Bool.not_false, Nat.lt_irrefl, Nat.zero_lt_succ, List.singleton_append, Prod.mk.injEq, Nat.zero_mul, Nat.one_mul, Nat.reducePow, Option.some.injEq, not_false_eq_true, Int.toNat_natCast, Nat.sub_zero, Nat.le_refl, Bool.or_false, Bool.false_or, Bool.or_true, Bool.true_or, Bool.and_true, Bool.true_and, Bool.and_false, Bool.false_and, Bool.or_self, Bool.and_self, List.append_eq, and_false, false_and, fact_beq, atom_beq]
  all_goals (try simp only [vcIf_iff, decide_eq_true_eq, decide_eq_false_iff_not, bne_iff_ne, ne_eq, beq_iff_eq, beq_eq_false_iff_ne, bne_eq_false_iff_eq, Bool.not_eq_true', Bool.not_eq_false', Int.ofNat_lt, Int.natCast_inj])
  all_goals (repeat' (first | apply And.intro | intro _))
  all_goals (first | omega | (simp_all; done) | grind [same_step, same_not, take_full, Ty.zero])
theorem ok_sameListsF : FnOk Try.prog E 62 c_sameListsF :=
  fn_ok (l := L_sameListsF) (perm := fun _ => []) tabOk mix trivial Try.func62 rfl (by kernel_rfl) (by decide) (by kernel_rfl) (anns := fun x _ => an_sameListsF x.1 x.2.1) (fun ⟨a, b, _⟩ k hp _ => vc_sameListsF a b k hp) tot_fn
end Go.Proofs.Ytejcmcbpfnmlaaa
