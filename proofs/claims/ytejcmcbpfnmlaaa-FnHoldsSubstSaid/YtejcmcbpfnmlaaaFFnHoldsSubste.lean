/-
  Contracts of single functions of the program, each shown by the engine: what a call returns for arguments within the contract's bounds.
-/
import Derived.Test.YtejcmcbpfnmlaaaFFnHoldsSubsta
import Derived.Test.YtejcmcbpfnmlaaaFFnHoldsSubstd
import Derived.Test.YtejcmcbpfnmlaaaEe
import Derived.Test.YtejcmcbpfnmlaaaEf
import Derived.Test.YtejcmcbpfnmlaaaEd
set_option linter.unusedSimpArgs false
set_option linter.unusedVariables false
set_option linter.unusedSectionVars false

namespace Go.Proofs.Ytejcmcbpfnmlaaa
open Go.SE Go.RowKit
set_option linter.unusedSimpArgs false
set_option linter.unusedVariables false
set_option maxHeartbeats 1000000
set_option maxRecDepth 100000
/-! content -/
abbrev c_content : Con := ⟨[.state, .int], [.int], fun (s, n, _) => stV s = true, .inl fun (s, n, _) => (ct s n, ()), fun _ => 0⟩
abbrev L_content : List (FuncId × Con) := [(149, c_isAddr)]
abbrev P_content : List (FuncId × PT) := []
def VC_content (s : GState) (n : Int) (k : Nat) : Prop := TN ∧ True ∧ True ∧ (True ∧ True ∧ True) ∧ True ∧ (vcIf (!(isAd n)) (True ∧ ((((-1 : Int), ()) : Int × Unit) = (ct s n, ())) ∧ True ∧ True ∧ True ∧ True ∧ TF) (True ∧ True ∧ True ∧ (inK .i64 (n - (1 : Int))) ∧ (0 ≤ (n - (1 : Int)) ∧ (n - (1 : Int)) < ((s.heap.length : Nat) : Int)) ∧ True ∧ True ∧ ((((s.heap.getD (n - (1 : Int)).toNat (0 : Int)), ()) : Int × Unit) = (ct s n, ())) ∧ True ∧ True ∧ True ∧ True ∧ TF))
theorem vcn_content (s : GState) (n : Int) (k : Nat) (hp : stV s = true) : VC_content s n k := by
  unfold VC_content
  simp only [TT, TF, TN, RL, RM, true_and, and_true, eq_self, implies_true, forall_const, List.cons.injEq, S.s.injEq, S0.c.injEq, S0.agg.injEq, CV.d.injEq, CV.own.injEq, CV.ptr.injEq, DC.val.injEq, Value.int.injEq, Value.bool.injEq, Option.some.injEq, Res.blk.injEq, Prod.mk.injEq, inK, min_i64, max_i64, min_u16, max_u16, min_u8, max_u8, min_u64, max_u64, vcIf_true, vcIf_false, List.mem_nil_iff, List.not_mem_nil, not_false_eq_true, Nat.reduceEqDiff, Nat.reduceLeDiff, ne_eq, Bool.and_true, Nat.add_zero, List.append_nil, List.nil_append, List.length_nil, List.length_cons, Nat.zero_add, Nat.reduceAdd, Int.toNat_natCast, Nat.sub_zero, List.drop_zero, List.map_nil, List.take_zero, forall_eq]
  all_goals (try simp only [vcIf_iff, decide_eq_true_eq, decide_eq_false_iff_not, bne_iff_ne, ne_eq, beq_iff_eq, beq_eq_false_iff_ne, bne_eq_false_iff_eq, Bool.not_eq_true', Bool.not_eq_false', Int.ofNat_lt, Int.natCast_inj])
  all_goals (repeat' (first | apply And.intro | intro _))
  all_goals (repeat (cases ‹_ ∧ _›))
  all_goals (first | omega | rfl | assumption | (simp_all; done) | skip)
  all_goals (first
   | exact (ct_no (by assumption)).symm
   | exact (ct_yes (by assumption)).symm
   | (have h := isAd_iff.1 ‹isAd n = true›; have h2 := stV_all hp; omega)
   | skip)
theorem vce_content (s : GState) (n : Int) (k : Nat) : VC_content s n k = vcQ tab (lookF L_content) (lookP P_content) (fun _ => false) (fun _ => none) (fun _ _ => none) (fun _ => []) (bodyOf Try.f108) (entry (encs c_content.aks (s, n, ())) (rdOf false k)) (retOk tab c_content Try.f108.results.toList (s, n, ()) k) := by kernel_rfl
theorem vc_content (s : GState) (n : Int) (k : Nat) (hp : stV s = true) : vcQ tab (lookF L_content) (lookP P_content) (fun _ => false) (fun _ => none) (fun _ _ => none) (fun _ => []) (bodyOf Try.f108) (entry (encs c_content.aks (s, n, ())) (rdOf false k)) (retOk tab c_content Try.f108.results.toList (s, n, ()) k) := (vce_content s n k).mp (vcn_content s n k hp)
theorem ok_content : FnOk Try.prog E 108 c_content :=
  fn_okQ (l := L_content) (lp := P_content) (hp := fun _ => false) (gcs := fun _ => none) (perm := fun _ => []) tabOk mix ⟨ok_isAddr, trivial⟩ trivial Try.func108 rfl (by kernel_rfl) (by decide) (by kernel_rfl) (anns := fun x _ => fun _ _ => none) (fun ⟨s, n, _⟩ k hp _ => vc_content s n k hp) tot_fn
end Go.Proofs.Ytejcmcbpfnmlaaa

namespace Go.Proofs.Ytejcmcbpfnmlaaa
open Go.SE Go.RowKit
set_option linter.unusedSimpArgs false
set_option linter.unusedVariables false
set_option maxHeartbeats 1000000
set_option maxRecDepth 100000
/-! allocated -/
abbrev c_allocated : Con := ⟨[.state, .int], [.bool], fun (s, n, _) => stV s = true, .inl fun (s, n, _) => (al s n, ()), fun _ => 0⟩
abbrev L_allocated : List (FuncId × Con) := [(108, c_content)]
abbrev P_allocated : List (FuncId × PT) := []
def VC_allocated (s : GState) (n : Int) (k : Nat) : Prop := TN ∧ True ∧ True ∧ True ∧ ((stV s = true) ∧ True ∧ True) ∧ True ∧ True ∧ (((decide ((0 : Int) ≤ (ct s n)), ()) : Bool × Unit) = (al s n, ())) ∧ True ∧ True ∧ True ∧ True ∧ TF
theorem vcn_allocated (s : GState) (n : Int) (k : Nat) (hp : stV s = true) : VC_allocated s n k := by
  unfold VC_allocated
  simp only [TT, TF, TN, RL, RM, true_and, and_true, eq_self, implies_true, forall_const, List.cons.injEq, S.s.injEq, S0.c.injEq, S0.agg.injEq, CV.d.injEq, CV.own.injEq, CV.ptr.injEq, DC.val.injEq, Value.int.injEq, Value.bool.injEq, Option.some.injEq, Res.blk.injEq, Prod.mk.injEq, inK, min_i64, max_i64, min_u16, max_u16, min_u8, max_u8, min_u64, max_u64, vcIf_true, vcIf_false, List.mem_nil_iff, List.not_mem_nil, not_false_eq_true, Nat.reduceEqDiff, Nat.reduceLeDiff, ne_eq, Bool.and_true, Nat.add_zero, List.append_nil, List.nil_append, List.length_nil, List.length_cons, Nat.zero_add, Nat.reduceAdd, Int.toNat_natCast, Nat.sub_zero, List.drop_zero, List.map_nil, List.take_zero, forall_eq]
  all_goals (try simp only [vcIf_iff, decide_eq_true_eq, decide_eq_false_iff_not, bne_iff_ne, ne_eq, beq_iff_eq, beq_eq_false_iff_ne, bne_eq_false_iff_eq, Bool.not_eq_true', Bool.not_eq_false', Int.ofNat_lt, Int.natCast_inj])
  all_goals (repeat' (first | apply And.intro | intro _))
  all_goals (repeat (cases ‹_ ∧ _›))
  all_goals (first | omega | rfl | assumption | (simp_all; done) | skip)
theorem vce_allocated (s : GState) (n : Int) (k : Nat) : VC_allocated s n k = vcQ tab (lookF L_allocated) (lookP P_allocated) (fun _ => false) (fun _ => none) (fun _ _ => none) (fun _ => []) (bodyOf Try.f107) (entry (encs c_allocated.aks (s, n, ())) (rdOf false k)) (retOk tab c_allocated Try.f107.results.toList (s, n, ()) k) := by kernel_rfl
theorem vc_allocated (s : GState) (n : Int) (k : Nat) (hp : stV s = true) : vcQ tab (lookF L_allocated) (lookP P_allocated) (fun _ => false) (fun _ => none) (fun _ _ => none) (fun _ => []) (bodyOf Try.f107) (entry (encs c_allocated.aks (s, n, ())) (rdOf false k)) (retOk tab c_allocated Try.f107.results.toList (s, n, ()) k) := (vce_allocated s n k).mp (vcn_allocated s n k hp)
theorem ok_allocated : FnOk Try.prog E 107 c_allocated :=
  fn_okQ (l := L_allocated) (lp := P_allocated) (hp := fun _ => false) (gcs := fun _ => none) (perm := fun _ => []) tabOk mix ⟨ok_content, trivial⟩ trivial Try.func107 rfl (by kernel_rfl) (by decide) (by kernel_rfl) (anns := fun x _ => fun _ _ => none) (fun ⟨s, n, _⟩ k hp _ => vc_allocated s n k hp) tot_fn
end Go.Proofs.Ytejcmcbpfnmlaaa

namespace Go.Proofs.Ytejcmcbpfnmlaaa
open Go.SE Go.RowKit
set_option linter.unusedSimpArgs false
set_option linter.unusedVariables false
set_option maxHeartbeats 1000000
set_option maxRecDepth 100000
/-! iWalkCells -/
abbrev c_iWalkCells : Con := ⟨[.state, .int, .int], [.sl .int, .bool], fun (s, x, y, _) => s.vals.length ≤ 281474976710656 ∧ s.heap.length ≤ 281474976710656, .inl fun (s, x, y, _) => (wkL s x y, wkB s x y, ()), fun _ => 0⟩
abbrev L_iWalkCells : List (FuncId × Con) := [(35, c_iStateValid), (94, c_isValue), (107, c_allocated), (108, c_content)]
abbrev P_iWalkCells : List (FuncId × PT) := []
def an_iWalkCells (s : GState) (x : Int) (y : Int) : Nat → St → Option Ann
  | 5, se => some { α := List Int × Int, ok := fun p => stV s = true ∧ isT x = true ∧ isT y = true ∧ wkI s x y p.1 p.2, mu := fun p => 9 - p.1.length, i0 := fun st => (slAt .int st (.slot 8), intAt st 9), nx := fun p st => (slAt .int st (.slot 8), intAt st 9), live := [2, 3], sets := fun p => [(9, sv (.int .i64 p.2))], mids := [63], blks := fun p => [], owns := fun p => [⟨7, .slot 8, .int, p.1⟩], rd := fun r _ => r, base := 100000 }
  | _, _ => none
def VC_iWalkCells_1 (s : GState) (x : Int) (y : Int) (k : Nat) : Prop := (((s.vals.length ≤ 281474976710656 ∧ s.heap.length ≤ 281474976710656) ∧ True ∧ True) ∧ True ∧ True ∧ (vcIf (!(stV s)) (True ∧ True ∧ True ∧ TN ∧ True ∧ (((([] : List Int), false, ()) : (List Int) × Bool × Unit) = (wkL s x y, wkB s x y, ())) ∧ (True ∧ True) ∧ ((TF ∧ TF) ∧ True) ∧ True ∧ (True ∧ True) ∧ TF) (True ∧ (True ∧ True ∧ True) ∧ True ∧ True ∧ True ∧ (vcIf (!(isT x)) (True ∧ TN ∧ True ∧ (((([] : List Int), false, ()) : (List Int) × Bool × Unit) = (wkL s x y, wkB s x y, ())) ∧ (True ∧ True) ∧ ((TF ∧ TF) ∧ True) ∧ True ∧ (True ∧ True) ∧ TF) (True ∧ (True ∧ True ∧ True) ∧ True ∧ True ∧ (vcIf (!(isT y)) (TN ∧ True ∧ (((([] : List Int), false, ()) : (List Int) × Bool × Unit) = (wkL s x y, wkB s x y, ())) ∧ (True ∧ True) ∧ ((TF ∧ TF) ∧ True) ∧ True ∧ (True ∧ True) ∧ TF) (TN ∧ True ∧ True ∧ ((stV s = true ∧ isT x = true ∧ isT y = true ∧ wkI s x y (([] : List Int), x).1 (([] : List Int), x).2) ∧ TT ∧ (RL [.s (.c (.d (.val (.int .i64 y)))), .s (.c (.ptr 63 0))]) ∧ (([.s (.c (.d (.val (.int .i64 x))))] : List S) = [.s (.c (.d (.val (.int .i64 ((([] : List Int), x).2 : Int)))))]) ∧ (RM [some (.blk [.d (.arr .int s.vals), .d (.arr .int s.heap)])]) ∧ (RM []) ∧ (((some ([] : List Int) : Option (List Int)) = some ((([] : List Int), x).1)) ∧ True) ∧ TT) ∧ (∀ p1 : List Int × Int, (stV s = true ∧ isT x = true ∧ isT y = true ∧ wkI s x y p1.1 p1.2) → True ∧ True ∧ True ∧ (vcIf ((p1.2 : Int) != y) (True ∧ True ∧ ((stV s = true) ∧ True ∧ True) ∧ True ∧ True ∧ (vcIf (!(al s (p1.2 : Int))) (True ∧ TN ∧ True ∧ (((([] : List Int), false, ()) : (List Int) × Bool × Unit) = (wkL s x y, wkB s x y, ())) ∧ (True ∧ True) ∧ ((TF ∧ TF) ∧ True) ∧ True ∧ (True ∧ True) ∧ TF) (True ∧ True ∧ True ∧ True ∧ (vcIf (((p1.1.length : Nat) : Int) == (8 : Int)) (TN ∧ True ∧ (((([] : List Int), false, ()) : (List Int) × Bool × Unit) = (wkL s x y, wkB s x y, ())) ∧ (True ∧ True) ∧ ((TF ∧ TF) ∧ True) ∧ True ∧ (True ∧ True) ∧ TF) (True ∧ True ∧ (TN ∧ True) ∧ (TN ∧ TF ∧ TF ∧ (p1.1.length + ([(p1.2 : Int)] : List Int).length ≤ 4294967296)) ∧ True ∧ True ∧ True ∧ ((stV s = true) ∧ True ∧ True) ∧ True ∧ (stV s = true ∧ isT x = true ∧ isT y = true ∧ wkI s x y ((p1.1 ++ ([(p1.2 : Int)] : List Int)), (ct s (p1.2 : Int))).1 ((p1.1 ++ ([(p1.2 : Int)] : List Int)), (ct s (p1.2 : Int))).2) ∧ (9 - ((p1.1 ++ ([(p1.2 : Int)] : List Int)), (ct s (p1.2 : Int))).1.length < 9 - p1.1.length) ∧ TT ∧ (RL [.s (.c (.d (.val (.int .i64 y)))), .s (.c (.ptr 63 0))]) ∧ (([.s (.c (.d (.val (.int .i64 (ct s (p1.2 : Int))))))] : List S) = [.s (.c (.d (.val (.int .i64 (((p1.1 ++ ([(p1.2 : Int)] : List Int)), (ct s (p1.2 : Int))).2 : Int)))))]) ∧ (RM [some (.blk [.d (.arr .int s.vals), .d (.arr .int s.heap)])]) ∧ (RM []) ∧ (((some (p1.1 ++ ([(p1.2 : Int)] : List Int)) : Option (List Int)) = some (((p1.1 ++ ([(p1.2 : Int)] : List Int)), (ct s (p1.2 : Int))).1)) ∧ True) ∧ TT))))) (True ∧ True ∧ True ∧ (((p1.1, true, ()) : (List Int) × Bool × Unit) = (wkL s x y, wkB s x y, ())) ∧ (True ∧ True) ∧ ((TF ∧ TF) ∧ True) ∧ True ∧ (True ∧ True) ∧ TF))))))))))
def VC_iWalkCells (s : GState) (x : Int) (y : Int) (k : Nat) : Prop := TN ∧ TN ∧ True ∧ True ∧ (VC_iWalkCells_1 s x y k)
theorem vcn_iWalkCells (s : GState) (x : Int) (y : Int) (k : Nat) (hp : s.vals.length ≤ 281474976710656 ∧ s.heap.length ≤ 281474976710656) : VC_iWalkCells s x y k := by
  unfold VC_iWalkCells VC_iWalkCells_1
  simp only [TT, TF, TN, RL, RM, true_and, and_true, eq_self, implies_true, forall_const, List.cons.injEq, S.s.injEq, S0.c.injEq, S0.agg.injEq, CV.d.injEq, CV.own.injEq, CV.ptr.injEq, DC.val.injEq, Value.int.injEq, Value.bool.injEq, Option.some.injEq, Res.blk.injEq, Prod.mk.injEq, inK, min_i64, max_i64, min_u16, max_u16, min_u8, max_u8, min_u64, max_u64, vcIf_true, vcIf_false, List.mem_nil_iff, List.not_mem_nil, not_false_eq_true, Nat.reduceEqDiff, Nat.reduceLeDiff, ne_eq, Bool.and_true, Nat.add_zero, List.append_nil, List.nil_append, List.length_nil, List.length_cons, Nat.zero_add, Nat.reduceAdd, Int.toNat_natCast, Nat.sub_zero, List.drop_zero, List.map_nil, List.take_zero, forall_eq]
  all_goals (try simp only [vcIf_iff, decide_eq_true_eq, decide_eq_false_iff_not, bne_iff_ne, ne_eq, beq_iff_eq, beq_eq_false_iff_ne, bne_eq_false_iff_eq, Bool.not_eq_true', Bool.not_eq_false', Int.ofNat_lt, Int.natCast_inj])
  all_goals (repeat' (first | apply And.intro | intro _))
  all_goals (repeat (cases ‹_ ∧ _›))
  all_goals (try have h7 := ‹wkI _ _ _ _ _›)
  all_goals (try have h8 := h7.le)
  all_goals (first | omega | rfl | assumption | (simp_all; done) | skip)
  all_goals (first
   | exact (wk_bad1 (by assumption)).1.symm | exact (wk_bad1 (by assumption)).2.symm
   | exact (wk_bad2 (by assumption)).1.symm | exact (wk_bad2 (by assumption)).2.symm
   | exact (wk_bad3 (by assumption)).1.symm | exact (wk_bad3 (by assumption)).2.symm
   | exact wkI_zero (by assumption)
   | exact (wk_none (wk_no h7 (by assumption) (by assumption)) (by assumption) (by assumption) (by assumption)).1.symm
   | exact (wk_none (wk_no h7 (by assumption) (by assumption)) (by assumption) (by assumption) (by assumption)).2.symm
   | exact (wk_none (wk_full h7 (by assumption) (by omega)) (by assumption) (by assumption) (by assumption)).1.symm
   | exact (wk_none (wk_full h7 (by assumption) (by omega)) (by assumption) (by assumption) (by assumption)).2.symm
   | exact (wk_some (wk_end h7 (by assumption)) (by assumption) (by assumption) (by assumption)).1.symm
   | exact (wk_some (wk_end h7 (by assumption)) (by assumption) (by assumption) (by assumption)).2.symm
   | exact wk_go (by assumption) h7 (by assumption) (by assumption) (by omega)
   | (rw [List.length_append, List.length_singleton]; omega)
   | skip)
theorem vce_iWalkCells (s : GState) (x : Int) (y : Int) (k : Nat) : VC_iWalkCells s x y k = vcQ tab (lookF L_iWalkCells) (lookP P_iWalkCells) (fun _ => false) (fun _ => none) (an_iWalkCells s x y) (fun _ => []) (bodyOf Try.f163) (entry (encs c_iWalkCells.aks (s, x, y, ())) (rdOf false k)) (retOk tab c_iWalkCells Try.f163.results.toList (s, x, y, ()) k) := by kernel_rfl
theorem vc_iWalkCells (s : GState) (x : Int) (y : Int) (k : Nat) (hp : s.vals.length ≤ 281474976710656 ∧ s.heap.length ≤ 281474976710656) : vcQ tab (lookF L_iWalkCells) (lookP P_iWalkCells) (fun _ => false) (fun _ => none) (an_iWalkCells s x y) (fun _ => []) (bodyOf Try.f163) (entry (encs c_iWalkCells.aks (s, x, y, ())) (rdOf false k)) (retOk tab c_iWalkCells Try.f163.results.toList (s, x, y, ()) k) := (vce_iWalkCells s x y k).mp (vcn_iWalkCells s x y k hp)
theorem ok_iWalkCells : FnOk Try.prog E 163 c_iWalkCells :=
  fn_okQ (l := L_iWalkCells) (lp := P_iWalkCells) (hp := fun _ => false) (gcs := fun _ => none) (perm := fun _ => []) tabOk mix ⟨ok_iStateValid, ok_isValue, ok_allocated, ok_content, trivial⟩ trivial Try.func163 rfl (by kernel_rfl) (by decide) (by kernel_rfl) (anns := fun x _ => an_iWalkCells x.1 x.2.1 x.2.2.1) (fun ⟨s, x, y, _⟩ k hp _ => vc_iWalkCells s x y k hp) tot_fn
end Go.Proofs.Ytejcmcbpfnmlaaa

namespace Go.Proofs.Ytejcmcbpfnmlaaa
open Go.SE Go.RowKit
set_option linter.unusedSimpArgs false
set_option linter.unusedVariables false
set_option maxHeartbeats 1000000
set_option maxRecDepth 100000
/-! iAtomCells -/
abbrev c_iAtomCells : Con := ⟨[.state, .atom], [.sl .int, .bool], fun (s, x, _) => s.vals.length ≤ 281474976710656 ∧ s.heap.length ≤ 281474976710656, .inl fun (s, x, _) => (acL s x, acB s x, ()), fun _ => 0⟩
abbrev L_iAtomCells : List (FuncId × Con) := [(35, c_iStateValid), (65, c_iAtomValid), (95, c_termValue), (108, c_content), (163, c_iWalkCells)]
abbrev P_iAtomCells : List (FuncId × PT) := []
def VC_iAtomCells (s : GState) (x : GAtom) (k : Nat) : Prop := TN ∧ TN ∧ TN ∧ True ∧ True ∧ ((s.vals.length ≤ 281474976710656 ∧ s.heap.length ≤ 281474976710656) ∧ True ∧ True) ∧ True ∧ True ∧ (vcIf (!(stV s)) (True ∧ TN ∧ True ∧ (((([] : List Int), false, ()) : (List Int) × Bool × Unit) = (acL s x, acB s x, ())) ∧ (True ∧ True) ∧ ((TF ∧ TF) ∧ True) ∧ True ∧ (True ∧ True) ∧ TF) (True ∧ (True ∧ True ∧ True) ∧ True ∧ True ∧ (vcIf (!(atV x)) (TN ∧ True ∧ (((([] : List Int), false, ()) : (List Int) × Bool × Unit) = (acL s x, acB s x, ())) ∧ (True ∧ True) ∧ ((TF ∧ TF) ∧ True) ∧ True ∧ (True ∧ True) ∧ TF) (True ∧ True ∧ True ∧ True ∧ ((s.vals.length = 8 ∧ isT x.a = true) ∧ True ∧ True) ∧ True ∧ True ∧ True ∧ True ∧ ((s.vals.length = 8 ∧ isT x.b = true) ∧ True ∧ True) ∧ True ∧ True ∧ True ∧ True ∧ True ∧ (vcIf (x.kind == (2 : Int)) (True ∧ True ∧ True ∧ ((s.vals.length ≤ 281474976710656 ∧ s.heap.length ≤ 281474976710656) ∧ True ∧ TN ∧ True) ∧ True ∧ True ∧ True ∧ True ∧ ((((wkL s (tv s.vals x.a) (tv s.vals x.b)), (wkB s (tv s.vals x.a) (tv s.vals x.b)), ()) : (List Int) × Bool × Unit) = (acL s x, acB s x, ())) ∧ (True ∧ True) ∧ ((TF ∧ TF) ∧ True) ∧ True ∧ (True ∧ True) ∧ TF) (True ∧ True ∧ ((stV s = true) ∧ True ∧ True) ∧ True ∧ True ∧ (vcIf ((ct s (tv s.vals x.a)) != (tv s.vals x.b)) (TN ∧ True ∧ (((([] : List Int), false, ()) : (List Int) × Bool × Unit) = (acL s x, acB s x, ())) ∧ (True ∧ True) ∧ ((TF ∧ TF) ∧ True) ∧ True ∧ (True ∧ True) ∧ TF) (True ∧ (TN ∧ True) ∧ True ∧ True ∧ (((([(tv s.vals x.a)] : List Int), true, ()) : (List Int) × Bool × Unit) = (acL s x, acB s x, ())) ∧ (True ∧ True) ∧ ((TF ∧ TF) ∧ True) ∧ True ∧ (True ∧ True) ∧ TF))))))))
theorem vcn_iAtomCells (s : GState) (x : GAtom) (k : Nat) (hp : s.vals.length ≤ 281474976710656 ∧ s.heap.length ≤ 281474976710656) : VC_iAtomCells s x k := by
  unfold VC_iAtomCells
  simp only [TT, TF, TN, RL, RM, true_and, and_true, eq_self, implies_true, forall_const, List.cons.injEq, S.s.injEq, S0.c.injEq, S0.agg.injEq, CV.d.injEq, CV.own.injEq, CV.ptr.injEq, DC.val.injEq, Value.int.injEq, Value.bool.injEq, Option.some.injEq, Res.blk.injEq, Prod.mk.injEq, inK, min_i64, max_i64, min_u16, max_u16, min_u8, max_u8, min_u64, max_u64, vcIf_true, vcIf_false, List.mem_nil_iff, List.not_mem_nil, not_false_eq_true, Nat.reduceEqDiff, Nat.reduceLeDiff, ne_eq, Bool.and_true, Nat.add_zero, List.append_nil, List.nil_append, List.length_nil, List.length_cons, Nat.zero_add, Nat.reduceAdd, Int.toNat_natCast, Nat.sub_zero, List.drop_zero, List.map_nil, List.take_zero, forall_eq]
  all_goals (try simp only [vcIf_iff, decide_eq_true_eq, decide_eq_false_iff_not, bne_iff_ne, ne_eq, beq_iff_eq, beq_eq_false_iff_ne, bne_eq_false_iff_eq, Bool.not_eq_true', Bool.not_eq_false', Int.ofNat_lt, Int.natCast_inj])
  all_goals (repeat' (first | apply And.intro | intro _))
  all_goals (repeat (cases ‹_ ∧ _›))
  all_goals (first | omega | rfl | assumption | (simp_all; done) | skip)
  all_goals (first
   | exact (ac_bad1 (by assumption)).1.symm | exact (ac_bad1 (by assumption)).2.symm
   | exact (ac_bad2 (by assumption)).1.symm | exact (ac_bad2 (by assumption)).2.symm
   | exact (stV_all (by assumption)).1 | exact (atV_isT (by assumption)).1 | exact (atV_isT (by assumption)).2
   | exact (ac_list (by assumption) (by assumption) (by assumption)).1.symm | exact (ac_list (by assumption) (by assumption) (by assumption)).2.symm
   | exact (ac_no (by assumption) (by assumption) (by assumption) (by assumption)).1.symm | exact (ac_no (by assumption) (by assumption) (by assumption) (by assumption)).2.symm
   | exact (ac_yes (by assumption) (by assumption) (by assumption) (by assumption)).1.symm | exact (ac_yes (by assumption) (by assumption) (by assumption) (by assumption)).2.symm
   | skip)
theorem vce_iAtomCells (s : GState) (x : GAtom) (k : Nat) : VC_iAtomCells s x k = vcQ tab (lookF L_iAtomCells) (lookP P_iAtomCells) (fun _ => false) (fun _ => none) (fun _ _ => none) (fun _ => []) (bodyOf Try.f137) (entry (encs c_iAtomCells.aks (s, x, ())) (rdOf false k)) (retOk tab c_iAtomCells Try.f137.results.toList (s, x, ()) k) := by kernel_rfl
theorem vc_iAtomCells (s : GState) (x : GAtom) (k : Nat) (hp : s.vals.length ≤ 281474976710656 ∧ s.heap.length ≤ 281474976710656) : vcQ tab (lookF L_iAtomCells) (lookP P_iAtomCells) (fun _ => false) (fun _ => none) (fun _ _ => none) (fun _ => []) (bodyOf Try.f137) (entry (encs c_iAtomCells.aks (s, x, ())) (rdOf false k)) (retOk tab c_iAtomCells Try.f137.results.toList (s, x, ()) k) := (vce_iAtomCells s x k).mp (vcn_iAtomCells s x k hp)
theorem ok_iAtomCells : FnOk Try.prog E 137 c_iAtomCells :=
  fn_okQ (l := L_iAtomCells) (lp := P_iAtomCells) (hp := fun _ => false) (gcs := fun _ => none) (perm := fun _ => []) tabOk mix ⟨ok_iStateValid, ok_iAtomValid, ok_termValue, ok_content, ok_iWalkCells, trivial⟩ trivial Try.func137 rfl (by kernel_rfl) (by decide) (by kernel_rfl) (anns := fun x _ => fun _ _ => none) (fun ⟨s, x, _⟩ k hp _ => vc_iAtomCells s x k hp) tot_fn
end Go.Proofs.Ytejcmcbpfnmlaaa

namespace Go.Proofs.Ytejcmcbpfnmlaaa
open Go.SE Go.RowKit
set_option linter.unusedSimpArgs false
set_option linter.unusedVariables false
set_option maxHeartbeats 1000000
set_option maxRecDepth 100000
/-! csHas -/
abbrev c_csHas : Con := ⟨[.u16, .int], [.bool], fun (z, n, _) => 0 ≤ z ∧ z < 512, .inl fun (z, n, _) => (csHas z n, ()), fun _ => 0⟩
abbrev L_csHas : List (FuncId × Con) := [(149, c_isAddr)]
abbrev P_csHas : List (FuncId × PT) := []
def VC_csHas (z : Int) (n : Int) (k : Nat) : Prop := True ∧ True ∧ (True ∧ True ∧ True) ∧ True ∧ (vcIf (isAd n) (True ∧ True ∧ (0 ≤ n) ∧ True ∧ True ∧ True ∧ True ∧ ((((bits .and .u16 (Int.fdiv z (2 ^ (min n.toNat (IntKind.bits .u16)))) (1 : Int)) == (1 : Int), ()) : Bool × Unit) = (csHas z n, ())) ∧ True ∧ True ∧ True ∧ True ∧ TF) (True ∧ True ∧ (((false, ()) : Bool × Unit) = (csHas z n, ())) ∧ True ∧ True ∧ True ∧ True ∧ TF))
theorem vcn_csHas (z : Int) (n : Int) (k : Nat) (hp : 0 ≤ z ∧ z < 512) : VC_csHas z n k := by
  unfold VC_csHas
  simp only [TT, TF, TN, RL, RM, true_and, and_true, eq_self, implies_true, forall_const, List.cons.injEq, S.s.injEq, S0.c.injEq, S0.agg.injEq, CV.d.injEq, CV.own.injEq, CV.ptr.injEq, DC.val.injEq, Value.int.injEq, Value.bool.injEq, Option.some.injEq, Res.blk.injEq, Prod.mk.injEq, inK, min_i64, max_i64, min_u16, max_u16, min_u8, max_u8, min_u64, max_u64, vcIf_true, vcIf_false, List.mem_nil_iff, List.not_mem_nil, not_false_eq_true, Nat.reduceEqDiff, Nat.reduceLeDiff, ne_eq, Bool.and_true, Nat.add_zero, List.append_nil, List.nil_append, List.length_nil, List.length_cons, Nat.zero_add, Nat.reduceAdd, Int.toNat_natCast, Nat.sub_zero, List.drop_zero, List.map_nil, List.take_zero, forall_eq]
  all_goals (try simp only [vcIf_iff, decide_eq_true_eq, decide_eq_false_iff_not, bne_iff_ne, ne_eq, beq_iff_eq, beq_eq_false_iff_ne, bne_eq_false_iff_eq, Bool.not_eq_true', Bool.not_eq_false', Int.ofNat_lt, Int.natCast_inj])
  all_goals (repeat' (first | apply And.intro | intro _))
  all_goals (repeat (cases ‹_ ∧ _›))
  all_goals (first | omega | rfl | assumption | (simp_all; done) | skip)
  all_goals (first | exact cs_yes hp.1 hp.2 (by assumption) | exact cs_no (by assumption) | (have h := isAd_iff.1 ‹isAd n = true›; omega) | exact cs_yes (by assumption) (by assumption) (by assumption) | skip)
theorem vce_csHas (z : Int) (n : Int) (k : Nat) : VC_csHas z n k = vcQ tab (lookF L_csHas) (lookP P_csHas) (fun _ => false) (fun _ => none) (fun _ _ => none) (fun _ => []) (bodyOf Try.f138) (entry (encs c_csHas.aks (z, n, ())) (rdOf false k)) (retOk tab c_csHas Try.f138.results.toList (z, n, ()) k) := by kernel_rfl
theorem vc_csHas (z : Int) (n : Int) (k : Nat) (hp : 0 ≤ z ∧ z < 512) : vcQ tab (lookF L_csHas) (lookP P_csHas) (fun _ => false) (fun _ => none) (fun _ _ => none) (fun _ => []) (bodyOf Try.f138) (entry (encs c_csHas.aks (z, n, ())) (rdOf false k)) (retOk tab c_csHas Try.f138.results.toList (z, n, ()) k) := (vce_csHas z n k).mp (vcn_csHas z n k hp)
theorem ok_csHas : FnOk Try.prog E 138 c_csHas :=
  fn_okQ (l := L_csHas) (lp := P_csHas) (hp := fun _ => false) (gcs := fun _ => none) (perm := fun _ => []) tabOk mix ⟨ok_isAddr, trivial⟩ trivial Try.func138 rfl (by kernel_rfl) (by decide) (by kernel_rfl) (anns := fun x _ => fun _ _ => none) (fun ⟨z, n, _⟩ k hp _ => vc_csHas z n k hp) tot_fn
end Go.Proofs.Ytejcmcbpfnmlaaa

namespace Go.Proofs.Ytejcmcbpfnmlaaa
open Go.SE Go.RowKit
set_option linter.unusedSimpArgs false
set_option linter.unusedVariables false
set_option maxHeartbeats 1000000
set_option maxRecDepth 100000
/-! partOf -/
abbrev c_partOf : Con := ⟨[.state, .asn], [.u16, .bool], fun (s, a, _) => s.vals.length ≤ 281474976710656 ∧ s.heap.length ≤ 281474976710656 ∧ a.facts.length ≤ 281474976710656 ∧ a.atoms.length ≤ 281474976710656, .inl fun (s, a, _) => (maskS (poL s a), poB s a, ()), fun _ => 0⟩
abbrev L_partOf : List (FuncId × Con) := [(19, c_iAssertionValid), (35, c_iStateValid), (36, c_iFactsHold), (137, c_iAtomCells), (138, c_csHas)]
abbrev P_partOf : List (FuncId × PT) := []
def an_partOf (s : GState) (a : GAsn) : Nat → St → Option Ann
  | 5, se => some { α := Nat, ok := fun i => stV s = true ∧ asV a = true ∧ fctB s a.facts = true ∧ ptI s a.atoms i, mu := fun i => a.atoms.length - i, i0 := fun _ => 0, nx := fun a _ => (fun i => i + 1) a, live := [2, 30, 31], sets := fun i => [(32, sv (.int .i64 i)), (6, sv (.int .u16 (maskS (ptL s a.atoms i))))], mids := [47], blks := fun i => [], owns := fun i => [], rd := fun r _ => r, base := 100000 }
  | 11, se => some { α := Nat, ok := fun j => j ≤ (slAt .int se (.slot 44)).length ∧ nw (ptL s a.atoms (intAt se 32).toNat) (slAt .int se (.slot 44)) j, mu := fun j => (slAt .int se (.slot 44)).length - j, i0 := fun _ => 0, nx := fun a _ => (fun j => j + 1) a, live := [2, 30, 31, 32, 44, 45], sets := fun j => [(46, sv (.int .i64 j)), (6, sv (.int .u16 (maskS (ptL s a.atoms (intAt se 32).toNat ++ (slAt .int se (.slot 44)).take j))))], mids := [47, 100624], blks := fun j => [], owns := fun j => [], rd := fun r _ => r, base := 200000 }
  | _, _ => none
def VC_partOf_1 (s : GState) (a : GAsn) (k : Nat) (i1 : Nat) (j2 : Nat) : Prop := (True ∧ (vcIf (decide (((j2 : Nat) : Int) < (((acL s (a.atoms.getD i1 (⟨0, 0, 0⟩ : GAtom))).length : Nat) : Int))) ((0 ≤ ((j2 : Nat) : Int) ∧ ((j2 : Nat) : Int) < (((acL s (a.atoms.getD i1 (⟨0, 0, 0⟩ : GAtom))).length : Nat) : Int)) ∧ True ∧ True ∧ True ∧ True ∧ ((0 ≤ (maskS (ptL s a.atoms (((i1 : Nat) : Int)).toNat ++ ((acL s (a.atoms.getD i1 (⟨0, 0, 0⟩ : GAtom)))).take j2) : Int) ∧ (maskS (ptL s a.atoms (((i1 : Nat) : Int)).toNat ++ ((acL s (a.atoms.getD i1 (⟨0, 0, 0⟩ : GAtom)))).take j2) : Int) < 512) ∧ True ∧ True) ∧ (vcIf (csHas (maskS (ptL s a.atoms (((i1 : Nat) : Int)).toNat ++ ((acL s (a.atoms.getD i1 (⟨0, 0, 0⟩ : GAtom)))).take j2) : Int) ((acL s (a.atoms.getD i1 (⟨0, 0, 0⟩ : GAtom))).getD j2 (0 : Int))) (True ∧ True ∧ ((((0 : Int), false, ()) : Int × Bool × Unit) = (maskS (poL s a), poB s a, ())) ∧ True ∧ True ∧ True ∧ True ∧ TF) (True ∧ True ∧ (0 ≤ ((acL s (a.atoms.getD i1 (⟨0, 0, 0⟩ : GAtom))).getD j2 (0 : Int))) ∧ True ∧ True ∧ (inK .i64 (((j2 : Nat) : Int) + (1 : Int))) ∧ True ∧ ((j2 + 1) ≤ ((acL s (a.atoms.getD i1 (⟨0, 0, 0⟩ : GAtom)))).length ∧ nw (ptL s a.atoms (((i1 : Nat) : Int)).toNat) ((acL s (a.atoms.getD i1 (⟨0, 0, 0⟩ : GAtom)))) (j2 + 1)) ∧ (((acL s (a.atoms.getD i1 (⟨0, 0, 0⟩ : GAtom)))).length - (j2 + 1) < ((acL s (a.atoms.getD i1 (⟨0, 0, 0⟩ : GAtom)))).length - j2) ∧ TT ∧ (RL [.s (.c (.ptr 47 0)), .s (.c (.d (.arr .atom a.atoms))), .s (.c (.d (.val (.int .i64 ((a.atoms.length : Nat) : Int))))), .s (.c (.d (.val (.int .i64 ((i1 : Nat) : Int))))), .s (.c (.own 100624)), .s (.c (.d (.val (.int .i64 (((acL s (a.atoms.getD i1 (⟨0, 0, 0⟩ : GAtom))).length : Nat) : Int)))))]) ∧ (([.s (.c (.d (.val (.int .i64 (((j2 : Nat) : Int) + (1 : Int)))))), .s (.c (.d (.val (.int .u16 (bits .or .u16 (maskS (ptL s a.atoms (((i1 : Nat) : Int)).toNat ++ ((acL s (a.atoms.getD i1 (⟨0, 0, 0⟩ : GAtom)))).take j2) : Int) (IntKind.wrap .u16 ((1 : Int) * 2 ^ (min ((acL s (a.atoms.getD i1 (⟨0, 0, 0⟩ : GAtom))).getD j2 (0 : Int)).toNat (IntKind.bits .u16)))))))))] : List S) = [.s (.c (.d (.val (.int .i64 (((j2 + 1) : Nat) : Int))))), .s (.c (.d (.val (.int .u16 (maskS (ptL s a.atoms (((i1 : Nat) : Int)).toNat ++ ((acL s (a.atoms.getD i1 (⟨0, 0, 0⟩ : GAtom)))).take (j2 + 1)) : Int)))))]) ∧ (RM [some (.blk [.d (.arr .int s.vals), .d (.arr .int s.heap)]), some (.sl 100624 .int (acL s (a.atoms.getD i1 (⟨0, 0, 0⟩ : GAtom))))]) ∧ (RM []) ∧ True ∧ TT))) ((inK .i64 (((i1 : Nat) : Int) + (1 : Int))) ∧ True ∧ (stV s = true ∧ asV a = true ∧ fctB s a.facts = true ∧ ptI s a.atoms (i1 + 1)) ∧ (a.atoms.length - (i1 + 1) < a.atoms.length - i1) ∧ TT ∧ (RL [.s (.c (.ptr 47 0)), .s (.c (.d (.arr .atom a.atoms))), .s (.c (.d (.val (.int .i64 ((a.atoms.length : Nat) : Int)))))]) ∧ (([.s (.c (.d (.val (.int .i64 (((i1 : Nat) : Int) + (1 : Int)))))), .s (.c (.d (.val (.int .u16 (maskS (ptL s a.atoms (((i1 : Nat) : Int)).toNat ++ ((acL s (a.atoms.getD i1 (⟨0, 0, 0⟩ : GAtom)))).take j2) : Int)))))] : List S) = [.s (.c (.d (.val (.int .i64 (((i1 + 1) : Nat) : Int))))), .s (.c (.d (.val (.int .u16 (maskS (ptL s a.atoms (i1 + 1)) : Int)))))]) ∧ (RM [some (.blk [.d (.arr .int s.vals), .d (.arr .int s.heap)])]) ∧ (RM []) ∧ True ∧ TT)))
def VC_partOf_2 (s : GState) (a : GAsn) (k : Nat) : Prop := (True ∧ (vcIf (!(asV a)) (True ∧ True ∧ True ∧ ((((0 : Int), false, ()) : Int × Bool × Unit) = (maskS (poL s a), poB s a, ())) ∧ True ∧ True ∧ True ∧ True ∧ TF) (True ∧ True ∧ True ∧ True ∧ ((a.facts.length ≤ 281474976710656 ∧ s.vals.length ≤ 281474976710656) ∧ True ∧ True) ∧ True ∧ True ∧ (vcIf (!(fsV a.facts && (s.vals.length == 8 && a.facts.all (holdF s.vals)))) (True ∧ True ∧ ((((0 : Int), false, ()) : Int × Bool × Unit) = (maskS (poL s a), poB s a, ())) ∧ True ∧ True ∧ True ∧ True ∧ TF) (True ∧ True ∧ True ∧ True ∧ True ∧ ((stV s = true ∧ asV a = true ∧ fctB s a.facts = true ∧ ptI s a.atoms 0) ∧ TT ∧ (RL [.s (.c (.ptr 47 0)), .s (.c (.d (.arr .atom a.atoms))), .s (.c (.d (.val (.int .i64 ((a.atoms.length : Nat) : Int)))))]) ∧ (([.s (.c (.d (.val (.int .i64 (0 : Int))))), .s (.c (.d (.val (.int .u16 (0 : Int)))))] : List S) = [.s (.c (.d (.val (.int .i64 ((0 : Nat) : Int))))), .s (.c (.d (.val (.int .u16 (maskS (ptL s a.atoms 0) : Int)))))]) ∧ (RM [some (.blk [.d (.arr .int s.vals), .d (.arr .int s.heap)])]) ∧ (RM []) ∧ True ∧ TT) ∧ (∀ i1 : Nat, (stV s = true ∧ asV a = true ∧ fctB s a.facts = true ∧ ptI s a.atoms i1) → True ∧ (vcIf (decide (((i1 : Nat) : Int) < ((a.atoms.length : Nat) : Int))) ((0 ≤ ((i1 : Nat) : Int) ∧ ((i1 : Nat) : Int) < ((a.atoms.length : Nat) : Int)) ∧ True ∧ (TN ∧ True) ∧ (TF ∧ TF) ∧ True ∧ True ∧ ((s.vals.length ≤ 281474976710656 ∧ s.heap.length ≤ 281474976710656) ∧ True ∧ TN ∧ True) ∧ True ∧ True ∧ True ∧ True ∧ True ∧ True ∧ True ∧ (vcIf (!(acB s (a.atoms.getD i1 (⟨0, 0, 0⟩ : GAtom)))) (True ∧ True ∧ ((((0 : Int), false, ()) : Int × Bool × Unit) = (maskS (poL s a), poB s a, ())) ∧ True ∧ True ∧ True ∧ True ∧ TF) (True ∧ True ∧ True ∧ ((0 ≤ ((acL s (a.atoms.getD i1 (⟨0, 0, 0⟩ : GAtom)))).length ∧ nw (ptL s a.atoms (((i1 : Nat) : Int)).toNat) ((acL s (a.atoms.getD i1 (⟨0, 0, 0⟩ : GAtom)))) 0) ∧ TT ∧ (RL [.s (.c (.ptr 47 0)), .s (.c (.d (.arr .atom a.atoms))), .s (.c (.d (.val (.int .i64 ((a.atoms.length : Nat) : Int))))), .s (.c (.d (.val (.int .i64 ((i1 : Nat) : Int))))), .s (.c (.own 100624)), .s (.c (.d (.val (.int .i64 (((acL s (a.atoms.getD i1 (⟨0, 0, 0⟩ : GAtom))).length : Nat) : Int)))))]) ∧ (([.s (.c (.d (.val (.int .i64 (0 : Int))))), .s (.c (.d (.val (.int .u16 (maskS (ptL s a.atoms i1) : Int)))))] : List S) = [.s (.c (.d (.val (.int .i64 ((0 : Nat) : Int))))), .s (.c (.d (.val (.int .u16 (maskS (ptL s a.atoms (((i1 : Nat) : Int)).toNat ++ ((acL s (a.atoms.getD i1 (⟨0, 0, 0⟩ : GAtom)))).take 0) : Int)))))]) ∧ (RM [some (.blk [.d (.arr .int s.vals), .d (.arr .int s.heap)]), some (.sl 100624 .int (acL s (a.atoms.getD i1 (⟨0, 0, 0⟩ : GAtom))))]) ∧ (RM []) ∧ True ∧ TT) ∧ (∀ j2 : Nat, (j2 ≤ ((acL s (a.atoms.getD i1 (⟨0, 0, 0⟩ : GAtom)))).length ∧ nw (ptL s a.atoms (((i1 : Nat) : Int)).toNat) ((acL s (a.atoms.getD i1 (⟨0, 0, 0⟩ : GAtom)))) j2) → (VC_partOf_1 s a k i1 j2))))) (True ∧ True ∧ True ∧ ((((maskS (ptL s a.atoms i1) : Int), true, ()) : Int × Bool × Unit) = (maskS (poL s a), poB s a, ())) ∧ True ∧ True ∧ True ∧ True ∧ TF))))))))
def VC_partOf (s : GState) (a : GAsn) (k : Nat) : Prop := TN ∧ TN ∧ True ∧ True ∧ True ∧ ((s.vals.length ≤ 281474976710656 ∧ s.heap.length ≤ 281474976710656) ∧ True ∧ True) ∧ True ∧ True ∧ (vcIf (!(stV s)) (True ∧ True ∧ True ∧ True ∧ True ∧ ((((0 : Int), false, ()) : Int × Bool × Unit) = (maskS (poL s a), poB s a, ())) ∧ True ∧ True ∧ True ∧ True ∧ TF) (True ∧ ((a.facts.length ≤ 281474976710656 ∧ a.atoms.length ≤ 281474976710656) ∧ True ∧ True) ∧ True ∧ True ∧ (VC_partOf_2 s a k)))
theorem vcn_partOf (s : GState) (a : GAsn) (k : Nat) (hp : s.vals.length ≤ 281474976710656 ∧ s.heap.length ≤ 281474976710656 ∧ a.facts.length ≤ 281474976710656 ∧ a.atoms.length ≤ 281474976710656) : VC_partOf s a k := by
  unfold VC_partOf VC_partOf_2 VC_partOf_1
  simp only [TT, TF, TN, RL, RM, true_and, and_true, eq_self, implies_true, forall_const, List.cons.injEq, S.s.injEq, S0.c.injEq, S0.agg.injEq, CV.d.injEq, CV.own.injEq, CV.ptr.injEq, DC.val.injEq, Value.int.injEq, Value.bool.injEq, Option.some.injEq, Res.blk.injEq, Prod.mk.injEq, inK, min_i64, max_i64, min_u16, max_u16, min_u8, max_u8, min_u64, max_u64, vcIf_true, vcIf_false, List.mem_nil_iff, List.not_mem_nil, not_false_eq_true, Nat.reduceEqDiff, Nat.reduceLeDiff, ne_eq, Bool.and_true, Nat.add_zero, List.append_nil, List.nil_append, List.length_nil, List.length_cons, Nat.zero_add, Nat.reduceAdd, Int.toNat_natCast, Nat.sub_zero, List.drop_zero, List.map_nil, List.take_zero, forall_eq]
  all_goals (try simp only [vcIf_iff, decide_eq_true_eq, decide_eq_false_iff_not, bne_iff_ne, ne_eq, beq_iff_eq, beq_eq_false_iff_ne, bne_eq_false_iff_eq, Bool.not_eq_true', Bool.not_eq_false', Int.ofNat_lt, Int.natCast_inj])
  all_goals (repeat' (first | apply And.intro | intro _))
  all_goals (repeat (cases ‹_ ∧ _›))
  all_goals (try have h7 := ‹ptI _ _ _›)
  all_goals (first | omega | assumption | skip)
  all_goals (first
   | exact (po_q1 (by assumption)).1 | exact (po_q1 (by assumption)).2
   | exact (po_q2 (by assumption)).1 | exact (po_q2 (by assumption)).2
   | exact (po_q3 (by assumption) (by assumption) (by assumption)).1 | exact (po_q3 (by assumption) (by assumption) (by assumption)).2
   | exact ptI_zero | exact nw_zero | (rw [← fct_iff (by assumption) (by assumption)]; assumption)
   | exact (po_q4 (by assumption) (by assumption) (by assumption) h7 (by assumption) (by assumption)).1 | exact (po_q4 (by assumption) (by assumption) (by assumption) h7 (by assumption) (by assumption)).2
   | exact (po_q5 (by assumption) (by assumption) (by assumption) h7 (by assumption) (by assumption) (by assumption)).1 | exact (po_q5 (by assumption) (by assumption) (by assumption) h7 (by assumption) (by assumption) (by assumption)).2
   | with_reducible exact (maskS_bd _).1 | with_reducible exact (maskS_bd _).2
   | exact po_g1 (by assumption) (by assumption) (by assumption) (by assumption)
   | exact po_g2 (by assumption) (by assumption)
   | exact (po_n (by assumption) (by assumption) h7 (by assumption) (by assumption) (by assumption) (by assumption) (by assumption)).1
   | exact (po_n (by assumption) (by assumption) h7 (by assumption) (by assumption) (by assumption) (by assumption) (by assumption)).2
   | exact (po_e (by assumption) (by assumption) (by assumption) h7 (by assumption)).1 | exact (po_e (by assumption) (by assumption) (by assumption) h7 (by assumption)).2
   | (have h := isAd_iff.1 (ac_get (by assumption) (by assumption)); omega)
   | exact jb (by assumption) | exact po_g1 (by assumption) (by assumption) (by assumption) (by assumption) _ (by assumption)
   | (rw [List.take_zero, List.append_nil]; done)
   | exact maskS_zero | exact maskS_zero.symm | rfl
   | skip)
theorem vce_partOf (s : GState) (a : GAsn) (k : Nat) : VC_partOf s a k = vcQ tab (lookF L_partOf) (lookP P_partOf) (fun _ => false) (fun _ => none) (an_partOf s a) (fun _ => []) (bodyOf Try.f90) (entry (encs c_partOf.aks (s, a, ())) (rdOf false k)) (retOk tab c_partOf Try.f90.results.toList (s, a, ()) k) := by kernel_rfl
theorem vc_partOf (s : GState) (a : GAsn) (k : Nat) (hp : s.vals.length ≤ 281474976710656 ∧ s.heap.length ≤ 281474976710656 ∧ a.facts.length ≤ 281474976710656 ∧ a.atoms.length ≤ 281474976710656) : vcQ tab (lookF L_partOf) (lookP P_partOf) (fun _ => false) (fun _ => none) (an_partOf s a) (fun _ => []) (bodyOf Try.f90) (entry (encs c_partOf.aks (s, a, ())) (rdOf false k)) (retOk tab c_partOf Try.f90.results.toList (s, a, ()) k) := (vce_partOf s a k).mp (vcn_partOf s a k hp)
theorem ok_partOf : FnOk Try.prog E 90 c_partOf :=
  fn_okQ (l := L_partOf) (lp := P_partOf) (hp := fun _ => false) (gcs := fun _ => none) (perm := fun _ => []) tabOk mix ⟨ok_iAssertionValid, ok_iStateValid, ok_iFactsHold, ok_iAtomCells, ok_csHas, trivial⟩ trivial Try.func90 rfl (by kernel_rfl) (by decide) (by kernel_rfl) (anns := fun x _ => an_partOf x.1 x.2.1) (fun ⟨s, a, _⟩ k hp _ => vc_partOf s a k hp) tot_fn
end Go.Proofs.Ytejcmcbpfnmlaaa

namespace Go.Proofs.Ytejcmcbpfnmlaaa
open Go.SE Go.RowKit
set_option linter.unusedSimpArgs false
set_option linter.unusedVariables false
set_option maxHeartbeats 1000000
set_option maxRecDepth 100000
/-! usedIn -/
abbrev c_usedIn : Con := ⟨[.state], [.u16], fun (s, _) => stV s = true, .inl fun (s, _) => (maskS (usL s 8), ()), fun _ => 0⟩
abbrev L_usedIn : List (FuncId × Con) := [(107, c_allocated)]
abbrev P_usedIn : List (FuncId × PT) := []
def an_usedIn (s : GState) : Nat → St → Option Ann
  | 3, se => some { α := Nat, ok := fun i => i ≤ 8, mu := fun i => 8 - i, i0 := fun _ => 0, nx := fun a _ => (fun i => i + 1) a, live := [1, 2], sets := fun i => [(4, sv (.int .i64 ((i : Int) + 1))), (3, sv (.int .u16 (maskS (usL s i))))], mids := [31], blks := fun i => [], owns := fun i => [], rd := fun r _ => r, base := 100000 }
  | _, _ => none
def VC_usedIn (s : GState) (k : Nat) : Prop := TN ∧ True ∧ True ∧ True ∧ ((0 ≤ 8) ∧ TT ∧ (RL [.s (.c (.ptr 31 0)), .s (.c (.d (.val (.int .u16 (0 : Int)))))]) ∧ (([.s (.c (.d (.val (.int .i64 (1 : Int))))), .s (.c (.d (.val (.int .u16 (0 : Int)))))] : List S) = [.s (.c (.d (.val (.int .i64 ((0 : Int) + 1 : Int))))), .s (.c (.d (.val (.int .u16 (maskS (usL s 0) : Int)))))]) ∧ (RM [some (.blk [.d (.arr .int s.vals), .d (.arr .int s.heap)])]) ∧ (RM []) ∧ True ∧ TT) ∧ (∀ i1 : Nat, (i1 ≤ 8) → True ∧ True ∧ (vcIf (decide (((i1 : Int) + 1 : Int) ≤ (8 : Int))) (True ∧ True ∧ ((stV s = true) ∧ True ∧ True) ∧ (vcIf (al s ((i1 : Int) + 1 : Int)) (True ∧ True ∧ (0 ≤ ((i1 : Int) + 1 : Int)) ∧ True ∧ True ∧ True ∧ (inK .i64 (((i1 : Int) + 1 : Int) + (1 : Int))) ∧ True ∧ ((i1 + 1) ≤ 8) ∧ (8 - (i1 + 1) < 8 - i1) ∧ TT ∧ (RL [.s (.c (.ptr 31 0)), .s (.c (.d (.val (.int .u16 (0 : Int)))))]) ∧ (([.s (.c (.d (.val (.int .i64 (((i1 : Int) + 1 : Int) + (1 : Int)))))), .s (.c (.d (.val (.int .u16 (bits .or .u16 (maskS (usL s i1) : Int) (IntKind.wrap .u16 ((1 : Int) * 2 ^ (min ((i1 : Int) + 1 : Int).toNat (IntKind.bits .u16)))))))))] : List S) = [.s (.c (.d (.val (.int .i64 (((i1 + 1) : Int) + 1 : Int))))), .s (.c (.d (.val (.int .u16 (maskS (usL s (i1 + 1)) : Int)))))]) ∧ (RM [some (.blk [.d (.arr .int s.vals), .d (.arr .int s.heap)])]) ∧ (RM []) ∧ True ∧ TT) (True ∧ (inK .i64 (((i1 : Int) + 1 : Int) + (1 : Int))) ∧ True ∧ ((i1 + 1) ≤ 8) ∧ (8 - (i1 + 1) < 8 - i1) ∧ TT ∧ (RL [.s (.c (.ptr 31 0)), .s (.c (.d (.val (.int .u16 (0 : Int)))))]) ∧ (([.s (.c (.d (.val (.int .i64 (((i1 : Int) + 1 : Int) + (1 : Int)))))), .s (.c (.d (.val (.int .u16 (maskS (usL s i1) : Int)))))] : List S) = [.s (.c (.d (.val (.int .i64 (((i1 + 1) : Int) + 1 : Int))))), .s (.c (.d (.val (.int .u16 (maskS (usL s (i1 + 1)) : Int)))))]) ∧ (RM [some (.blk [.d (.arr .int s.vals), .d (.arr .int s.heap)])]) ∧ (RM []) ∧ True ∧ TT))) (True ∧ True ∧ ((((maskS (usL s i1) : Int), ()) : Int × Unit) = (maskS (usL s 8), ())) ∧ True ∧ True ∧ True ∧ True ∧ TF)))
theorem vcn_usedIn (s : GState) (k : Nat) (hp : stV s = true) : VC_usedIn s k := by
  unfold VC_usedIn
  simp only [TT, TF, TN, RL, RM, true_and, and_true, eq_self, implies_true, forall_const, List.cons.injEq, S.s.injEq, S0.c.injEq, S0.agg.injEq, CV.d.injEq, CV.own.injEq, CV.ptr.injEq, DC.val.injEq, Value.int.injEq, Value.bool.injEq, Option.some.injEq, Res.blk.injEq, Prod.mk.injEq, inK, min_i64, max_i64, min_u16, max_u16, min_u8, max_u8, min_u64, max_u64, vcIf_true, vcIf_false, List.mem_nil_iff, List.not_mem_nil, not_false_eq_true, Nat.reduceEqDiff, Nat.reduceLeDiff, ne_eq, Bool.and_true, Nat.add_zero, List.append_nil, List.nil_append, List.length_nil, List.length_cons, Nat.zero_add, Nat.reduceAdd, Int.toNat_natCast, Nat.sub_zero, List.drop_zero, List.map_nil, List.take_zero, forall_eq]
  all_goals (try simp only [vcIf_iff, decide_eq_true_eq, decide_eq_false_iff_not, bne_iff_ne, ne_eq, beq_iff_eq, beq_eq_false_iff_ne, bne_eq_false_iff_eq, Bool.not_eq_true', Bool.not_eq_false', Int.ofNat_lt, Int.natCast_inj])
  all_goals (repeat' (first | apply And.intro | intro _))
  all_goals (repeat (cases ‹_ ∧ _›))
  all_goals (first | omega | rfl | assumption | (simp_all; done) | skip)
  all_goals (first | exact us1 (by assumption) (by assumption) | exact us2 (by assumption) (by assumption) | exact us3 (by assumption) (by assumption) | skip)
theorem vce_usedIn (s : GState) (k : Nat) : VC_usedIn s k = vcQ tab (lookF L_usedIn) (lookP P_usedIn) (fun _ => false) (fun _ => none) (an_usedIn s) (fun _ => []) (bodyOf Try.f91) (entry (encs c_usedIn.aks (s, ())) (rdOf false k)) (retOk tab c_usedIn Try.f91.results.toList (s, ()) k) := by kernel_rfl
theorem vc_usedIn (s : GState) (k : Nat) (hp : stV s = true) : vcQ tab (lookF L_usedIn) (lookP P_usedIn) (fun _ => false) (fun _ => none) (an_usedIn s) (fun _ => []) (bodyOf Try.f91) (entry (encs c_usedIn.aks (s, ())) (rdOf false k)) (retOk tab c_usedIn Try.f91.results.toList (s, ()) k) := (vce_usedIn s k).mp (vcn_usedIn s k hp)
theorem ok_usedIn : FnOk Try.prog E 91 c_usedIn :=
  fn_okQ (l := L_usedIn) (lp := P_usedIn) (hp := fun _ => false) (gcs := fun _ => none) (perm := fun _ => []) tabOk mix ⟨ok_allocated, trivial⟩ trivial Try.func91 rfl (by kernel_rfl) (by decide) (by kernel_rfl) (anns := fun x _ => an_usedIn x.1) (fun ⟨s, _⟩ k hp _ => vc_usedIn s k hp) tot_fn
end Go.Proofs.Ytejcmcbpfnmlaaa

namespace Go.Proofs.Ytejcmcbpfnmlaaa
open Go.SE Go.RowKit
set_option linter.unusedSimpArgs false
set_option linter.unusedVariables false
set_option maxHeartbeats 1000000
set_option maxRecDepth 100000
/-! iHolds -/
abbrev c_iHolds : Con := ⟨[.state, .asn], [.bool], fun (s, a, _) => s.vals.length ≤ 281474976710656 ∧ s.heap.length ≤ 281474976710656 ∧ a.facts.length ≤ 281474976710656 ∧ a.atoms.length ≤ 281474976710656, .inl fun (s, a, _) => (HOL s a, ()), fun _ => 0⟩
abbrev L_iHolds : List (FuncId × Con) := [(90, c_partOf), (91, c_usedIn)]
abbrev P_iHolds : List (FuncId × PT) := []
def VC_iHolds (s : GState) (a : GAsn) (k : Nat) : Prop := TN ∧ TN ∧ True ∧ True ∧ True ∧ ((s.vals.length ≤ 281474976710656 ∧ s.heap.length ≤ 281474976710656 ∧ a.facts.length ≤ 281474976710656 ∧ a.atoms.length ≤ 281474976710656) ∧ True ∧ True) ∧ True ∧ True ∧ True ∧ True ∧ True ∧ True ∧ True ∧ (vcIf (poB s a) (True ∧ True ∧ ((stV s = true) ∧ True ∧ True) ∧ True ∧ True ∧ True ∧ ((((maskS (poL s a)) == (maskS (usL s 8)), ()) : Bool × Unit) = (HOL s a, ())) ∧ True ∧ True ∧ True ∧ True ∧ TF) (True ∧ True ∧ (((false, ()) : Bool × Unit) = (HOL s a, ())) ∧ True ∧ True ∧ True ∧ True ∧ TF))
theorem vcn_iHolds (s : GState) (a : GAsn) (k : Nat) (hp : s.vals.length ≤ 281474976710656 ∧ s.heap.length ≤ 281474976710656 ∧ a.facts.length ≤ 281474976710656 ∧ a.atoms.length ≤ 281474976710656) : VC_iHolds s a k := by
  unfold VC_iHolds
  simp only [TT, TF, TN, RL, RM, true_and, and_true, eq_self, implies_true, forall_const, List.cons.injEq, S.s.injEq, S0.c.injEq, S0.agg.injEq, CV.d.injEq, CV.own.injEq, CV.ptr.injEq, DC.val.injEq, Value.int.injEq, Value.bool.injEq, Option.some.injEq, Res.blk.injEq, Prod.mk.injEq, inK, min_i64, max_i64, min_u16, max_u16, min_u8, max_u8, min_u64, max_u64, vcIf_true, vcIf_false, List.mem_nil_iff, List.not_mem_nil, not_false_eq_true, Nat.reduceEqDiff, Nat.reduceLeDiff, ne_eq, Bool.and_true, Nat.add_zero, List.append_nil, List.nil_append, List.length_nil, List.length_cons, Nat.zero_add, Nat.reduceAdd, Int.toNat_natCast, Nat.sub_zero, List.drop_zero, List.map_nil, List.take_zero, forall_eq]
  all_goals (try simp only [vcIf_iff, decide_eq_true_eq, decide_eq_false_iff_not, bne_iff_ne, ne_eq, beq_iff_eq, beq_eq_false_iff_ne, bne_eq_false_iff_eq, Bool.not_eq_true', Bool.not_eq_false', Int.ofNat_lt, Int.natCast_inj])
  all_goals (repeat' (first | apply And.intro | intro _))
  all_goals (repeat (cases ‹_ ∧ _›))
  all_goals (first | omega | rfl | assumption | (simp_all; done) | skip)
  all_goals (first | exact (po_v (by assumption)).1 | exact hol_mask (by assumption) | exact (hol_poF (by assumption)).symm | skip)
theorem vce_iHolds (s : GState) (a : GAsn) (k : Nat) : VC_iHolds s a k = vcQ tab (lookF L_iHolds) (lookP P_iHolds) (fun _ => false) (fun _ => none) (fun _ _ => none) (fun _ => []) (bodyOf Try.f33) (entry (encs c_iHolds.aks (s, a, ())) (rdOf false k)) (retOk tab c_iHolds Try.f33.results.toList (s, a, ()) k) := by kernel_rfl
theorem vc_iHolds (s : GState) (a : GAsn) (k : Nat) (hp : s.vals.length ≤ 281474976710656 ∧ s.heap.length ≤ 281474976710656 ∧ a.facts.length ≤ 281474976710656 ∧ a.atoms.length ≤ 281474976710656) : vcQ tab (lookF L_iHolds) (lookP P_iHolds) (fun _ => false) (fun _ => none) (fun _ _ => none) (fun _ => []) (bodyOf Try.f33) (entry (encs c_iHolds.aks (s, a, ())) (rdOf false k)) (retOk tab c_iHolds Try.f33.results.toList (s, a, ()) k) := (vce_iHolds s a k).mp (vcn_iHolds s a k hp)
theorem ok_iHolds : FnOk Try.prog E 33 c_iHolds :=
  fn_okQ (l := L_iHolds) (lp := P_iHolds) (hp := fun _ => false) (gcs := fun _ => none) (perm := fun _ => []) tabOk mix ⟨ok_partOf, ok_usedIn, trivial⟩ trivial Try.func33 rfl (by kernel_rfl) (by decide) (by kernel_rfl) (anns := fun x _ => fun _ _ => none) (fun ⟨s, a, _⟩ k hp _ => vc_iHolds s a k hp) tot_fn
end Go.Proofs.Ytejcmcbpfnmlaaa

namespace Go.Proofs.Ytejcmcbpfnmlaaa
open Go.SE Go.RowKit
set_option linter.unusedSimpArgs false
set_option linter.unusedVariables false
set_option maxHeartbeats 1000000
set_option maxRecDepth 100000
/-! l1Is -/
abbrev c_l1Is : Con := ⟨[.int], [.bool], fun _ => True, .inl fun (t, _) => (isT t, ()), fun _ => 0⟩
abbrev L_l1Is : List (FuncId × Con) := []
theorem vc_l1Is (t : Int) (k : Nat) : vc tab (lookF L_l1Is) (fun _ => none) (fun _ => []) (bodyOf Try.f104) (entry (encs c_l1Is.aks (t, ())) (rdOf false k)) (retOk tab c_l1Is Try.f104.results.toList (t, ()) k) := by
  dsimp only [bodyOf, Try.f104, rdOf]
  simp (maxSteps := 10000000) only [c_l1Is, L_l1Is, SE.lookF, tab2, tab3, tab4, tab5, tab7, tab9, tab12, tab13, tab21, tab22, tab23, tab24, tab25, tab26, tab27, tab28, tab39, tab42, tab46, tab47, tab65, tab66, tab67, tab68, tab79, tab80, tab84, tab85, tab90, tab91, tab94, tab111, tab140, tab141, tab157, tab159, tab160, tab161, tab162, tab182, tab194, SE.entry, SE.envOf, SE.rdOf, Option.get_some, SE.vc, SE.vcReg, SE.vcLoop, SE.condK, SE.seqK, SE.blockK, SE.vcOps, SE.vcStep, SE.vcOp, SE.vcTr, SE.vcDet_some, SE.vcDet_none, SE.vcIf_true, SE.vcIf_false, SE.vcEach, SE.pickOps, SE.gslot, SE.trOp, SE.moveId, SE.trMove, SE.trPick, SE.trAlloc, SE.trBox, SE.trBuild, SE.trBuildSlice, SE.trLoad, SE.trStore, SE.trNilCheck, SE.trBin, SE.trUn, SE.trConvert, SE.trFieldAddr, SE.trField, SE.trIndexAddr, SE.trIndex, SE.trSlice, SE.trMakeSlice, SE.trExtract, SE.trLen, SE.trAppend, SE.trCopy, SE.trFn, SE.trCall, SE.argsS, SE.ev, SE.constS, SE.junk, SE.sv, SE.upd_app, SE.adds, SE.sets, SE.nid, SE.St.app, SE.St.put, SE.free, SE.freeL, SE.allFree, SE.rids, SE.AK.rids, SE.castL, SE.rdl, SE.AK.dec, SE.decs, SE.AK.enc, SE.encs, SE.AK.res, SE.ress, SE.pack1, SE.zcells, SE.zeroOf, SE.partCells, SE.putc, SE.fills, SE.datas, SE.elemOf, SE.elemsOf, SE.notSpent, SE.cellsAt, SE.weak, SE.dcellsAt, SE.slAt, SE.rdPlus, SE.intAt, SE.updElem, SE.kill, SE.noJunk, SE.inK, SE.binI, SE.shf, SE.isShift, SE.eqCells, SE.aggS, SE.intOp, SE.nested, SE.hasRdr, SE.refsC, SE.refsCs, SE.ownsC, SE.refsAr, SE.rdFits, SE.costIf, SE.Con.post, SE.Con.det, SE.Ty.cells, SE.Ty.sz, SE.Ty.zero, SE.Ty.flat, SE.Ty.dec, SE.retOk, SE.loadsS, SE.loadS, SE.decRs, SE.decR, SE.outC, SE.rdC, SE.allDiff, SE.notIn, SE.notFrozen, SE.apartL, SE.rdEnd, SE.firstReg, SE.headC, SE.fitsC, SE.idsC, SE.keepE, SE.keepM, SE.keepB, SE.inL, SE.puts, SE.ownRes, SE.ownEnv, SE.renL, SE.srcId, SE.lookR, SE.envSame, SE.envSets, SE.memSame, SE.memBlks, SE.memOwns, SE.famsOf, SE.allIn, SE.closedE, SE.closedV, SE.closedM, SE.closedR, SE.rdLe, SE.S.refs, SE.S0.refs, SE.CV.refs, SE.refsL, SE.refsT, SE.S.ren, SE.S0.ren, SE.CV.ren, SE.Res.refs, SE.Res.ren, min_i64, max_i64, min_u16, max_u16, min_u8, max_u8, min_u64, max_u64, S.s.injEq, S0.c.injEq, CV.d.injEq, DC.val.injEq, Value.int.injEq, Value.bool.injEq, Value.string.injEq, eta_fact, eta_atom, eta_asn, eta_state, List.mem_cons, List.mem_nil_iff, or_false, false_or, or_true, true_or, Option.map_some, Option.map_none, Option.bind_some, Option.getD_some, Option.getD_none, Nat.reduceEqDiff, Nat.reduceAdd, Nat.reduceMul, Nat.reduceLeDiff, ↓reduceIte, reduceCtorEq, true_and, and_true, and_self, forall_const, implies_true, true_implies, List.getElem?_toArray, List.getElem?_cons_succ, List.getElem?_cons_zero, List.append_nil, List.nil_append, List.cons_append, List.length_cons, List.length_nil, List.take_succ_cons, List.take_zero, List.drop_succ_cons, List.drop_zero, List.set_cons_zero, List.set_cons_succ, List.map_cons, List.map_nil, Nat.add_zero, Nat.zero_add, forall_eq, Prod.forall, Bool.not_true, Bool.not_false, Nat.lt_irrefl, Nat.zero_lt_succ, List.singleton_append, Prod.mk.injEq, Nat.zero_mul, Nat.one_mul, Nat.reducePow, Option.some.injEq, not_false_eq_true, Int.toNat_natCast, Nat.sub_zero, Nat.le_refl, Bool.or_false, Bool.false_or, Bool.or_true, Bool.true_or, Bool.and_true, Bool.true_and, Bool.and_false, Bool.false_and, Bool.or_self, Bool.and_self, List.append_eq, and_false, false_and]
  cases h : decide (0 ≤ t) <;> simp [vcIf, isT, h]
theorem ok_l1Is : FnOk Try.prog E 104 c_l1Is :=
  fn_ok (l := L_l1Is) (perm := fun _ => []) tabOk mix trivial Try.func104 rfl (by kernel_rfl) (by decide) (by kernel_rfl) (anns := fun x _ => fun _ => none) (fun ⟨t, _⟩ k _ _ => vc_l1Is t k) tot_fn
end Go.Proofs.Ytejcmcbpfnmlaaa

namespace Go.Proofs.Ytejcmcbpfnmlaaa
open Go.SE Go.RowKit
set_option linter.unusedSimpArgs false
set_option linter.unusedVariables false
set_option maxHeartbeats 1000000
set_option maxRecDepth 100000
/-! l3Atom -/
abbrev c_l3Atom : Con := ⟨[.atom], [.bool], fun _ => True, .inl fun (x, _) => (atV x, ()), fun _ => 0⟩
abbrev L_l3Atom : List (FuncId × Con) := [(104, c_l1Is)]
theorem vc_l3Atom (x : GAtom) (k : Nat) : vc tab (lookF L_l3Atom) (fun _ => none) (fun _ => []) (bodyOf Try.f126) (entry (encs c_l3Atom.aks (x, ())) (rdOf false k)) (retOk tab c_l3Atom Try.f126.results.toList (x, ()) k) := by
  dsimp only [bodyOf, Try.f126, rdOf]
  simp (maxSteps := 10000000) only [c_l3Atom, L_l3Atom, SE.lookF, c_l1Is, tab2, tab3, tab4, tab5, tab7, tab9, tab12, tab13, tab21, tab22, tab23, tab24, tab25, tab26, tab27, tab28, tab39, tab42, tab46, tab47, tab65, tab66, tab67, tab68, tab79, tab80, tab84, tab85, tab90, tab91, tab94, tab111, tab140, tab141, tab157, tab159, tab160, tab161, tab162, tab182, tab194, SE.entry, SE.envOf, SE.rdOf, Option.get_some, SE.vc, SE.vcReg, SE.vcLoop, SE.condK, SE.seqK, SE.blockK, SE.vcOps, SE.vcStep, SE.vcOp, SE.vcTr, SE.vcDet_some, SE.vcDet_none, SE.vcIf_true, SE.vcIf_false, SE.vcEach, SE.pickOps, SE.gslot, SE.trOp, SE.moveId, SE.trMove, SE.trPick, SE.trAlloc, SE.trBox, SE.trBuild, SE.trBuildSlice, SE.trLoad, SE.trStore, SE.trNilCheck, SE.trBin, SE.trUn, SE.trConvert, SE.trFieldAddr, SE.trField, SE.trIndexAddr, SE.trIndex, SE.trSlice, SE.trMakeSlice, SE.trExtract, SE.trLen, SE.trAppend, SE.trCopy, SE.trFn, SE.trCall, SE.argsS, SE.ev, SE.constS, SE.junk, SE.sv, SE.upd_app, SE.adds, SE.sets, SE.nid, SE.St.app, SE.St.put, SE.free, SE.freeL, SE.allFree, SE.rids, SE.AK.rids, SE.castL, SE.rdl, SE.AK.dec, SE.decs, SE.AK.enc, SE.encs, SE.AK.res, SE.ress, SE.pack1, SE.zcells, SE.zeroOf, SE.partCells, SE.putc, SE.fills, SE.datas, SE.elemOf, SE.elemsOf, SE.notSpent, SE.cellsAt, SE.weak, SE.dcellsAt, SE.slAt, SE.rdPlus, SE.intAt, SE.updElem, SE.kill, SE.noJunk, SE.inK, SE.binI, SE.shf, SE.isShift, SE.eqCells, SE.aggS, SE.intOp, SE.nested, SE.hasRdr, SE.refsC, SE.refsCs, SE.ownsC, SE.refsAr, SE.rdFits, SE.costIf, SE.Con.post, SE.Con.det, SE.Ty.cells, SE.Ty.sz, SE.Ty.zero, SE.Ty.flat, SE.Ty.dec, SE.retOk, SE.loadsS, SE.loadS, SE.decRs, SE.decR, SE.outC, SE.rdC, SE.allDiff, SE.notIn, SE.notFrozen, SE.apartL, SE.rdEnd, SE.firstReg, SE.headC, SE.fitsC, SE.idsC, SE.keepE, SE.keepM, SE.keepB, SE.inL, SE.puts, SE.ownRes, SE.ownEnv, SE.renL, SE.srcId, SE.lookR, SE.envSame, SE.envSets, SE.memSame, SE.memBlks, SE.memOwns, SE.famsOf, SE.allIn, SE.closedE, SE.closedV, SE.closedM, SE.closedR, SE.rdLe, SE.S.refs, SE.S0.refs, SE.CV.refs, SE.refsL, SE.refsT, SE.S.ren, SE.S0.ren, SE.CV.ren, SE.Res.refs, SE.Res.ren, min_i64, max_i64, min_u16, max_u16, min_u8, max_u8, min_u64, max_u64, S.s.injEq, S0.c.injEq, CV.d.injEq, DC.val.injEq, Value.int.injEq, Value.bool.injEq, Value.string.injEq, eta_fact, eta_atom, eta_asn, eta_state, List.mem_cons, List.mem_nil_iff, or_false, false_or, or_true, true_or, Option.map_some, Option.map_none, Option.bind_some, Option.getD_some, Option.getD_none, Nat.reduceEqDiff, Nat.reduceAdd, Nat.reduceMul, Nat.reduceLeDiff, ↓reduceIte, reduceCtorEq, true_and, and_true, and_self, forall_const, implies_true, true_implies, List.getElem?_toArray, List.getElem?_cons_succ, List.getElem?_cons_zero, List.append_nil, List.nil_append, List.cons_append, List.length_cons, List.length_nil, List.take_succ_cons, List.take_zero, List.drop_succ_cons, List.drop_zero, List.set_cons_zero, List.set_cons_succ, List.map_cons, List.map_nil, Nat.add_zero, Nat.zero_add, forall_eq, Prod.forall, Bool.not_true, Bool.not_false, Nat.lt_irrefl, Nat.zero_lt_succ, List.singleton_append, Prod.mk.injEq, Nat.zero_mul, Nat.one_mul, Nat.reducePow, Option.some.injEq, not_false_eq_true, Int.toNat_natCast, Nat.sub_zero, Nat.le_refl, Bool.or_false, Bool.false_or, Bool.or_true, Bool.true_or, Bool.and_true, Bool.true_and, Bool.and_false, Bool.false_and, Bool.or_self, Bool.and_self, List.append_eq, and_false, false_and]
  all_goals (try simp only [vcIf_iff, decide_eq_true_eq, decide_eq_false_iff_not, bne_iff_ne, ne_eq, beq_iff_eq, beq_eq_false_iff_ne, bne_eq_false_iff_eq, Bool.not_eq_true', Bool.not_eq_false', Int.ofNat_lt, Int.natCast_inj])
  all_goals (repeat' (first | apply And.intro | intro _))
  all_goals (first | omega | (simp_all; done) | grind [atV])
theorem ok_l3Atom : FnOk Try.prog E 126 c_l3Atom :=
  fn_ok (l := L_l3Atom) (perm := fun _ => []) tabOk mix ⟨ok_l1Is, trivial⟩ Try.func126 rfl (by kernel_rfl) (by decide) (by kernel_rfl) (anns := fun x _ => fun _ => none) (fun ⟨x, _⟩ k _ _ => vc_l3Atom x k) tot_fn
end Go.Proofs.Ytejcmcbpfnmlaaa
