/-
  Contracts of single functions of the program, each shown by the engine: what a call returns for arguments within the contract's bounds.
-/
import Derived.Test.YteoinddmoepbfaaFFnImpliesFacta
import Derived.Test.YteoinddmoepbfaaFFnImpliesFactd
import Derived.Test.YteoinddmoepbfaaEe
import Derived.Test.YteoinddmoepbfaaEf
import Derived.Test.YteoinddmoepbfaaEg
import Derived.Test.YteoinddmoepbfaaFFnImpliesFactc
import Derived.Test.YteoinddmoepbfaaFFnImpliesFactb
set_option linter.unusedSimpArgs false
set_option linter.unusedVariables false
set_option linter.unusedSectionVars false

namespace Go.Proofs.Yteoinddmoepbfaa
open Go.SE Go.RowKit
set_option linter.unusedSimpArgs false
set_option linter.unusedVariables false
set_option maxHeartbeats 1000000
set_option maxRecDepth 100000
/-! l5First -/
abbrev c_l5First : Con := ⟨[.asn, .sl .bool, .sl .int, .int], [.sl .int, .bool], fun (a, tm, c, t, _) => vA a = true ∧ tm.length = 9 ∧ c.length = 9 ∧ le8 c = true ∧ 1 ≤ t ∧ t ≤ 9, .inl fun (a, tm, c, t, _) => ((sQ (sFin a) a tm c t).headD [], !(sQ (sFin a) a tm c t).isEmpty, ()), fun _ => 0⟩
abbrev mu_l5First : Args c_l5First.aks → Nat := fun (a, tm, c, t, _) => (9 - t).toNat
abbrev L_l5First (m : Nat) : List (FuncId × Con) := [(64, c_l5First.lim mu_l5First m), (88, c_l5Filled), (118, c_l5Fits), (119, c_l5Early), (120, c_l5Apart)]
abbrev P_l5First : List (FuncId × PT) := []
def an_l5First (a : GAsn) (tm : List Bool) (c : List Int) (t : Int) : Nat → St → Option Ann
  | 10, se => some { α := Nat, ok := fun i => (i : Int) ≤ t + 1 ∧ ∀ j, j < i → brE (sFin a) a tm c t j = [], mu := fun i => (t + 1).toNat - i, i0 := fun _ => 0, nx := fun a _ => (fun i => i + 1) a, live := [1, 2, 3, 4], sets := fun i => [(10, sv (.int .i64 i))], mids := [79], blks := fun i => [], owns := fun i => [], rd := fun r _ => r, base := 100000 }
  | _, _ => none
def VC_l5First_1 (a : GAsn) (tm : List Bool) (c : List Int) (t : Int) (m : Nat) (k : Nat) (i1 : Nat) : Prop := (True ∧ (vcIf (decide (((i1 : Nat) : Int) < t)) (True ∧ True ∧ (0 ≤ ((i1 : Nat) : Int) ∧ ((i1 : Nat) : Int) < ((c.length : Nat) : Int)) ∧ True ∧ True ∧ True ∧ True ∧ (vcIf ((c.getD i1 (0 : Int)) != ((i1 : Nat) : Int)) (True ∧ (inK .i64 (((i1 : Nat) : Int) + (1 : Int))) ∧ True ∧ (((i1 + 1) : Int) ≤ t + 1 ∧ ∀ j, j < (i1 + 1) → brE (sFin a) a tm c t j = []) ∧ ((t + 1).toNat - (i1 + 1) < (t + 1).toNat - i1) ∧ TT ∧ (RL [.s (.c (.d (.arr .bool tm))), .s (.c (.d (.arr .int c))), .s (.c (.d (.val (.int .i64 t)))), .s (.c (.ptr 79 0))]) ∧ (([.s (.c (.d (.val (.int .i64 (((i1 : Nat) : Int) + (1 : Int))))))] : List S) = [.s (.c (.d (.val (.int .i64 (((i1 + 1) : Nat) : Int)))))]) ∧ (RM [some (.blk [.d (.arr .fact a.facts), .d (.arr .atom a.atoms)])]) ∧ (RM []) ∧ True ∧ TT) ((TN ∧ True) ∧ True ∧ (TN ∧ TF ∧ TF ∧ (([] : List Int).length + c.length ≤ 4294967296)) ∧ True ∧ True ∧ True ∧ True ∧ (0 ≤ t ∧ t < (((([] : List Int) ++ c).length : Nat) : Int)) ∧ (TF ∧ TF ∧ True ∧ ((101104 : Nat) ∉ ([] : List Nat))) ∧ True ∧ True ∧ True ∧ True ∧ (inK .i64 (t + (1 : Int))) ∧ (((vA a = true ∧ tm.length = 9 ∧ ((([] : List Int) ++ c).set t.toNat ((i1 : Nat) : Int)).length = 9 ∧ le8 ((([] : List Int) ++ c).set t.toNat ((i1 : Nat) : Int)) = true ∧ 1 ≤ (t + (1 : Int)) ∧ (t + (1 : Int)) ≤ 9) ∧ (9 - (t + (1 : Int))).toNat < m) ∧ True ∧ TN ∧ True) ∧ True ∧ True ∧ True ∧ True ∧ True ∧ True ∧ (vcIf (!(sQ (sFin a) a tm ((([] : List Int) ++ c).set t.toNat ((i1 : Nat) : Int)) (t + (1 : Int))).isEmpty) (True ∧ True ∧ True ∧ (((((sQ (sFin a) a tm ((([] : List Int) ++ c).set t.toNat ((i1 : Nat) : Int)) (t + (1 : Int))).headD []), true, ()) : (List Int) × Bool × Unit) = ((sQ (sFin a) a tm c t).headD [], !(sQ (sFin a) a tm c t).isEmpty, ())) ∧ (True ∧ True) ∧ ((TF ∧ TF) ∧ True) ∧ True ∧ (True ∧ True) ∧ TF) (True ∧ (inK .i64 (((i1 : Nat) : Int) + (1 : Int))) ∧ True ∧ (((i1 + 1) : Int) ≤ t + 1 ∧ ∀ j, j < (i1 + 1) → brE (sFin a) a tm c t j = []) ∧ ((t + 1).toNat - (i1 + 1) < (t + 1).toNat - i1) ∧ TT ∧ (RL [.s (.c (.d (.arr .bool tm))), .s (.c (.d (.arr .int c))), .s (.c (.d (.val (.int .i64 t)))), .s (.c (.ptr 79 0))]) ∧ (([.s (.c (.d (.val (.int .i64 (((i1 : Nat) : Int) + (1 : Int))))))] : List S) = [.s (.c (.d (.val (.int .i64 (((i1 + 1) : Nat) : Int)))))]) ∧ (RM [some (.blk [.d (.arr .fact a.facts), .d (.arr .atom a.atoms)])]) ∧ (RM []) ∧ True ∧ TT))))) (True ∧ (TN ∧ True) ∧ True ∧ (TN ∧ TF ∧ TF ∧ (([] : List Int).length + c.length ≤ 4294967296)) ∧ True ∧ True ∧ True ∧ True ∧ (0 ≤ t ∧ t < (((([] : List Int) ++ c).length : Nat) : Int)) ∧ (TF ∧ TF ∧ True ∧ ((101104 : Nat) ∉ ([] : List Nat))) ∧ True ∧ True ∧ True ∧ True ∧ (inK .i64 (t + (1 : Int))) ∧ (((vA a = true ∧ tm.length = 9 ∧ ((([] : List Int) ++ c).set t.toNat ((i1 : Nat) : Int)).length = 9 ∧ le8 ((([] : List Int) ++ c).set t.toNat ((i1 : Nat) : Int)) = true ∧ 1 ≤ (t + (1 : Int)) ∧ (t + (1 : Int)) ≤ 9) ∧ (9 - (t + (1 : Int))).toNat < m) ∧ True ∧ TN ∧ True) ∧ True ∧ True ∧ True ∧ True ∧ True ∧ True ∧ (vcIf (!(sQ (sFin a) a tm ((([] : List Int) ++ c).set t.toNat ((i1 : Nat) : Int)) (t + (1 : Int))).isEmpty) (True ∧ True ∧ True ∧ (((((sQ (sFin a) a tm ((([] : List Int) ++ c).set t.toNat ((i1 : Nat) : Int)) (t + (1 : Int))).headD []), true, ()) : (List Int) × Bool × Unit) = ((sQ (sFin a) a tm c t).headD [], !(sQ (sFin a) a tm c t).isEmpty, ())) ∧ (True ∧ True) ∧ ((TF ∧ TF) ∧ True) ∧ True ∧ (True ∧ True) ∧ TF) (True ∧ (inK .i64 (((i1 : Nat) : Int) + (1 : Int))) ∧ True ∧ (((i1 + 1) : Int) ≤ t + 1 ∧ ∀ j, j < (i1 + 1) → brE (sFin a) a tm c t j = []) ∧ ((t + 1).toNat - (i1 + 1) < (t + 1).toNat - i1) ∧ TT ∧ (RL [.s (.c (.d (.arr .bool tm))), .s (.c (.d (.arr .int c))), .s (.c (.d (.val (.int .i64 t)))), .s (.c (.ptr 79 0))]) ∧ (([.s (.c (.d (.val (.int .i64 (((i1 : Nat) : Int) + (1 : Int))))))] : List S) = [.s (.c (.d (.val (.int .i64 (((i1 + 1) : Nat) : Int)))))]) ∧ (RM [some (.blk [.d (.arr .fact a.facts), .d (.arr .atom a.atoms)])]) ∧ (RM []) ∧ True ∧ TT)))))
def VC_l5First_2 (a : GAsn) (tm : List Bool) (c : List Int) (t : Int) (m : Nat) (k : Nat) : Prop := (True ∧ ((a.facts.length ≤ 1048576 ∧ a.facts.all fV = true ∧ c.length = 9) ∧ True ∧ True) ∧ True ∧ True ∧ (vcIf (!(sFit a.facts c)) (True ∧ (TN ∧ True) ∧ True ∧ True ∧ (((([] : List Int), false, ()) : (List Int) × Bool × Unit) = ((sQ (sFin a) a tm c t).headD [], !(sQ (sFin a) a tm c t).isEmpty, ())) ∧ (True ∧ True) ∧ ((TF ∧ TF) ∧ True) ∧ True ∧ (True ∧ True) ∧ TF) (True ∧ True ∧ True ∧ ((a.atoms.length ≤ 1048576 ∧ a.atoms.all atV = true ∧ c.length = 9 ∧ le8 c = true) ∧ True ∧ True) ∧ True ∧ True ∧ (vcIf (!(sEarly a.atoms c)) ((TN ∧ True) ∧ True ∧ True ∧ (((([] : List Int), false, ()) : (List Int) × Bool × Unit) = ((sQ (sFin a) a tm c t).headD [], !(sQ (sFin a) a tm c t).isEmpty, ())) ∧ (True ∧ True) ∧ ((TF ∧ TF) ∧ True) ∧ True ∧ (True ∧ True) ∧ TF) (True ∧ True ∧ (vcIf (decide ((8 : Int) < t)) (True ∧ True ∧ True ∧ ((a.atoms.length ≤ 1048576 ∧ a.atoms.all atV = true ∧ c.length = 9) ∧ True ∧ TN ∧ True) ∧ (((fL c a.atoms).length ≤ 1048576) ∧ True ∧ True) ∧ (vcIf (sApart (fL c a.atoms)) ((TN ∧ True) ∧ True ∧ (TN ∧ TF ∧ TF ∧ (([] : List Int).length + c.length ≤ 4294967296)) ∧ True ∧ True ∧ (((([] : List Int) ++ c, true, ()) : (List Int) × Bool × Unit) = ((sQ (sFin a) a tm c t).headD [], !(sQ (sFin a) a tm c t).isEmpty, ())) ∧ (True ∧ True) ∧ ((TF ∧ TF) ∧ True) ∧ True ∧ (True ∧ True) ∧ TF) ((TN ∧ True) ∧ True ∧ True ∧ (((([] : List Int), false, ()) : (List Int) × Bool × Unit) = ((sQ (sFin a) a tm c t).headD [], !(sQ (sFin a) a tm c t).isEmpty, ())) ∧ (True ∧ True) ∧ ((TF ∧ TF) ∧ True) ∧ True ∧ (True ∧ True) ∧ TF))) (True ∧ True ∧ (0 ≤ t ∧ t < ((tm.length : Nat) : Int)) ∧ True ∧ True ∧ (vcIf (!(tm.getD t.toNat false)) (True ∧ True ∧ True ∧ True ∧ (inK .i64 (t + (1 : Int))) ∧ (((vA a = true ∧ tm.length = 9 ∧ c.length = 9 ∧ le8 c = true ∧ 1 ≤ (t + (1 : Int)) ∧ (t + (1 : Int)) ≤ 9) ∧ (9 - (t + (1 : Int))).toNat < m) ∧ True ∧ TN ∧ True) ∧ True ∧ True ∧ True ∧ True ∧ (((((sQ (sFin a) a tm c (t + (1 : Int))).headD []), (!(sQ (sFin a) a tm c (t + (1 : Int))).isEmpty), ()) : (List Int) × Bool × Unit) = ((sQ (sFin a) a tm c t).headD [], !(sQ (sFin a) a tm c t).isEmpty, ())) ∧ (True ∧ True) ∧ ((TF ∧ TF) ∧ True) ∧ True ∧ (True ∧ True) ∧ TF) (True ∧ (((0 : Int) ≤ t + 1 ∧ ∀ j, j < 0 → brE (sFin a) a tm c t j = []) ∧ TT ∧ (RL [.s (.c (.d (.arr .bool tm))), .s (.c (.d (.arr .int c))), .s (.c (.d (.val (.int .i64 t)))), .s (.c (.ptr 79 0))]) ∧ (([.s (.c (.d (.val (.int .i64 (0 : Int)))))] : List S) = [.s (.c (.d (.val (.int .i64 ((0 : Nat) : Int)))))]) ∧ (RM [some (.blk [.d (.arr .fact a.facts), .d (.arr .atom a.atoms)])]) ∧ (RM []) ∧ True ∧ TT) ∧ (∀ i1 : Nat, ((i1 : Int) ≤ t + 1 ∧ ∀ j, j < i1 → brE (sFin a) a tm c t j = []) → True ∧ True ∧ True ∧ (vcIf (decide (((i1 : Nat) : Int) ≤ t)) (True ∧ True ∧ True ∧ (VC_l5First_1 a tm c t m k i1)) ((TN ∧ True) ∧ True ∧ True ∧ (((([] : List Int), false, ()) : (List Int) × Bool × Unit) = ((sQ (sFin a) a tm c t).headD [], !(sQ (sFin a) a tm c t).isEmpty, ())) ∧ (True ∧ True) ∧ ((TF ∧ TF) ∧ True) ∧ True ∧ (True ∧ True) ∧ TF))))))))))))
def VC_l5First (a : GAsn) (tm : List Bool) (c : List Int) (t : Int) (m : Nat) (k : Nat) : Prop := TN ∧ TN ∧ True ∧ True ∧ True ∧ (VC_l5First_2 a tm c t m k)
theorem vcn_l5First (a : GAsn) (tm : List Bool) (c : List Int) (t : Int) (m : Nat) (k : Nat) (hp : (vA a = true ∧ tm.length = 9 ∧ c.length = 9 ∧ le8 c = true ∧ 1 ≤ t ∧ t ≤ 9) ∧ (9 - t).toNat < m + 1) : VC_l5First a tm c t m k := by
  unfold VC_l5First VC_l5First_2 VC_l5First_1
  simp only [TT, TF, TN, RL, RM, true_and, and_true, eq_self, implies_true, forall_const, List.cons.injEq, S.s.injEq, S0.c.injEq, S0.agg.injEq, CV.d.injEq, CV.own.injEq, CV.ptr.injEq, DC.val.injEq, Value.int.injEq, Value.bool.injEq, Option.some.injEq, Res.blk.injEq, Prod.mk.injEq, inK, min_i64, max_i64, min_u16, max_u16, min_u8, max_u8, min_u64, max_u64, vcIf_true, vcIf_false, List.mem_nil_iff, List.not_mem_nil, not_false_eq_true, Nat.reduceEqDiff, Nat.reduceLeDiff, ne_eq, Bool.and_true, Nat.add_zero, List.append_nil, List.nil_append, List.length_nil, List.length_cons, Nat.zero_add, Nat.reduceAdd, Int.toNat_natCast, Nat.sub_zero, List.drop_zero, List.map_nil, List.take_zero, forall_eq]
  have hV := vA_iff.1 hp.1.1
  have hA : (fL c a.atoms).length ≤ 1048576 := Nat.le_trans (fL_len _ _) (Nat.le_trans hV.2.2.2 (by decide))
  all_goals (try simp only [vcIf_iff, decide_eq_true_eq, decide_eq_false_iff_not, bne_iff_ne, ne_eq, beq_iff_eq, beq_eq_false_iff_ne, bne_eq_false_iff_eq, Bool.not_eq_true', Bool.not_eq_false', Int.ofNat_lt, Int.natCast_inj])
  all_goals (repeat' (first | apply And.intro | intro _))
  all_goals (repeat (cases ‹_ ∧ _›))
  all_goals (first | omega | rfl | assumption | (simp_all; done) | skip)
  all_goals (first
   | exact hV.1 | exact hV.2.1 | exact Nat.le_trans hV.2.2.1 (by decide) | exact Nat.le_trans hV.2.2.2 (by decide) | exact Nat.le_trans (fL_len _ _) (Nat.le_trans hV.2.2.2 (by decide))
   | (rw [fits_no1 (by assumption)]; rfl) | (rw [fits_no2 (by assumption)]; rfl)
   | (rw [last_yes (by assumption) (by assumption) (by assumption) (by assumption)]; rfl) | (rw [last_no (by assumption) (by assumption) (by assumption) (by assumption)]; rfl)
   | (rw [sQ_skip (t := t) (by assumption) (by omega) (fits_yes (by assumption) (by assumption)) (by assumption)]; done)
   | exact brE_skip (by assumption) (by assumption) (by assumption) _ (by assumption)
   | exact brE_none (by assumption) (by assumption) _ (by assumption)
   | exact le8_set (by assumption) (by omega)
   | exact (sQ_hit (by assumption) (by omega) (fits_yes (by assumption) (by assumption)) (by assumption) (by assumption) (by assumption) (.inr (by assumption)) (by assumption)).1.symm
   | exact (sQ_hit (by assumption) (by omega) (fits_yes (by assumption) (by assumption)) (by assumption) (by assumption) (by assumption) (.inl (by omega)) (by assumption)).1.symm
   | (rw [(sQ_hit (by assumption) (by omega) (fits_yes (by assumption) (by assumption)) (by assumption) (by assumption) (by assumption) (.inr (by assumption)) (by assumption)).2]; rfl)
   | (rw [(sQ_hit (by assumption) (by omega) (fits_yes (by assumption) (by assumption)) (by assumption) (by assumption) (by assumption) (.inl (by omega)) (by assumption)).2]; rfl)
   | (rw [sQ_none (by assumption) (by omega) (fits_yes (by assumption) (by assumption)) (by assumption) (by assumption) (by assumption)]; rfl)
   | skip)
theorem vce_l5First (a : GAsn) (tm : List Bool) (c : List Int) (t : Int) (m : Nat) (k : Nat) : VC_l5First a tm c t m k = vcQ tab (lookF (L_l5First m)) (lookP P_l5First) (fun _ => false) (fun _ => none) (an_l5First a tm c t) (fun _ => []) (bodyOf Try.f64) (entry (encs c_l5First.aks (a, tm, c, t, ())) (rdOf false k)) (retOk tab (c_l5First.lim mu_l5First (m + 1)) Try.f64.results.toList (a, tm, c, t, ()) k) := by kernel_rfl
theorem ok_l5First : FnOk Try.prog E 64 c_l5First :=
  fn_rec (mu := mu_l5First) (fun m ih => fn_okQ (con := c_l5First.lim mu_l5First (m + 1)) (fn := Try.f64) (l := L_l5First m) (lp := P_l5First) (hp := fun _ => false) (gcs := fun _ => none) (perm := fun _ => []) tabOk mix ⟨ih, ok_l5Filled, ok_l5Fits, ok_l5Early, ok_l5Apart, trivial⟩ trivial Try.func64 rfl (by kernel_rfl) (show c_l5First.aks.length ≤ Try.f64.ntmps by decide) (by kernel_rfl) (anns := fun x _ => an_l5First x.1 x.2.1 x.2.2.1 x.2.2.2.1) (fun ⟨a, tm, c, t, _⟩ k hp _ => (vce_l5First a tm c t m k).mp (vcn_l5First a tm c t m k hp)) tot_fn) ⟨_, _, Try.func64, by kernel_rfl, rfl⟩ tot_fn
end Go.Proofs.Yteoinddmoepbfaa

namespace Go.Proofs.Yteoinddmoepbfaa
open Go.SE Go.RowKit
set_option linter.unusedSimpArgs false
set_option linter.unusedVariables false
set_option maxHeartbeats 1000000
set_option maxRecDepth 100000
/-! l5Open -/
abbrev c_l5Open : Con := ⟨[], [.sl .int], fun _ => True, .inl fun _ => (opens, ()), fun _ => 0⟩
abbrev L_l5Open : List (FuncId × Con) := []
abbrev P_l5Open : List (FuncId × PT) := []
def an_l5Open  : Nat → St → Option Ann
  | 2, se => some { α := Nat, ok := fun i => i ≤ 8, mu := fun i => 8 - i, i0 := fun _ => 0, nx := fun a _ => (fun i => i + 1) a, live := [0], sets := fun i => [], mids := [0], blks := fun i => [], owns := fun i => [⟨7, .slot 1, .int, 0 :: List.replicate i (-1)⟩], rd := fun r _ => r, base := 100000 }
  | _, _ => none
def VC_l5Open (k : Nat) : Prop := TN ∧ (TN ∧ True) ∧ True ∧ ((0 ≤ 8) ∧ TT ∧ (RL [.s (.c (.own 0))]) ∧ (RL []) ∧ (RM [some (.sl 0 .int ([] : List Int))]) ∧ (RM []) ∧ (((some ([(0 : Int)] : List Int) : Option (List Int)) = some (0 :: List.replicate 0 (-1))) ∧ True) ∧ TT) ∧ (∀ i1 : Nat, (i1 ≤ 8) → True ∧ True ∧ True ∧ (vcIf (decide ((((0 :: List.replicate i1 (-1)).length : Nat) : Int) ≤ (8 : Int))) (True ∧ (TN ∧ True) ∧ (TN ∧ TF ∧ TF ∧ ((0 :: List.replicate i1 (-1)).length + ([(-1 : Int)] : List Int).length ≤ 4294967296)) ∧ True ∧ ((i1 + 1) ≤ 8) ∧ (8 - (i1 + 1) < 8 - i1) ∧ TT ∧ (RL [.s (.c (.own 0))]) ∧ (RL []) ∧ (RM [some (.sl 0 .int ([] : List Int))]) ∧ (RM []) ∧ (((some ((0 :: List.replicate i1 (-1)) ++ ([(-1 : Int)] : List Int)) : Option (List Int)) = some (0 :: List.replicate (i1 + 1) (-1))) ∧ True) ∧ TT) (True ∧ True ∧ (((0 :: List.replicate i1 (-1), ()) : (List Int) × Unit) = (opens, ())) ∧ (True ∧ True) ∧ ((TF ∧ TF) ∧ True) ∧ True ∧ (True ∧ True) ∧ TF)))
theorem vcn_l5Open  (k : Nat) : VC_l5Open  k := by
  unfold VC_l5Open
  simp only [TT, TF, TN, RL, RM, true_and, and_true, eq_self, implies_true, forall_const, List.cons.injEq, S.s.injEq, S0.c.injEq, S0.agg.injEq, CV.d.injEq, CV.own.injEq, CV.ptr.injEq, DC.val.injEq, Value.int.injEq, Value.bool.injEq, Option.some.injEq, Res.blk.injEq, Prod.mk.injEq, inK, min_i64, max_i64, min_u16, max_u16, min_u8, max_u8, min_u64, max_u64, vcIf_true, vcIf_false, List.mem_nil_iff, List.not_mem_nil, not_false_eq_true, Nat.reduceEqDiff, Nat.reduceLeDiff, ne_eq, Bool.and_true, Nat.add_zero, List.append_nil, List.nil_append, List.length_nil, List.length_cons, Nat.zero_add, Nat.reduceAdd, Int.toNat_natCast, Nat.sub_zero, List.drop_zero, List.map_nil, List.take_zero, forall_eq]
  all_goals (try simp only [vcIf_iff, decide_eq_true_eq, decide_eq_false_iff_not, bne_iff_ne, ne_eq, beq_iff_eq, beq_eq_false_iff_ne, bne_eq_false_iff_eq, Bool.not_eq_true', Bool.not_eq_false', Int.ofNat_lt, Int.natCast_inj])
  all_goals (repeat' (first | apply And.intro | intro _))
  all_goals (repeat (cases ‹_ ∧ _›))
  all_goals (first | omega | rfl | assumption | (simp_all; done) | skip)
  all_goals (first
   | exact open_lt (by assumption) | (have h1 := open_lt (by assumption); omega) | (rw [List.replicate_succ']; rfl) | exact open_end (by assumption) (by assumption) | skip)
theorem vce_l5Open  (k : Nat) : VC_l5Open  k = vcQ tab (lookF L_l5Open) (lookP P_l5Open) (fun _ => false) (fun _ => none) (an_l5Open ) (fun _ => []) (bodyOf Try.f65) (entry (encs c_l5Open.aks ()) (rdOf false k)) (retOk tab c_l5Open Try.f65.results.toList () k) := by kernel_rfl
theorem vc_l5Open  (k : Nat) : vcQ tab (lookF L_l5Open) (lookP P_l5Open) (fun _ => false) (fun _ => none) (an_l5Open ) (fun _ => []) (bodyOf Try.f65) (entry (encs c_l5Open.aks ()) (rdOf false k)) (retOk tab c_l5Open Try.f65.results.toList () k) := (vce_l5Open  k).mp (vcn_l5Open  k)
theorem ok_l5Open : FnOk Try.prog E 65 c_l5Open :=
  fn_okQ (l := L_l5Open) (lp := P_l5Open) (hp := fun _ => false) (gcs := fun _ => none) (perm := fun _ => []) tabOk mix trivial trivial Try.func65 rfl (by kernel_rfl) (by decide) (by kernel_rfl) (anns := fun x _ => an_l5Open ) (fun _ k _ _ => vc_l5Open  k) tot_fn
end Go.Proofs.Yteoinddmoepbfaa

namespace Go.Proofs.Yteoinddmoepbfaa
open Go.SE Go.RowKit
set_option linter.unusedSimpArgs false
set_option linter.unusedVariables false
set_option maxHeartbeats 1000000
set_option maxRecDepth 100000
/-! sImplies -/
abbrev c_sImplies : Con := ⟨[.asn, .fact], [.bool], fun (a, f, _) => a.facts.length ≤ 281474976710656 ∧ a.atoms.length ≤ 281474976710656, .inl fun (a, f, _) => (IMP a f, ()), fun _ => 0⟩
abbrev L_sImplies : List (FuncId × Con) := [(61, c_sAssertionValid), (62, c_sFactValid), (63, c_l3Terms), (64, c_l5First), (65, c_l5Open)]
abbrev P_sImplies : List (FuncId × PT) := []
def VC_sImplies (a : GAsn) (f : GFact) (k : Nat) : Prop := TN ∧ TN ∧ True ∧ True ∧ ((a.facts.length ≤ 281474976710656 ∧ a.atoms.length ≤ 281474976710656) ∧ True ∧ True) ∧ True ∧ True ∧ (vcIf (!(asV a)) (True ∧ True ∧ (((false, ()) : Bool × Unit) = (IMP a f, ())) ∧ True ∧ True ∧ True ∧ True ∧ TF) (True ∧ (True ∧ True ∧ True) ∧ True ∧ True ∧ (vcIf (!(fV f)) (True ∧ (((false, ()) : Bool × Unit) = (IMP a f, ())) ∧ True ∧ True ∧ True ∧ True ∧ TF) (True ∧ ((asV a = true) ∧ True ∧ TN ∧ True) ∧ True ∧ True ∧ True ∧ True ∧ (0 ≤ f.a ∧ f.a < (((fl9 (occ a)).length : Nat) : Int)) ∧ (TF ∧ TF ∧ True ∧ ((288 : Nat) ∉ ([] : List Nat))) ∧ True ∧ True ∧ True ∧ (0 ≤ f.b ∧ f.b < ((((fl9 (occ a)).set f.a.toNat true).length : Nat) : Int)) ∧ (TF ∧ TF ∧ True ∧ ((288 : Nat) ∉ ([] : List Nat))) ∧ True ∧ True ∧ True ∧ True ∧ True ∧ True ∧ True ∧ True ∧ (TN ∧ True) ∧ (TF ∧ TF) ∧ (TN ∧ True) ∧ True ∧ True ∧ (TN ∧ TF ∧ TF ∧ (([] : List GFact).length + a.facts.length ≤ 4294967296)) ∧ True ∧ (TN ∧ True) ∧ (TN ∧ TF ∧ TF ∧ ((([] : List GFact) ++ a.facts).length + ([(⟨!f.eq, f.a, f.b⟩ : GFact)] : List GFact).length ≤ 4294967296)) ∧ True ∧ True ∧ (TN ∧ TN ∧ True) ∧ True ∧ (True ∧ True ∧ TN ∧ True) ∧ ((vA (⟨(([] : List GFact) ++ a.facts) ++ ([(⟨!f.eq, f.a, f.b⟩ : GFact)] : List GFact), a.atoms⟩ : GAsn) = true ∧ (((fl9 (occ a)).set f.a.toNat true).set f.b.toNat true).length = 9 ∧ opens.length = 9 ∧ le8 opens = true ∧ 1 ≤ (1 : Int) ∧ (1 : Int) ≤ 9) ∧ True ∧ TN ∧ True) ∧ True ∧ True ∧ True ∧ True ∧ True ∧ True ∧ True ∧ True ∧ (((!(!(sQ (sFin (⟨(([] : List GFact) ++ a.facts) ++ ([(⟨!f.eq, f.a, f.b⟩ : GFact)] : List GFact), a.atoms⟩ : GAsn)) (⟨(([] : List GFact) ++ a.facts) ++ ([(⟨!f.eq, f.a, f.b⟩ : GFact)] : List GFact), a.atoms⟩ : GAsn) (((fl9 (occ a)).set f.a.toNat true).set f.b.toNat true) opens (1 : Int)).isEmpty), ()) : Bool × Unit) = (IMP a f, ())) ∧ True ∧ True ∧ True ∧ True ∧ TF))))
theorem vcn_sImplies (a : GAsn) (f : GFact) (k : Nat) (hp : a.facts.length ≤ 281474976710656 ∧ a.atoms.length ≤ 281474976710656) : VC_sImplies a f k := by
  unfold VC_sImplies
  simp only [TT, TF, TN, RL, RM, true_and, and_true, eq_self, implies_true, forall_const, List.cons.injEq, S.s.injEq, S0.c.injEq, S0.agg.injEq, CV.d.injEq, CV.own.injEq, CV.ptr.injEq, DC.val.injEq, Value.int.injEq, Value.bool.injEq, Option.some.injEq, Res.blk.injEq, Prod.mk.injEq, inK, min_i64, max_i64, min_u16, max_u16, min_u8, max_u8, min_u64, max_u64, vcIf_true, vcIf_false, List.mem_nil_iff, List.not_mem_nil, not_false_eq_true, Nat.reduceEqDiff, Nat.reduceLeDiff, ne_eq, Bool.and_true, Nat.add_zero, List.append_nil, List.nil_append, List.length_nil, List.length_cons, Nat.zero_add, Nat.reduceAdd, Int.toNat_natCast, Nat.sub_zero, List.drop_zero, List.map_nil, List.take_zero, forall_eq]
  try unfold IMP
  all_goals (try simp only [vcIf_iff, decide_eq_true_eq, decide_eq_false_iff_not, bne_iff_ne, ne_eq, beq_iff_eq, beq_eq_false_iff_ne, bne_eq_false_iff_eq, Bool.not_eq_true', Bool.not_eq_false', Int.ofNat_lt, Int.natCast_inj])
  all_goals (repeat' (first | apply And.intro | intro _))
  all_goals (repeat (cases ‹_ ∧ _›))
  all_goals (first | omega | rfl | assumption | (simp_all; done) | skip)
  all_goals (have hf := (by assumption : fV f = true); have ha := (by assumption : asV a = true); have hs := asV_facts ha; have h1 := isT_iff.1 (fV_isT hf).1; have h2 := isT_iff.1 (fV_isT hf).2; have hl := fl9_len (occ a))
  all_goals (first
   | omega | (simp only [List.length_set]; omega) | exact vA_add (f := negF f) ha hf
   | (have e := sImpl ha hf (p := fun t => occ a t || qF f t) (fun k _ _ => rfl); rw [fl9_two hf, Bool.not_not, ha, hf]; exact e)
   | skip)
theorem vce_sImplies (a : GAsn) (f : GFact) (k : Nat) : VC_sImplies a f k = vcQ tab (lookF L_sImplies) (lookP P_sImplies) (fun _ => false) (fun _ => none) (fun _ _ => none) (fun _ => []) (bodyOf Try.f17) (entry (encs c_sImplies.aks (a, f, ())) (rdOf false k)) (retOk tab c_sImplies Try.f17.results.toList (a, f, ()) k) := by kernel_rfl
theorem vc_sImplies (a : GAsn) (f : GFact) (k : Nat) (hp : a.facts.length ≤ 281474976710656 ∧ a.atoms.length ≤ 281474976710656) : vcQ tab (lookF L_sImplies) (lookP P_sImplies) (fun _ => false) (fun _ => none) (fun _ _ => none) (fun _ => []) (bodyOf Try.f17) (entry (encs c_sImplies.aks (a, f, ())) (rdOf false k)) (retOk tab c_sImplies Try.f17.results.toList (a, f, ()) k) := (vce_sImplies a f k).mp (vcn_sImplies a f k hp)
theorem ok_sImplies : FnOk Try.prog E 17 c_sImplies :=
  fn_okQ (l := L_sImplies) (lp := P_sImplies) (hp := fun _ => false) (gcs := fun _ => none) (perm := fun _ => []) tabOk mix ⟨ok_sAssertionValid, ok_sFactValid, ok_l3Terms, ok_l5First, ok_l5Open, trivial⟩ trivial Try.func17 rfl (by kernel_rfl) (by decide) (by kernel_rfl) (anns := fun x _ => fun _ _ => none) (fun ⟨a, f, _⟩ k hp _ => vc_sImplies a f k hp) tot_fn
end Go.Proofs.Yteoinddmoepbfaa

namespace Go.Proofs.Yteoinddmoepbfaa
open Go.SE Go.RowKit
set_option linter.unusedSimpArgs false
set_option linter.unusedVariables false
set_option maxHeartbeats 1000000
set_option maxRecDepth 100000
/-! firstCase -/
abbrev c_firstCase : Con := ⟨[.asn], [.kase, .bool], fun (a, _) => asV a = true, .inl fun (a, _) => ((casesF a).headD (List.replicate 9 0), !(casesF a).isEmpty, ()), fun _ => 0⟩
abbrev L_firstCase : List (FuncId × Con) := []
abbrev P_firstCase : List (FuncId × PT) := [(58, pt_possibleCases)]
def hp_firstCase : Nat → Bool
  | 1 => true
  | _ => false
def ra_firstCase (a : GAsn) : St → Option RAnn := fun se => some ⟨fun _ => false, [2, 3], [47, 63], fun i => [], [47, 63], fun i => [], fun i => [], 300000⟩
def VC_firstCase (a : GAsn) (k : Nat) : Prop := TT ∧ TN ∧ (TN ∧ True) ∧ (TN ∧ True) ∧ TT ∧ True ∧ ((2 : Nat) ≤ 12) ∧ TN ∧ True ∧ True ∧ ((a.facts.length ≤ 281474976710656 ∧ a.atoms.length ≤ 281474976710656) ∧ True ∧ True) ∧ ((0 ≤ (tsA a) ∧ (tsA a) < 512) ∧ True ∧ True) ∧ True ∧ True ∧ (TN ∧ True) ∧ (TF ∧ TF) ∧ True ∧ True ∧ ((((114 : Nat) = 114) ∧ ((none : Option Nat) = none) ∧ (itPre a (bits .or .u16 (tsWith (tsA a) (0 : Int)) (0 : Int)))) ∧ TT ∧ TT ∧ (RL [.s (.c (.ptr 47 0)), .s (.c (.ptr 63 0))]) ∧ (RL []) ∧ (RM [some (.vec .int (List.replicate 9 (0 : Int))), some (.blk [.d (.val (.bool false))])]) ∧ (RM []) ∧ True ∧ TT) ∧ (∀ i1 : Nat, ∀ c2_0 : Int, ∀ c2_1 : Int, ∀ c2_2 : Int, ∀ c2_3 : Int, ∀ c2_4 : Int, ∀ c2_5 : Int, ∀ c2_6 : Int, ∀ c2_7 : Int, ∀ c2_8 : Int, ((itEn a (bits .or .u16 (tsWith (tsA a) (0 : Int)) (0 : Int)))[i1]? = some ([c2_0, c2_1, c2_2, c2_3, c2_4, c2_5, c2_6, c2_7, c2_8] : List Int)) → (((itEn a (bits .or .u16 (tsWith (tsA a) (0 : Int)) (0 : Int))).take i1).all (fun _ => false) = true) → TT ∧ (TN ∧ True) ∧ ((([c2_0, c2_1, c2_2, c2_3, c2_4, c2_5, c2_6, c2_7, c2_8] : List Int).length = (List.replicate 9 (0 : Int)).length) ∧ TF ∧ TF) ∧ ((none : Option Nat) = none) ∧ TT ∧ (9 = ([c2_0, c2_1, c2_2, c2_3, c2_4, c2_5, c2_6, c2_7, c2_8] : List Int).length * 1) ∧ ((([c2_0, c2_1, c2_2, c2_3, c2_4, c2_5, c2_6, c2_7, c2_8] : List Int).length = (List.replicate 9 (0 : Int)).length) ∧ TF ∧ TF) ∧ (TF ∧ TF) ∧ (false = false) ∧ ((none : Option Nat) = none) ∧ ((none : Option Nat) = none) ∧ (((([c2_0, c2_1, c2_2, c2_3, c2_4, c2_5, c2_6, c2_7, c2_8] : List Int), true, ()) : (List Int) × Bool × Unit) = ((casesF a).headD (List.replicate 9 0), !(casesF a).isEmpty, ())) ∧ True ∧ True ∧ True ∧ True ∧ TF) ∧ (((itEn a (bits .or .u16 (tsWith (tsA a) (0 : Int)) (0 : Int))).all (fun _ => false) = true) → TT ∧ True ∧ (((List.replicate 9 (0 : Int)).length = (List.replicate 9 (0 : Int)).length) ∧ TF ∧ TF) ∧ (TF ∧ TF) ∧ ((none : Option Nat) = none) ∧ (((List.replicate 9 (0 : Int), false, ()) : (List Int) × Bool × Unit) = ((casesF a).headD (List.replicate 9 0), !(casesF a).isEmpty, ())) ∧ True ∧ True ∧ True ∧ True ∧ TF)
theorem vcn_firstCase (a : GAsn) (k : Nat) (hp : asV a = true) : VC_firstCase a k := by
  unfold VC_firstCase
  simp only [TT, TF, TN, RL, RM, true_and, and_true, eq_self, implies_true, forall_const, List.cons.injEq, S.s.injEq, S0.c.injEq, S0.agg.injEq, CV.d.injEq, CV.own.injEq, CV.ptr.injEq, DC.val.injEq, Value.int.injEq, Value.bool.injEq, Option.some.injEq, Res.blk.injEq, Prod.mk.injEq, inK, min_i64, max_i64, min_u16, max_u16, min_u8, max_u8, min_u64, max_u64, vcIf_true, vcIf_false, List.mem_nil_iff, List.not_mem_nil, not_false_eq_true, Nat.reduceEqDiff, Nat.reduceLeDiff, ne_eq, Bool.and_true, Nat.add_zero, List.append_nil, List.nil_append, List.length_nil, List.length_cons, Nat.zero_add, Nat.reduceAdd, Int.toNat_natCast, Nat.sub_zero, List.drop_zero, List.map_nil, List.take_zero, forall_eq]
  have hs := asV_small hp
  have hb := tsA_bd a
  have hw := tsWith_bd (t := 0) hb.1 hb.2
  have ho := tsOr hw.1 hw.2 (y := 0) (by decide) (by decide)
  have hi := itEn_or hp (s := 0) (by decide) (by decide)
  rw [itEn_zero hp]
  all_goals (repeat' (first | apply And.intro | intro _))
  all_goals (first | omega | assumption | rfl | exact hs.1 | exact hs.2 | exact hi.2 | (rw [itEn_zero hp] at *; exact hi.2) | exact ho.1 | exact ho.2.1 | (simp_all; done) | exact (head_hit (by assumption) (by assumption)).1 | exact (head_hit (d := []) (by assumption) (by assumption)).2 | exact (head_none (by assumption)).1 | exact (head_none (d := []) (by assumption)).2 | skip)
theorem vce_firstCase (a : GAsn) (k : Nat) : VC_firstCase a k = vcY tab (lookF L_firstCase) (lookP P_firstCase) noSpB (spR tab (lookF L_firstCase) (lookP P_firstCase) hp_firstCase (fun _ => none) (fun _ _ _ => none) (fun _ => []) Try.f73.ntmps 114 itPre itEn (ra_firstCase a)) (fun b => !b) hp_firstCase (fun _ => none) (fun _ _ _ => none) (fun _ => []) (bodyOf Try.f73) (entry (encs c_firstCase.aks (a, ())) none) false (retR tab c_firstCase Try.f73.results.toList (a, ())) := by kernel_rfl
abbrev spc_firstCase (a : GAsn) : SpCode Bool := spR tab (lookF L_firstCase) (lookP P_firstCase) hp_firstCase (fun _ => none) (fun _ _ _ => none) (fun _ => []) Try.f73.ntmps 114 itPre itEn (ra_firstCase a)
theorem spcok_firstCase (a : GAsn) (wE : World) (ro0 : Nat → Option (Array Value)) (ρ : Nat) : SpcOk Fence.wide 0 Try.prog E (AC wE ro0 ρ) Try.f73.ntmps (spc_firstCase a) :=
  spR_ok tabOk (kall_of (l := L_firstCase) trivial) (pall_of (l := P_firstCase) ⟨ptok_possibleCases, trivial⟩) mix it_ok it_len it_run
theorem vcr_firstCase : ∀ x : Args c_firstCase.aks, c_firstCase.pre x → vcY tab (lookF L_firstCase) (lookP P_firstCase) noSpB (spc_firstCase x.1) (fun b => !b) hp_firstCase (fun _ => none) (fun _ _ _ => none) (fun _ => []) (bodyOf Try.f73) (entry (encs c_firstCase.aks x) none) false (retR tab c_firstCase Try.f73.results.toList x) :=
  fun ⟨a, _⟩ hp => (vce_firstCase a 0).mp (vcn_firstCase a 0 hp)
theorem ok_firstCase : FnOk Try.prog E 73 c_firstCase :=
  fnR_ok (con := c_firstCase) (fn := Try.f73) (l := L_firstCase) (lp := P_firstCase) (hp := hp_firstCase) (gcs := fun _ => none) (perm := fun _ => []) (spc := fun x => spc_firstCase x.1) (anns := fun x => (fun _ _ _ => none)) tabOk mix trivial ⟨ptok_possibleCases, trivial⟩ rfl Try.func73 rfl (by kernel_rfl) (by decide) (by kernel_rfl) (fun x _ => spcok_firstCase x.1) vcr_firstCase tot_fn
end Go.Proofs.Yteoinddmoepbfaa

namespace Go.Proofs.Yteoinddmoepbfaa
open Go.SE Go.RowKit
set_option linter.unusedSimpArgs false
set_option linter.unusedVariables false
set_option maxHeartbeats 1000000
set_option maxRecDepth 100000
/-! iConsistent -/
abbrev c_iConsistent : Con := ⟨[.asn], [.bool], fun (a, _) => a.facts.length ≤ 281474976710656 ∧ a.atoms.length ≤ 281474976710656, .inl fun (a, _) => (asV a && !(casesF a).isEmpty, ()), fun _ => 0⟩
abbrev L_iConsistent : List (FuncId × Con) := [(18, c_iAssertionValid), (73, c_firstCase)]
abbrev P_iConsistent : List (FuncId × PT) := []
def VC_iConsistent (a : GAsn) (k : Nat) : Prop := TN ∧ True ∧ True ∧ ((a.facts.length ≤ 281474976710656 ∧ a.atoms.length ≤ 281474976710656) ∧ True ∧ True) ∧ True ∧ (vcIf (!(asV a)) (True ∧ (((false, ()) : Bool × Unit) = (asV a && !(casesF a).isEmpty, ())) ∧ True ∧ True ∧ True ∧ True ∧ TF) (True ∧ ((asV a = true) ∧ True ∧ True) ∧ True ∧ True ∧ True ∧ (TN ∧ True) ∧ ((((casesF a).headD (List.replicate 9 0)).length = (List.replicate 9 (0 : Int)).length) ∧ TF ∧ TF) ∧ True ∧ True ∧ True ∧ ((((!(casesF a).isEmpty), ()) : Bool × Unit) = (asV a && !(casesF a).isEmpty, ())) ∧ True ∧ True ∧ True ∧ True ∧ TF))
theorem vcn_iConsistent (a : GAsn) (k : Nat) (hp : a.facts.length ≤ 281474976710656 ∧ a.atoms.length ≤ 281474976710656) : VC_iConsistent a k := by
  unfold VC_iConsistent
  simp only [TT, TF, TN, RL, RM, true_and, and_true, eq_self, implies_true, forall_const, List.cons.injEq, S.s.injEq, S0.c.injEq, S0.agg.injEq, CV.d.injEq, CV.own.injEq, CV.ptr.injEq, DC.val.injEq, Value.int.injEq, Value.bool.injEq, Option.some.injEq, Res.blk.injEq, Prod.mk.injEq, inK, min_i64, max_i64, min_u16, max_u16, min_u8, max_u8, min_u64, max_u64, vcIf_true, vcIf_false, List.mem_nil_iff, List.not_mem_nil, not_false_eq_true, Nat.reduceEqDiff, Nat.reduceLeDiff, ne_eq, Bool.and_true, Nat.add_zero, List.append_nil, List.nil_append, List.length_nil, List.length_cons, Nat.zero_add, Nat.reduceAdd, Int.toNat_natCast, Nat.sub_zero, List.drop_zero, List.map_nil, List.take_zero, forall_eq]
  have hl := casesF_len a
  all_goals (try simp only [vcIf_iff, decide_eq_true_eq, decide_eq_false_iff_not, bne_iff_ne, ne_eq, beq_iff_eq, beq_eq_false_iff_ne, bne_eq_false_iff_eq, Bool.not_eq_true', Bool.not_eq_false', Int.ofNat_lt, Int.natCast_inj])
  all_goals (repeat' (first | apply And.intro | intro _))
  all_goals (first | omega | (simp_all; done) | grind [])
theorem vce_iConsistent (a : GAsn) (k : Nat) : VC_iConsistent a k = vcQ tab (lookF L_iConsistent) (lookP P_iConsistent) (fun _ => false) (fun _ => none) (fun _ _ => none) (fun _ => []) (bodyOf Try.f23) (entry (encs c_iConsistent.aks (a, ())) (rdOf false k)) (retOk tab c_iConsistent Try.f23.results.toList (a, ()) k) := by kernel_rfl
theorem vc_iConsistent (a : GAsn) (k : Nat) (hp : a.facts.length ≤ 281474976710656 ∧ a.atoms.length ≤ 281474976710656) : vcQ tab (lookF L_iConsistent) (lookP P_iConsistent) (fun _ => false) (fun _ => none) (fun _ _ => none) (fun _ => []) (bodyOf Try.f23) (entry (encs c_iConsistent.aks (a, ())) (rdOf false k)) (retOk tab c_iConsistent Try.f23.results.toList (a, ()) k) := (vce_iConsistent a k).mp (vcn_iConsistent a k hp)
theorem ok_iConsistent : FnOk Try.prog E 23 c_iConsistent :=
  fn_okQ (l := L_iConsistent) (lp := P_iConsistent) (hp := fun _ => false) (gcs := fun _ => none) (perm := fun _ => []) tabOk mix ⟨ok_iAssertionValid, ok_firstCase, trivial⟩ trivial Try.func23 rfl (by kernel_rfl) (by decide) (by kernel_rfl) (anns := fun x _ => fun _ _ => none) (fun ⟨a, _⟩ k hp _ => vc_iConsistent a k hp) tot_fn
end Go.Proofs.Yteoinddmoepbfaa

namespace Go.Proofs.Yteoinddmoepbfaa
open Go.SE Go.RowKit
set_option linter.unusedSimpArgs false
set_option linter.unusedVariables false
set_option maxHeartbeats 1000000
set_option maxRecDepth 100000
/-! tuFind -/
abbrev c_tuFind : Con := ⟨[.pkase, .int], [.int], fun (u, t, _) => ufI u ∧ 0 ≤ t ∧ t ≤ 8, .inr fun (u, t, _) r => Root u t r.1, fun _ => 0⟩
abbrev L_tuFind : List (FuncId × Con) := []
abbrev P_tuFind : List (FuncId × PT) := []
def an_tuFind (u : List Int) (t : Int) : Nat → St → Option Ann
  | 1, se => some { α := Int, ok := fun x => 0 ≤ x ∧ x ≤ t ∧ ∀ v, rsp u v → v x = v t, mu := fun x => x.toNat, i0 := fun _ => t, nx := fun x st => intAt st 1, live := [0, 4], sets := fun x => [(1, sv (.int .i64 x))], mids := [], blks := fun x => [], owns := fun x => [], rd := fun r _ => r, base := 100000 }
  | _, _ => none
def VC_tuFind (u : List Int) (t : Int) (k : Nat) : Prop := True ∧ ((0 ≤ t ∧ t ≤ t ∧ ∀ v, rsp u v → v t = v t) ∧ TT ∧ (RL [.s (.c (.rv .int u)), .s (.c (.d (.val (.int .i64 (0 : Int)))))]) ∧ (([.s (.c (.d (.val (.int .i64 t))))] : List S) = [.s (.c (.d (.val (.int .i64 (t : Int)))))]) ∧ (RM []) ∧ (RM []) ∧ True ∧ TT) ∧ (∀ x1 : Int, (0 ≤ x1 ∧ x1 ≤ t ∧ ∀ v, rsp u v → v x1 = v t) → True ∧ True ∧ True ∧ (0 ≤ (x1 : Int) ∧ (x1 : Int) < ((9 : Nat) : Int) ∧ u.length = 9) ∧ True ∧ True ∧ True ∧ (vcIf ((u.getD (x1 : Int).toNat (0 : Int)) != (x1 : Int)) (True ∧ True ∧ True ∧ (0 ≤ (x1 : Int) ∧ (x1 : Int) < ((9 : Nat) : Int) ∧ u.length = 9) ∧ True ∧ True ∧ (0 ≤ (u.getD (x1 : Int).toNat (0 : Int)) ∧ (u.getD (x1 : Int).toNat (0 : Int)) ≤ t ∧ ∀ v, rsp u v → v (u.getD (x1 : Int).toNat (0 : Int)) = v t) ∧ ((u.getD (x1 : Int).toNat (0 : Int)).toNat < x1.toNat) ∧ TT ∧ (RL [.s (.c (.rv .int u)), .s (.c (.d (.val (.int .i64 (0 : Int)))))]) ∧ (([.s (.c (.d (.val (.int .i64 (u.getD (x1 : Int).toNat (0 : Int))))))] : List S) = [.s (.c (.d (.val (.int .i64 ((u.getD (x1 : Int).toNat (0 : Int)) : Int)))))]) ∧ (RM []) ∧ (RM []) ∧ True ∧ TT) (True ∧ True ∧ (Root u t (x1 : Int)) ∧ True ∧ True ∧ True ∧ True ∧ TF)))
theorem vcn_tuFind (u : List Int) (t : Int) (k : Nat) (hp : ufI u ∧ 0 ≤ t ∧ t ≤ 8) : VC_tuFind u t k := by
  unfold VC_tuFind
  simp only [TT, TF, TN, RL, RM, true_and, and_true, eq_self, implies_true, forall_const, List.cons.injEq, S.s.injEq, S0.c.injEq, S0.agg.injEq, CV.d.injEq, CV.own.injEq, CV.ptr.injEq, DC.val.injEq, Value.int.injEq, Value.bool.injEq, Option.some.injEq, Res.blk.injEq, Prod.mk.injEq, inK, min_i64, max_i64, min_u16, max_u16, min_u8, max_u8, min_u64, max_u64, vcIf_true, vcIf_false, List.mem_nil_iff, List.not_mem_nil, not_false_eq_true, Nat.reduceEqDiff, Nat.reduceLeDiff, ne_eq, Bool.and_true, Nat.add_zero, List.append_nil, List.nil_append, List.length_nil, List.length_cons, Nat.zero_add, Nat.reduceAdd, Int.toNat_natCast, Nat.sub_zero, List.drop_zero, List.map_nil, List.take_zero, forall_eq]
  have hI : ufI u := hp.1
  all_goals (try simp only [vcIf_iff, decide_eq_true_eq, decide_eq_false_iff_not, bne_iff_ne, ne_eq, beq_iff_eq, beq_eq_false_iff_ne, bne_eq_false_iff_eq, Bool.not_eq_true', Bool.not_eq_false', Int.ofNat_lt, Int.natCast_inj])
  all_goals (repeat' (first | apply And.intro | intro _))
  all_goals (repeat (cases ‹_ ∧ _›))
  all_goals (first | omega | rfl | assumption | (simp_all; done) | skip)
  all_goals (first
   | exact hI.1
   | (rename ¬ u.getD _ 0 = _ => hne; have h := root_step hI (by assumption) (by assumption) (by omega) (by assumption) hne; omega)
   | (rename ¬ u.getD _ 0 = _ => hne; exact (root_step hI (by assumption) (by assumption) (by omega) (by assumption) hne).2.2.2 _ (by assumption))
   | exact root_end (by assumption) (by assumption) (by assumption) (by assumption) | skip)
theorem vce_tuFind (u : List Int) (t : Int) (k : Nat) : VC_tuFind u t k = vcQ tab (lookF L_tuFind) (lookP P_tuFind) (fun _ => false) (fun _ => none) (an_tuFind u t) (fun _ => []) (bodyOf Try.f109) (entry (encs c_tuFind.aks (u, t, ())) (rdOf false k)) (retOk tab c_tuFind Try.f109.results.toList (u, t, ()) k) := by kernel_rfl
theorem vc_tuFind (u : List Int) (t : Int) (k : Nat) (hp : ufI u ∧ 0 ≤ t ∧ t ≤ 8) : vcQ tab (lookF L_tuFind) (lookP P_tuFind) (fun _ => false) (fun _ => none) (an_tuFind u t) (fun _ => []) (bodyOf Try.f109) (entry (encs c_tuFind.aks (u, t, ())) (rdOf false k)) (retOk tab c_tuFind Try.f109.results.toList (u, t, ()) k) := (vce_tuFind u t k).mp (vcn_tuFind u t k hp)
theorem ok_tuFind : FnOk Try.prog E 109 c_tuFind :=
  fn_okQ (l := L_tuFind) (lp := P_tuFind) (hp := fun _ => false) (gcs := fun _ => none) (perm := fun _ => []) tabOk mix trivial trivial Try.func109 rfl (by kernel_rfl) (by decide) (by kernel_rfl) (anns := fun x _ => an_tuFind x.1 x.2.1) (fun ⟨u, t, _⟩ k hp _ => vc_tuFind u t k hp) (fun ⟨u, t, _⟩ hp => tot_find hp)
end Go.Proofs.Yteoinddmoepbfaa

namespace Go.Proofs.Yteoinddmoepbfaa
open Go.SE Go.RowKit
set_option linter.unusedSimpArgs false
set_option linter.unusedVariables false
set_option maxHeartbeats 1000000
set_option maxRecDepth 100000

/-! tuJoin -/
abbrev L_tuJoin : List (FuncId × Con) := [(109, c_tuFind)]
abbrev P_tuJoin : List (FuncId × PT) := []
abbrev pt_tuJoin : PT := inl tab (lookF L_tuJoin) (lookP P_tuJoin) (fun _ => false) (fun _ _ => none) (fun _ _ _ _ => none) (fun _ => []) Try.f110.ntmps (bodyOf Try.f110) Try.f110.results.toList
theorem ptok_tuJoin : PTOk Try.prog E 110 pt_tuJoin :=
  pt_ok (l := L_tuJoin) (lp := P_tuJoin) tabOk mix ⟨ok_tuFind, trivial⟩ trivial Try.func110 rfl (by kernel_rfl) (by kernel_rfl)
end Go.Proofs.Yteoinddmoepbfaa
