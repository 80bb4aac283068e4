/-
  Contracts of single functions of the program, each shown by the engine: what a call returns for arguments within the contract's bounds.
-/
import Derived.Test.YteoinddmoepbfaaFFnAllocatedAparta
import Derived.Test.YteoinddmoepbfaaFFnAllocatedApartc
import Derived.Test.YteoinddmoepbfaaEe
import Derived.Test.YteoinddmoepbfaaEf
import Derived.Test.YteoinddmoepbfaaEg
import Derived.Test.YteoinddmoepbfaaFFnAllocatedApartb
set_option linter.unusedSimpArgs false
set_option linter.unusedVariables false
set_option linter.unusedSectionVars false

namespace Go.Proofs.Yteoinddmoepbfaa
open Go.SE Go.RowKit
set_option linter.unusedSimpArgs false
set_option linter.unusedVariables false
set_option maxHeartbeats 1000000
set_option maxRecDepth 100000
/-! l5Cases -/
abbrev m_l5Cases : CCon := ⟨[], .ints, [.asn, .sl .bool, .sl .int, .int], fun _ o (a, tm, c, t, _) => vA a = true ∧ tm.length = 9 ∧ c.length = 9 ∧ le8 c = true ∧ 1 ≤ t ∧ t ≤ 9 ∧ o.length + (sQ (sFin a) a tm c t).length ≤ 4294967296, fun _ o (a, tm, c, t, _) => o ++ sQ (sFin a) a tm c t⟩
abbrev pt_l5Cases : PT := ptC m_l5Cases
abbrev mu_l5Cases : Args m_l5Cases.k1 → List m_l5Cases.t.den → Args m_l5Cases.k2 → Nat := fun _ o (a, tm, c, t, _) => (9 - t).toNat
abbrev L_l5Cases : List (FuncId × Con) := [(88, c_l5Filled), (118, c_l5Fits), (119, c_l5Early), (120, c_l5Apart)]
abbrev P_l5Cases (m : Nat) : List (FuncId × PT) := [(125, ptC (m_l5Cases.lim mu_l5Cases m))]
def an_l5Cases (o : List (List Int)) (a : GAsn) (tm : List Bool) (c : List Int) (t : Int) : Nat → St → Option Ann
  | 10, se => some { α := Nat, ok := fun i => (i : Int) ≤ t + 1, mu := fun i => (t + 1).toNat - i, i0 := fun _ => 0, nx := fun a _ => (fun i => i + 1) a, live := [2, 3, 4, 6, 10], sets := fun i => [(11, sv (.int .i64 i))], mids := [127, 176], blks := fun i => [], owns := fun i => [⟨7, .slot 0, .ints, o ++ brS (sFin a) a tm c t i⟩], rd := fun r _ => r, base := 100000 }
  | _, _ => none
def hp_l5Cases : Nat → Bool
  | 8 => true
  | 15 => true
  | _ => false
def VC_l5Cases_1 (o : List (List Int)) (a : GAsn) (tm : List Bool) (c : List Int) (t : Int) (m : Nat) (k : Nat) (i1 : Nat) : Prop := (True ∧ (vcIf (decide (((i1 : Nat) : Int) < t)) (True ∧ True ∧ (0 ≤ ((i1 : Nat) : Int) ∧ ((i1 : Nat) : Int) < ((c.length : Nat) : Int)) ∧ True ∧ True ∧ True ∧ True ∧ (vcIf ((c.getD i1 (0 : Int)) != ((i1 : Nat) : Int)) (True ∧ (inK .i64 (((i1 : Nat) : Int) + (1 : Int))) ∧ True ∧ (((i1 + 1) : Int) ≤ t + 1) ∧ ((t + 1).toNat - (i1 + 1) < (t + 1).toNat - i1) ∧ TT ∧ (RL [.s (.c (.d (.arr .bool tm))), .s (.c (.d (.arr .int c))), .s (.c (.d (.val (.int .i64 t)))), .s (.c (.ptr 127 0)), .s (.c (.own 176))]) ∧ (([.s (.c (.d (.val (.int .i64 (((i1 : Nat) : Int) + (1 : Int))))))] : List S) = [.s (.c (.d (.val (.int .i64 (((i1 + 1) : Nat) : Int)))))]) ∧ (RM [some (.blk [.d (.arr .fact a.facts), .d (.arr .atom a.atoms)]), some (.sl 176 .ints ([] : List (List Int)))]) ∧ (RM []) ∧ (((some (o ++ brS (sFin a) a tm c t i1) : Option (List (List Int))) = some (o ++ brS (sFin a) a tm c t (i1 + 1))) ∧ True) ∧ TT) ((TN ∧ True) ∧ True ∧ (TN ∧ TF ∧ TF ∧ (([] : List Int).length + c.length ≤ 4294967296)) ∧ True ∧ True ∧ True ∧ True ∧ (0 ≤ t ∧ t < (((([] : List Int) ++ c).length : Nat) : Int)) ∧ (TF ∧ TF ∧ True ∧ ((101120 : Nat) ∉ ([] : List Nat))) ∧ True ∧ True ∧ True ∧ True ∧ True ∧ (inK .i64 (t + (1 : Int))) ∧ TF ∧ TF ∧ (TF ∧ True) ∧ (((7 : Nat) ≠ 101120) ∧ True) ∧ ((none : Option Nat) = none) ∧ TN ∧ ((vA a = true ∧ tm.length = 9 ∧ ((([] : List Int) ++ c).set t.toNat ((i1 : Nat) : Int)).length = 9 ∧ le8 ((([] : List Int) ++ c).set t.toNat ((i1 : Nat) : Int)) = true ∧ 1 ≤ (t + (1 : Int)) ∧ (t + (1 : Int)) ≤ 9 ∧ (o ++ brS (sFin a) a tm c t i1).length + (sQ (sFin a) a tm ((([] : List Int) ++ c).set t.toNat ((i1 : Nat) : Int)) (t + (1 : Int))).length ≤ 4294967296) ∧ (9 - (t + (1 : Int))).toNat < m) ∧ True ∧ True ∧ (inK .i64 (((i1 : Nat) : Int) + (1 : Int))) ∧ True ∧ (((i1 + 1) : Int) ≤ t + 1) ∧ ((t + 1).toNat - (i1 + 1) < (t + 1).toNat - i1) ∧ TT ∧ (RL [.s (.c (.d (.arr .bool tm))), .s (.c (.d (.arr .int c))), .s (.c (.d (.val (.int .i64 t)))), .s (.c (.ptr 127 0)), .s (.c (.own 176))]) ∧ (([.s (.c (.d (.val (.int .i64 (((i1 : Nat) : Int) + (1 : Int))))))] : List S) = [.s (.c (.d (.val (.int .i64 (((i1 + 1) : Nat) : Int)))))]) ∧ (RM [some (.blk [.d (.arr .fact a.facts), .d (.arr .atom a.atoms)]), some (.sl 176 .ints ([] : List (List Int)))]) ∧ (RM []) ∧ (((some ((o ++ brS (sFin a) a tm c t i1) ++ sQ (sFin a) a tm ((([] : List Int) ++ c).set t.toNat ((i1 : Nat) : Int)) (t + (1 : Int))) : Option (List (List Int))) = some (o ++ brS (sFin a) a tm c t (i1 + 1))) ∧ True) ∧ TT))) (True ∧ (TN ∧ True) ∧ True ∧ (TN ∧ TF ∧ TF ∧ (([] : List Int).length + c.length ≤ 4294967296)) ∧ True ∧ True ∧ True ∧ True ∧ (0 ≤ t ∧ t < (((([] : List Int) ++ c).length : Nat) : Int)) ∧ (TF ∧ TF ∧ True ∧ ((101120 : Nat) ∉ ([] : List Nat))) ∧ True ∧ True ∧ True ∧ True ∧ True ∧ (inK .i64 (t + (1 : Int))) ∧ TF ∧ TF ∧ (TF ∧ True) ∧ (((7 : Nat) ≠ 101120) ∧ True) ∧ ((none : Option Nat) = none) ∧ TN ∧ ((vA a = true ∧ tm.length = 9 ∧ ((([] : List Int) ++ c).set t.toNat ((i1 : Nat) : Int)).length = 9 ∧ le8 ((([] : List Int) ++ c).set t.toNat ((i1 : Nat) : Int)) = true ∧ 1 ≤ (t + (1 : Int)) ∧ (t + (1 : Int)) ≤ 9 ∧ (o ++ brS (sFin a) a tm c t i1).length + (sQ (sFin a) a tm ((([] : List Int) ++ c).set t.toNat ((i1 : Nat) : Int)) (t + (1 : Int))).length ≤ 4294967296) ∧ (9 - (t + (1 : Int))).toNat < m) ∧ True ∧ True ∧ (inK .i64 (((i1 : Nat) : Int) + (1 : Int))) ∧ True ∧ (((i1 + 1) : Int) ≤ t + 1) ∧ ((t + 1).toNat - (i1 + 1) < (t + 1).toNat - i1) ∧ TT ∧ (RL [.s (.c (.d (.arr .bool tm))), .s (.c (.d (.arr .int c))), .s (.c (.d (.val (.int .i64 t)))), .s (.c (.ptr 127 0)), .s (.c (.own 176))]) ∧ (([.s (.c (.d (.val (.int .i64 (((i1 : Nat) : Int) + (1 : Int))))))] : List S) = [.s (.c (.d (.val (.int .i64 (((i1 + 1) : Nat) : Int)))))]) ∧ (RM [some (.blk [.d (.arr .fact a.facts), .d (.arr .atom a.atoms)]), some (.sl 176 .ints ([] : List (List Int)))]) ∧ (RM []) ∧ (((some ((o ++ brS (sFin a) a tm c t i1) ++ sQ (sFin a) a tm ((([] : List Int) ++ c).set t.toNat ((i1 : Nat) : Int)) (t + (1 : Int))) : Option (List (List Int))) = some (o ++ brS (sFin a) a tm c t (i1 + 1))) ∧ True) ∧ TT)))
def VC_l5Cases (o : List (List Int)) (a : GAsn) (tm : List Bool) (c : List Int) (t : Int) (m : Nat) (k : Nat) : Prop := TN ∧ TN ∧ True ∧ True ∧ True ∧ ((a.facts.length ≤ 1048576 ∧ a.facts.all fV = true ∧ c.length = 9) ∧ True ∧ True) ∧ True ∧ True ∧ (vcIf (!(sFit a.facts c)) (True ∧ True ∧ True ∧ ((some o : Option (List (List Int))) = some (o ++ sQ (sFin a) a tm c t)) ∧ TF ∧ TF) (True ∧ True ∧ True ∧ ((a.atoms.length ≤ 1048576 ∧ a.atoms.all atV = true ∧ c.length = 9 ∧ le8 c = true) ∧ True ∧ True) ∧ True ∧ True ∧ (vcIf (!(sEarly a.atoms c)) (True ∧ True ∧ ((some o : Option (List (List Int))) = some (o ++ sQ (sFin a) a tm c t)) ∧ TF ∧ TF) (True ∧ True ∧ (vcIf (decide ((8 : Int) < t)) (True ∧ True ∧ True ∧ ((a.atoms.length ≤ 1048576 ∧ a.atoms.all atV = true ∧ c.length = 9) ∧ True ∧ TN ∧ True) ∧ (((fL c a.atoms).length ≤ 1048576) ∧ True ∧ True) ∧ (vcIf (sApart (fL c a.atoms)) (True ∧ (TN ∧ True) ∧ True ∧ (TN ∧ TF ∧ TF ∧ (([] : List Int).length + c.length ≤ 4294967296)) ∧ (TN ∧ TF ∧ True) ∧ (TN ∧ TF ∧ TF ∧ (o.length + ([([] : List Int) ++ c] : List (List Int)).length ≤ 4294967296)) ∧ True ∧ True ∧ True ∧ ((some (o ++ ([([] : List Int) ++ c] : List (List Int))) : Option (List (List Int))) = some (o ++ sQ (sFin a) a tm c t)) ∧ TF ∧ TF) (True ∧ True ∧ ((some o : Option (List (List Int))) = some (o ++ sQ (sFin a) a tm c t)) ∧ TF ∧ TF))) (True ∧ True ∧ (0 ≤ t ∧ t < ((tm.length : Nat) : Int)) ∧ True ∧ True ∧ (vcIf (!(tm.getD t.toNat false)) (True ∧ True ∧ True ∧ True ∧ True ∧ (inK .i64 (t + (1 : Int))) ∧ TF ∧ TF ∧ True ∧ True ∧ ((none : Option Nat) = none) ∧ TN ∧ ((vA a = true ∧ tm.length = 9 ∧ c.length = 9 ∧ le8 c = true ∧ 1 ≤ (t + (1 : Int)) ∧ (t + (1 : Int)) ≤ 9 ∧ o.length + (sQ (sFin a) a tm c (t + (1 : Int))).length ≤ 4294967296) ∧ (9 - (t + (1 : Int))).toNat < m) ∧ True ∧ ((some (o ++ sQ (sFin a) a tm c (t + (1 : Int))) : Option (List (List Int))) = some (o ++ sQ (sFin a) a tm c t)) ∧ TF ∧ TF) (True ∧ (((0 : Int) ≤ t + 1) ∧ TT ∧ (RL [.s (.c (.d (.arr .bool tm))), .s (.c (.d (.arr .int c))), .s (.c (.d (.val (.int .i64 t)))), .s (.c (.ptr 127 0)), .s (.c (.own 176))]) ∧ (([.s (.c (.d (.val (.int .i64 (0 : Int)))))] : List S) = [.s (.c (.d (.val (.int .i64 ((0 : Nat) : Int)))))]) ∧ (RM [some (.blk [.d (.arr .fact a.facts), .d (.arr .atom a.atoms)]), some (.sl 176 .ints ([] : List (List Int)))]) ∧ (RM []) ∧ (((some o : Option (List (List Int))) = some (o ++ brS (sFin a) a tm c t 0)) ∧ True) ∧ TT) ∧ (∀ i1 : Nat, ((i1 : Int) ≤ t + 1) → True ∧ True ∧ True ∧ (vcIf (decide (((i1 : Nat) : Int) ≤ t)) (True ∧ True ∧ True ∧ (VC_l5Cases_1 o a tm c t m k i1)) (True ∧ True ∧ ((some (o ++ brS (sFin a) a tm c t i1) : Option (List (List Int))) = some (o ++ sQ (sFin a) a tm c t)) ∧ TF ∧ TF)))))))))))
theorem vcn_l5Cases (o : List (List Int)) (a : GAsn) (tm : List Bool) (c : List Int) (t : Int) (m : Nat) (k : Nat) (hp : (vA a = true ∧ tm.length = 9 ∧ c.length = 9 ∧ le8 c = true ∧ 1 ≤ t ∧ t ≤ 9 ∧ o.length + (sQ (sFin a) a tm c t).length ≤ 4294967296) ∧ (9 - t).toNat < m + 1) : VC_l5Cases o a tm c t m k := by
  unfold VC_l5Cases VC_l5Cases_1
  simp only [TT, TF, TN, RL, RM, true_and, and_true, eq_self, implies_true, forall_const, List.cons.injEq, S.s.injEq, S0.c.injEq, S0.agg.injEq, CV.d.injEq, CV.own.injEq, CV.ptr.injEq, DC.val.injEq, Value.int.injEq, Value.bool.injEq, Option.some.injEq, Res.blk.injEq, Prod.mk.injEq, inK, min_i64, max_i64, min_u16, max_u16, min_u8, max_u8, min_u64, max_u64, vcIf_true, vcIf_false, List.mem_nil_iff, List.not_mem_nil, not_false_eq_true, Nat.reduceEqDiff, Nat.reduceLeDiff, ne_eq, Bool.and_true, Nat.add_zero, List.append_nil, List.nil_append, List.length_nil, List.length_cons, Nat.zero_add, Nat.reduceAdd, Int.toNat_natCast, Nat.sub_zero, List.drop_zero, List.map_nil, List.take_zero, forall_eq]
  have hV := vA_iff.1 hp.1.1
  have hA : (fL c a.atoms).length ≤ 1048576 := Nat.le_trans (fL_len _ _) (Nat.le_trans hV.2.2.2 (by decide))
  all_goals (try simp only [vcIf_iff, decide_eq_true_eq, decide_eq_false_iff_not, bne_iff_ne, ne_eq, beq_iff_eq, beq_eq_false_iff_ne, bne_eq_false_iff_eq, Bool.not_eq_true', Bool.not_eq_false', Int.ofNat_lt, Int.natCast_inj])
  all_goals (repeat' (first | apply And.intro | intro _))
  all_goals (repeat (cases ‹_ ∧ _›))
  all_goals (first | omega | rfl | assumption | (simp_all; done) | skip)
  all_goals (first
   | exact hV.1 | exact hV.2.1 | exact Nat.le_trans hV.2.2.1 (by decide) | exact Nat.le_trans hV.2.2.2 (by decide) | exact Nat.le_trans (fL_len _ _) (Nat.le_trans hV.2.2.2 (by decide))
   | exact le8_set (by assumption) (by omega)
   | (rw [fits_no1 (by assumption), List.append_nil]; done) | (rw [fits_no2 (by assumption), List.append_nil]; done)
   | (rw [last_yes (by assumption) (by assumption) (by assumption) (by assumption)]; done) | (rw [last_no (by assumption) (by assumption) (by assumption) (by assumption), List.append_nil]; done)
   | (rw [last_yes (by assumption) (by assumption) (by assumption) (by assumption)] at *; simp only [List.length_singleton] at *; omega)
   | (rw [sQ_skip (t := t) (by assumption) (by omega) (fits_yes (by assumption) (by assumption)) (by assumption)]; done)
   | (rw [sQ_skip (t := t) (by assumption) (by omega) (fits_yes (by assumption) (by assumption)) (by assumption)] at *; first | assumption | rfl)
   | (rw [brS_zero, List.append_nil]; done)
   | (rw [brS_skip (by assumption) (by assumption)]; done)
   | (rw [brS_take (.inr (by assumption)), List.append_assoc]; done)
   | (rw [brS_take (.inl (by omega)), List.append_assoc]; done)
   | exact brS_fit (by assumption) (by assumption) (by assumption) (fits_yes (by assumption) (by assumption)) (by assumption) (by assumption) (.inr (by assumption))
   | exact brS_fit (by assumption) (by assumption) (by assumption) (fits_yes (by assumption) (by assumption)) (by assumption) (by assumption) (.inl (by omega))
   | (rw [brS_full (by assumption) (by omega) (fits_yes (by assumption) (by assumption)) (by assumption) (by assumption) (by assumption)]; done)
   | skip)
theorem vce_l5Cases (o : List (List Int)) (a : GAsn) (tm : List Bool) (c : List Int) (t : Int) (m : Nat) (k : Nat) : VC_l5Cases o a tm c t m k = vcQ tab (lookF L_l5Cases) (lookP (P_l5Cases m)) (hp_l5Cases) (fun _ => none) (an_l5Cases o a tm c t) (fun _ => []) (bodyOf Try.f125) (isoStC (m_l5Cases.lim mu_l5Cases (m + 1)) () o (a, tm, c, t, ())) (isoQC tab (m_l5Cases.lim mu_l5Cases (m + 1)) Try.f125.results.toList () o (a, tm, c, t, ())) := by kernel_rfl
theorem ptok_l5Cases : PTOk Try.prog E 125 pt_l5Cases :=
  ptC_rec (mu := mu_l5Cases) (fun m ih => cons_ok (c := (m_l5Cases.lim mu_l5Cases (m + 1))) (fn := Try.f125) (l := L_l5Cases) (lp := P_l5Cases m) (hp := hp_l5Cases) (perm := fun _ => []) tabOk mix ⟨ok_l5Filled, ok_l5Fits, ok_l5Early, ok_l5Apart, trivial⟩ ⟨ih, trivial⟩ Try.func125 rfl (by kernel_rfl) (show m_l5Cases.k1.length + m_l5Cases.k2.length + 1 ≤ Try.f125.ntmps by decide) (by kernel_rfl) (anns := fun x l y => an_l5Cases l y.1 y.2.1 y.2.2.1 y.2.2.2.1) (fun _ o ⟨a, tm, c, t, _⟩ hp => (vce_l5Cases o a tm c t m 0).mp (vcn_l5Cases o a tm c t m 0 hp))) ⟨_, _, Try.func125, by kernel_rfl, rfl⟩
end Go.Proofs.Yteoinddmoepbfaa

namespace Go.Proofs.Yteoinddmoepbfaa
open Go.SE Go.RowKit
set_option linter.unusedSimpArgs false
set_option linter.unusedVariables false
set_option maxHeartbeats 1000000
set_option maxRecDepth 100000
/-! l5All -/
abbrev c_l5All : Con := ⟨[.asn, .sl .bool], [.sl .ints], fun (a, tm, _) => vA a = true ∧ tm.length = 9, .inl fun (a, tm, _) => (sQ (sFin a) a tm opens 1, ()), fun _ => 0⟩
abbrev L_l5All : List (FuncId × Con) := [(65, c_l5Open)]
abbrev P_l5All : List (FuncId × PT) := [(125, pt_l5Cases)]
def hp_l5All : Nat → Bool
  | 1 => true
  | _ => false
def VC_l5All (a : GAsn) (tm : List Bool) (k : Nat) : Prop := TT ∧ TN ∧ TN ∧ TT ∧ (TN ∧ True) ∧ True ∧ True ∧ (True ∧ True ∧ TN ∧ True) ∧ TF ∧ TF ∧ (TF ∧ True) ∧ (((80 : Nat) ≠ 128) ∧ True) ∧ ((none : Option Nat) = none) ∧ TN ∧ (vA a = true ∧ tm.length = 9 ∧ opens.length = 9 ∧ le8 opens = true ∧ 1 ≤ (1 : Int) ∧ (1 : Int) ≤ 9 ∧ ([] : List (List Int)).length + (sQ (sFin a) a tm opens (1 : Int)).length ≤ 4294967296) ∧ True ∧ ((none : Option Nat) = none) ∧ (((([] : List (List Int)) ++ sQ (sFin a) a tm opens (1 : Int), ()) : (List (List Int)) × Unit) = (sQ (sFin a) a tm opens 1, ())) ∧ (True ∧ True) ∧ ((TF ∧ TF) ∧ True) ∧ True ∧ (True ∧ True) ∧ TF
theorem vcn_l5All (a : GAsn) (tm : List Bool) (k : Nat) (hp : vA a = true ∧ tm.length = 9) : VC_l5All a tm k := by
  unfold VC_l5All
  simp only [TT, TF, TN, RL, RM, true_and, and_true, eq_self, implies_true, forall_const, List.cons.injEq, S.s.injEq, S0.c.injEq, S0.agg.injEq, CV.d.injEq, CV.own.injEq, CV.ptr.injEq, DC.val.injEq, Value.int.injEq, Value.bool.injEq, Option.some.injEq, Res.blk.injEq, Prod.mk.injEq, inK, min_i64, max_i64, min_u16, max_u16, min_u8, max_u8, min_u64, max_u64, vcIf_true, vcIf_false, List.mem_nil_iff, List.not_mem_nil, not_false_eq_true, Nat.reduceEqDiff, Nat.reduceLeDiff, ne_eq, Bool.and_true, Nat.add_zero, List.append_nil, List.nil_append, List.length_nil, List.length_cons, Nat.zero_add, Nat.reduceAdd, Int.toNat_natCast, Nat.sub_zero, List.drop_zero, List.map_nil, List.take_zero, forall_eq]
  all_goals (try simp only [vcIf_iff, decide_eq_true_eq, decide_eq_false_iff_not, bne_iff_ne, ne_eq, beq_iff_eq, beq_eq_false_iff_ne, bne_eq_false_iff_eq, Bool.not_eq_true', Bool.not_eq_false', Int.ofNat_lt, Int.natCast_inj])
  all_goals (repeat' (first | apply And.intro | intro _))
  all_goals (repeat (cases ‹_ ∧ _›))
  all_goals (first | omega | rfl | assumption | exact sQ_max | (simp_all; done) | skip)
theorem vce_l5All (a : GAsn) (tm : List Bool) (k : Nat) : VC_l5All a tm k = vcY tab (lookF L_l5All) (lookP P_l5All) noSpB ((fun _ _ _ _ _ _ => none)) (fun b => !b) hp_l5All (fun _ => none) (fun _ _ _ => none) (fun _ => []) (bodyOf Try.f86) (entry (encs c_l5All.aks (a, tm, ())) none) false (retR tab c_l5All Try.f86.results.toList (a, tm, ())) := by kernel_rfl
abbrev spc_l5All (a : GAsn) (tm : List Bool) : SpCode Bool := (fun _ _ _ _ _ _ => none)
theorem spcok_l5All (a : GAsn) (tm : List Bool) (wE : World) (ro0 : Nat → Option (Array Value)) (ρ : Nat) : SpcOk Fence.wide 0 Try.prog E (AC wE ro0 ρ) Try.f86.ntmps (spc_l5All a tm) :=
  fun _ _ _ _ _ _ _ h => by cases h
theorem vcr_l5All : ∀ x : Args c_l5All.aks, c_l5All.pre x → vcY tab (lookF L_l5All) (lookP P_l5All) noSpB (spc_l5All x.1 x.2.1) (fun b => !b) hp_l5All (fun _ => none) (fun _ _ _ => none) (fun _ => []) (bodyOf Try.f86) (entry (encs c_l5All.aks x) none) false (retR tab c_l5All Try.f86.results.toList x) :=
  fun ⟨a, tm, _⟩ hp => (vce_l5All a tm 0).mp (vcn_l5All a tm 0 hp)
theorem ok_l5All : FnOk Try.prog E 86 c_l5All :=
  fnR_ok (con := c_l5All) (fn := Try.f86) (l := L_l5All) (lp := P_l5All) (hp := hp_l5All) (gcs := fun _ => none) (perm := fun _ => []) (spc := fun x => spc_l5All x.1 x.2.1) (anns := fun x => (fun _ _ _ => none)) tabOk mix ⟨ok_l5Open, trivial⟩ ⟨ptok_l5Cases, trivial⟩ rfl Try.func86 rfl (by kernel_rfl) (by decide) (by kernel_rfl) (fun x _ => spcok_l5All x.1 x.2.1) vcr_l5All tot_fn
end Go.Proofs.Yteoinddmoepbfaa

namespace Go.Proofs.Yteoinddmoepbfaa
open Go.SE Go.RowKit
set_option linter.unusedSimpArgs false
set_option linter.unusedVariables false
set_option maxHeartbeats 1000000
set_option maxRecDepth 100000
/-! l5Begins -/
abbrev c_l5Begins : Con := ⟨[.sl .atom, .int], [.bool], fun (l, c, _) => l.length ≤ 1048576, .inl fun (l, c, _) => (bgn l c, ()), fun _ => 0⟩
abbrev L_l5Begins : List (FuncId × Con) := []
abbrev P_l5Begins : List (FuncId × PT) := []
def an_l5Begins (l : List GAtom) (c : Int) : Nat → St → Option Ann
  | 2, se => some { α := Nat, ok := fun i => i ≤ l.length ∧ bgn (l.take i) c = false, mu := fun i => l.length - i, i0 := fun _ => 0, nx := fun a _ => (fun i => i + 1) a, live := [0, 1], sets := fun i => [(5, sv (.int .i64 i))], mids := [], blks := fun i => [], owns := fun i => [], rd := fun r _ => r, base := 100000 }
  | _, _ => none
def VC_l5Begins (l : List GAtom) (c : Int) (k : Nat) : Prop := True ∧ True ∧ ((0 ≤ l.length ∧ bgn (l.take 0) c = false) ∧ TT ∧ (RL [.s (.c (.d (.arr .atom l))), .s (.c (.d (.val (.int .i64 c))))]) ∧ (([.s (.c (.d (.val (.int .i64 (0 : Int)))))] : List S) = [.s (.c (.d (.val (.int .i64 ((0 : Nat) : Int)))))]) ∧ (RM []) ∧ (RM []) ∧ True ∧ TT) ∧ (∀ i1 : Nat, (i1 ≤ l.length ∧ bgn (l.take i1) c = false) → True ∧ True ∧ True ∧ True ∧ (vcIf (decide (((i1 : Nat) : Int) < ((l.length : Nat) : Int))) (True ∧ True ∧ (0 ≤ ((i1 : Nat) : Int) ∧ ((i1 : Nat) : Int) < ((l.length : Nat) : Int)) ∧ True ∧ True ∧ True ∧ True ∧ (vcIf (((l.getD i1 (⟨0, 0, 0⟩ : GAtom)).a) == c) (True ∧ (((true, ()) : Bool × Unit) = (bgn l c, ())) ∧ True ∧ True ∧ True ∧ True ∧ TF) (True ∧ (inK .i64 (((i1 : Nat) : Int) + (1 : Int))) ∧ True ∧ ((i1 + 1) ≤ l.length ∧ bgn (l.take (i1 + 1)) c = false) ∧ (l.length - (i1 + 1) < l.length - i1) ∧ TT ∧ (RL [.s (.c (.d (.arr .atom l))), .s (.c (.d (.val (.int .i64 c))))]) ∧ (([.s (.c (.d (.val (.int .i64 (((i1 : Nat) : Int) + (1 : Int))))))] : List S) = [.s (.c (.d (.val (.int .i64 (((i1 + 1) : Nat) : Int)))))]) ∧ (RM []) ∧ (RM []) ∧ True ∧ TT))) (True ∧ (((false, ()) : Bool × Unit) = (bgn l c, ())) ∧ True ∧ True ∧ True ∧ True ∧ TF)))
theorem vcn_l5Begins (l : List GAtom) (c : Int) (k : Nat) (hp : l.length ≤ 1048576) : VC_l5Begins l c k := by
  unfold VC_l5Begins
  simp only [TT, TF, TN, RL, RM, true_and, and_true, eq_self, implies_true, forall_const, List.cons.injEq, S.s.injEq, S0.c.injEq, S0.agg.injEq, CV.d.injEq, CV.own.injEq, CV.ptr.injEq, DC.val.injEq, Value.int.injEq, Value.bool.injEq, Option.some.injEq, Res.blk.injEq, Prod.mk.injEq, inK, min_i64, max_i64, min_u16, max_u16, min_u8, max_u8, min_u64, max_u64, vcIf_true, vcIf_false, List.mem_nil_iff, List.not_mem_nil, not_false_eq_true, Nat.reduceEqDiff, Nat.reduceLeDiff, ne_eq, Bool.and_true, Nat.add_zero, List.append_nil, List.nil_append, List.length_nil, List.length_cons, Nat.zero_add, Nat.reduceAdd, Int.toNat_natCast, Nat.sub_zero, List.drop_zero, List.map_nil, List.take_zero, forall_eq]
  all_goals (try simp only [vcIf_iff, decide_eq_true_eq, decide_eq_false_iff_not, bne_iff_ne, ne_eq, beq_iff_eq, beq_eq_false_iff_ne, bne_eq_false_iff_eq, Bool.not_eq_true', Bool.not_eq_false', Int.ofNat_lt, Int.natCast_inj])
  all_goals (repeat' (first | apply And.intro | intro _))
  all_goals (repeat (cases ‹_ ∧ _›))
  all_goals (first | omega | rfl | assumption | (simp_all; done) | skip)
  all_goals (first
   | exact (bgn_yes (by assumption) (by assumption)).symm
   | exact bgn_step (by assumption) (by assumption) (by assumption)
   | exact (bgn_end (by assumption) (by assumption)).symm
   | skip)
theorem vce_l5Begins (l : List GAtom) (c : Int) (k : Nat) : VC_l5Begins l c k = vcQ tab (lookF L_l5Begins) (lookP P_l5Begins) (fun _ => false) (fun _ => none) (an_l5Begins l c) (fun _ => []) (bodyOf Try.f87) (entry (encs c_l5Begins.aks (l, c, ())) (rdOf false k)) (retOk tab c_l5Begins Try.f87.results.toList (l, c, ()) k) := by kernel_rfl
theorem vc_l5Begins (l : List GAtom) (c : Int) (k : Nat) (hp : l.length ≤ 1048576) : vcQ tab (lookF L_l5Begins) (lookP P_l5Begins) (fun _ => false) (fun _ => none) (an_l5Begins l c) (fun _ => []) (bodyOf Try.f87) (entry (encs c_l5Begins.aks (l, c, ())) (rdOf false k)) (retOk tab c_l5Begins Try.f87.results.toList (l, c, ()) k) := (vce_l5Begins l c k).mp (vcn_l5Begins l c k hp)
theorem ok_l5Begins : FnOk Try.prog E 87 c_l5Begins :=
  fn_okQ (l := L_l5Begins) (lp := P_l5Begins) (hp := fun _ => false) (gcs := fun _ => none) (perm := fun _ => []) tabOk mix trivial trivial Try.func87 rfl (by kernel_rfl) (by decide) (by kernel_rfl) (anns := fun x _ => an_l5Begins x.1 x.2.1) (fun ⟨l, c, _⟩ k hp _ => vc_l5Begins l c k hp) tot_fn
end Go.Proofs.Yteoinddmoepbfaa

namespace Go.Proofs.Yteoinddmoepbfaa
open Go.SE Go.RowKit
set_option linter.unusedSimpArgs false
set_option linter.unusedVariables false
set_option maxHeartbeats 1000000
set_option maxRecDepth 100000
/-! sAllocated -/
abbrev c_sAllocated : Con := ⟨[.asn, .int], [.bool], fun (a, t, _) => a.facts.length ≤ 281474976710656 ∧ a.atoms.length ≤ 281474976710656, .inl fun (a, t, _) => (ALC a t, ()), fun _ => 0⟩
abbrev L_sAllocated : List (FuncId × Con) := [(61, c_sAssertionValid), (63, c_l3Terms), (85, c_l1Is), (86, c_l5All), (87, c_l5Begins), (88, c_l5Filled)]
abbrev P_sAllocated : List (FuncId × PT) := []
def an_sAllocated (a : GAsn) (t : Int) : Nat → St → Option Ann
  | 7, se => some { α := Nat, ok := fun i => i ≤ List.length (casesB a (hz a (qT t))) ∧ (List.take i (casesB a (hz a (qT t)))).all (fun c => bgn (fL c a.atoms) (c.getD t.toNat 0)) = true, mu := fun i => List.length (casesB a (hz a (qT t))) - i, i0 := fun _ => 0, nx := fun a _ => (fun i => i + 1) a, live := [1, 2, 6], sets := fun i => [(7, sv (.int .i64 i))], mids := [47, 368], blks := fun i => [], owns := fun i => [], rd := fun r _ => r, base := 100000 }
  | _, _ => none
def VC_sAllocated_1 (a : GAsn) (t : Int) (k : Nat) : Prop := (((asV a = true) ∧ True ∧ TN ∧ True) ∧ True ∧ True ∧ True ∧ (0 ≤ t ∧ t < (((fl9 (occ a)).length : Nat) : Int)) ∧ (TF ∧ TF ∧ True ∧ ((272 : Nat) ∉ ([] : List Nat))) ∧ True ∧ True ∧ ((vA a = true ∧ ((fl9 (occ a)).set t.toNat true).length = 9) ∧ (TF ∧ True) ∧ True ∧ TN ∧ True) ∧ True ∧ True ∧ ((0 ≤ List.length (casesB a (hz a (qT t))) ∧ (List.take 0 (casesB a (hz a (qT t)))).all (fun c => bgn (fL c a.atoms) (c.getD t.toNat 0)) = true) ∧ TT ∧ (RL [.s (.c (.d (.val (.int .i64 t)))), .s (.c (.ptr 47 0)), .s (.c (.own 368))]) ∧ (([.s (.c (.d (.val (.int .i64 (0 : Int)))))] : List S) = [.s (.c (.d (.val (.int .i64 ((0 : Nat) : Int)))))]) ∧ (RM [some (.blk [.d (.arr .fact a.facts), .d (.arr .atom a.atoms)]), some (.sl 368 .ints (sQ (sFin a) a ((fl9 (occ a)).set t.toNat true) opens 1))]) ∧ (RM []) ∧ True ∧ TT) ∧ (∀ i1 : Nat, (i1 ≤ List.length (casesB a (hz a (qT t))) ∧ (List.take i1 (casesB a (hz a (qT t)))).all (fun c => bgn (fL c a.atoms) (c.getD t.toNat 0)) = true) → True ∧ True ∧ True ∧ True ∧ (vcIf (decide (((i1 : Nat) : Int) < (((sQ (sFin a) a ((fl9 (occ a)).set t.toNat true) opens 1).length : Nat) : Int))) (True ∧ True ∧ True ∧ True ∧ (0 ≤ ((i1 : Nat) : Int) ∧ ((i1 : Nat) : Int) < (((sQ (sFin a) a ((fl9 (occ a)).set t.toNat true) opens 1).length : Nat) : Int)) ∧ True ∧ ((a.atoms.length ≤ 1048576 ∧ a.atoms.all atV = true ∧ ((sQ (sFin a) a ((fl9 (occ a)).set t.toNat true) opens 1).getD i1 ([] : List Int)).length = 9) ∧ True ∧ TN ∧ True) ∧ True ∧ True ∧ (0 ≤ ((i1 : Nat) : Int) ∧ ((i1 : Nat) : Int) < (((sQ (sFin a) a ((fl9 (occ a)).set t.toNat true) opens 1).length : Nat) : Int)) ∧ True ∧ True ∧ (0 ≤ t ∧ t < ((((sQ (sFin a) a ((fl9 (occ a)).set t.toNat true) opens 1).getD i1 ([] : List Int)).length : Nat) : Int)) ∧ True ∧ (((fL ((sQ (sFin a) a ((fl9 (occ a)).set t.toNat true) opens 1).getD i1 ([] : List Int)) a.atoms).length ≤ 1048576) ∧ True ∧ True) ∧ True ∧ (vcIf (!(bgn (fL ((sQ (sFin a) a ((fl9 (occ a)).set t.toNat true) opens 1).getD i1 ([] : List Int)) a.atoms) (((sQ (sFin a) a ((fl9 (occ a)).set t.toNat true) opens 1).getD i1 ([] : List Int)).getD t.toNat (0 : Int)))) (True ∧ (((false, ()) : Bool × Unit) = (ALC a t, ())) ∧ True ∧ True ∧ True ∧ True ∧ TF) (True ∧ (inK .i64 (((i1 : Nat) : Int) + (1 : Int))) ∧ True ∧ ((i1 + 1) ≤ List.length (casesB a (hz a (qT t))) ∧ (List.take (i1 + 1) (casesB a (hz a (qT t)))).all (fun c => bgn (fL c a.atoms) (c.getD t.toNat 0)) = true) ∧ (List.length (casesB a (hz a (qT t))) - (i1 + 1) < List.length (casesB a (hz a (qT t))) - i1) ∧ TT ∧ (RL [.s (.c (.d (.val (.int .i64 t)))), .s (.c (.ptr 47 0)), .s (.c (.own 368))]) ∧ (([.s (.c (.d (.val (.int .i64 (((i1 : Nat) : Int) + (1 : Int))))))] : List S) = [.s (.c (.d (.val (.int .i64 (((i1 + 1) : Nat) : Int)))))]) ∧ (RM [some (.blk [.d (.arr .fact a.facts), .d (.arr .atom a.atoms)]), some (.sl 368 .ints (sQ (sFin a) a ((fl9 (occ a)).set t.toNat true) opens 1))]) ∧ (RM []) ∧ True ∧ TT))) (True ∧ (((true, ()) : Bool × Unit) = (ALC a t, ())) ∧ True ∧ True ∧ True ∧ True ∧ TF))))
def VC_sAllocated (a : GAsn) (t : Int) (k : Nat) : Prop := TN ∧ True ∧ True ∧ ((a.facts.length ≤ 281474976710656 ∧ a.atoms.length ≤ 281474976710656) ∧ True ∧ True) ∧ True ∧ True ∧ (vcIf (!(asV a)) (True ∧ True ∧ (((false, ()) : Bool × Unit) = (ALC a t, ())) ∧ True ∧ True ∧ True ∧ True ∧ TF) (True ∧ (True ∧ True ∧ True) ∧ True ∧ True ∧ (vcIf (!(isT t)) (True ∧ (((false, ()) : Bool × Unit) = (ALC a t, ())) ∧ True ∧ True ∧ True ∧ True ∧ TF) (True ∧ (VC_sAllocated_1 a t k)))))
theorem vcn_sAllocated (a : GAsn) (t : Int) (k : Nat) (hp : a.facts.length ≤ 281474976710656 ∧ a.atoms.length ≤ 281474976710656) : VC_sAllocated a t k := by
  unfold VC_sAllocated VC_sAllocated_1
  simp only [TT, TF, TN, RL, RM, true_and, and_true, eq_self, implies_true, forall_const, List.cons.injEq, S.s.injEq, S0.c.injEq, S0.agg.injEq, CV.d.injEq, CV.own.injEq, CV.ptr.injEq, DC.val.injEq, Value.int.injEq, Value.bool.injEq, Option.some.injEq, Res.blk.injEq, Prod.mk.injEq, inK, min_i64, max_i64, min_u16, max_u16, min_u8, max_u8, min_u64, max_u64, vcIf_true, vcIf_false, List.mem_nil_iff, List.not_mem_nil, not_false_eq_true, Nat.reduceEqDiff, Nat.reduceLeDiff, ne_eq, Bool.and_true, Nat.add_zero, List.append_nil, List.nil_append, List.length_nil, List.length_cons, Nat.zero_add, Nat.reduceAdd, Int.toNat_natCast, Nat.sub_zero, List.drop_zero, List.map_nil, List.take_zero, forall_eq]
  all_goals (try simp only [vcIf_iff, decide_eq_true_eq, decide_eq_false_iff_not, bne_iff_ne, ne_eq, beq_iff_eq, beq_eq_false_iff_ne, bne_eq_false_iff_eq, Bool.not_eq_true', Bool.not_eq_false', Int.ofNat_lt, Int.natCast_inj])
  all_goals (repeat' (first | apply And.intro | intro _))
  all_goals (repeat (cases ‹_ ∧ _›))
  all_goals (first | omega | rfl | assumption | (simp_all; done) | skip)
  all_goals (first | (exact (alc_bad1 (by assumption)).symm) | (exact (alc_bad2 (by assumption)).symm) | skip)
  all_goals (have ha := ‹asV a = true›; have ht := ‹isT t = true›; have hs := asV_facts ha; have h1 := isT_iff.1 ht; have hl := fl9_len (occ a); have hm := alc_max ha ht; try rw [sAlc ha ht] at *)
  all_goals (first
   | omega
   | exact vA_of ha
   | exact hs.2.2.1
   | (rw [List.length_set]; exact hl)
   | exact alc_len ha ht (by assumption)
   | (have h9 := alc_len ha ht (i := _) (by assumption); omega)
   | (rw [alc_len ha ht (by assumption)]; omega)
   | exact Nat.le_trans (fL_len _ _) (by omega)
   | exact (alc_no ha ht (alc_get (by assumption)) (by assumption)).symm
   | exact alc_step (by assumption) (by assumption) (by assumption)
   | exact (alc_all ha ht (alc_end (by assumption) (by assumption))).symm
   | skip)
theorem vce_sAllocated (a : GAsn) (t : Int) (k : Nat) : VC_sAllocated a t k = vcQ tab (lookF L_sAllocated) (lookP P_sAllocated) (fun _ => false) (fun _ => none) (an_sAllocated a t) (fun _ => []) (bodyOf Try.f30) (entry (encs c_sAllocated.aks (a, t, ())) (rdOf false k)) (retOk tab c_sAllocated Try.f30.results.toList (a, t, ()) k) := by kernel_rfl
theorem vc_sAllocated (a : GAsn) (t : Int) (k : Nat) (hp : a.facts.length ≤ 281474976710656 ∧ a.atoms.length ≤ 281474976710656) : vcQ tab (lookF L_sAllocated) (lookP P_sAllocated) (fun _ => false) (fun _ => none) (an_sAllocated a t) (fun _ => []) (bodyOf Try.f30) (entry (encs c_sAllocated.aks (a, t, ())) (rdOf false k)) (retOk tab c_sAllocated Try.f30.results.toList (a, t, ()) k) := (vce_sAllocated a t k).mp (vcn_sAllocated a t k hp)
theorem ok_sAllocated : FnOk Try.prog E 30 c_sAllocated :=
  fn_okQ (l := L_sAllocated) (lp := P_sAllocated) (hp := fun _ => false) (gcs := fun _ => none) (perm := fun _ => []) tabOk mix ⟨ok_sAssertionValid, ok_l3Terms, ok_l1Is, ok_l5All, ok_l5Begins, ok_l5Filled, trivial⟩ trivial Try.func30 rfl (by kernel_rfl) (by decide) (by kernel_rfl) (anns := fun x _ => an_sAllocated x.1 x.2.1) (fun ⟨a, t, _⟩ k hp _ => vc_sAllocated a t k hp) tot_fn
end Go.Proofs.Yteoinddmoepbfaa

namespace Go.Proofs.Yteoinddmoepbfaa
open Go.SE Go.RowKit
set_option linter.unusedSimpArgs false
set_option linter.unusedVariables false
set_option maxHeartbeats 1000000
set_option maxRecDepth 100000
/-! beginsAt -/
abbrev c_beginsAt : Con := ⟨[.sl .atom, .int], [.bool], fun (l, c, _) => l.length ≤ 1048576, .inl fun (l, c, _) => (bgn l c, ()), fun _ => 0⟩
abbrev L_beginsAt : List (FuncId × Con) := []
abbrev P_beginsAt : List (FuncId × PT) := []
def an_beginsAt (l : List GAtom) (c : Int) : Nat → St → Option Ann
  | 2, se => some { α := Nat, ok := fun i => i ≤ l.length ∧ bgn (l.take i) c = false, mu := fun i => l.length - i, i0 := fun _ => 0, nx := fun a _ => (fun i => i + 1) a, live := [1, 7, 8], sets := fun i => [(9, sv (.int .i64 i))], mids := [], blks := fun i => [], owns := fun i => [], rd := fun r _ => r, base := 100000 }
  | _, _ => none
def VC_beginsAt (l : List GAtom) (c : Int) (k : Nat) : Prop := True ∧ True ∧ True ∧ True ∧ ((0 ≤ l.length ∧ bgn (l.take 0) c = false) ∧ TT ∧ (RL [.s (.c (.d (.val (.int .i64 c)))), .s (.c (.d (.arr .atom l))), .s (.c (.d (.val (.int .i64 ((l.length : Nat) : Int)))))]) ∧ (([.s (.c (.d (.val (.int .i64 (0 : Int)))))] : List S) = [.s (.c (.d (.val (.int .i64 ((0 : Nat) : Int)))))]) ∧ (RM []) ∧ (RM []) ∧ True ∧ TT) ∧ (∀ i1 : Nat, (i1 ≤ l.length ∧ bgn (l.take i1) c = false) → True ∧ (vcIf (decide (((i1 : Nat) : Int) < ((l.length : Nat) : Int))) ((0 ≤ ((i1 : Nat) : Int) ∧ ((i1 : Nat) : Int) < ((l.length : Nat) : Int)) ∧ True ∧ (TN ∧ True) ∧ (TF ∧ TF) ∧ True ∧ True ∧ True ∧ True ∧ (vcIf (((l.getD i1 (⟨0, 0, 0⟩ : GAtom)).a) == c) (True ∧ (((true, ()) : Bool × Unit) = (bgn l c, ())) ∧ True ∧ True ∧ True ∧ True ∧ TF) ((inK .i64 (((i1 : Nat) : Int) + (1 : Int))) ∧ True ∧ ((i1 + 1) ≤ l.length ∧ bgn (l.take (i1 + 1)) c = false) ∧ (l.length - (i1 + 1) < l.length - i1) ∧ TT ∧ (RL [.s (.c (.d (.val (.int .i64 c)))), .s (.c (.d (.arr .atom l))), .s (.c (.d (.val (.int .i64 ((l.length : Nat) : Int)))))]) ∧ (([.s (.c (.d (.val (.int .i64 (((i1 : Nat) : Int) + (1 : Int))))))] : List S) = [.s (.c (.d (.val (.int .i64 (((i1 + 1) : Nat) : Int)))))]) ∧ (RM []) ∧ (RM []) ∧ True ∧ TT))) (True ∧ (((false, ()) : Bool × Unit) = (bgn l c, ())) ∧ True ∧ True ∧ True ∧ True ∧ TF)))
theorem vcn_beginsAt (l : List GAtom) (c : Int) (k : Nat) (hp : l.length ≤ 1048576) : VC_beginsAt l c k := by
  unfold VC_beginsAt
  simp only [TT, TF, TN, RL, RM, true_and, and_true, eq_self, implies_true, forall_const, List.cons.injEq, S.s.injEq, S0.c.injEq, S0.agg.injEq, CV.d.injEq, CV.own.injEq, CV.ptr.injEq, DC.val.injEq, Value.int.injEq, Value.bool.injEq, Option.some.injEq, Res.blk.injEq, Prod.mk.injEq, inK, min_i64, max_i64, min_u16, max_u16, min_u8, max_u8, min_u64, max_u64, vcIf_true, vcIf_false, List.mem_nil_iff, List.not_mem_nil, not_false_eq_true, Nat.reduceEqDiff, Nat.reduceLeDiff, ne_eq, Bool.and_true, Nat.add_zero, List.append_nil, List.nil_append, List.length_nil, List.length_cons, Nat.zero_add, Nat.reduceAdd, Int.toNat_natCast, Nat.sub_zero, List.drop_zero, List.map_nil, List.take_zero, forall_eq]
  all_goals (try simp only [vcIf_iff, decide_eq_true_eq, decide_eq_false_iff_not, bne_iff_ne, ne_eq, beq_iff_eq, beq_eq_false_iff_ne, bne_eq_false_iff_eq, Bool.not_eq_true', Bool.not_eq_false', Int.ofNat_lt, Int.natCast_inj])
  all_goals (repeat' (first | apply And.intro | intro _))
  all_goals (repeat (cases ‹_ ∧ _›))
  all_goals (first | omega | rfl | assumption | (simp_all; done) | skip)
  all_goals (first
   | exact (bgn_yes (by assumption) (by assumption)).symm
   | exact bgn_step (by assumption) (by assumption) (by assumption)
   | exact (bgn_end (by assumption) (by assumption)).symm
   | skip)
theorem vce_beginsAt (l : List GAtom) (c : Int) (k : Nat) : VC_beginsAt l c k = vcQ tab (lookF L_beginsAt) (lookP P_beginsAt) (fun _ => false) (fun _ => none) (an_beginsAt l c) (fun _ => []) (bodyOf Try.f89) (entry (encs c_beginsAt.aks (l, c, ())) (rdOf false k)) (retOk tab c_beginsAt Try.f89.results.toList (l, c, ()) k) := by kernel_rfl
theorem vc_beginsAt (l : List GAtom) (c : Int) (k : Nat) (hp : l.length ≤ 1048576) : vcQ tab (lookF L_beginsAt) (lookP P_beginsAt) (fun _ => false) (fun _ => none) (an_beginsAt l c) (fun _ => []) (bodyOf Try.f89) (entry (encs c_beginsAt.aks (l, c, ())) (rdOf false k)) (retOk tab c_beginsAt Try.f89.results.toList (l, c, ()) k) := (vce_beginsAt l c k).mp (vcn_beginsAt l c k hp)
theorem ok_beginsAt : FnOk Try.prog E 89 c_beginsAt :=
  fn_okQ (l := L_beginsAt) (lp := P_beginsAt) (hp := fun _ => false) (gcs := fun _ => none) (perm := fun _ => []) tabOk mix trivial trivial Try.func89 rfl (by kernel_rfl) (by decide) (by kernel_rfl) (anns := fun x _ => an_beginsAt x.1 x.2.1) (fun ⟨l, c, _⟩ k hp _ => vc_beginsAt l c k hp) tot_fn
end Go.Proofs.Yteoinddmoepbfaa

namespace Go.Proofs.Yteoinddmoepbfaa
open Go.SE Go.RowKit
set_option linter.unusedSimpArgs false
set_option linter.unusedVariables false
set_option maxHeartbeats 1000000
set_option maxRecDepth 100000
/-! iFilled -/
abbrev c_iFilled : Con := ⟨[.pkase, .sl .atom], [.sl .atom], fun (c, l, _) => l.length ≤ 1048576 ∧ l.all atV = true ∧ c.length = 9, .inl fun (c, l, _) => (fL c l, ()), fun _ => 0⟩
abbrev L_iFilled : List (FuncId × Con) := [(126, c_isFilled)]
abbrev P_iFilled : List (FuncId × PT) := []
def an_iFilled (c : List Int) (l : List GAtom) : Nat → St → Option Ann
  | 3, se => some { α := Nat, ok := fun i => i ≤ l.length, mu := fun i => l.length - i, i0 := fun _ => 0, nx := fun a _ => (fun i => i + 1) a, live := [0, 4, 8, 9], sets := fun i => [(10, sv (.int .i64 i))], mids := [64], blks := fun i => [], owns := fun i => [⟨7, .slot 5, .atom, fL c (l.take i)⟩], rd := fun r _ => r, base := 100000 }
  | _, _ => none
def VC_iFilled (c : List Int) (l : List GAtom) (k : Nat) : Prop := TN ∧ TN ∧ True ∧ True ∧ True ∧ ((0 ≤ l.length) ∧ TT ∧ (RL [.s (.c (.rv .int c)), .s (.c (.own 64)), .s (.c (.d (.arr .atom l))), .s (.c (.d (.val (.int .i64 ((l.length : Nat) : Int)))))]) ∧ (([.s (.c (.d (.val (.int .i64 (0 : Int)))))] : List S) = [.s (.c (.d (.val (.int .i64 ((0 : Nat) : Int)))))]) ∧ (RM [some (.sl 64 .atom ([] : List GAtom))]) ∧ (RM []) ∧ (((some ([] : List GAtom) : Option (List GAtom)) = some (fL c (l.take 0))) ∧ True) ∧ TT) ∧ (∀ i1 : Nat, (i1 ≤ l.length) → True ∧ (vcIf (decide (((i1 : Nat) : Int) < ((l.length : Nat) : Int))) ((0 ≤ ((i1 : Nat) : Int) ∧ ((i1 : Nat) : Int) < ((l.length : Nat) : Int)) ∧ True ∧ (TN ∧ True) ∧ (TF ∧ TF) ∧ True ∧ True ∧ ((c.length = 9 ∧ atV (l.getD i1 (⟨0, 0, 0⟩ : GAtom)) = true) ∧ True ∧ True) ∧ (vcIf (filB c (l.getD i1 (⟨0, 0, 0⟩ : GAtom))) (True ∧ True ∧ True ∧ True ∧ True ∧ True ∧ True ∧ (0 ≤ ((l.getD i1 (⟨0, 0, 0⟩ : GAtom)).a) ∧ ((l.getD i1 (⟨0, 0, 0⟩ : GAtom)).a) < ((9 : Nat) : Int) ∧ c.length = 9) ∧ True ∧ True ∧ True ∧ True ∧ True ∧ (0 ≤ ((l.getD i1 (⟨0, 0, 0⟩ : GAtom)).b) ∧ ((l.getD i1 (⟨0, 0, 0⟩ : GAtom)).b) < ((9 : Nat) : Int) ∧ c.length = 9) ∧ True ∧ True ∧ (TN ∧ True) ∧ (TN ∧ TF ∧ TF ∧ ((fL c (l.take i1)).length + ([(⟨(l.getD i1 (⟨0, 0, 0⟩ : GAtom)).kind, (c.getD ((l.getD i1 (⟨0, 0, 0⟩ : GAtom)).a).toNat (0 : Int)), (c.getD ((l.getD i1 (⟨0, 0, 0⟩ : GAtom)).b).toNat (0 : Int))⟩ : GAtom)] : List GAtom).length ≤ 4294967296)) ∧ True ∧ (inK .i64 (((i1 : Nat) : Int) + (1 : Int))) ∧ True ∧ ((i1 + 1) ≤ l.length) ∧ (l.length - (i1 + 1) < l.length - i1) ∧ TT ∧ (RL [.s (.c (.rv .int c)), .s (.c (.own 64)), .s (.c (.d (.arr .atom l))), .s (.c (.d (.val (.int .i64 ((l.length : Nat) : Int)))))]) ∧ (([.s (.c (.d (.val (.int .i64 (((i1 : Nat) : Int) + (1 : Int))))))] : List S) = [.s (.c (.d (.val (.int .i64 (((i1 + 1) : Nat) : Int)))))]) ∧ (RM [some (.sl 64 .atom ([] : List GAtom))]) ∧ (RM []) ∧ (((some ((fL c (l.take i1)) ++ ([(⟨(l.getD i1 (⟨0, 0, 0⟩ : GAtom)).kind, (c.getD ((l.getD i1 (⟨0, 0, 0⟩ : GAtom)).a).toNat (0 : Int)), (c.getD ((l.getD i1 (⟨0, 0, 0⟩ : GAtom)).b).toNat (0 : Int))⟩ : GAtom)] : List GAtom)) : Option (List GAtom)) = some (fL c (l.take (i1 + 1)))) ∧ True) ∧ TT) ((inK .i64 (((i1 : Nat) : Int) + (1 : Int))) ∧ True ∧ ((i1 + 1) ≤ l.length) ∧ (l.length - (i1 + 1) < l.length - i1) ∧ TT ∧ (RL [.s (.c (.rv .int c)), .s (.c (.own 64)), .s (.c (.d (.arr .atom l))), .s (.c (.d (.val (.int .i64 ((l.length : Nat) : Int)))))]) ∧ (([.s (.c (.d (.val (.int .i64 (((i1 : Nat) : Int) + (1 : Int))))))] : List S) = [.s (.c (.d (.val (.int .i64 (((i1 + 1) : Nat) : Int)))))]) ∧ (RM [some (.sl 64 .atom ([] : List GAtom))]) ∧ (RM []) ∧ (((some (fL c (l.take i1)) : Option (List GAtom)) = some (fL c (l.take (i1 + 1)))) ∧ True) ∧ TT))) (True ∧ True ∧ (((fL c (l.take i1), ()) : (List GAtom) × Unit) = (fL c l, ())) ∧ (True ∧ True) ∧ ((TF ∧ TF) ∧ True) ∧ True ∧ (True ∧ True) ∧ TF)))
theorem vcn_iFilled (c : List Int) (l : List GAtom) (k : Nat) (hp : l.length ≤ 1048576 ∧ l.all atV = true ∧ c.length = 9) : VC_iFilled c l k := by
  unfold VC_iFilled
  simp only [TT, TF, TN, RL, RM, true_and, and_true, eq_self, implies_true, forall_const, List.cons.injEq, S.s.injEq, S0.c.injEq, S0.agg.injEq, CV.d.injEq, CV.own.injEq, CV.ptr.injEq, DC.val.injEq, Value.int.injEq, Value.bool.injEq, Option.some.injEq, Res.blk.injEq, Prod.mk.injEq, inK, min_i64, max_i64, min_u16, max_u16, min_u8, max_u8, min_u64, max_u64, vcIf_true, vcIf_false, List.mem_nil_iff, List.not_mem_nil, not_false_eq_true, Nat.reduceEqDiff, Nat.reduceLeDiff, ne_eq, Bool.and_true, Nat.add_zero, List.append_nil, List.nil_append, List.length_nil, List.length_cons, Nat.zero_add, Nat.reduceAdd, Int.toNat_natCast, Nat.sub_zero, List.drop_zero, List.map_nil, List.take_zero, forall_eq]
  have hV := hp.2.1
  have hL : ∀ i, (fL c (l.take i)).length ≤ 1048576 := fun i => Nat.le_trans (fL_len _ _) (by simp; omega)
  all_goals (try simp only [vcIf_iff, decide_eq_true_eq, decide_eq_false_iff_not, bne_iff_ne, ne_eq, beq_iff_eq, beq_eq_false_iff_ne, bne_eq_false_iff_eq, Bool.not_eq_true', Bool.not_eq_false', Int.ofNat_lt, Int.natCast_inj])
  all_goals (repeat' (first | apply And.intro | intro _))
  all_goals (repeat (cases ‹_ ∧ _›))
  all_goals (first | omega | rfl | assumption | (simp_all; done) | skip)
  all_goals (first
   | (have h1 := atom_idx (l := l) hV (by assumption); omega)
   | exact Nat.le_trans (hL _) (by decide)
   | (rw [fL_step (d := ⟨0, 0, 0⟩) (by assumption), (by assumption : filB c _ = true)]; rfl)
   | (rw [fL_step (d := ⟨0, 0, 0⟩) (by assumption), (by assumption : filB c _ = false)]; rfl)
   | (rw [take_full (l := l) (by assumption)]; done) | skip)
theorem vce_iFilled (c : List Int) (l : List GAtom) (k : Nat) : VC_iFilled c l k = vcQ tab (lookF L_iFilled) (lookP P_iFilled) (fun _ => false) (fun _ => none) (an_iFilled c l) (fun _ => []) (bodyOf Try.f90) (entry (encs c_iFilled.aks (c, l, ())) (rdOf false k)) (retOk tab c_iFilled Try.f90.results.toList (c, l, ()) k) := by kernel_rfl
theorem vc_iFilled (c : List Int) (l : List GAtom) (k : Nat) (hp : l.length ≤ 1048576 ∧ l.all atV = true ∧ c.length = 9) : vcQ tab (lookF L_iFilled) (lookP P_iFilled) (fun _ => false) (fun _ => none) (an_iFilled c l) (fun _ => []) (bodyOf Try.f90) (entry (encs c_iFilled.aks (c, l, ())) (rdOf false k)) (retOk tab c_iFilled Try.f90.results.toList (c, l, ()) k) := (vce_iFilled c l k).mp (vcn_iFilled c l k hp)
theorem ok_iFilled : FnOk Try.prog E 90 c_iFilled :=
  fn_okQ (l := L_iFilled) (lp := P_iFilled) (hp := fun _ => false) (gcs := fun _ => none) (perm := fun _ => []) tabOk mix ⟨ok_isFilled, trivial⟩ trivial Try.func90 rfl (by kernel_rfl) (by decide) (by kernel_rfl) (anns := fun x _ => an_iFilled x.1 x.2.1) (fun ⟨c, l, _⟩ k hp _ => vc_iFilled c l k hp) tot_fn
end Go.Proofs.Yteoinddmoepbfaa
