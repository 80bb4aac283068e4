/-
  Contracts of single functions of the program, each shown by the engine: what a call returns for arguments within the contract's bounds.
-/
import Derived.Test.YtejcmcbpfnmlaaaFFnCasesFacta
import Derived.Test.YtejcmcbpfnmlaaaEf
import Derived.Test.YtejcmcbpfnmlaaaEe
set_option linter.unusedSimpArgs false
set_option linter.unusedVariables false
set_option linter.unusedSectionVars false

namespace Go.Proofs.Ytejcmcbpfnmlaaa
open Go.SE Go.RowKit
set_option linter.unusedSimpArgs false
set_option linter.unusedVariables false
set_option maxHeartbeats 1000000
set_option maxRecDepth 100000

/-! the iterator -/
abbrev L_ext : List (FuncId × Con) := [(129, c_tsHas), (153, c_possible)]
def an_ext (a : GAsn) (tm : Int) (go : List Int → Bool) (T : CG) (l : Nat) (t t' : Int) (en en' : List Int → CG) (c : List Int) (γ : CG) : Nat → St → CG → Option (AnnY CG)
  | 7, st0, GM => some ⟨{ α := Nat × List Int, ok := fun p => p.1 ≤ t.toNat + 1 ∧ p.2.length = 9 ∧ (∀ x : Int, p.2.set t.toNat x = c.set t.toNat x) ∧ ((List.range p.1).flatMap (brC (poss a) en t.toNat c)).all go = true, mu := fun p => t.toNat + 1 - p.1, i0 := fun _ => (0, c), nx := fun p st => (p.1 + 1, vecAt st 95), live := [1, 3, 4, 5, 7], sets := fun p => [(11, sv (.int .i64 p.1))], mids := [127], blks := fun p => [(95, .vec .int p.2)], owns := fun p => [], rd := fun r _ => r, base := 100000 }, fun p => GM ++ (List.range p.1).flatMap (brC (poss a) en t.toNat c)⟩
  | _, _, _ => none
def hp_ext : Nat → Bool
  | 2 => true
  | 5 => true
  | 11 => true
  | _ => false
def VC_ext_1 (a : GAsn) (tm : Int) (go : List Int → Bool) (T : CG) (l : Nat) (t t' : Int) (en en' : List Int → CG) (c : List Int) (γ : CG) (p1 : Nat × List Int) : Prop := (True ∧ (vcIf (possI a (p1.2.set t.toNat (p1.1 : Int)) t) ((9 = (p1.2.set t.toNat (p1.1 : Int)).length * 1) ∧ True ∧ (inK .i64 (t + (1 : Int))) ∧ True ∧ True ∧ True ∧ (((none : Option Nat) = none) ∧ ((p1.2.set t.toNat (p1.1 : Int)).length = 9) ∧ ((t + (1 : Int)) = t') ∧ (a.facts = a.facts) ∧ (a.atoms = a.atoms) ∧ (tm = tm) ∧ ((yV l : Value) = yV l) ∧ ((γ ++ (List.range p1.1).flatMap (brC (poss a) en t.toNat c)).all go = true) ∧ (((γ ++ (List.range p1.1).flatMap (brC (poss a) en t.toNat c)) ++ en (p1.2.set t.toNat (p1.1 : Int))) <+: T)) ∧ True ∧ True ∧ (vcIf (!((en (p1.2.set t.toNat (p1.1 : Int))).all go)) (TT ∧ True ∧ ((none : Option Nat) = none) ∧ (false = (en' c).all go) ∧ ((γ ++ (List.range p1.1).flatMap (brC (poss a) en t.toNat c) ++ upTo go (en (p1.2.set t.toNat (p1.1 : Int))) : CG) = γ ++ upTo go (en' c))) (TT ∧ True ∧ (inK .i64 ((p1.1 : Int) + (1 : Int))) ∧ True ∧ ((p1.1 + 1, (p1.2.set t.toNat (p1.1 : Int))).1 ≤ t.toNat + 1 ∧ (p1.1 + 1, (p1.2.set t.toNat (p1.1 : Int))).2.length = 9 ∧ (∀ x : Int, (p1.1 + 1, (p1.2.set t.toNat (p1.1 : Int))).2.set t.toNat x = c.set t.toNat x) ∧ ((List.range (p1.1 + 1, (p1.2.set t.toNat (p1.1 : Int))).1).flatMap (brC (poss a) en t.toNat c)).all go = true) ∧ ((γ ++ (List.range (p1.1 + 1, (p1.2.set t.toNat (p1.1 : Int))).1).flatMap (brC (poss a) en t.toNat c) : CG) = γ ++ (List.range p1.1).flatMap (brC (poss a) en t.toNat c) ++ upTo go (en (p1.2.set t.toNat (p1.1 : Int)))) ∧ (t.toNat + 1 - (p1.1 + 1, (p1.2.set t.toNat (p1.1 : Int))).1 < t.toNat + 1 - p1.1) ∧ TT ∧ (RL [.s (.c (.d (.val (.int .i64 t)))), .s (.c (.d (.val (.int .u16 tm)))), .s (.c (.d (.val (yV l)))), .s (.c (.ptr 95 0)), .s (.c (.ptr 127 0))]) ∧ (([.s (.c (.d (.val (.int .i64 ((p1.1 : Int) + (1 : Int))))))] : List S) = [.s (.c (.d (.val (.int .i64 ((p1.1 + 1, (p1.2.set t.toNat (p1.1 : Int))).1 : Int)))))]) ∧ (RM [some (.blk [.d (.arr .fact a.facts), .d (.arr .atom a.atoms)])]) ∧ (([some (.vec .int (p1.2.set t.toNat (p1.1 : Int)))] : List (Option Res)) = [some (.vec .int ((p1.1 + 1, (p1.2.set t.toNat (p1.1 : Int))).2))]) ∧ True ∧ TT))) (True ∧ TT ∧ True ∧ (inK .i64 ((p1.1 : Int) + (1 : Int))) ∧ True ∧ ((p1.1 + 1, (p1.2.set t.toNat (p1.1 : Int))).1 ≤ t.toNat + 1 ∧ (p1.1 + 1, (p1.2.set t.toNat (p1.1 : Int))).2.length = 9 ∧ (∀ x : Int, (p1.1 + 1, (p1.2.set t.toNat (p1.1 : Int))).2.set t.toNat x = c.set t.toNat x) ∧ ((List.range (p1.1 + 1, (p1.2.set t.toNat (p1.1 : Int))).1).flatMap (brC (poss a) en t.toNat c)).all go = true) ∧ ((γ ++ (List.range (p1.1 + 1, (p1.2.set t.toNat (p1.1 : Int))).1).flatMap (brC (poss a) en t.toNat c) : CG) = γ ++ (List.range p1.1).flatMap (brC (poss a) en t.toNat c)) ∧ (t.toNat + 1 - (p1.1 + 1, (p1.2.set t.toNat (p1.1 : Int))).1 < t.toNat + 1 - p1.1) ∧ TT ∧ (RL [.s (.c (.d (.val (.int .i64 t)))), .s (.c (.d (.val (.int .u16 tm)))), .s (.c (.d (.val (yV l)))), .s (.c (.ptr 95 0)), .s (.c (.ptr 127 0))]) ∧ (([.s (.c (.d (.val (.int .i64 ((p1.1 : Int) + (1 : Int))))))] : List S) = [.s (.c (.d (.val (.int .i64 ((p1.1 + 1, (p1.2.set t.toNat (p1.1 : Int))).1 : Int)))))]) ∧ (RM [some (.blk [.d (.arr .fact a.facts), .d (.arr .atom a.atoms)])]) ∧ (([some (.vec .int (p1.2.set t.toNat (p1.1 : Int)))] : List (Option Res)) = [some (.vec .int ((p1.1 + 1, (p1.2.set t.toNat (p1.1 : Int))).2))]) ∧ True ∧ TT)))
def VC_ext_2 (a : GAsn) (tm : Int) (go : List Int → Bool) (T : CG) (l : Nat) (t t' : Int) (en en' : List Int → CG) (c : List Int) (γ : CG) (p1 : Nat × List Int) : Prop := (True ∧ (vcIf (possI a (p1.2.set t.toNat (p1.1 : Int)) t) ((9 = (p1.2.set t.toNat (p1.1 : Int)).length * 1) ∧ True ∧ (inK .i64 (t + (1 : Int))) ∧ True ∧ True ∧ True ∧ (((none : Option Nat) = none) ∧ ((p1.2.set t.toNat (p1.1 : Int)).length = 9) ∧ ((t + (1 : Int)) = t') ∧ (a.facts = a.facts) ∧ (a.atoms = a.atoms) ∧ (tm = tm) ∧ ((yV l : Value) = yV l) ∧ ((γ ++ (List.range p1.1).flatMap (brC (poss a) en t.toNat c)).all go = true) ∧ (((γ ++ (List.range p1.1).flatMap (brC (poss a) en t.toNat c)) ++ en (p1.2.set t.toNat (p1.1 : Int))) <+: T)) ∧ True ∧ True ∧ (vcIf (!((en (p1.2.set t.toNat (p1.1 : Int))).all go)) (TT ∧ True ∧ ((none : Option Nat) = none) ∧ (false = (en' c).all go) ∧ ((γ ++ (List.range p1.1).flatMap (brC (poss a) en t.toNat c) ++ upTo go (en (p1.2.set t.toNat (p1.1 : Int))) : CG) = γ ++ upTo go (en' c))) (TT ∧ True ∧ (inK .i64 ((p1.1 : Int) + (1 : Int))) ∧ True ∧ ((p1.1 + 1, (p1.2.set t.toNat (p1.1 : Int))).1 ≤ t.toNat + 1 ∧ (p1.1 + 1, (p1.2.set t.toNat (p1.1 : Int))).2.length = 9 ∧ (∀ x : Int, (p1.1 + 1, (p1.2.set t.toNat (p1.1 : Int))).2.set t.toNat x = c.set t.toNat x) ∧ ((List.range (p1.1 + 1, (p1.2.set t.toNat (p1.1 : Int))).1).flatMap (brC (poss a) en t.toNat c)).all go = true) ∧ ((γ ++ (List.range (p1.1 + 1, (p1.2.set t.toNat (p1.1 : Int))).1).flatMap (brC (poss a) en t.toNat c) : CG) = γ ++ (List.range p1.1).flatMap (brC (poss a) en t.toNat c) ++ upTo go (en (p1.2.set t.toNat (p1.1 : Int)))) ∧ (t.toNat + 1 - (p1.1 + 1, (p1.2.set t.toNat (p1.1 : Int))).1 < t.toNat + 1 - p1.1) ∧ TT ∧ (RL [.s (.c (.d (.val (.int .i64 t)))), .s (.c (.d (.val (.int .u16 tm)))), .s (.c (.d (.val (yV l)))), .s (.c (.ptr 95 0)), .s (.c (.ptr 127 0))]) ∧ (([.s (.c (.d (.val (.int .i64 ((p1.1 : Int) + (1 : Int))))))] : List S) = [.s (.c (.d (.val (.int .i64 ((p1.1 + 1, (p1.2.set t.toNat (p1.1 : Int))).1 : Int)))))]) ∧ (RM [some (.blk [.d (.arr .fact a.facts), .d (.arr .atom a.atoms)])]) ∧ (([some (.vec .int (p1.2.set t.toNat (p1.1 : Int)))] : List (Option Res)) = [some (.vec .int ((p1.1 + 1, (p1.2.set t.toNat (p1.1 : Int))).2))]) ∧ True ∧ TT))) (True ∧ TT ∧ True ∧ (inK .i64 ((p1.1 : Int) + (1 : Int))) ∧ True ∧ ((p1.1 + 1, (p1.2.set t.toNat (p1.1 : Int))).1 ≤ t.toNat + 1 ∧ (p1.1 + 1, (p1.2.set t.toNat (p1.1 : Int))).2.length = 9 ∧ (∀ x : Int, (p1.1 + 1, (p1.2.set t.toNat (p1.1 : Int))).2.set t.toNat x = c.set t.toNat x) ∧ ((List.range (p1.1 + 1, (p1.2.set t.toNat (p1.1 : Int))).1).flatMap (brC (poss a) en t.toNat c)).all go = true) ∧ ((γ ++ (List.range (p1.1 + 1, (p1.2.set t.toNat (p1.1 : Int))).1).flatMap (brC (poss a) en t.toNat c) : CG) = γ ++ (List.range p1.1).flatMap (brC (poss a) en t.toNat c)) ∧ (t.toNat + 1 - (p1.1 + 1, (p1.2.set t.toNat (p1.1 : Int))).1 < t.toNat + 1 - p1.1) ∧ TT ∧ (RL [.s (.c (.d (.val (.int .i64 t)))), .s (.c (.d (.val (.int .u16 tm)))), .s (.c (.d (.val (yV l)))), .s (.c (.ptr 95 0)), .s (.c (.ptr 127 0))]) ∧ (([.s (.c (.d (.val (.int .i64 ((p1.1 : Int) + (1 : Int))))))] : List S) = [.s (.c (.d (.val (.int .i64 ((p1.1 + 1, (p1.2.set t.toNat (p1.1 : Int))).1 : Int)))))]) ∧ (RM [some (.blk [.d (.arr .fact a.facts), .d (.arr .atom a.atoms)])]) ∧ (([some (.vec .int (p1.2.set t.toNat (p1.1 : Int)))] : List (Option Res)) = [some (.vec .int ((p1.1 + 1, (p1.2.set t.toNat (p1.1 : Int))).2))]) ∧ True ∧ TT)))
def VC_ext_3 (a : GAsn) (tm : Int) (go : List Int → Bool) (T : CG) (l : Nat) (t t' : Int) (en en' : List Int → CG) (c : List Int) (γ : CG) : Prop := (True ∧ (vcIf (!(tsHas tm t)) (TT ∧ True ∧ (0 ≤ t ∧ t < ((9 : Nat) : Int) ∧ c.length = 9) ∧ (TF ∧ TF ∧ True) ∧ TT ∧ (9 = (c.set t.toNat (-1 : Int)).length * 1) ∧ True ∧ (inK .i64 (t + (1 : Int))) ∧ True ∧ True ∧ True ∧ (((none : Option Nat) = none) ∧ ((c.set t.toNat (-1 : Int)).length = 9) ∧ ((t + (1 : Int)) = t') ∧ (a.facts = a.facts) ∧ (a.atoms = a.atoms) ∧ (tm = tm) ∧ ((yV l : Value) = yV l) ∧ (γ.all go = true) ∧ ((γ ++ en (c.set t.toNat (-1 : Int))) <+: T)) ∧ True ∧ ((none : Option Nat) = none) ∧ (((en (c.set t.toNat (-1 : Int))).all go) = (en' c).all go) ∧ ((γ ++ upTo go (en (c.set t.toNat (-1 : Int))) : CG) = γ ++ upTo go (en' c))) (TT ∧ True ∧ (((0, c).1 ≤ t.toNat + 1 ∧ (0, c).2.length = 9 ∧ (∀ x : Int, (0, c).2.set t.toNat x = c.set t.toNat x) ∧ ((List.range (0, c).1).flatMap (brC (poss a) en t.toNat c)).all go = true) ∧ ((γ ++ (List.range (0, c).1).flatMap (brC (poss a) en t.toNat c) : CG) = γ) ∧ TT ∧ (RL [.s (.c (.d (.val (.int .i64 t)))), .s (.c (.d (.val (.int .u16 tm)))), .s (.c (.d (.val (yV l)))), .s (.c (.ptr 95 0)), .s (.c (.ptr 127 0))]) ∧ (([.s (.c (.d (.val (.int .i64 (0 : Int)))))] : List S) = [.s (.c (.d (.val (.int .i64 ((0, c).1 : Int)))))]) ∧ (RM [some (.blk [.d (.arr .fact a.facts), .d (.arr .atom a.atoms)])]) ∧ (([some (.vec .int c)] : List (Option Res)) = [some (.vec .int ((0, c).2))]) ∧ True ∧ TT) ∧ (∀ p1 : Nat × List Int, (p1.1 ≤ t.toNat + 1 ∧ p1.2.length = 9 ∧ (∀ x : Int, p1.2.set t.toNat x = c.set t.toNat x) ∧ ((List.range p1.1).flatMap (brC (poss a) en t.toNat c)).all go = true) → TT ∧ True ∧ True ∧ True ∧ (vcIf (decide ((p1.1 : Int) ≤ t)) (TT ∧ True ∧ True ∧ True ∧ True ∧ (vcIf (decide ((p1.1 : Int) < t)) (True ∧ (0 ≤ (p1.1 : Int) ∧ (p1.1 : Int) < ((9 : Nat) : Int) ∧ p1.2.length = 9) ∧ True ∧ True ∧ True ∧ True ∧ (vcIf ((p1.2.getD (p1.1 : Int).toNat (0 : Int)) != (p1.1 : Int)) (TT ∧ True ∧ (inK .i64 ((p1.1 : Int) + (1 : Int))) ∧ True ∧ ((p1.1 + 1, p1.2).1 ≤ t.toNat + 1 ∧ (p1.1 + 1, p1.2).2.length = 9 ∧ (∀ x : Int, (p1.1 + 1, p1.2).2.set t.toNat x = c.set t.toNat x) ∧ ((List.range (p1.1 + 1, p1.2).1).flatMap (brC (poss a) en t.toNat c)).all go = true) ∧ ((γ ++ (List.range (p1.1 + 1, p1.2).1).flatMap (brC (poss a) en t.toNat c) : CG) = γ ++ (List.range p1.1).flatMap (brC (poss a) en t.toNat c)) ∧ (t.toNat + 1 - (p1.1 + 1, p1.2).1 < t.toNat + 1 - p1.1) ∧ TT ∧ (RL [.s (.c (.d (.val (.int .i64 t)))), .s (.c (.d (.val (.int .u16 tm)))), .s (.c (.d (.val (yV l)))), .s (.c (.ptr 95 0)), .s (.c (.ptr 127 0))]) ∧ (([.s (.c (.d (.val (.int .i64 ((p1.1 : Int) + (1 : Int))))))] : List S) = [.s (.c (.d (.val (.int .i64 ((p1.1 + 1, p1.2).1 : Int)))))]) ∧ (RM [some (.blk [.d (.arr .fact a.facts), .d (.arr .atom a.atoms)])]) ∧ (([some (.vec .int p1.2)] : List (Option Res)) = [some (.vec .int ((p1.1 + 1, p1.2).2))]) ∧ True ∧ TT) (TT ∧ True ∧ True ∧ (0 ≤ t ∧ t < ((9 : Nat) : Int) ∧ p1.2.length = 9) ∧ (TF ∧ TF ∧ True) ∧ TT ∧ True ∧ True ∧ (((p1.2.set t.toNat (p1.1 : Int)).length = 9 ∧ asV a = true ∧ 0 ≤ t ∧ t ≤ 8) ∧ True ∧ True) ∧ (VC_ext_1 a tm go T l t t' en en' c γ p1)))) (True ∧ TT ∧ True ∧ True ∧ (0 ≤ t ∧ t < ((9 : Nat) : Int) ∧ p1.2.length = 9) ∧ (TF ∧ TF ∧ True) ∧ TT ∧ True ∧ True ∧ (((p1.2.set t.toNat (p1.1 : Int)).length = 9 ∧ asV a = true ∧ 0 ≤ t ∧ t ≤ 8) ∧ True ∧ True) ∧ (VC_ext_2 a tm go T l t t' en en' c γ p1)))) (TT ∧ True ∧ ((none : Option Nat) = none) ∧ (true = (en' c).all go) ∧ ((γ ++ (List.range p1.1).flatMap (brC (poss a) en t.toNat c) : CG) = γ ++ upTo go (en' c))))))))
def VC_ext (a : GAsn) (tm : Int) (go : List Int → Bool) (T : CG) (l : Nat) (t t' : Int) (en en' : List Int → CG) (c : List Int) (γ : CG) : Prop := TT ∧ TN ∧ TN ∧ True ∧ TT ∧ True ∧ True ∧ (vcIf (decide ((8 : Int) < t)) (TT ∧ True ∧ (9 = c.length * 1) ∧ (((none : Option Nat) = none) ∧ ((.s (.c (.d (.val (yV l)))) : S) = .s (.c (.d (.val (yV l))))) ∧ (γ.all go = true) ∧ ((γ ++ [c]) <+: T)) ∧ True ∧ ((none : Option Nat) = none) ∧ ((go c) = (en' c).all go) ∧ ((γ ++ [c] : CG) = γ ++ upTo go (en' c))) (TT ∧ True ∧ True ∧ ((0 ≤ tm ∧ tm < 512) ∧ True ∧ True) ∧ (VC_ext_3 a tm go T l t t' en en' c γ)))
theorem vcn_ext (a : GAsn) (tm : Int) (go : List Int → Bool) (T : CG) (l : Nat) (t t' : Int) (en en' : List Int → CG) (c : List Int) (γ : CG) (hp : asV a = true ∧ 0 ≤ tm ∧ tm < 512) (ht : 0 ≤ t ∧ t ≤ 9) (ht' : t' = t + 1) (hc : c.length = 9) (hgo : γ.all go = true) (hT : (γ ++ en' c) <+: T) (h9 : 8 < t → en' c = [c]) (h8 : ¬ 8 < t → en' c = cond (tsHas tm t) ((List.range (t.toNat + 1)).flatMap (brC (poss a) en t.toNat c)) (en (c.set t.toNat (-1)))) : VC_ext a tm go T l t t' en en' c γ := by
  unfold VC_ext VC_ext_3 VC_ext_2 VC_ext_1
  simp only [cln, Nat.reduceEqDiff, Nat.reduceLeDiff, Nat.reduceAdd]
  obtain ⟨n, rfl⟩ : ∃ n : Nat, t = (n : Int) := ⟨t.toNat, by omega⟩
  simp only [Int.toNat_natCast] at h8 ⊢
  all_goals (try simp only [vcIf_iff, decide_eq_true_eq, decide_eq_false_iff_not, bne_iff_ne, ne_eq, beq_iff_eq, beq_eq_false_iff_ne, bne_eq_false_iff_eq, Bool.not_eq_true', Bool.not_eq_false', Int.ofNat_lt, Int.natCast_inj])
  all_goals (repeat' (first | apply And.intro | intro _))
  all_goals (first | omega | assumption | rfl | (simp_all; done) | skip)
  · rw [h9 (by assumption)]; simp only [upTo]; cases go c <;> rfl
  all_goals (have hL := h8 (by assumption); rw [(by assumption : tsHas tm (n : Int) = true), cond_true] at hL)
  all_goals (have hok := (by assumption : _ ∧ _ ∧ (∀ x : Int, _) ∧ _); obtain ⟨k1, k2, k3, k4⟩ := hok)
  all_goals (first
    | (have e := fl_skip (a := a) (en := en) k3 (by omega) (by assumption); unfold flC at e; rw [e]; assumption) | (have e := fl_skip (a := a) (en := en) k3 (by omega) (by assumption); unfold flC at e; rw [e]; done)
    | (rw [List.all_append, hgo, k4]; rfl)
    | (exact fl_pre hL k3 (.inr (by assumption)) (by assumption) (by assumption) hT) | (exact fl_pre hL k3 (.inl (by omega)) (by assumption) (by assumption) hT)
    | (exact (fl_all (γ := γ) hL k3 (.inr (by assumption)) (by assumption) (by assumption) (by assumption) k4).1) | (exact (fl_all (γ := γ) hL k3 (.inl (by omega)) (by assumption) (by assumption) (by assumption) k4).1)
    | (exact (fl_all hL k3 (.inr (by assumption)) (by assumption) (by assumption) (by assumption) k4).2) | (exact (fl_all hL k3 (.inl (by omega)) (by assumption) (by assumption) (by assumption) k4).2)
    | (exact (fl_end (γ := γ) hL k1 (by assumption) k4).1) | (exact (fl_end hL k1 (by assumption) k4).2)
    | (have e := fl_no (en := en) k3 (by assumption); unfold flC at e; rw [e]; assumption) | (have e := fl_no (en := en) k3 (by assumption); unfold flC at e; rw [e]; done)
    | (have e := fl_yes (en := en) k3 (.inr (by assumption)) (by assumption) (by assumption); unfold flC at e; rw [e, List.all_append, k4, (by assumption : List.all (en _) go = true)]; rfl)
    | (have e := fl_yes (en := en) k3 (.inl (by omega)) (by assumption) (by assumption); unfold flC at e; rw [e, List.all_append, k4, (by assumption : List.all (en _) go = true)]; rfl)
    | (have e := fl_yes (en := en) k3 (.inr (by assumption)) (by assumption) (by assumption); unfold flC at e; rw [e, upTo_all (by assumption), List.append_assoc]; done)
    | (have e := fl_yes (en := en) k3 (.inl (by omega)) (by assumption) (by assumption); unfold flC at e; rw [e, upTo_all (by assumption), List.append_assoc]; done)
    | skip)
theorem vce_ext (a : GAsn) (tm : Int) (go : List Int → Bool) (T : CG) (l : Nat) (t t' : Int) (en en' : List Int → CG) (c : List Int) (γ : CG) : VC_ext a tm go T l t t' en en' c γ = vcY tab (lookF L_ext) (lookP []) (spE 124 l go T a tm t' en) noSpc (fun _ => false) hp_ext (fun _ => none) (an_ext a tm go T l t t' en en' c γ) (fun _ => []) (bodyOf Try.f124) (entry (extArgs c t a tm l) none) γ (retE tab Try.f124.results.toList go (en' c) γ) := by kernel_rfl
def hp_pc : Nat → Bool
  | 1 => true
  | _ => false
def VC_pc (a : GAsn) (tm : Int) (go : List Int → Bool) (T : CG) (l : Nat) (en : List Int → CG) (γ1 : CG) : Prop := TT ∧ (TN ∧ True) ∧ TT ∧ (9 = (List.replicate 9 (0 : Int)).length * 1) ∧ True ∧ True ∧ True ∧ (((none : Option Nat) = none) ∧ ((List.replicate 9 (0 : Int)).length = 9) ∧ ((0 : Int) = 0) ∧ (a.facts = a.facts) ∧ (a.atoms = a.atoms) ∧ (tm = tm) ∧ ((yV l : Value) = yV l) ∧ ([].all go = true) ∧ (([] ++ en (List.replicate 9 (0 : Int))) <+: T)) ∧ ((none : Option Nat) = none) ∧ (([] ++ upTo go (en (List.replicate 9 (0 : Int))) : CG) = γ1)
theorem vcn_pc (a : GAsn) (tm : Int) (go : List Int → Bool) (T : CG) (l : Nat) (en : List Int → CG) (γ1 : CG) (hT : en (List.replicate 9 0) = T) (h1 : γ1 = upTo go T) : VC_pc a tm go T l en γ1 := by
  unfold VC_pc
  simp only [cln, Nat.reduceEqDiff, Nat.reduceLeDiff, Nat.reduceAdd]
  subst h1 hT
  simp
theorem vce_pc (a : GAsn) (tm : Int) (go : List Int → Bool) (T : CG) (l : Nat) (en : List Int → CG) (γ1 : CG) : VC_pc a tm go T l en γ1 = vcY tab (lookF []) (lookP []) (spE 124 l go T a tm 0 en) noSpc (fun _ => false) hp_pc (fun _ => none) (fun _ _ _ => none) (fun _ => []) (bodyOf Try.f123) (pcSt a tm l) [] (retP0 tab Try.f123.results.toList γ1) := by kernel_rfl

theorem ext_step {J : JJ CG} {a : GAsn} {tm : Int} {go : List Int → Bool} {T : CG} {l : Nat} {t t' : Int} {en en' : List Int → CG} (hp : asV a = true ∧ 0 ≤ tm ∧ tm < 512) (ht : 0 ≤ t ∧ t ≤ 9) (ht' : t' = t + 1) (h9 : ∀ c, 8 < t → en' c = [c]) (h8 : ∀ c, ¬ 8 < t → en' c = cond (tsHas tm t) ((List.range (t.toNat + 1)).flatMap (brC (poss a) en t.toNat c)) (en (c.set t.toNat (-1))))
    (hx : ExtOk Try.prog J 124 l go T a tm t' en) (hy : YOk Try.prog J l go T) : ExtOk Try.prog J 124 l go T a tm t en' :=
  ext_sound (hp := hp_ext) (gcs := fun _ => none) (perm := fun _ => []) (pts := lookP []) tabOk (kall_of (l := L_ext) ⟨ok_tsHas, ok_possible, trivial⟩) (pall_of (l := []) trivial) mix Try.func124 rfl (by kernel_rfl) (by decide) (by kernel_rfl) hx hy (anns := fun c γ => an_ext a tm go T l t t' en en' c γ)
    fun c γ hc hgo hT => (vce_ext a tm go T l t t' en en' c γ).mp (vcn_ext a tm go T l t t' en en' c γ hp ht ht' hc hgo hT (h9 c) (h8 c))
theorem ext_all {J : JJ CG} {a : GAsn} {tm : Int} {go : List Int → Bool} {T : CG} {l : Nat} (hp : asV a = true ∧ 0 ≤ tm ∧ tm < 512) (hy : YOk Try.prog J l go T) : ∀ (f t : Nat), f + t = 9 → ExtOk Try.prog J 124 l go T a tm (t : Int) (enumC (poss a) (hasN tm) f t) := by
  intro f
  induction f with
  | zero =>
    intro t ht
    have : t = 9 := by omega
    subst this
    exact ext_step (t' := 10) hp (by decide) (by decide) (fun c _ => rfl) (fun c h => absurd h (by decide)) ext_none hy
  | succ f ih =>
    intro t ht
    refine ext_step (t' := ((t + 1 : Nat) : Int)) (en := enumC (poss a) (hasN tm) f (t + 1)) hp (by omega) (by omega) (fun c h => by omega) (fun c _ => ?_) (ih (t + 1) (by omega)) hy
    simp only [Int.toNat_natCast]
    rfl
theorem it_ok : ItOk Try.prog 123 itPre itEn := by
  intro J l go a tm hpre hy w p ro0 ρ b1 b2 vs1 ty1 ty2 hin hro h1 hc1 h2 hne hp1 hp2 hr1 hr2 hJ
  exact pc_ok (fid := 124) (T := itEn a tm) (en := enumC (poss a) (hasN tm) 9 0) (t := 0) (hp := hp_pc) (gcs := fun _ => none) (perm := fun _ => []) (K := lookF []) (pts := lookP []) (anns := fun _ _ _ => none) tabOk (kall_of (l := []) trivial) (pall_of (l := []) trivial) mix Try.func123 rfl (by decide) Try.func124 rfl (by kernel_rfl) (by kernel_rfl) (ext_all hpre hy 9 0 rfl) hy
    ((vce_pc a tm go (itEn a tm) l (enumC (poss a) (hasN tm) 9 0) (upTo go (itEn a tm))).mp (vcn_pc a tm go (itEn a tm) l (enumC (poss a) (hasN tm) 9 0) (upTo go (itEn a tm)) rfl rfl)) hin hro h1 hc1 h2 hne hp1 hp2 hr1 hr2 hJ
theorem it_run : ∀ args w, (callFunc 123 args).run Try.prog w = .ok (.enter 123 args) w := run_callFunc Try.func123 (by kernel_rfl) rfl

end Go.Proofs.Ytejcmcbpfnmlaaa

namespace Go.Proofs.Ytejcmcbpfnmlaaa
open Go.SE Go.RowKit
set_option linter.unusedSimpArgs false
set_option linter.unusedVariables false
set_option maxHeartbeats 1000000
set_option maxRecDepth 100000

/-! possibleCases -/
abbrev L_possibleCases : List (FuncId × Con) := [(68, c_tsWith), (76, c_termsIn)]
abbrev P_possibleCases : List (FuncId × PT) := []
abbrev pt_possibleCases : PT := inl tab (lookF L_possibleCases) (lookP P_possibleCases) (fun _ => false) (fun _ _ => none) (fun _ _ _ _ => none) (fun _ => []) Try.f67.ntmps (bodyOf Try.f67) Try.f67.results.toList
theorem ptok_possibleCases : PTOk Try.prog E 67 pt_possibleCases :=
  pt_ok (l := L_possibleCases) (lp := P_possibleCases) tabOk mix ⟨ok_tsWith, ok_termsIn, trivial⟩ trivial Try.func67 rfl (by kernel_rfl) (by kernel_rfl)
end Go.Proofs.Ytejcmcbpfnmlaaa

namespace Go.Proofs.Ytejcmcbpfnmlaaa
open Go.SE Go.RowKit
set_option linter.unusedSimpArgs false
set_option linter.unusedVariables false
set_option maxHeartbeats 1000000
set_option maxRecDepth 100000
/-! copyInts -/
abbrev c_copyInts : Con := ⟨[.sl .int], [.sl .int], fun (l, _) => l.length ≤ 1048576, .inl fun (l, _) => (l, ()), fun _ => 0⟩
abbrev L_copyInts : List (FuncId × Con) := []
abbrev P_copyInts : List (FuncId × PT) := []
def VC_copyInts (l : List Int) (k : Nat) : Prop := TN ∧ True ∧ True ∧ (TN ∧ (0 ≤ ((l.length : Nat) : Int) ∧ ((l.length : Nat) : Int) ≤ ((l.length : Nat) : Int) ∧ ((l.length : Nat) : Int) ≤ 4294967296)) ∧ True ∧ True ∧ True ∧ (TF ∧ TF) ∧ True ∧ True ∧ (((l.take (List.replicate l.length (0 : Int)).length ++ (List.replicate l.length (0 : Int)).drop l.length, ()) : (List Int) × Unit) = (l, ())) ∧ (True ∧ True) ∧ ((TF ∧ TF) ∧ True) ∧ True ∧ (True ∧ True) ∧ TF
theorem vcn_copyInts (l : List Int) (k : Nat) (hp : l.length ≤ 1048576) : VC_copyInts l k := by
  unfold VC_copyInts
  simp only [cln, Nat.reduceEqDiff, Nat.reduceLeDiff, Nat.reduceAdd]
  all_goals (try simp only [opn])
  all_goals (repeat' (first | apply And.intro | intro _))
  all_goals (first | omega | (simp_all; done) | grind [])
theorem vce_copyInts (l : List Int) (k : Nat) : VC_copyInts l k = vcQ tab (lookF L_copyInts) (lookP P_copyInts) (fun _ => false) (fun _ => none) (fun _ _ => none) (fun _ => []) (bodyOf Try.f125) (entry (encs c_copyInts.aks (l, ())) (rdOf false k)) (retOk tab c_copyInts Try.f125.results.toList (l, ()) k) := by kernel_rfl
theorem ok_copyInts : FnOk Try.prog E 125 c_copyInts :=
  fn_okQ (l := L_copyInts) (lp := P_copyInts) (hp := fun _ => false) (gcs := fun _ => none) (perm := fun _ => []) tabOk mix trivial trivial Try.func125 rfl (by kernel_rfl) (by decide) (by kernel_rfl) (anns := fun x _ => fun _ _ => none) (fun ⟨l, _⟩ k hp _ => (vce_copyInts l k).mp (vcn_copyInts l k hp)) tot_fn
end Go.Proofs.Ytejcmcbpfnmlaaa

namespace Go.Proofs.Ytejcmcbpfnmlaaa
open Go.SE Go.RowKit
set_option linter.unusedSimpArgs false
set_option linter.unusedVariables false
set_option maxHeartbeats 1000000
set_option maxRecDepth 100000
/-! tcList -/
abbrev c_tcList : Con := ⟨[.kase], [.sl .int], fun (c, _) => c.length = 9, .inl fun (c, _) => (c, ()), fun _ => 0⟩
abbrev L_tcList : List (FuncId × Con) := [(125, c_copyInts)]
abbrev P_tcList : List (FuncId × PT) := []
def VC_tcList (c : List Int) (k : Nat) : Prop := TN ∧ TN ∧ (c.length = 9 ∧ 9 ≤ 4294967296) ∧ ((c.length ≤ 1048576) ∧ True ∧ TN ∧ True) ∧ True ∧ (((c, ()) : (List Int) × Unit) = (c, ())) ∧ (True ∧ True) ∧ ((TF ∧ TF) ∧ True) ∧ True ∧ (True ∧ True) ∧ TF
theorem vcn_tcList (c : List Int) (k : Nat) (hp : c.length = 9) : VC_tcList c k := by
  unfold VC_tcList
  simp only [cln, Nat.reduceEqDiff, Nat.reduceLeDiff, Nat.reduceAdd]
  all_goals (try simp only [opn])
  all_goals (repeat' (first | apply And.intro | intro _))
  all_goals (first | omega | (simp_all; done) | grind [])
theorem vce_tcList (c : List Int) (k : Nat) : VC_tcList c k = vcQ tab (lookF L_tcList) (lookP P_tcList) (fun _ => false) (fun _ => none) (fun _ _ => none) (fun _ => []) (bodyOf Try.f71) (entry (encs c_tcList.aks (c, ())) (rdOf false k)) (retOk tab c_tcList Try.f71.results.toList (c, ()) k) := by kernel_rfl
theorem ok_tcList : FnOk Try.prog E 71 c_tcList :=
  fn_okQ (l := L_tcList) (lp := P_tcList) (hp := fun _ => false) (gcs := fun _ => none) (perm := fun _ => []) tabOk mix ⟨ok_copyInts, trivial⟩ trivial Try.func71 rfl (by kernel_rfl) (by decide) (by kernel_rfl) (anns := fun x _ => fun _ _ => none) (fun ⟨c, _⟩ k hp _ => (vce_tcList c k).mp (vcn_tcList c k hp)) tot_fn
end Go.Proofs.Ytejcmcbpfnmlaaa

namespace Go.Proofs.Ytejcmcbpfnmlaaa
open Go.SE Go.RowKit
set_option linter.unusedSimpArgs false
set_option linter.unusedVariables false
set_option maxHeartbeats 1000000
set_option maxRecDepth 100000
/-! iCasesOf -/
abbrev c_iCasesOf : Con := ⟨[.asn], [.sl .ints], fun (a, _) => a.facts.length ≤ 281474976710656 ∧ a.atoms.length ≤ 281474976710656, .inl fun (a, _) => (cond (asV a) (casesF a) [], ()), fun _ => 0⟩
abbrev L_iCasesOf : List (FuncId × Con) := [(19, c_iAssertionValid), (71, c_tcList)]
abbrev P_iCasesOf : List (FuncId × PT) := [(67, pt_possibleCases)]
def hp_iCasesOf : Nat → Bool
  | 4 => true
  | _ => false
def perm_iCasesOf : Nat → List (List Nat)
  | 6 => [[0, 1, 2, 3, 4, 5], [1, 0, 2, 3, 4, 5], [1, 2, 0, 3, 4, 5], [1, 2, 3, 0, 4, 5]]
  | _ => []
def ra_iCasesOf (a : GAsn) : St → Option RAnn := fun se => some ⟨fun _ => true, [2, 3], [32, 48, 63], fun i => [], [32], fun i => [(63, .blk [.own 7])], fun i => [⟨7, .cell 63 0, .ints, (itEn a (bits .or .u16 (tsWith (tsA a) 0) 0)).take i⟩], 300000⟩
def VC_iCasesOf_1 (a : GAsn) (k : Nat) (i1 : Nat) (c2_0 : Int) (c2_1 : Int) (c2_2 : Int) (c2_3 : Int) (c2_4 : Int) (c2_5 : Int) (c2_6 : Int) (c2_7 : Int) (c2_8 : Int) : Prop := ((True ∧ (9 = ([c2_0, c2_1, c2_2, c2_3, c2_4, c2_5, c2_6, c2_7, c2_8] : List Int).length * 1) ∧ ((([c2_0, c2_1, c2_2, c2_3, c2_4, c2_5, c2_6, c2_7, c2_8] : List Int).length = 9) ∧ True ∧ TN ∧ True) ∧ (TN ∧ TF ∧ True) ∧ (TN ∧ TF ∧ TF ∧ (((itEn a (bits .or .u16 (tsWith (tsA a) 0) 0)).take i1).length + ([([c2_0, c2_1, c2_2, c2_3, c2_4, c2_5, c2_6, c2_7, c2_8] : List Int)] : List (List Int)).length ≤ 4294967296)) ∧ (TF ∧ TF) ∧ (true = true) ∧ ((none : Option Nat) = none) ∧ TT ∧ (RL [.s (.c (.own 32)), .s (.c (.ptr 63 0))]) ∧ (RL []) ∧ (RM [some (.sl 32 .ints ([] : List (List Int)))]) ∧ (RM [some (.blk [.own 300240])]) ∧ (((some (((itEn a (bits .or .u16 (tsWith (tsA a) 0) 0)).take i1) ++ ([([c2_0, c2_1, c2_2, c2_3, c2_4, c2_5, c2_6, c2_7, c2_8] : List Int)] : List (List Int))) : Option (List (List Int))) = some ((itEn a (bits .or .u16 (tsWith (tsA a) 0) 0)).take (i1 + 1))) ∧ True) ∧ TT) ∧ ((9 = ([c2_0, c2_1, c2_2, c2_3, c2_4, c2_5, c2_6, c2_7, c2_8] : List Int).length * 1) ∧ True ∧ ((([c2_0, c2_1, c2_2, c2_3, c2_4, c2_5, c2_6, c2_7, c2_8] : List Int).length = 9) ∧ True ∧ TN ∧ True) ∧ (TN ∧ TF ∧ True) ∧ (TN ∧ TF ∧ TF ∧ (((itEn a (bits .or .u16 (tsWith (tsA a) 0) 0)).take i1).length + ([([c2_0, c2_1, c2_2, c2_3, c2_4, c2_5, c2_6, c2_7, c2_8] : List Int)] : List (List Int)).length ≤ 4294967296)) ∧ (TF ∧ TF) ∧ (true = true) ∧ ((none : Option Nat) = none) ∧ TT ∧ (RL [.s (.c (.own 32)), .s (.c (.ptr 63 0))]) ∧ (RL []) ∧ (RM [some (.sl 32 .ints ([] : List (List Int)))]) ∧ (RM [some (.blk [.own 300240])]) ∧ (((some (((itEn a (bits .or .u16 (tsWith (tsA a) 0) 0)).take i1) ++ ([([c2_0, c2_1, c2_2, c2_3, c2_4, c2_5, c2_6, c2_7, c2_8] : List Int)] : List (List Int))) : Option (List (List Int))) = some ((itEn a (bits .or .u16 (tsWith (tsA a) 0) 0)).take (i1 + 1))) ∧ True) ∧ TT) ∧ ((9 = ([c2_0, c2_1, c2_2, c2_3, c2_4, c2_5, c2_6, c2_7, c2_8] : List Int).length * 1) ∧ ((([c2_0, c2_1, c2_2, c2_3, c2_4, c2_5, c2_6, c2_7, c2_8] : List Int).length = 9) ∧ True ∧ TN ∧ True) ∧ True ∧ (TN ∧ TF ∧ True) ∧ (TN ∧ TF ∧ TF ∧ (((itEn a (bits .or .u16 (tsWith (tsA a) 0) 0)).take i1).length + ([([c2_0, c2_1, c2_2, c2_3, c2_4, c2_5, c2_6, c2_7, c2_8] : List Int)] : List (List Int)).length ≤ 4294967296)) ∧ (TF ∧ TF) ∧ (true = true) ∧ ((none : Option Nat) = none) ∧ TT ∧ (RL [.s (.c (.own 32)), .s (.c (.ptr 63 0))]) ∧ (RL []) ∧ (RM [some (.sl 32 .ints ([] : List (List Int)))]) ∧ (RM [some (.blk [.own 300240])]) ∧ (((some (((itEn a (bits .or .u16 (tsWith (tsA a) 0) 0)).take i1) ++ ([([c2_0, c2_1, c2_2, c2_3, c2_4, c2_5, c2_6, c2_7, c2_8] : List Int)] : List (List Int))) : Option (List (List Int))) = some ((itEn a (bits .or .u16 (tsWith (tsA a) 0) 0)).take (i1 + 1))) ∧ True) ∧ TT) ∧ ((9 = ([c2_0, c2_1, c2_2, c2_3, c2_4, c2_5, c2_6, c2_7, c2_8] : List Int).length * 1) ∧ ((([c2_0, c2_1, c2_2, c2_3, c2_4, c2_5, c2_6, c2_7, c2_8] : List Int).length = 9) ∧ True ∧ TN ∧ True) ∧ (TN ∧ TF ∧ True) ∧ True ∧ (TN ∧ TF ∧ TF ∧ (((itEn a (bits .or .u16 (tsWith (tsA a) 0) 0)).take i1).length + ([([c2_0, c2_1, c2_2, c2_3, c2_4, c2_5, c2_6, c2_7, c2_8] : List Int)] : List (List Int)).length ≤ 4294967296)) ∧ (TF ∧ TF) ∧ (true = true) ∧ ((none : Option Nat) = none) ∧ TT ∧ (RL [.s (.c (.own 32)), .s (.c (.ptr 63 0))]) ∧ (RL []) ∧ (RM [some (.sl 32 .ints ([] : List (List Int)))]) ∧ (RM [some (.blk [.own 300240])]) ∧ (((some (((itEn a (bits .or .u16 (tsWith (tsA a) 0) 0)).take i1) ++ ([([c2_0, c2_1, c2_2, c2_3, c2_4, c2_5, c2_6, c2_7, c2_8] : List Int)] : List (List Int))) : Option (List (List Int))) = some ((itEn a (bits .or .u16 (tsWith (tsA a) 0) 0)).take (i1 + 1))) ∧ True) ∧ TT) ∧ True)
def VC_iCasesOf (a : GAsn) (k : Nat) : Prop := TT ∧ TN ∧ TN ∧ TT ∧ True ∧ ((a.facts.length ≤ 281474976710656 ∧ a.atoms.length ≤ 281474976710656) ∧ True ∧ True) ∧ True ∧ (vcIf (!(asV a)) (TT ∧ TN ∧ ((none : Option Nat) = none) ∧ (((([] : List (List Int)), ()) : (List (List Int)) × Unit) = (cond (asV a) (casesF a) [], ())) ∧ (True ∧ True) ∧ ((TF ∧ TF) ∧ True) ∧ True ∧ (True ∧ True) ∧ TF) (TT ∧ (TN ∧ TN ∧ True) ∧ TT ∧ True ∧ ((2 : Nat) ≤ 12) ∧ TN ∧ True ∧ True ∧ ((a.facts.length ≤ 281474976710656 ∧ a.atoms.length ≤ 281474976710656) ∧ True ∧ True) ∧ ((0 ≤ (tsA a) ∧ (tsA a) < 512) ∧ True ∧ True) ∧ True ∧ True ∧ (TN ∧ True) ∧ (TF ∧ TF) ∧ True ∧ True ∧ ((((123 : Nat) = 123) ∧ ((none : Option Nat) = none) ∧ (itPre a (bits .or .u16 (tsWith (tsA a) (0 : Int)) (0 : Int)))) ∧ TT ∧ TT ∧ (RL [.s (.c (.own 32)), .s (.c (.ptr 63 0))]) ∧ (RL []) ∧ (RM [some (.sl 32 .ints ([] : List (List Int)))]) ∧ (RM [some (.blk [.own 48])]) ∧ (((some ([] : List (List Int)) : Option (List (List Int))) = some ((itEn a (bits .or .u16 (tsWith (tsA a) 0) 0)).take 0)) ∧ True) ∧ TT) ∧ (∀ i1 : Nat, ∀ c2_0 : Int, ∀ c2_1 : Int, ∀ c2_2 : Int, ∀ c2_3 : Int, ∀ c2_4 : Int, ∀ c2_5 : Int, ∀ c2_6 : Int, ∀ c2_7 : Int, ∀ c2_8 : Int, ((itEn a (bits .or .u16 (tsWith (tsA a) (0 : Int)) (0 : Int)))[i1]? = some ([c2_0, c2_1, c2_2, c2_3, c2_4, c2_5, c2_6, c2_7, c2_8] : List Int)) → (((itEn a (bits .or .u16 (tsWith (tsA a) (0 : Int)) (0 : Int))).take i1).all (fun _ => true) = true) → TT ∧ (TN ∧ True) ∧ ((([c2_0, c2_1, c2_2, c2_3, c2_4, c2_5, c2_6, c2_7, c2_8] : List Int).length = (List.replicate 9 (0 : Int)).length) ∧ TF ∧ TF) ∧ ((none : Option Nat) = none) ∧ True ∧ (VC_iCasesOf_1 a k i1 c2_0 c2_1 c2_2 c2_3 c2_4 c2_5 c2_6 c2_7 c2_8)) ∧ (((itEn a (bits .or .u16 (tsWith (tsA a) (0 : Int)) (0 : Int))).all (fun _ => true) = true) → TT ∧ True ∧ True ∧ ((none : Option Nat) = none) ∧ ((((itEn a (bits .or .u16 (tsWith (tsA a) 0) 0)).take ((itEn a (bits .or .u16 (tsWith (tsA a) (0 : Int)) (0 : Int))).length), ()) : (List (List Int)) × Unit) = (cond (asV a) (casesF a) [], ())) ∧ (True ∧ True) ∧ ((TF ∧ TF) ∧ True) ∧ True ∧ (True ∧ True) ∧ TF)))
theorem vcn_iCasesOf (a : GAsn) (k : Nat) (hp : a.facts.length ≤ 281474976710656 ∧ a.atoms.length ≤ 281474976710656) : VC_iCasesOf a k := by
  unfold VC_iCasesOf VC_iCasesOf_1
  simp only [cln, Nat.reduceEqDiff, Nat.reduceLeDiff, Nat.reduceAdd]
  all_goals (try simp only [opn])
  all_goals (repeat' (first | apply And.intro | intro _))
  all_goals (repeat (cases ‹_ ∧ _›))
  all_goals (first | omega | with_reducible assumption | (simp_all; done) | skip)
  all_goals (first
   | with_reducible exact ll_ne (by assumption) | with_reducible exact ll_no (by assumption)
   | exact ll_len ‹∀ x ∈ a, _› (by omega) | exact ll_len ‹∀ x ∈ b, _› (by omega)
   | with_reducible exact ll_step (by assumption) (by assumption) (by assumption) (by assumption)
   | with_reducible exact ll_end (by assumption) (by assumption) (by assumption)
   | with_reducible exact vA_of (by assumption) | with_reducible exact fl9_len _ | with_reducible exact sc_end (by assumption)
   | with_reducible exact (itl_bd (by assumption)).1.1 | with_reducible exact (itl_bd (by assumption)).1.2 | with_reducible exact (itl_bd (by assumption)).2.1 | with_reducible exact (itl_bd (by assumption)).2.2
   | with_reducible exact itl_pre (by assumption)
   | with_reducible exact itl_len (by assumption) | with_reducible exact itl_step (by assumption) | with_reducible exact itl_end (by assumption)
   | skip)
theorem vce_iCasesOf (a : GAsn) (k : Nat) : VC_iCasesOf a k = vcY tab (lookF L_iCasesOf) (lookP P_iCasesOf) noSpB (spR tab (lookF L_iCasesOf) (lookP P_iCasesOf) hp_iCasesOf (fun _ => none) (fun _ _ _ => none) (perm_iCasesOf) Try.f23.ntmps 123 itPre itEn (ra_iCasesOf a)) (fun b => !b) hp_iCasesOf (fun _ => none) (fun _ _ _ => none) (perm_iCasesOf) (bodyOf Try.f23) (entry (encs c_iCasesOf.aks (a, ())) none) false (retR tab c_iCasesOf Try.f23.results.toList (a, ())) := by kernel_rfl
abbrev spc_iCasesOf (a : GAsn) : SpCode Bool := spR tab (lookF L_iCasesOf) (lookP P_iCasesOf) hp_iCasesOf (fun _ => none) (fun _ _ _ => none) (perm_iCasesOf) Try.f23.ntmps 123 itPre itEn (ra_iCasesOf a)
theorem spcok_iCasesOf (a : GAsn) (wE : World) (ro0 : Nat → Option (Array Value)) (ρ : Nat) : SpcOk Fence.wide 0 Try.prog E (AC wE ro0 ρ) Try.f23.ntmps (spc_iCasesOf a) :=
  spR_ok tabOk (kall_of (l := L_iCasesOf) ⟨ok_iAssertionValid, ok_tcList, trivial⟩) (pall_of (l := P_iCasesOf) ⟨ptok_possibleCases, trivial⟩) mix it_ok it_len it_run
theorem vcr_iCasesOf : ∀ x : Args c_iCasesOf.aks, c_iCasesOf.pre x → vcY tab (lookF L_iCasesOf) (lookP P_iCasesOf) noSpB (spc_iCasesOf x.1) (fun b => !b) hp_iCasesOf (fun _ => none) (fun _ _ _ => none) (perm_iCasesOf) (bodyOf Try.f23) (entry (encs c_iCasesOf.aks x) none) false (retR tab c_iCasesOf Try.f23.results.toList x) :=
  fun ⟨a, _⟩ hp => (vce_iCasesOf a 0).mp (vcn_iCasesOf a 0 hp)
theorem ok_iCasesOf : FnOk Try.prog E 23 c_iCasesOf :=
  fnR_ok (con := c_iCasesOf) (fn := Try.f23) (l := L_iCasesOf) (lp := P_iCasesOf) (hp := hp_iCasesOf) (gcs := fun _ => none) (perm := perm_iCasesOf) (spc := fun x => spc_iCasesOf x.1) (anns := fun x => (fun _ _ _ => none)) tabOk mix ⟨ok_iAssertionValid, ok_tcList, trivial⟩ ⟨ptok_possibleCases, trivial⟩ rfl Try.func23 rfl (by kernel_rfl) (by decide) (by kernel_rfl) (fun x _ => spcok_iCasesOf x.1) vcr_iCasesOf tot_fn
end Go.Proofs.Ytejcmcbpfnmlaaa

namespace Go.Proofs.Ytejcmcbpfnmlaaa
open Go.SE Go.RowKit
set_option linter.unusedSimpArgs false
set_option linter.unusedVariables false
set_option maxHeartbeats 1000000
set_option maxRecDepth 100000
/-! slInts -/
abbrev c_slInts : Con := ⟨[.sl .int, .sl .int], [.bool], fun (a, b, _) => a.length ≤ 281474976710656 ∧ b.length ≤ 281474976710656, .inl fun (a, b, _) => (decide (a = b), ()), fun _ => 0⟩
abbrev L_slInts : List (FuncId × Con) := []
abbrev P_slInts : List (FuncId × PT) := []
def an_slInts (a : List Int) (b : List Int) : Nat → St → Option Ann
  | 4, se => some { α := Nat, ok := fun i => i ≤ a.length ∧ a.length = b.length ∧ a.take i = b.take i, mu := fun i => a.length - i, i0 := fun _ => 0, nx := fun a _ => (fun i => i + 1) a, live := [0, 1], sets := fun i => [(5, sv (.int .i64 i))], mids := [], blks := fun i => [], owns := fun i => [], rd := fun r _ => r, base := 100000 }
  | _, _ => none
def VC_slInts (a : List Int) (b : List Int) (k : Nat) : Prop := True ∧ True ∧ True ∧ True ∧ True ∧ True ∧ (vcIf (((a.length : Nat) : Int) != ((b.length : Nat) : Int)) (True ∧ (((false, ()) : Bool × Unit) = (decide (a = b), ())) ∧ True ∧ True ∧ True ∧ True ∧ TF) (True ∧ ((0 ≤ a.length ∧ a.length = b.length ∧ a.take 0 = b.take 0) ∧ TT ∧ (RL [.s (.c (.d (.arr .int a))), .s (.c (.d (.arr .int b)))]) ∧ (([.s (.c (.d (.val (.int .i64 (0 : Int)))))] : List S) = [.s (.c (.d (.val (.int .i64 ((0 : Nat) : Int)))))]) ∧ (RM []) ∧ (RM []) ∧ True ∧ TT) ∧ (∀ i1 : Nat, (i1 ≤ a.length ∧ a.length = b.length ∧ a.take i1 = b.take i1) → True ∧ True ∧ True ∧ True ∧ (vcIf (decide (((i1 : Nat) : Int) < ((a.length : Nat) : Int))) (True ∧ True ∧ (0 ≤ ((i1 : Nat) : Int) ∧ ((i1 : Nat) : Int) < ((a.length : Nat) : Int)) ∧ True ∧ True ∧ True ∧ (0 ≤ ((i1 : Nat) : Int) ∧ ((i1 : Nat) : Int) < ((b.length : Nat) : Int)) ∧ True ∧ True ∧ (vcIf ((a.getD i1 (0 : Int)) != (b.getD i1 (0 : Int))) (True ∧ (((false, ()) : Bool × Unit) = (decide (a = b), ())) ∧ True ∧ True ∧ True ∧ True ∧ TF) (True ∧ (inK .i64 (((i1 : Nat) : Int) + (1 : Int))) ∧ True ∧ ((i1 + 1) ≤ a.length ∧ a.length = b.length ∧ a.take (i1 + 1) = b.take (i1 + 1)) ∧ (a.length - (i1 + 1) < a.length - i1) ∧ TT ∧ (RL [.s (.c (.d (.arr .int a))), .s (.c (.d (.arr .int b)))]) ∧ (([.s (.c (.d (.val (.int .i64 (((i1 : Nat) : Int) + (1 : Int))))))] : List S) = [.s (.c (.d (.val (.int .i64 (((i1 + 1) : Nat) : Int)))))]) ∧ (RM []) ∧ (RM []) ∧ True ∧ TT))) (True ∧ (((true, ()) : Bool × Unit) = (decide (a = b), ())) ∧ True ∧ True ∧ True ∧ True ∧ TF)))))
theorem vcn_slInts (a : List Int) (b : List Int) (k : Nat) (hp : a.length ≤ 281474976710656 ∧ b.length ≤ 281474976710656) : VC_slInts a b k := by
  unfold VC_slInts
  simp only [cln, Nat.reduceEqDiff, Nat.reduceLeDiff, Nat.reduceAdd]
  all_goals (try simp only [opn])
  all_goals (repeat' (first | apply And.intro | intro _))
  all_goals (first | omega | (simp_all; done) | grind [same_step, same_not, take_full])
theorem vce_slInts (a : List Int) (b : List Int) (k : Nat) : VC_slInts a b k = vcQ tab (lookF L_slInts) (lookP P_slInts) (fun _ => false) (fun _ => none) (an_slInts a b) (fun _ => []) (bodyOf Try.f72) (entry (encs c_slInts.aks (a, b, ())) (rdOf false k)) (retOk tab c_slInts Try.f72.results.toList (a, b, ()) k) := by kernel_rfl
theorem ok_slInts : FnOk Try.prog E 72 c_slInts :=
  fn_okQ (l := L_slInts) (lp := P_slInts) (hp := fun _ => false) (gcs := fun _ => none) (perm := fun _ => []) tabOk mix trivial trivial Try.func72 rfl (by kernel_rfl) (by decide) (by kernel_rfl) (anns := fun x _ => an_slInts x.1 x.2.1) (fun ⟨a, b, _⟩ k hp _ => (vce_slInts a b k).mp (vcn_slInts a b k hp)) tot_fn
end Go.Proofs.Ytejcmcbpfnmlaaa

namespace Go.Proofs.Ytejcmcbpfnmlaaa
open Go.SE Go.RowKit
set_option linter.unusedSimpArgs false
set_option linter.unusedVariables false
set_option maxHeartbeats 1000000
set_option maxRecDepth 100000
/-! slLists -/
abbrev c_slLists : Con := ⟨[.sl .ints, .sl .ints], [.bool], fun (a, b, _) => a.length ≤ 281474976710656 ∧ b.length ≤ 281474976710656 ∧ (∀ x ∈ a, x.length ≤ 9) ∧ (∀ x ∈ b, x.length ≤ 9), .inl fun (a, b, _) => (decide (a = b), ()), fun _ => 0⟩
abbrev L_slLists : List (FuncId × Con) := [(72, c_slInts)]
abbrev P_slLists : List (FuncId × PT) := []
def an_slLists (a : List (List Int)) (b : List (List Int)) : Nat → St → Option Ann
  | 4, se => some { α := Nat, ok := fun i => i ≤ a.length ∧ a.length = b.length ∧ a.take i = b.take i, mu := fun i => a.length - i, i0 := fun _ => 0, nx := fun a _ => (fun i => i + 1) a, live := [0, 1], sets := fun i => [(5, sv (.int .i64 i))], mids := [], blks := fun i => [], owns := fun i => [], rd := fun r _ => r, base := 100000 }
  | _, _ => none
def VC_slLists (a : List (List Int)) (b : List (List Int)) (k : Nat) : Prop := True ∧ True ∧ True ∧ True ∧ True ∧ True ∧ (vcIf (((a.length : Nat) : Int) != ((b.length : Nat) : Int)) (True ∧ (((false, ()) : Bool × Unit) = (decide (a = b), ())) ∧ True ∧ True ∧ True ∧ True ∧ TF) (True ∧ ((0 ≤ a.length ∧ a.length = b.length ∧ a.take 0 = b.take 0) ∧ TT ∧ (RL [.s (.c (.d (.arr .ints a))), .s (.c (.d (.arr .ints b)))]) ∧ (([.s (.c (.d (.val (.int .i64 (0 : Int)))))] : List S) = [.s (.c (.d (.val (.int .i64 ((0 : Nat) : Int)))))]) ∧ (RM []) ∧ (RM []) ∧ True ∧ TT) ∧ (∀ i1 : Nat, (i1 ≤ a.length ∧ a.length = b.length ∧ a.take i1 = b.take i1) → True ∧ True ∧ True ∧ True ∧ (vcIf (decide (((i1 : Nat) : Int) < ((a.length : Nat) : Int))) (True ∧ True ∧ (0 ≤ ((i1 : Nat) : Int) ∧ ((i1 : Nat) : Int) < ((a.length : Nat) : Int)) ∧ True ∧ True ∧ True ∧ (0 ≤ ((i1 : Nat) : Int) ∧ ((i1 : Nat) : Int) < ((b.length : Nat) : Int)) ∧ True ∧ (((a.getD i1 ([] : List Int)).length ≤ 281474976710656 ∧ (b.getD i1 ([] : List Int)).length ≤ 281474976710656) ∧ True ∧ True) ∧ True ∧ (vcIf (!(decide ((a.getD i1 ([] : List Int)) = (b.getD i1 ([] : List Int))))) (True ∧ (((false, ()) : Bool × Unit) = (decide (a = b), ())) ∧ True ∧ True ∧ True ∧ True ∧ TF) (True ∧ (inK .i64 (((i1 : Nat) : Int) + (1 : Int))) ∧ True ∧ ((i1 + 1) ≤ a.length ∧ a.length = b.length ∧ a.take (i1 + 1) = b.take (i1 + 1)) ∧ (a.length - (i1 + 1) < a.length - i1) ∧ TT ∧ (RL [.s (.c (.d (.arr .ints a))), .s (.c (.d (.arr .ints b)))]) ∧ (([.s (.c (.d (.val (.int .i64 (((i1 : Nat) : Int) + (1 : Int))))))] : List S) = [.s (.c (.d (.val (.int .i64 (((i1 + 1) : Nat) : Int)))))]) ∧ (RM []) ∧ (RM []) ∧ True ∧ TT))) (True ∧ (((true, ()) : Bool × Unit) = (decide (a = b), ())) ∧ True ∧ True ∧ True ∧ True ∧ TF)))))
theorem vcn_slLists (a : List (List Int)) (b : List (List Int)) (k : Nat) (hp : a.length ≤ 281474976710656 ∧ b.length ≤ 281474976710656 ∧ (∀ x ∈ a, x.length ≤ 9) ∧ (∀ x ∈ b, x.length ≤ 9)) : VC_slLists a b k := by
  unfold VC_slLists
  simp only [cln, Nat.reduceEqDiff, Nat.reduceLeDiff, Nat.reduceAdd]
  all_goals (try simp only [opn])
  all_goals (repeat' (first | apply And.intro | intro _))
  all_goals (repeat (cases ‹_ ∧ _›))
  all_goals (first | omega | with_reducible assumption | (simp_all; done) | skip)
  all_goals (first
   | with_reducible exact ll_ne (by assumption) | with_reducible exact ll_no (by assumption)
   | exact ll_len ‹∀ x ∈ a, _› (by omega) | exact ll_len ‹∀ x ∈ b, _› (by omega)
   | with_reducible exact ll_step (by assumption) (by assumption) (by assumption) (by assumption)
   | with_reducible exact ll_end (by assumption) (by assumption) (by assumption)
   | with_reducible exact vA_of (by assumption) | with_reducible exact fl9_len _ | with_reducible exact sc_end (by assumption)
   | with_reducible exact (itl_bd (by assumption)).1.1 | with_reducible exact (itl_bd (by assumption)).1.2 | with_reducible exact (itl_bd (by assumption)).2.1 | with_reducible exact (itl_bd (by assumption)).2.2
   | with_reducible exact itl_pre (by assumption)
   | with_reducible exact itl_len (by assumption) | with_reducible exact itl_step (by assumption) | with_reducible exact itl_end (by assumption)
   | skip)
theorem vce_slLists (a : List (List Int)) (b : List (List Int)) (k : Nat) : VC_slLists a b k = vcQ tab (lookF L_slLists) (lookP P_slLists) (fun _ => false) (fun _ => none) (an_slLists a b) (fun _ => []) (bodyOf Try.f24) (entry (encs c_slLists.aks (a, b, ())) (rdOf false k)) (retOk tab c_slLists Try.f24.results.toList (a, b, ()) k) := by kernel_rfl
theorem ok_slLists : FnOk Try.prog E 24 c_slLists :=
  fn_okQ (l := L_slLists) (lp := P_slLists) (hp := fun _ => false) (gcs := fun _ => none) (perm := fun _ => []) tabOk mix ⟨ok_slInts, trivial⟩ trivial Try.func24 rfl (by kernel_rfl) (by decide) (by kernel_rfl) (anns := fun x _ => an_slLists x.1 x.2.1) (fun ⟨a, b, _⟩ k hp _ => (vce_slLists a b k).mp (vcn_slLists a b k hp)) tot_fn
end Go.Proofs.Ytejcmcbpfnmlaaa

namespace Go.Proofs.Ytejcmcbpfnmlaaa
open Go.SE Go.RowKit
set_option linter.unusedSimpArgs false
set_option linter.unusedVariables false
set_option maxHeartbeats 1000000
set_option maxRecDepth 100000
/-! l1Is -/
abbrev c_l1Is : Con := ⟨[.int], [.bool], fun _ => True, .inl fun (t, _) => (isT t, ()), fun _ => 0⟩
abbrev L_l1Is : List (FuncId × Con) := []
abbrev P_l1Is : List (FuncId × PT) := []
def VC_l1Is (t : Int) (k : Nat) : Prop := True ∧ True ∧ True ∧ True ∧ (vcIf (decide ((0 : Int) ≤ t)) (True ∧ True ∧ True ∧ True ∧ (((decide (t ≤ (8 : Int)), ()) : Bool × Unit) = (isT t, ())) ∧ True ∧ True ∧ True ∧ True ∧ TF) (True ∧ True ∧ (((false, ()) : Bool × Unit) = (isT t, ())) ∧ True ∧ True ∧ True ∧ True ∧ TF))
theorem vcn_l1Is (t : Int) (k : Nat) : VC_l1Is t k := by
  unfold VC_l1Is
  simp only [cln, Nat.reduceEqDiff, Nat.reduceLeDiff, Nat.reduceAdd]
  cases h : decide (0 ≤ t) <;> simp [vcIf, isT, h]
theorem vce_l1Is (t : Int) (k : Nat) : VC_l1Is t k = vcQ tab (lookF L_l1Is) (lookP P_l1Is) (fun _ => false) (fun _ => none) (fun _ _ => none) (fun _ => []) (bodyOf Try.f104) (entry (encs c_l1Is.aks (t, ())) (rdOf false k)) (retOk tab c_l1Is Try.f104.results.toList (t, ()) k) := by kernel_rfl
theorem ok_l1Is : FnOk Try.prog E 104 c_l1Is :=
  fn_okQ (l := L_l1Is) (lp := P_l1Is) (hp := fun _ => false) (gcs := fun _ => none) (perm := fun _ => []) tabOk mix trivial trivial Try.func104 rfl (by kernel_rfl) (by decide) (by kernel_rfl) (anns := fun x _ => fun _ _ => none) (fun ⟨t, _⟩ k _ _ => (vce_l1Is t k).mp (vcn_l1Is t k)) tot_fn
end Go.Proofs.Ytejcmcbpfnmlaaa

namespace Go.Proofs.Ytejcmcbpfnmlaaa
open Go.SE Go.RowKit
set_option linter.unusedSimpArgs false
set_option linter.unusedVariables false
set_option maxHeartbeats 1000000
set_option maxRecDepth 100000
/-! l3Atom -/
abbrev c_l3Atom : Con := ⟨[.atom], [.bool], fun _ => True, .inl fun (x, _) => (atV x, ()), fun _ => 0⟩
abbrev L_l3Atom : List (FuncId × Con) := [(104, c_l1Is)]
abbrev P_l3Atom : List (FuncId × PT) := []
def VC_l3Atom (x : GAtom) (k : Nat) : Prop := TN ∧ True ∧ True ∧ True ∧ True ∧ True ∧ (vcIf (x.kind == (1 : Int)) (True ∧ True ∧ True ∧ True ∧ (True ∧ True ∧ True) ∧ True ∧ True ∧ (vcIf (isT x.a) (True ∧ True ∧ (True ∧ True ∧ True) ∧ True ∧ True ∧ ((((isT x.b), ()) : Bool × Unit) = (atV x, ())) ∧ True ∧ True ∧ True ∧ True ∧ TF) (True ∧ True ∧ (((false, ()) : Bool × Unit) = (atV x, ())) ∧ True ∧ True ∧ True ∧ True ∧ TF))) (True ∧ True ∧ True ∧ True ∧ True ∧ (vcIf (x.kind == (2 : Int)) (True ∧ True ∧ (True ∧ True ∧ True) ∧ True ∧ True ∧ (vcIf (isT x.a) (True ∧ True ∧ (True ∧ True ∧ True) ∧ True ∧ True ∧ ((((isT x.b), ()) : Bool × Unit) = (atV x, ())) ∧ True ∧ True ∧ True ∧ True ∧ TF) (True ∧ True ∧ (((false, ()) : Bool × Unit) = (atV x, ())) ∧ True ∧ True ∧ True ∧ True ∧ TF))) (True ∧ True ∧ True ∧ True ∧ (((false, ()) : Bool × Unit) = (atV x, ())) ∧ True ∧ True ∧ True ∧ True ∧ TF))))
theorem vcn_l3Atom (x : GAtom) (k : Nat) : VC_l3Atom x k := by
  unfold VC_l3Atom
  simp only [cln, Nat.reduceEqDiff, Nat.reduceLeDiff, Nat.reduceAdd]
  all_goals (try simp only [opn])
  all_goals (repeat' (first | apply And.intro | intro _))
  all_goals (first | omega | (simp_all; done) | grind [atV])
theorem vce_l3Atom (x : GAtom) (k : Nat) : VC_l3Atom x k = vcQ tab (lookF L_l3Atom) (lookP P_l3Atom) (fun _ => false) (fun _ => none) (fun _ _ => none) (fun _ => []) (bodyOf Try.f126) (entry (encs c_l3Atom.aks (x, ())) (rdOf false k)) (retOk tab c_l3Atom Try.f126.results.toList (x, ()) k) := by kernel_rfl
theorem ok_l3Atom : FnOk Try.prog E 126 c_l3Atom :=
  fn_okQ (l := L_l3Atom) (lp := P_l3Atom) (hp := fun _ => false) (gcs := fun _ => none) (perm := fun _ => []) tabOk mix ⟨ok_l1Is, trivial⟩ trivial Try.func126 rfl (by kernel_rfl) (by decide) (by kernel_rfl) (anns := fun x _ => fun _ _ => none) (fun ⟨x, _⟩ k _ _ => (vce_l3Atom x k).mp (vcn_l3Atom x k)) tot_fn
end Go.Proofs.Ytejcmcbpfnmlaaa

namespace Go.Proofs.Ytejcmcbpfnmlaaa
open Go.SE Go.RowKit
set_option linter.unusedSimpArgs false
set_option linter.unusedVariables false
set_option maxHeartbeats 1000000
set_option maxRecDepth 100000
/-! sFactValid -/
abbrev c_sFactValid : Con := ⟨[.fact], [.bool], fun _ => True, .inl fun (f, _) => (fV f, ()), fun _ => 0⟩
abbrev L_sFactValid : List (FuncId × Con) := [(104, c_l1Is)]
abbrev P_sFactValid : List (FuncId × PT) := []
def VC_sFactValid (f : GFact) (k : Nat) : Prop := TN ∧ True ∧ True ∧ True ∧ (True ∧ True ∧ True) ∧ True ∧ (vcIf (isT f.a) (True ∧ True ∧ (True ∧ True ∧ True) ∧ True ∧ True ∧ ((((isT f.b), ()) : Bool × Unit) = (fV f, ())) ∧ True ∧ True ∧ True ∧ True ∧ TF) (True ∧ True ∧ (((false, ()) : Bool × Unit) = (fV f, ())) ∧ True ∧ True ∧ True ∧ True ∧ TF))
theorem vcn_sFactValid (f : GFact) (k : Nat) : VC_sFactValid f k := by
  unfold VC_sFactValid
  simp only [cln, Nat.reduceEqDiff, Nat.reduceLeDiff, Nat.reduceAdd]
  cases h : isT f.a <;> simp [vcIf, fV, h]
theorem vce_sFactValid (f : GFact) (k : Nat) : VC_sFactValid f k = vcQ tab (lookF L_sFactValid) (lookP P_sFactValid) (fun _ => false) (fun _ => none) (fun _ _ => none) (fun _ => []) (bodyOf Try.f97) (entry (encs c_sFactValid.aks (f, ())) (rdOf false k)) (retOk tab c_sFactValid Try.f97.results.toList (f, ()) k) := by kernel_rfl
theorem ok_sFactValid : FnOk Try.prog E 97 c_sFactValid :=
  fn_okQ (l := L_sFactValid) (lp := P_sFactValid) (hp := fun _ => false) (gcs := fun _ => none) (perm := fun _ => []) tabOk mix ⟨ok_l1Is, trivial⟩ trivial Try.func97 rfl (by kernel_rfl) (by decide) (by kernel_rfl) (anns := fun x _ => fun _ _ => none) (fun ⟨f, _⟩ k _ _ => (vce_sFactValid f k).mp (vcn_sFactValid f k)) tot_fn
end Go.Proofs.Ytejcmcbpfnmlaaa

namespace Go.Proofs.Ytejcmcbpfnmlaaa
open Go.SE Go.RowKit
set_option linter.unusedSimpArgs false
set_option linter.unusedVariables false
set_option maxHeartbeats 1000000
set_option maxRecDepth 100000
/-! sFactsValid -/
abbrev c_sFactsValid : Con := ⟨[.sl .fact], [.bool], fun (l, _) => l.length ≤ 281474976710656, .inl fun (l, _) => (fsV l, ()), fun _ => 0⟩
abbrev L_sFactsValid : List (FuncId × Con) := [(97, c_sFactValid)]
abbrev P_sFactsValid : List (FuncId × PT) := []
def an_sFactsValid (l : List GFact) : Nat → St → Option Ann
  | 2, se => some { α := Nat, ok := fun i => i ≤ l.length ∧ (l.take i).all fV = true, mu := fun i => l.length - i, i0 := fun _ => 0, nx := fun a _ => (fun i => i + 1) a, live := [0], sets := fun i => [(3, sv (.int .i64 i))], mids := [], blks := fun i => [], owns := fun i => [], rd := fun r _ => r, base := 100000 }
  | _, _ => none
def VC_sFactsValid (l : List GFact) (k : Nat) : Prop := True ∧ True ∧ ((0 ≤ l.length ∧ (l.take 0).all fV = true) ∧ TT ∧ (RL [.s (.c (.d (.arr .fact l)))]) ∧ (([.s (.c (.d (.val (.int .i64 (0 : Int)))))] : List S) = [.s (.c (.d (.val (.int .i64 ((0 : Nat) : Int)))))]) ∧ (RM []) ∧ (RM []) ∧ True ∧ TT) ∧ (∀ i1 : Nat, (i1 ≤ l.length ∧ (l.take i1).all fV = true) → True ∧ True ∧ True ∧ True ∧ (vcIf (decide (((i1 : Nat) : Int) < ((l.length : Nat) : Int))) (True ∧ True ∧ (0 ≤ ((i1 : Nat) : Int) ∧ ((i1 : Nat) : Int) < ((l.length : Nat) : Int)) ∧ True ∧ (True ∧ True ∧ True) ∧ True ∧ (vcIf (!(fV (l.getD i1 (⟨false, 0, 0⟩ : GFact)))) (True ∧ (((false, ()) : Bool × Unit) = (fsV l, ())) ∧ True ∧ True ∧ True ∧ True ∧ TF) (True ∧ (inK .i64 (((i1 : Nat) : Int) + (1 : Int))) ∧ True ∧ ((i1 + 1) ≤ l.length ∧ (l.take (i1 + 1)).all fV = true) ∧ (l.length - (i1 + 1) < l.length - i1) ∧ TT ∧ (RL [.s (.c (.d (.arr .fact l)))]) ∧ (([.s (.c (.d (.val (.int .i64 (((i1 : Nat) : Int) + (1 : Int))))))] : List S) = [.s (.c (.d (.val (.int .i64 (((i1 + 1) : Nat) : Int)))))]) ∧ (RM []) ∧ (RM []) ∧ True ∧ TT))) (True ∧ True ∧ True ∧ True ∧ (((decide (((l.length : Nat) : Int) ≤ (12 : Int)), ()) : Bool × Unit) = (fsV l, ())) ∧ True ∧ True ∧ True ∧ True ∧ TF)))
theorem vcn_sFactsValid (l : List GFact) (k : Nat) (hp : l.length ≤ 281474976710656) : VC_sFactsValid l k := by
  unfold VC_sFactsValid
  simp only [cln, Nat.reduceEqDiff, Nat.reduceLeDiff, Nat.reduceAdd]
  all_goals (try simp only [opn])
  all_goals (repeat' (first | apply And.intro | intro _))
  all_goals (first | omega | (simp_all; done) | grind [fsV, take_all, all_take, take_full, Ty.zero])
theorem vce_sFactsValid (l : List GFact) (k : Nat) : VC_sFactsValid l k = vcQ tab (lookF L_sFactsValid) (lookP P_sFactsValid) (fun _ => false) (fun _ => none) (an_sFactsValid l) (fun _ => []) (bodyOf Try.f127) (entry (encs c_sFactsValid.aks (l, ())) (rdOf false k)) (retOk tab c_sFactsValid Try.f127.results.toList (l, ()) k) := by kernel_rfl
theorem ok_sFactsValid : FnOk Try.prog E 127 c_sFactsValid :=
  fn_okQ (l := L_sFactsValid) (lp := P_sFactsValid) (hp := fun _ => false) (gcs := fun _ => none) (perm := fun _ => []) tabOk mix ⟨ok_sFactValid, trivial⟩ trivial Try.func127 rfl (by kernel_rfl) (by decide) (by kernel_rfl) (anns := fun x _ => an_sFactsValid x.1) (fun ⟨l, _⟩ k hp _ => (vce_sFactsValid l k).mp (vcn_sFactsValid l k hp)) tot_fn
end Go.Proofs.Ytejcmcbpfnmlaaa

namespace Go.Proofs.Ytejcmcbpfnmlaaa
open Go.SE Go.RowKit
set_option linter.unusedSimpArgs false
set_option linter.unusedVariables false
set_option maxHeartbeats 1000000
set_option maxRecDepth 100000
/-! sAssertionValid -/
abbrev c_sAssertionValid : Con := ⟨[.asn], [.bool], fun (a, _) => a.facts.length ≤ 281474976710656 ∧ a.atoms.length ≤ 281474976710656, .inl fun (a, _) => (asV a, ()), fun _ => 0⟩
abbrev L_sAssertionValid : List (FuncId × Con) := [(126, c_l3Atom), (127, c_sFactsValid)]
abbrev P_sAssertionValid : List (FuncId × PT) := []
def an_sAssertionValid (a : GAsn) : Nat → St → Option Ann
  | 2, se => some { α := Nat, ok := fun i => i ≤ a.atoms.length ∧ (a.atoms.take i).all atV = true, mu := fun i => a.atoms.length - i, i0 := fun _ => 0, nx := fun a _ => (fun i => i + 1) a, live := [1], sets := fun i => [(3, sv (.int .i64 i))], mids := [31], blks := fun i => [], owns := fun i => [], rd := fun r _ => r, base := 100000 }
  | _, _ => none
def VC_sAssertionValid (a : GAsn) (k : Nat) : Prop := TN ∧ True ∧ True ∧ ((0 ≤ a.atoms.length ∧ (a.atoms.take 0).all atV = true) ∧ TT ∧ (RL [.s (.c (.ptr 31 0))]) ∧ (([.s (.c (.d (.val (.int .i64 (0 : Int)))))] : List S) = [.s (.c (.d (.val (.int .i64 ((0 : Nat) : Int)))))]) ∧ (RM [some (.blk [.d (.arr .fact a.facts), .d (.arr .atom a.atoms)])]) ∧ (RM []) ∧ True ∧ TT) ∧ (∀ i1 : Nat, (i1 ≤ a.atoms.length ∧ (a.atoms.take i1).all atV = true) → True ∧ True ∧ True ∧ True ∧ True ∧ (vcIf (decide (((i1 : Nat) : Int) < ((a.atoms.length : Nat) : Int))) (True ∧ True ∧ True ∧ (0 ≤ ((i1 : Nat) : Int) ∧ ((i1 : Nat) : Int) < ((a.atoms.length : Nat) : Int)) ∧ True ∧ (True ∧ True ∧ True) ∧ True ∧ (vcIf (!(atV (a.atoms.getD i1 (⟨0, 0, 0⟩ : GAtom)))) (True ∧ (((false, ()) : Bool × Unit) = (asV a, ())) ∧ True ∧ True ∧ True ∧ True ∧ TF) (True ∧ (inK .i64 (((i1 : Nat) : Int) + (1 : Int))) ∧ True ∧ ((i1 + 1) ≤ a.atoms.length ∧ (a.atoms.take (i1 + 1)).all atV = true) ∧ (a.atoms.length - (i1 + 1) < a.atoms.length - i1) ∧ TT ∧ (RL [.s (.c (.ptr 31 0))]) ∧ (([.s (.c (.d (.val (.int .i64 (((i1 : Nat) : Int) + (1 : Int))))))] : List S) = [.s (.c (.d (.val (.int .i64 (((i1 + 1) : Nat) : Int)))))]) ∧ (RM [some (.blk [.d (.arr .fact a.facts), .d (.arr .atom a.atoms)])]) ∧ (RM []) ∧ True ∧ TT))) (True ∧ True ∧ ((a.facts.length ≤ 281474976710656) ∧ True ∧ True) ∧ True ∧ (vcIf (fsV a.facts) (True ∧ True ∧ True ∧ True ∧ True ∧ True ∧ (((decide (((a.atoms.length : Nat) : Int) ≤ (6 : Int)), ()) : Bool × Unit) = (asV a, ())) ∧ True ∧ True ∧ True ∧ True ∧ TF) (True ∧ True ∧ (((false, ()) : Bool × Unit) = (asV a, ())) ∧ True ∧ True ∧ True ∧ True ∧ TF)))))
theorem vcn_sAssertionValid (a : GAsn) (k : Nat) (hp : a.facts.length ≤ 281474976710656 ∧ a.atoms.length ≤ 281474976710656) : VC_sAssertionValid a k := by
  unfold VC_sAssertionValid
  simp only [cln, Nat.reduceEqDiff, Nat.reduceLeDiff, Nat.reduceAdd]
  all_goals (try simp only [opn])
  all_goals (repeat' (first | apply And.intro | intro _))
  all_goals (first | omega | (simp_all; done) | grind [asV, take_all, all_take, take_full, Ty.zero])
theorem vce_sAssertionValid (a : GAsn) (k : Nat) : VC_sAssertionValid a k = vcQ tab (lookF L_sAssertionValid) (lookP P_sAssertionValid) (fun _ => false) (fun _ => none) (an_sAssertionValid a) (fun _ => []) (bodyOf Try.f73) (entry (encs c_sAssertionValid.aks (a, ())) (rdOf false k)) (retOk tab c_sAssertionValid Try.f73.results.toList (a, ()) k) := by kernel_rfl
theorem ok_sAssertionValid : FnOk Try.prog E 73 c_sAssertionValid :=
  fn_okQ (l := L_sAssertionValid) (lp := P_sAssertionValid) (hp := fun _ => false) (gcs := fun _ => none) (perm := fun _ => []) tabOk mix ⟨ok_l3Atom, ok_sFactsValid, trivial⟩ trivial Try.func73 rfl (by kernel_rfl) (by decide) (by kernel_rfl) (anns := fun x _ => an_sAssertionValid x.1) (fun ⟨a, _⟩ k hp _ => (vce_sAssertionValid a k).mp (vcn_sAssertionValid a k hp)) tot_fn
end Go.Proofs.Ytejcmcbpfnmlaaa
