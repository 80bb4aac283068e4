/-
  Contracts of single functions of the program, each shown by the engine: what a call returns for arguments within the contract's bounds.
-/
import Derived.Test.YtejcmcbpfnmlaaaFFnAllocateda
import Derived.Test.YtejcmcbpfnmlaaaFFnAllocatede
import Derived.Test.YtejcmcbpfnmlaaaEf
import Derived.Test.YtejcmcbpfnmlaaaEe
import Derived.Test.YtejcmcbpfnmlaaaEg
set_option linter.unusedSimpArgs false
set_option linter.unusedVariables false
set_option linter.unusedSectionVars false

namespace Go.Proofs.Ytejcmcbpfnmlaaa
open Go.SE Go.RowKit
set_option linter.unusedSimpArgs false
set_option linter.unusedVariables false
set_option maxHeartbeats 1000000
set_option maxRecDepth 100000

/-! the iterator -/
abbrev L_ext : List (FuncId × Con) := [(129, c_tsHas), (153, c_possible)]
def an_ext (a : GAsn) (tm : Int) (go : List Int → Bool) (T : CG) (l : Nat) (t t' : Int) (en en' : List Int → CG) (c : List Int) (γ : CG) : Nat → St → CG → Option (AnnY CG)
  | 7, st0, GM => some ⟨{ α := Nat × List Int, ok := fun p => p.1 ≤ t.toNat + 1 ∧ p.2.length = 9 ∧ (∀ x : Int, p.2.set t.toNat x = c.set t.toNat x) ∧ ((List.range p.1).flatMap (brC (poss a) en t.toNat c)).all go = true, mu := fun p => t.toNat + 1 - p.1, i0 := fun _ => (0, c), nx := fun p st => (p.1 + 1, vecAt st 95), live := [1, 3, 4, 5, 7], sets := fun p => [(11, sv (.int .i64 p.1))], mids := [127], blks := fun p => [(95, .vec .int p.2)], owns := fun p => [], rd := fun r _ => r, base := 100000 }, fun p => GM ++ (List.range p.1).flatMap (brC (poss a) en t.toNat c)⟩
  | _, _, _ => none
def hp_ext : Nat → Bool
  | 2 => true
  | 5 => true
  | 11 => true
  | _ => false
def VC_ext_1 (a : GAsn) (tm : Int) (go : List Int → Bool) (T : CG) (l : Nat) (t t' : Int) (en en' : List Int → CG) (c : List Int) (γ : CG) (p1 : Nat × List Int) : Prop := (True ∧ (vcIf (possI a (p1.2.set t.toNat (p1.1 : Int)) t) ((9 = (p1.2.set t.toNat (p1.1 : Int)).length * 1) ∧ True ∧ (inK .i64 (t + (1 : Int))) ∧ True ∧ True ∧ True ∧ (((none : Option Nat) = none) ∧ ((p1.2.set t.toNat (p1.1 : Int)).length = 9) ∧ ((t + (1 : Int)) = t') ∧ (a.facts = a.facts) ∧ (a.atoms = a.atoms) ∧ (tm = tm) ∧ ((yV l : Value) = yV l) ∧ ((γ ++ (List.range p1.1).flatMap (brC (poss a) en t.toNat c)).all go = true) ∧ (((γ ++ (List.range p1.1).flatMap (brC (poss a) en t.toNat c)) ++ en (p1.2.set t.toNat (p1.1 : Int))) <+: T)) ∧ True ∧ True ∧ (vcIf (!((en (p1.2.set t.toNat (p1.1 : Int))).all go)) (TT ∧ True ∧ ((none : Option Nat) = none) ∧ (false = (en' c).all go) ∧ ((γ ++ (List.range p1.1).flatMap (brC (poss a) en t.toNat c) ++ upTo go (en (p1.2.set t.toNat (p1.1 : Int))) : CG) = γ ++ upTo go (en' c))) (TT ∧ True ∧ (inK .i64 ((p1.1 : Int) + (1 : Int))) ∧ True ∧ ((p1.1 + 1, (p1.2.set t.toNat (p1.1 : Int))).1 ≤ t.toNat + 1 ∧ (p1.1 + 1, (p1.2.set t.toNat (p1.1 : Int))).2.length = 9 ∧ (∀ x : Int, (p1.1 + 1, (p1.2.set t.toNat (p1.1 : Int))).2.set t.toNat x = c.set t.toNat x) ∧ ((List.range (p1.1 + 1, (p1.2.set t.toNat (p1.1 : Int))).1).flatMap (brC (poss a) en t.toNat c)).all go = true) ∧ ((γ ++ (List.range (p1.1 + 1, (p1.2.set t.toNat (p1.1 : Int))).1).flatMap (brC (poss a) en t.toNat c) : CG) = γ ++ (List.range p1.1).flatMap (brC (poss a) en t.toNat c) ++ upTo go (en (p1.2.set t.toNat (p1.1 : Int)))) ∧ (t.toNat + 1 - (p1.1 + 1, (p1.2.set t.toNat (p1.1 : Int))).1 < t.toNat + 1 - p1.1) ∧ TT ∧ (RL [.s (.c (.d (.val (.int .i64 t)))), .s (.c (.d (.val (.int .u16 tm)))), .s (.c (.d (.val (yV l)))), .s (.c (.ptr 95 0)), .s (.c (.ptr 127 0))]) ∧ (([.s (.c (.d (.val (.int .i64 ((p1.1 : Int) + (1 : Int))))))] : List S) = [.s (.c (.d (.val (.int .i64 ((p1.1 + 1, (p1.2.set t.toNat (p1.1 : Int))).1 : Int)))))]) ∧ (RM [some (.blk [.d (.arr .fact a.facts), .d (.arr .atom a.atoms)])]) ∧ (([some (.vec .int (p1.2.set t.toNat (p1.1 : Int)))] : List (Option Res)) = [some (.vec .int ((p1.1 + 1, (p1.2.set t.toNat (p1.1 : Int))).2))]) ∧ True ∧ TT))) (True ∧ TT ∧ True ∧ (inK .i64 ((p1.1 : Int) + (1 : Int))) ∧ True ∧ ((p1.1 + 1, (p1.2.set t.toNat (p1.1 : Int))).1 ≤ t.toNat + 1 ∧ (p1.1 + 1, (p1.2.set t.toNat (p1.1 : Int))).2.length = 9 ∧ (∀ x : Int, (p1.1 + 1, (p1.2.set t.toNat (p1.1 : Int))).2.set t.toNat x = c.set t.toNat x) ∧ ((List.range (p1.1 + 1, (p1.2.set t.toNat (p1.1 : Int))).1).flatMap (brC (poss a) en t.toNat c)).all go = true) ∧ ((γ ++ (List.range (p1.1 + 1, (p1.2.set t.toNat (p1.1 : Int))).1).flatMap (brC (poss a) en t.toNat c) : CG) = γ ++ (List.range p1.1).flatMap (brC (poss a) en t.toNat c)) ∧ (t.toNat + 1 - (p1.1 + 1, (p1.2.set t.toNat (p1.1 : Int))).1 < t.toNat + 1 - p1.1) ∧ TT ∧ (RL [.s (.c (.d (.val (.int .i64 t)))), .s (.c (.d (.val (.int .u16 tm)))), .s (.c (.d (.val (yV l)))), .s (.c (.ptr 95 0)), .s (.c (.ptr 127 0))]) ∧ (([.s (.c (.d (.val (.int .i64 ((p1.1 : Int) + (1 : Int))))))] : List S) = [.s (.c (.d (.val (.int .i64 ((p1.1 + 1, (p1.2.set t.toNat (p1.1 : Int))).1 : Int)))))]) ∧ (RM [some (.blk [.d (.arr .fact a.facts), .d (.arr .atom a.atoms)])]) ∧ (([some (.vec .int (p1.2.set t.toNat (p1.1 : Int)))] : List (Option Res)) = [some (.vec .int ((p1.1 + 1, (p1.2.set t.toNat (p1.1 : Int))).2))]) ∧ True ∧ TT)))
def VC_ext_2 (a : GAsn) (tm : Int) (go : List Int → Bool) (T : CG) (l : Nat) (t t' : Int) (en en' : List Int → CG) (c : List Int) (γ : CG) (p1 : Nat × List Int) : Prop := (True ∧ (vcIf (possI a (p1.2.set t.toNat (p1.1 : Int)) t) ((9 = (p1.2.set t.toNat (p1.1 : Int)).length * 1) ∧ True ∧ (inK .i64 (t + (1 : Int))) ∧ True ∧ True ∧ True ∧ (((none : Option Nat) = none) ∧ ((p1.2.set t.toNat (p1.1 : Int)).length = 9) ∧ ((t + (1 : Int)) = t') ∧ (a.facts = a.facts) ∧ (a.atoms = a.atoms) ∧ (tm = tm) ∧ ((yV l : Value) = yV l) ∧ ((γ ++ (List.range p1.1).flatMap (brC (poss a) en t.toNat c)).all go = true) ∧ (((γ ++ (List.range p1.1).flatMap (brC (poss a) en t.toNat c)) ++ en (p1.2.set t.toNat (p1.1 : Int))) <+: T)) ∧ True ∧ True ∧ (vcIf (!((en (p1.2.set t.toNat (p1.1 : Int))).all go)) (TT ∧ True ∧ ((none : Option Nat) = none) ∧ (false = (en' c).all go) ∧ ((γ ++ (List.range p1.1).flatMap (brC (poss a) en t.toNat c) ++ upTo go (en (p1.2.set t.toNat (p1.1 : Int))) : CG) = γ ++ upTo go (en' c))) (TT ∧ True ∧ (inK .i64 ((p1.1 : Int) + (1 : Int))) ∧ True ∧ ((p1.1 + 1, (p1.2.set t.toNat (p1.1 : Int))).1 ≤ t.toNat + 1 ∧ (p1.1 + 1, (p1.2.set t.toNat (p1.1 : Int))).2.length = 9 ∧ (∀ x : Int, (p1.1 + 1, (p1.2.set t.toNat (p1.1 : Int))).2.set t.toNat x = c.set t.toNat x) ∧ ((List.range (p1.1 + 1, (p1.2.set t.toNat (p1.1 : Int))).1).flatMap (brC (poss a) en t.toNat c)).all go = true) ∧ ((γ ++ (List.range (p1.1 + 1, (p1.2.set t.toNat (p1.1 : Int))).1).flatMap (brC (poss a) en t.toNat c) : CG) = γ ++ (List.range p1.1).flatMap (brC (poss a) en t.toNat c) ++ upTo go (en (p1.2.set t.toNat (p1.1 : Int)))) ∧ (t.toNat + 1 - (p1.1 + 1, (p1.2.set t.toNat (p1.1 : Int))).1 < t.toNat + 1 - p1.1) ∧ TT ∧ (RL [.s (.c (.d (.val (.int .i64 t)))), .s (.c (.d (.val (.int .u16 tm)))), .s (.c (.d (.val (yV l)))), .s (.c (.ptr 95 0)), .s (.c (.ptr 127 0))]) ∧ (([.s (.c (.d (.val (.int .i64 ((p1.1 : Int) + (1 : Int))))))] : List S) = [.s (.c (.d (.val (.int .i64 ((p1.1 + 1, (p1.2.set t.toNat (p1.1 : Int))).1 : Int)))))]) ∧ (RM [some (.blk [.d (.arr .fact a.facts), .d (.arr .atom a.atoms)])]) ∧ (([some (.vec .int (p1.2.set t.toNat (p1.1 : Int)))] : List (Option Res)) = [some (.vec .int ((p1.1 + 1, (p1.2.set t.toNat (p1.1 : Int))).2))]) ∧ True ∧ TT))) (True ∧ TT ∧ True ∧ (inK .i64 ((p1.1 : Int) + (1 : Int))) ∧ True ∧ ((p1.1 + 1, (p1.2.set t.toNat (p1.1 : Int))).1 ≤ t.toNat + 1 ∧ (p1.1 + 1, (p1.2.set t.toNat (p1.1 : Int))).2.length = 9 ∧ (∀ x : Int, (p1.1 + 1, (p1.2.set t.toNat (p1.1 : Int))).2.set t.toNat x = c.set t.toNat x) ∧ ((List.range (p1.1 + 1, (p1.2.set t.toNat (p1.1 : Int))).1).flatMap (brC (poss a) en t.toNat c)).all go = true) ∧ ((γ ++ (List.range (p1.1 + 1, (p1.2.set t.toNat (p1.1 : Int))).1).flatMap (brC (poss a) en t.toNat c) : CG) = γ ++ (List.range p1.1).flatMap (brC (poss a) en t.toNat c)) ∧ (t.toNat + 1 - (p1.1 + 1, (p1.2.set t.toNat (p1.1 : Int))).1 < t.toNat + 1 - p1.1) ∧ TT ∧ (RL [.s (.c (.d (.val (.int .i64 t)))), .s (.c (.d (.val (.int .u16 tm)))), .s (.c (.d (.val (yV l)))), .s (.c (.ptr 95 0)), .s (.c (.ptr 127 0))]) ∧ (([.s (.c (.d (.val (.int .i64 ((p1.1 : Int) + (1 : Int))))))] : List S) = [.s (.c (.d (.val (.int .i64 ((p1.1 + 1, (p1.2.set t.toNat (p1.1 : Int))).1 : Int)))))]) ∧ (RM [some (.blk [.d (.arr .fact a.facts), .d (.arr .atom a.atoms)])]) ∧ (([some (.vec .int (p1.2.set t.toNat (p1.1 : Int)))] : List (Option Res)) = [some (.vec .int ((p1.1 + 1, (p1.2.set t.toNat (p1.1 : Int))).2))]) ∧ True ∧ TT)))
def VC_ext_3 (a : GAsn) (tm : Int) (go : List Int → Bool) (T : CG) (l : Nat) (t t' : Int) (en en' : List Int → CG) (c : List Int) (γ : CG) : Prop := (True ∧ (vcIf (!(tsHas tm t)) (TT ∧ True ∧ (0 ≤ t ∧ t < ((9 : Nat) : Int) ∧ c.length = 9) ∧ (TF ∧ TF ∧ True) ∧ TT ∧ (9 = (c.set t.toNat (-1 : Int)).length * 1) ∧ True ∧ (inK .i64 (t + (1 : Int))) ∧ True ∧ True ∧ True ∧ (((none : Option Nat) = none) ∧ ((c.set t.toNat (-1 : Int)).length = 9) ∧ ((t + (1 : Int)) = t') ∧ (a.facts = a.facts) ∧ (a.atoms = a.atoms) ∧ (tm = tm) ∧ ((yV l : Value) = yV l) ∧ (γ.all go = true) ∧ ((γ ++ en (c.set t.toNat (-1 : Int))) <+: T)) ∧ True ∧ ((none : Option Nat) = none) ∧ (((en (c.set t.toNat (-1 : Int))).all go) = (en' c).all go) ∧ ((γ ++ upTo go (en (c.set t.toNat (-1 : Int))) : CG) = γ ++ upTo go (en' c))) (TT ∧ True ∧ (((0, c).1 ≤ t.toNat + 1 ∧ (0, c).2.length = 9 ∧ (∀ x : Int, (0, c).2.set t.toNat x = c.set t.toNat x) ∧ ((List.range (0, c).1).flatMap (brC (poss a) en t.toNat c)).all go = true) ∧ ((γ ++ (List.range (0, c).1).flatMap (brC (poss a) en t.toNat c) : CG) = γ) ∧ TT ∧ (RL [.s (.c (.d (.val (.int .i64 t)))), .s (.c (.d (.val (.int .u16 tm)))), .s (.c (.d (.val (yV l)))), .s (.c (.ptr 95 0)), .s (.c (.ptr 127 0))]) ∧ (([.s (.c (.d (.val (.int .i64 (0 : Int)))))] : List S) = [.s (.c (.d (.val (.int .i64 ((0, c).1 : Int)))))]) ∧ (RM [some (.blk [.d (.arr .fact a.facts), .d (.arr .atom a.atoms)])]) ∧ (([some (.vec .int c)] : List (Option Res)) = [some (.vec .int ((0, c).2))]) ∧ True ∧ TT) ∧ (∀ p1 : Nat × List Int, (p1.1 ≤ t.toNat + 1 ∧ p1.2.length = 9 ∧ (∀ x : Int, p1.2.set t.toNat x = c.set t.toNat x) ∧ ((List.range p1.1).flatMap (brC (poss a) en t.toNat c)).all go = true) → TT ∧ True ∧ True ∧ True ∧ (vcIf (decide ((p1.1 : Int) ≤ t)) (TT ∧ True ∧ True ∧ True ∧ True ∧ (vcIf (decide ((p1.1 : Int) < t)) (True ∧ (0 ≤ (p1.1 : Int) ∧ (p1.1 : Int) < ((9 : Nat) : Int) ∧ p1.2.length = 9) ∧ True ∧ True ∧ True ∧ True ∧ (vcIf ((p1.2.getD (p1.1 : Int).toNat (0 : Int)) != (p1.1 : Int)) (TT ∧ True ∧ (inK .i64 ((p1.1 : Int) + (1 : Int))) ∧ True ∧ ((p1.1 + 1, p1.2).1 ≤ t.toNat + 1 ∧ (p1.1 + 1, p1.2).2.length = 9 ∧ (∀ x : Int, (p1.1 + 1, p1.2).2.set t.toNat x = c.set t.toNat x) ∧ ((List.range (p1.1 + 1, p1.2).1).flatMap (brC (poss a) en t.toNat c)).all go = true) ∧ ((γ ++ (List.range (p1.1 + 1, p1.2).1).flatMap (brC (poss a) en t.toNat c) : CG) = γ ++ (List.range p1.1).flatMap (brC (poss a) en t.toNat c)) ∧ (t.toNat + 1 - (p1.1 + 1, p1.2).1 < t.toNat + 1 - p1.1) ∧ TT ∧ (RL [.s (.c (.d (.val (.int .i64 t)))), .s (.c (.d (.val (.int .u16 tm)))), .s (.c (.d (.val (yV l)))), .s (.c (.ptr 95 0)), .s (.c (.ptr 127 0))]) ∧ (([.s (.c (.d (.val (.int .i64 ((p1.1 : Int) + (1 : Int))))))] : List S) = [.s (.c (.d (.val (.int .i64 ((p1.1 + 1, p1.2).1 : Int)))))]) ∧ (RM [some (.blk [.d (.arr .fact a.facts), .d (.arr .atom a.atoms)])]) ∧ (([some (.vec .int p1.2)] : List (Option Res)) = [some (.vec .int ((p1.1 + 1, p1.2).2))]) ∧ True ∧ TT) (TT ∧ True ∧ True ∧ (0 ≤ t ∧ t < ((9 : Nat) : Int) ∧ p1.2.length = 9) ∧ (TF ∧ TF ∧ True) ∧ TT ∧ True ∧ True ∧ (((p1.2.set t.toNat (p1.1 : Int)).length = 9 ∧ asV a = true ∧ 0 ≤ t ∧ t ≤ 8) ∧ True ∧ True) ∧ (VC_ext_1 a tm go T l t t' en en' c γ p1)))) (True ∧ TT ∧ True ∧ True ∧ (0 ≤ t ∧ t < ((9 : Nat) : Int) ∧ p1.2.length = 9) ∧ (TF ∧ TF ∧ True) ∧ TT ∧ True ∧ True ∧ (((p1.2.set t.toNat (p1.1 : Int)).length = 9 ∧ asV a = true ∧ 0 ≤ t ∧ t ≤ 8) ∧ True ∧ True) ∧ (VC_ext_2 a tm go T l t t' en en' c γ p1)))) (TT ∧ True ∧ ((none : Option Nat) = none) ∧ (true = (en' c).all go) ∧ ((γ ++ (List.range p1.1).flatMap (brC (poss a) en t.toNat c) : CG) = γ ++ upTo go (en' c))))))))
def VC_ext (a : GAsn) (tm : Int) (go : List Int → Bool) (T : CG) (l : Nat) (t t' : Int) (en en' : List Int → CG) (c : List Int) (γ : CG) : Prop := TT ∧ TN ∧ TN ∧ True ∧ TT ∧ True ∧ True ∧ (vcIf (decide ((8 : Int) < t)) (TT ∧ True ∧ (9 = c.length * 1) ∧ (((none : Option Nat) = none) ∧ ((.s (.c (.d (.val (yV l)))) : S) = .s (.c (.d (.val (yV l))))) ∧ (γ.all go = true) ∧ ((γ ++ [c]) <+: T)) ∧ True ∧ ((none : Option Nat) = none) ∧ ((go c) = (en' c).all go) ∧ ((γ ++ [c] : CG) = γ ++ upTo go (en' c))) (TT ∧ True ∧ True ∧ ((0 ≤ tm ∧ tm < 512) ∧ True ∧ True) ∧ (VC_ext_3 a tm go T l t t' en en' c γ)))
theorem vcn_ext (a : GAsn) (tm : Int) (go : List Int → Bool) (T : CG) (l : Nat) (t t' : Int) (en en' : List Int → CG) (c : List Int) (γ : CG) (hp : asV a = true ∧ 0 ≤ tm ∧ tm < 512) (ht : 0 ≤ t ∧ t ≤ 9) (ht' : t' = t + 1) (hc : c.length = 9) (hgo : γ.all go = true) (hT : (γ ++ en' c) <+: T) (h9 : 8 < t → en' c = [c]) (h8 : ¬ 8 < t → en' c = cond (tsHas tm t) ((List.range (t.toNat + 1)).flatMap (brC (poss a) en t.toNat c)) (en (c.set t.toNat (-1)))) : VC_ext a tm go T l t t' en en' c γ := by
  unfold VC_ext VC_ext_3 VC_ext_2 VC_ext_1
  simp only [cln, Nat.reduceEqDiff, Nat.reduceLeDiff, Nat.reduceAdd]
  obtain ⟨n, rfl⟩ : ∃ n : Nat, t = (n : Int) := ⟨t.toNat, by omega⟩
  simp only [Int.toNat_natCast] at h8 ⊢
  all_goals (try simp only [vcIf_iff, decide_eq_true_eq, decide_eq_false_iff_not, bne_iff_ne, ne_eq, beq_iff_eq, beq_eq_false_iff_ne, bne_eq_false_iff_eq, Bool.not_eq_true', Bool.not_eq_false', Int.ofNat_lt, Int.natCast_inj])
  all_goals (repeat' (first | apply And.intro | intro _))
  all_goals (first | omega | assumption | rfl | (simp_all; done) | skip)
  · rw [h9 (by assumption)]; simp only [upTo]; cases go c <;> rfl
  all_goals (have hL := h8 (by assumption); rw [(by assumption : tsHas tm (n : Int) = true), cond_true] at hL)
  all_goals (have hok := (by assumption : _ ∧ _ ∧ (∀ x : Int, _) ∧ _); obtain ⟨k1, k2, k3, k4⟩ := hok)
  all_goals (first
    | (have e := fl_skip (a := a) (en := en) k3 (by omega) (by assumption); unfold flC at e; rw [e]; assumption) | (have e := fl_skip (a := a) (en := en) k3 (by omega) (by assumption); unfold flC at e; rw [e]; done)
    | (rw [List.all_append, hgo, k4]; rfl)
    | (exact fl_pre hL k3 (.inr (by assumption)) (by assumption) (by assumption) hT) | (exact fl_pre hL k3 (.inl (by omega)) (by assumption) (by assumption) hT)
    | (exact (fl_all (γ := γ) hL k3 (.inr (by assumption)) (by assumption) (by assumption) (by assumption) k4).1) | (exact (fl_all (γ := γ) hL k3 (.inl (by omega)) (by assumption) (by assumption) (by assumption) k4).1)
    | (exact (fl_all hL k3 (.inr (by assumption)) (by assumption) (by assumption) (by assumption) k4).2) | (exact (fl_all hL k3 (.inl (by omega)) (by assumption) (by assumption) (by assumption) k4).2)
    | (exact (fl_end (γ := γ) hL k1 (by assumption) k4).1) | (exact (fl_end hL k1 (by assumption) k4).2)
    | (have e := fl_no (en := en) k3 (by assumption); unfold flC at e; rw [e]; assumption) | (have e := fl_no (en := en) k3 (by assumption); unfold flC at e; rw [e]; done)
    | (have e := fl_yes (en := en) k3 (.inr (by assumption)) (by assumption) (by assumption); unfold flC at e; rw [e, List.all_append, k4, (by assumption : List.all (en _) go = true)]; rfl)
    | (have e := fl_yes (en := en) k3 (.inl (by omega)) (by assumption) (by assumption); unfold flC at e; rw [e, List.all_append, k4, (by assumption : List.all (en _) go = true)]; rfl)
    | (have e := fl_yes (en := en) k3 (.inr (by assumption)) (by assumption) (by assumption); unfold flC at e; rw [e, upTo_all (by assumption), List.append_assoc]; done)
    | (have e := fl_yes (en := en) k3 (.inl (by omega)) (by assumption) (by assumption); unfold flC at e; rw [e, upTo_all (by assumption), List.append_assoc]; done)
    | skip)
theorem vce_ext (a : GAsn) (tm : Int) (go : List Int → Bool) (T : CG) (l : Nat) (t t' : Int) (en en' : List Int → CG) (c : List Int) (γ : CG) : VC_ext a tm go T l t t' en en' c γ = vcY tab (lookF L_ext) (lookP []) (spE 124 l go T a tm t' en) noSpc (fun _ => false) hp_ext (fun _ => none) (an_ext a tm go T l t t' en en' c γ) (fun _ => []) (bodyOf Try.f124) (entry (extArgs c t a tm l) none) γ (retE tab Try.f124.results.toList go (en' c) γ) := by kernel_rfl
def hp_pc : Nat → Bool
  | 1 => true
  | _ => false
def VC_pc (a : GAsn) (tm : Int) (go : List Int → Bool) (T : CG) (l : Nat) (en : List Int → CG) (γ1 : CG) : Prop := TT ∧ (TN ∧ True) ∧ TT ∧ (9 = (List.replicate 9 (0 : Int)).length * 1) ∧ True ∧ True ∧ True ∧ (((none : Option Nat) = none) ∧ ((List.replicate 9 (0 : Int)).length = 9) ∧ ((0 : Int) = 0) ∧ (a.facts = a.facts) ∧ (a.atoms = a.atoms) ∧ (tm = tm) ∧ ((yV l : Value) = yV l) ∧ ([].all go = true) ∧ (([] ++ en (List.replicate 9 (0 : Int))) <+: T)) ∧ ((none : Option Nat) = none) ∧ (([] ++ upTo go (en (List.replicate 9 (0 : Int))) : CG) = γ1)
theorem vcn_pc (a : GAsn) (tm : Int) (go : List Int → Bool) (T : CG) (l : Nat) (en : List Int → CG) (γ1 : CG) (hT : en (List.replicate 9 0) = T) (h1 : γ1 = upTo go T) : VC_pc a tm go T l en γ1 := by
  unfold VC_pc
  simp only [cln, Nat.reduceEqDiff, Nat.reduceLeDiff, Nat.reduceAdd]
  subst h1 hT
  simp
theorem vce_pc (a : GAsn) (tm : Int) (go : List Int → Bool) (T : CG) (l : Nat) (en : List Int → CG) (γ1 : CG) : VC_pc a tm go T l en γ1 = vcY tab (lookF []) (lookP []) (spE 124 l go T a tm 0 en) noSpc (fun _ => false) hp_pc (fun _ => none) (fun _ _ _ => none) (fun _ => []) (bodyOf Try.f123) (pcSt a tm l) [] (retP0 tab Try.f123.results.toList γ1) := by kernel_rfl

theorem ext_step {J : JJ CG} {a : GAsn} {tm : Int} {go : List Int → Bool} {T : CG} {l : Nat} {t t' : Int} {en en' : List Int → CG} (hp : asV a = true ∧ 0 ≤ tm ∧ tm < 512) (ht : 0 ≤ t ∧ t ≤ 9) (ht' : t' = t + 1) (h9 : ∀ c, 8 < t → en' c = [c]) (h8 : ∀ c, ¬ 8 < t → en' c = cond (tsHas tm t) ((List.range (t.toNat + 1)).flatMap (brC (poss a) en t.toNat c)) (en (c.set t.toNat (-1))))
    (hx : ExtOk Try.prog J 124 l go T a tm t' en) (hy : YOk Try.prog J l go T) : ExtOk Try.prog J 124 l go T a tm t en' :=
  ext_sound (hp := hp_ext) (gcs := fun _ => none) (perm := fun _ => []) (pts := lookP []) tabOk (kall_of (l := L_ext) ⟨ok_tsHas, ok_possible, trivial⟩) (pall_of (l := []) trivial) mix Try.func124 rfl (by kernel_rfl) (by decide) (by kernel_rfl) hx hy (anns := fun c γ => an_ext a tm go T l t t' en en' c γ)
    fun c γ hc hgo hT => (vce_ext a tm go T l t t' en en' c γ).mp (vcn_ext a tm go T l t t' en en' c γ hp ht ht' hc hgo hT (h9 c) (h8 c))
theorem ext_all {J : JJ CG} {a : GAsn} {tm : Int} {go : List Int → Bool} {T : CG} {l : Nat} (hp : asV a = true ∧ 0 ≤ tm ∧ tm < 512) (hy : YOk Try.prog J l go T) : ∀ (f t : Nat), f + t = 9 → ExtOk Try.prog J 124 l go T a tm (t : Int) (enumC (poss a) (hasN tm) f t) := by
  intro f
  induction f with
  | zero =>
    intro t ht
    have : t = 9 := by omega
    subst this
    exact ext_step (t' := 10) hp (by decide) (by decide) (fun c _ => rfl) (fun c h => absurd h (by decide)) ext_none hy
  | succ f ih =>
    intro t ht
    refine ext_step (t' := ((t + 1 : Nat) : Int)) (en := enumC (poss a) (hasN tm) f (t + 1)) hp (by omega) (by omega) (fun c h => by omega) (fun c _ => ?_) (ih (t + 1) (by omega)) hy
    simp only [Int.toNat_natCast]
    rfl
theorem it_ok : ItOk Try.prog 123 itPre itEn := by
  intro J l go a tm hpre hy w p ro0 ρ b1 b2 vs1 ty1 ty2 hin hro h1 hc1 h2 hne hp1 hp2 hr1 hr2 hJ
  exact pc_ok (fid := 124) (T := itEn a tm) (en := enumC (poss a) (hasN tm) 9 0) (t := 0) (hp := hp_pc) (gcs := fun _ => none) (perm := fun _ => []) (K := lookF []) (pts := lookP []) (anns := fun _ _ _ => none) tabOk (kall_of (l := []) trivial) (pall_of (l := []) trivial) mix Try.func123 rfl (by decide) Try.func124 rfl (by kernel_rfl) (by kernel_rfl) (ext_all hpre hy 9 0 rfl) hy
    ((vce_pc a tm go (itEn a tm) l (enumC (poss a) (hasN tm) 9 0) (upTo go (itEn a tm))).mp (vcn_pc a tm go (itEn a tm) l (enumC (poss a) (hasN tm) 9 0) (upTo go (itEn a tm)) rfl rfl)) hin hro h1 hc1 h2 hne hp1 hp2 hr1 hr2 hJ
theorem it_run : ∀ args w, (callFunc 123 args).run Try.prog w = .ok (.enter 123 args) w := run_callFunc Try.func123 (by kernel_rfl) rfl

end Go.Proofs.Ytejcmcbpfnmlaaa

namespace Go.Proofs.Ytejcmcbpfnmlaaa
open Go.SE Go.RowKit
set_option linter.unusedSimpArgs false
set_option linter.unusedVariables false
set_option maxHeartbeats 1000000
set_option maxRecDepth 100000

/-! possibleCases -/
abbrev L_possibleCases : List (FuncId × Con) := [(68, c_tsWith), (76, c_termsIn)]
abbrev P_possibleCases : List (FuncId × PT) := []
abbrev pt_possibleCases : PT := inl tab (lookF L_possibleCases) (lookP P_possibleCases) (fun _ => false) (fun _ _ => none) (fun _ _ _ _ => none) (fun _ => []) Try.f67.ntmps (bodyOf Try.f67) Try.f67.results.toList
theorem ptok_possibleCases : PTOk Try.prog E 67 pt_possibleCases :=
  pt_ok (l := L_possibleCases) (lp := P_possibleCases) tabOk mix ⟨ok_tsWith, ok_termsIn, trivial⟩ trivial Try.func67 rfl (by kernel_rfl) (by kernel_rfl)
end Go.Proofs.Ytejcmcbpfnmlaaa

namespace Go.Proofs.Ytejcmcbpfnmlaaa
open Go.SE Go.RowKit
set_option linter.unusedSimpArgs false
set_option linter.unusedVariables false
set_option maxHeartbeats 1000000
set_option maxRecDepth 100000
/-! beginsAt -/
abbrev c_beginsAt : Con := ⟨[.sl .atom, .int], [.bool], fun (l, c, _) => l.length ≤ 1048576, .inl fun (l, c, _) => (bgn l c, ()), fun _ => 0⟩
abbrev L_beginsAt : List (FuncId × Con) := []
abbrev P_beginsAt : List (FuncId × PT) := []
def an_beginsAt (l : List GAtom) (c : Int) : Nat → St → Option Ann
  | 2, se => some { α := Nat, ok := fun i => i ≤ l.length ∧ bgn (l.take i) c = false, mu := fun i => l.length - i, i0 := fun _ => 0, nx := fun a _ => (fun i => i + 1) a, live := [1, 7, 8], sets := fun i => [(9, sv (.int .i64 i))], mids := [], blks := fun i => [], owns := fun i => [], rd := fun r _ => r, base := 100000 }
  | _, _ => none
def VC_beginsAt (l : List GAtom) (c : Int) (k : Nat) : Prop := True ∧ True ∧ True ∧ True ∧ ((0 ≤ l.length ∧ bgn (l.take 0) c = false) ∧ TT ∧ (RL [.s (.c (.d (.val (.int .i64 c)))), .s (.c (.d (.arr .atom l))), .s (.c (.d (.val (.int .i64 ((l.length : Nat) : Int)))))]) ∧ (([.s (.c (.d (.val (.int .i64 (0 : Int)))))] : List S) = [.s (.c (.d (.val (.int .i64 ((0 : Nat) : Int)))))]) ∧ (RM []) ∧ (RM []) ∧ True ∧ TT) ∧ (∀ i1 : Nat, (i1 ≤ l.length ∧ bgn (l.take i1) c = false) → True ∧ (vcIf (decide (((i1 : Nat) : Int) < ((l.length : Nat) : Int))) ((0 ≤ ((i1 : Nat) : Int) ∧ ((i1 : Nat) : Int) < ((l.length : Nat) : Int)) ∧ True ∧ (TN ∧ True) ∧ (TF ∧ TF) ∧ True ∧ True ∧ True ∧ True ∧ (vcIf (((l.getD i1 (⟨0, 0, 0⟩ : GAtom)).a) == c) (True ∧ (((true, ()) : Bool × Unit) = (bgn l c, ())) ∧ True ∧ True ∧ True ∧ True ∧ TF) ((inK .i64 (((i1 : Nat) : Int) + (1 : Int))) ∧ True ∧ ((i1 + 1) ≤ l.length ∧ bgn (l.take (i1 + 1)) c = false) ∧ (l.length - (i1 + 1) < l.length - i1) ∧ TT ∧ (RL [.s (.c (.d (.val (.int .i64 c)))), .s (.c (.d (.arr .atom l))), .s (.c (.d (.val (.int .i64 ((l.length : Nat) : Int)))))]) ∧ (([.s (.c (.d (.val (.int .i64 (((i1 : Nat) : Int) + (1 : Int))))))] : List S) = [.s (.c (.d (.val (.int .i64 (((i1 + 1) : Nat) : Int)))))]) ∧ (RM []) ∧ (RM []) ∧ True ∧ TT))) (True ∧ (((false, ()) : Bool × Unit) = (bgn l c, ())) ∧ True ∧ True ∧ True ∧ True ∧ TF)))
theorem vcn_beginsAt (l : List GAtom) (c : Int) (k : Nat) (hp : l.length ≤ 1048576) : VC_beginsAt l c k := by
  unfold VC_beginsAt
  simp only [cln, Nat.reduceEqDiff, Nat.reduceLeDiff, Nat.reduceAdd]
  all_goals (try simp only [opn])
  all_goals (repeat' (first | apply And.intro | intro _))
  all_goals (repeat (cases ‹_ ∧ _›))
  all_goals (first | omega | rfl | assumption | (simp_all; done) | skip)
  all_goals (first
   | exact (bgn_yes (by assumption) (by assumption)).symm
   | exact bgn_step (by assumption) (by assumption) (by assumption)
   | exact (bgn_end (by assumption) (by assumption)).symm
   | skip)
theorem vce_beginsAt (l : List GAtom) (c : Int) (k : Nat) : VC_beginsAt l c k = vcQ tab (lookF L_beginsAt) (lookP P_beginsAt) (fun _ => false) (fun _ => none) (an_beginsAt l c) (fun _ => []) (bodyOf Try.f102) (entry (encs c_beginsAt.aks (l, c, ())) (rdOf false k)) (retOk tab c_beginsAt Try.f102.results.toList (l, c, ()) k) := by kernel_rfl
theorem ok_beginsAt : FnOk Try.prog E 102 c_beginsAt :=
  fn_okQ (l := L_beginsAt) (lp := P_beginsAt) (hp := fun _ => false) (gcs := fun _ => none) (perm := fun _ => []) tabOk mix trivial trivial Try.func102 rfl (by kernel_rfl) (by decide) (by kernel_rfl) (anns := fun x _ => an_beginsAt x.1 x.2.1) (fun ⟨l, c, _⟩ k hp _ => (vce_beginsAt l c k).mp (vcn_beginsAt l c k hp)) tot_fn
end Go.Proofs.Ytejcmcbpfnmlaaa

namespace Go.Proofs.Ytejcmcbpfnmlaaa
open Go.SE Go.RowKit
set_option linter.unusedSimpArgs false
set_option linter.unusedVariables false
set_option maxHeartbeats 1000000
set_option maxRecDepth 100000
/-! iFilled -/
abbrev c_iFilled : Con := ⟨[.pkase, .sl .atom], [.sl .atom], fun (c, l, _) => l.length ≤ 1048576 ∧ l.all atV = true ∧ c.length = 9, .inl fun (c, l, _) => (fL c l, ()), fun _ => 0⟩
abbrev L_iFilled : List (FuncId × Con) := [(148, c_isFilled)]
abbrev P_iFilled : List (FuncId × PT) := []
def an_iFilled (c : List Int) (l : List GAtom) : Nat → St → Option Ann
  | 3, se => some { α := Nat, ok := fun i => i ≤ l.length, mu := fun i => l.length - i, i0 := fun _ => 0, nx := fun a _ => (fun i => i + 1) a, live := [0, 4, 8, 9], sets := fun i => [(10, sv (.int .i64 i))], mids := [64], blks := fun i => [], owns := fun i => [⟨7, .slot 5, .atom, fL c (l.take i)⟩], rd := fun r _ => r, base := 100000 }
  | _, _ => none
def VC_iFilled (c : List Int) (l : List GAtom) (k : Nat) : Prop := TN ∧ TN ∧ True ∧ True ∧ True ∧ ((0 ≤ l.length) ∧ TT ∧ (RL [.s (.c (.rv .int c)), .s (.c (.own 64)), .s (.c (.d (.arr .atom l))), .s (.c (.d (.val (.int .i64 ((l.length : Nat) : Int)))))]) ∧ (([.s (.c (.d (.val (.int .i64 (0 : Int)))))] : List S) = [.s (.c (.d (.val (.int .i64 ((0 : Nat) : Int)))))]) ∧ (RM [some (.sl 64 .atom ([] : List GAtom))]) ∧ (RM []) ∧ (((some ([] : List GAtom) : Option (List GAtom)) = some (fL c (l.take 0))) ∧ True) ∧ TT) ∧ (∀ i1 : Nat, (i1 ≤ l.length) → True ∧ (vcIf (decide (((i1 : Nat) : Int) < ((l.length : Nat) : Int))) ((0 ≤ ((i1 : Nat) : Int) ∧ ((i1 : Nat) : Int) < ((l.length : Nat) : Int)) ∧ True ∧ (TN ∧ True) ∧ (TF ∧ TF) ∧ True ∧ True ∧ ((c.length = 9 ∧ atV (l.getD i1 (⟨0, 0, 0⟩ : GAtom)) = true) ∧ True ∧ True) ∧ (vcIf (filB c (l.getD i1 (⟨0, 0, 0⟩ : GAtom))) (True ∧ True ∧ True ∧ True ∧ True ∧ True ∧ True ∧ (0 ≤ ((l.getD i1 (⟨0, 0, 0⟩ : GAtom)).a) ∧ ((l.getD i1 (⟨0, 0, 0⟩ : GAtom)).a) < ((9 : Nat) : Int) ∧ c.length = 9) ∧ True ∧ True ∧ True ∧ True ∧ True ∧ (0 ≤ ((l.getD i1 (⟨0, 0, 0⟩ : GAtom)).b) ∧ ((l.getD i1 (⟨0, 0, 0⟩ : GAtom)).b) < ((9 : Nat) : Int) ∧ c.length = 9) ∧ True ∧ True ∧ (TN ∧ True) ∧ (TN ∧ TF ∧ TF ∧ ((fL c (l.take i1)).length + ([(⟨(l.getD i1 (⟨0, 0, 0⟩ : GAtom)).kind, (c.getD ((l.getD i1 (⟨0, 0, 0⟩ : GAtom)).a).toNat (0 : Int)), (c.getD ((l.getD i1 (⟨0, 0, 0⟩ : GAtom)).b).toNat (0 : Int))⟩ : GAtom)] : List GAtom).length ≤ 4294967296)) ∧ True ∧ (inK .i64 (((i1 : Nat) : Int) + (1 : Int))) ∧ True ∧ ((i1 + 1) ≤ l.length) ∧ (l.length - (i1 + 1) < l.length - i1) ∧ TT ∧ (RL [.s (.c (.rv .int c)), .s (.c (.own 64)), .s (.c (.d (.arr .atom l))), .s (.c (.d (.val (.int .i64 ((l.length : Nat) : Int)))))]) ∧ (([.s (.c (.d (.val (.int .i64 (((i1 : Nat) : Int) + (1 : Int))))))] : List S) = [.s (.c (.d (.val (.int .i64 (((i1 + 1) : Nat) : Int)))))]) ∧ (RM [some (.sl 64 .atom ([] : List GAtom))]) ∧ (RM []) ∧ (((some ((fL c (l.take i1)) ++ ([(⟨(l.getD i1 (⟨0, 0, 0⟩ : GAtom)).kind, (c.getD ((l.getD i1 (⟨0, 0, 0⟩ : GAtom)).a).toNat (0 : Int)), (c.getD ((l.getD i1 (⟨0, 0, 0⟩ : GAtom)).b).toNat (0 : Int))⟩ : GAtom)] : List GAtom)) : Option (List GAtom)) = some (fL c (l.take (i1 + 1)))) ∧ True) ∧ TT) ((inK .i64 (((i1 : Nat) : Int) + (1 : Int))) ∧ True ∧ ((i1 + 1) ≤ l.length) ∧ (l.length - (i1 + 1) < l.length - i1) ∧ TT ∧ (RL [.s (.c (.rv .int c)), .s (.c (.own 64)), .s (.c (.d (.arr .atom l))), .s (.c (.d (.val (.int .i64 ((l.length : Nat) : Int)))))]) ∧ (([.s (.c (.d (.val (.int .i64 (((i1 : Nat) : Int) + (1 : Int))))))] : List S) = [.s (.c (.d (.val (.int .i64 (((i1 + 1) : Nat) : Int)))))]) ∧ (RM [some (.sl 64 .atom ([] : List GAtom))]) ∧ (RM []) ∧ (((some (fL c (l.take i1)) : Option (List GAtom)) = some (fL c (l.take (i1 + 1)))) ∧ True) ∧ TT))) (True ∧ True ∧ (((fL c (l.take i1), ()) : (List GAtom) × Unit) = (fL c l, ())) ∧ (True ∧ True) ∧ ((TF ∧ TF) ∧ True) ∧ True ∧ (True ∧ True) ∧ TF)))
theorem vcn_iFilled (c : List Int) (l : List GAtom) (k : Nat) (hp : l.length ≤ 1048576 ∧ l.all atV = true ∧ c.length = 9) : VC_iFilled c l k := by
  unfold VC_iFilled
  simp only [cln, Nat.reduceEqDiff, Nat.reduceLeDiff, Nat.reduceAdd]
  have hV := hp.2.1
  have hL : ∀ i, (fL c (l.take i)).length ≤ 1048576 := fun i => Nat.le_trans (fL_len _ _) (by simp; omega)
  all_goals (try simp only [opn])
  all_goals (repeat' (first | apply And.intro | intro _))
  all_goals (repeat (cases ‹_ ∧ _›))
  all_goals (first | omega | rfl | assumption | (simp_all; done) | skip)
  all_goals (first
   | (have h1 := atom_idx (l := l) hV (by assumption); omega)
   | exact Nat.le_trans (hL _) (by decide)
   | (rw [fL_step (d := ⟨0, 0, 0⟩) (by assumption), (by assumption : filB c _ = true)]; rfl)
   | (rw [fL_step (d := ⟨0, 0, 0⟩) (by assumption), (by assumption : filB c _ = false)]; rfl)
   | (rw [take_full (l := l) (by assumption)]; done) | skip)
theorem vce_iFilled (c : List Int) (l : List GAtom) (k : Nat) : VC_iFilled c l k = vcQ tab (lookF L_iFilled) (lookP P_iFilled) (fun _ => false) (fun _ => none) (an_iFilled c l) (fun _ => []) (bodyOf Try.f103) (entry (encs c_iFilled.aks (c, l, ())) (rdOf false k)) (retOk tab c_iFilled Try.f103.results.toList (c, l, ()) k) := by kernel_rfl
theorem ok_iFilled : FnOk Try.prog E 103 c_iFilled :=
  fn_okQ (l := L_iFilled) (lp := P_iFilled) (hp := fun _ => false) (gcs := fun _ => none) (perm := fun _ => []) tabOk mix ⟨ok_isFilled, trivial⟩ trivial Try.func103 rfl (by kernel_rfl) (by decide) (by kernel_rfl) (anns := fun x _ => an_iFilled x.1 x.2.1) (fun ⟨c, l, _⟩ k hp _ => (vce_iFilled c l k).mp (vcn_iFilled c l k hp)) tot_fn
end Go.Proofs.Ytejcmcbpfnmlaaa
