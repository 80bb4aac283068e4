/-
  Contracts of single functions of the program, each shown by the engine: what a call returns for arguments within the contract's bounds.
-/
import Derived.Test.YtejcmcbpfnmlaaaFFnNormalForma
import Derived.Test.YtejcmcbpfnmlaaaEe
import Derived.Test.YtejcmcbpfnmlaaaEf
import Derived.Test.YtejcmcbpfnmlaaaEd
set_option linter.unusedSimpArgs false
set_option linter.unusedVariables false
set_option linter.unusedSectionVars false

namespace Go.Proofs.Ytejcmcbpfnmlaaa
open Go.SE Go.RowKit
set_option linter.unusedSimpArgs false
set_option linter.unusedVariables false
set_option maxHeartbeats 1000000
set_option maxRecDepth 100000
/-! possible -/
abbrev c_possible : Con := ⟨[.pkase, .asn, .int], [.bool], fun (c, a, last, _) => c.length = 9 ∧ asV a = true ∧ 0 ≤ last ∧ last ≤ 8, .inl fun (c, a, last, _) => (possI a c last, ()), fun _ => 0⟩
abbrev L_possible : List (FuncId × Con) := [(68, c_tsWith), (69, c_factHolds), (129, c_tsHas), (148, c_isFilled)]
abbrev P_possible : List (FuncId × PT) := []
def an_possible (c : List Int) (a : GAsn) (last : Int) : Nat → St → Option Ann
  | 2, se => some { α := Nat, ok := fun i => i ≤ a.facts.length ∧ possF c last (a.facts.take i) = true, mu := fun i => a.facts.length - i, i0 := fun _ => 0, nx := fun a _ => (fun i => i + 1) a, live := [0, 2, 4, 13, 14], sets := fun i => [(15, sv (.int .i64 i))], mids := [79], blks := fun i => [], owns := fun i => [], rd := fun r _ => r, base := 100000 }
  | 9, se => some { α := Nat, ok := fun i => i ≤ a.atoms.length ∧ possF c last a.facts = true ∧ okS [] (sts c last (a.atoms.take i)) = true, mu := fun i => a.atoms.length - i, i0 := fun _ => 0, nx := fun a _ => (fun i => i + 1) a, live := [0, 2, 37, 38], sets := fun i => [(39, sv (.int .i64 i)), (9, sv (.int .u16 (maskS (sts c last (a.atoms.take i)))))], mids := [], blks := fun i => [], owns := fun i => [], rd := fun r _ => r, base := 200000 }
  | _, _ => none
def VC_possible_1 (c : List Int) (a : GAsn) (last : Int) (k : Nat) (i2 : Nat) : Prop := (True ∧ (vcIf (decide (last < ((a.atoms.getD i2 (⟨0, 0, 0⟩ : GAtom)).b))) (True ∧ (inK .i64 (((i2 : Nat) : Int) + (1 : Int))) ∧ True ∧ ((i2 + 1) ≤ a.atoms.length ∧ possF c last a.facts = true ∧ okS [] (sts c last (a.atoms.take (i2 + 1))) = true) ∧ (a.atoms.length - (i2 + 1) < a.atoms.length - i2) ∧ TT ∧ (RL [.s (.c (.rv .int c)), .s (.c (.d (.val (.int .i64 last)))), .s (.c (.d (.arr .atom a.atoms))), .s (.c (.d (.val (.int .i64 ((a.atoms.length : Nat) : Int)))))]) ∧ (([.s (.c (.d (.val (.int .i64 (((i2 : Nat) : Int) + (1 : Int)))))), .s (.c (.d (.val (.int .u16 (maskS (sts c last (a.atoms.take i2)) : Int)))))] : List S) = [.s (.c (.d (.val (.int .i64 (((i2 + 1) : Nat) : Int))))), .s (.c (.d (.val (.int .u16 (maskS (sts c last (a.atoms.take (i2 + 1))) : Int)))))]) ∧ (RM []) ∧ (RM []) ∧ True ∧ TT) (True ∧ True ∧ ((c.length = 9 ∧ atV (a.atoms.getD i2 (⟨0, 0, 0⟩ : GAtom)) = true) ∧ True ∧ True) ∧ True ∧ True ∧ (vcIf (!(filB c (a.atoms.getD i2 (⟨0, 0, 0⟩ : GAtom)))) ((inK .i64 (((i2 : Nat) : Int) + (1 : Int))) ∧ True ∧ ((i2 + 1) ≤ a.atoms.length ∧ possF c last a.facts = true ∧ okS [] (sts c last (a.atoms.take (i2 + 1))) = true) ∧ (a.atoms.length - (i2 + 1) < a.atoms.length - i2) ∧ TT ∧ (RL [.s (.c (.rv .int c)), .s (.c (.d (.val (.int .i64 last)))), .s (.c (.d (.arr .atom a.atoms))), .s (.c (.d (.val (.int .i64 ((a.atoms.length : Nat) : Int)))))]) ∧ (([.s (.c (.d (.val (.int .i64 (((i2 : Nat) : Int) + (1 : Int)))))), .s (.c (.d (.val (.int .u16 (maskS (sts c last (a.atoms.take i2)) : Int)))))] : List S) = [.s (.c (.d (.val (.int .i64 (((i2 + 1) : Nat) : Int))))), .s (.c (.d (.val (.int .u16 (maskS (sts c last (a.atoms.take (i2 + 1))) : Int)))))]) ∧ (RM []) ∧ (RM []) ∧ True ∧ TT) (True ∧ True ∧ True ∧ True ∧ (0 ≤ ((a.atoms.getD i2 (⟨0, 0, 0⟩ : GAtom)).a) ∧ ((a.atoms.getD i2 (⟨0, 0, 0⟩ : GAtom)).a) < ((9 : Nat) : Int) ∧ c.length = 9) ∧ True ∧ True ∧ True ∧ (vcIf ((c.getD ((a.atoms.getD i2 (⟨0, 0, 0⟩ : GAtom)).a).toNat (0 : Int)) == (0 : Int)) (True ∧ True ∧ (((false, ()) : Bool × Unit) = (possI a c last, ())) ∧ True ∧ True ∧ True ∧ True ∧ TF) (True ∧ True ∧ True ∧ True ∧ True ∧ (0 ≤ ((a.atoms.getD i2 (⟨0, 0, 0⟩ : GAtom)).a) ∧ ((a.atoms.getD i2 (⟨0, 0, 0⟩ : GAtom)).a) < ((9 : Nat) : Int) ∧ c.length = 9) ∧ True ∧ ((0 ≤ (maskS (sts c last (a.atoms.take i2)) : Int) ∧ (maskS (sts c last (a.atoms.take i2)) : Int) < 512) ∧ True ∧ True) ∧ True ∧ (vcIf (tsHas (maskS (sts c last (a.atoms.take i2)) : Int) (c.getD ((a.atoms.getD i2 (⟨0, 0, 0⟩ : GAtom)).a).toNat (0 : Int))) (True ∧ (((false, ()) : Bool × Unit) = (possI a c last, ())) ∧ True ∧ True ∧ True ∧ True ∧ TF) (True ∧ True ∧ True ∧ True ∧ True ∧ (0 ≤ ((a.atoms.getD i2 (⟨0, 0, 0⟩ : GAtom)).a) ∧ ((a.atoms.getD i2 (⟨0, 0, 0⟩ : GAtom)).a) < ((9 : Nat) : Int) ∧ c.length = 9) ∧ True ∧ ((0 ≤ (maskS (sts c last (a.atoms.take i2)) : Int) ∧ (maskS (sts c last (a.atoms.take i2)) : Int) < 512) ∧ True ∧ True) ∧ True ∧ (inK .i64 (((i2 : Nat) : Int) + (1 : Int))) ∧ True ∧ ((i2 + 1) ≤ a.atoms.length ∧ possF c last a.facts = true ∧ okS [] (sts c last (a.atoms.take (i2 + 1))) = true) ∧ (a.atoms.length - (i2 + 1) < a.atoms.length - i2) ∧ TT ∧ (RL [.s (.c (.rv .int c)), .s (.c (.d (.val (.int .i64 last)))), .s (.c (.d (.arr .atom a.atoms))), .s (.c (.d (.val (.int .i64 ((a.atoms.length : Nat) : Int)))))]) ∧ (([.s (.c (.d (.val (.int .i64 (((i2 : Nat) : Int) + (1 : Int)))))), .s (.c (.d (.val (.int .u16 (tsWith (maskS (sts c last (a.atoms.take i2)) : Int) (c.getD ((a.atoms.getD i2 (⟨0, 0, 0⟩ : GAtom)).a).toNat (0 : Int)))))))] : List S) = [.s (.c (.d (.val (.int .i64 (((i2 + 1) : Nat) : Int))))), .s (.c (.d (.val (.int .u16 (maskS (sts c last (a.atoms.take (i2 + 1))) : Int)))))]) ∧ (RM []) ∧ (RM []) ∧ True ∧ TT)))))))))
def VC_possible_2 (c : List Int) (a : GAsn) (last : Int) (k : Nat) (i1 : Nat) : Prop := (True ∧ (vcIf (decide (((i1 : Nat) : Int) < ((a.facts.length : Nat) : Int))) ((0 ≤ ((i1 : Nat) : Int) ∧ ((i1 : Nat) : Int) < ((a.facts.length : Nat) : Int)) ∧ True ∧ (TN ∧ True) ∧ (TF ∧ TF) ∧ True ∧ True ∧ True ∧ True ∧ True ∧ (vcIf (decide (((a.facts.getD i1 (⟨false, 0, 0⟩ : GFact)).a) ≤ last)) (True ∧ True ∧ True ∧ True ∧ True ∧ True ∧ (vcIf (decide (((a.facts.getD i1 (⟨false, 0, 0⟩ : GFact)).b) ≤ last)) (True ∧ True ∧ ((c.length = 9 ∧ fV (a.facts.getD i1 (⟨false, 0, 0⟩ : GFact)) = true) ∧ True ∧ True) ∧ True ∧ True ∧ (vcIf (!(fh c (a.facts.getD i1 (⟨false, 0, 0⟩ : GFact)))) (True ∧ (((false, ()) : Bool × Unit) = (possI a c last, ())) ∧ True ∧ True ∧ True ∧ True ∧ TF) ((inK .i64 (((i1 : Nat) : Int) + (1 : Int))) ∧ True ∧ ((i1 + 1) ≤ a.facts.length ∧ possF c last (a.facts.take (i1 + 1)) = true) ∧ (a.facts.length - (i1 + 1) < a.facts.length - i1) ∧ TT ∧ (RL [.s (.c (.rv .int c)), .s (.c (.d (.val (.int .i64 last)))), .s (.c (.ptr 79 0)), .s (.c (.d (.arr .fact a.facts))), .s (.c (.d (.val (.int .i64 ((a.facts.length : Nat) : Int)))))]) ∧ (([.s (.c (.d (.val (.int .i64 (((i1 : Nat) : Int) + (1 : Int))))))] : List S) = [.s (.c (.d (.val (.int .i64 (((i1 + 1) : Nat) : Int)))))]) ∧ (RM [some (.blk [.d (.arr .fact a.facts), .d (.arr .atom a.atoms)])]) ∧ (RM []) ∧ True ∧ TT))) (True ∧ (inK .i64 (((i1 : Nat) : Int) + (1 : Int))) ∧ True ∧ ((i1 + 1) ≤ a.facts.length ∧ possF c last (a.facts.take (i1 + 1)) = true) ∧ (a.facts.length - (i1 + 1) < a.facts.length - i1) ∧ TT ∧ (RL [.s (.c (.rv .int c)), .s (.c (.d (.val (.int .i64 last)))), .s (.c (.ptr 79 0)), .s (.c (.d (.arr .fact a.facts))), .s (.c (.d (.val (.int .i64 ((a.facts.length : Nat) : Int)))))]) ∧ (([.s (.c (.d (.val (.int .i64 (((i1 : Nat) : Int) + (1 : Int))))))] : List S) = [.s (.c (.d (.val (.int .i64 (((i1 + 1) : Nat) : Int)))))]) ∧ (RM [some (.blk [.d (.arr .fact a.facts), .d (.arr .atom a.atoms)])]) ∧ (RM []) ∧ True ∧ TT))) (True ∧ True ∧ True ∧ (inK .i64 (((i1 : Nat) : Int) + (1 : Int))) ∧ True ∧ ((i1 + 1) ≤ a.facts.length ∧ possF c last (a.facts.take (i1 + 1)) = true) ∧ (a.facts.length - (i1 + 1) < a.facts.length - i1) ∧ TT ∧ (RL [.s (.c (.rv .int c)), .s (.c (.d (.val (.int .i64 last)))), .s (.c (.ptr 79 0)), .s (.c (.d (.arr .fact a.facts))), .s (.c (.d (.val (.int .i64 ((a.facts.length : Nat) : Int)))))]) ∧ (([.s (.c (.d (.val (.int .i64 (((i1 : Nat) : Int) + (1 : Int))))))] : List S) = [.s (.c (.d (.val (.int .i64 (((i1 + 1) : Nat) : Int)))))]) ∧ (RM [some (.blk [.d (.arr .fact a.facts), .d (.arr .atom a.atoms)])]) ∧ (RM []) ∧ True ∧ TT))) (True ∧ True ∧ True ∧ True ∧ True ∧ ((0 ≤ a.atoms.length ∧ possF c last a.facts = true ∧ okS [] (sts c last (a.atoms.take 0)) = true) ∧ TT ∧ (RL [.s (.c (.rv .int c)), .s (.c (.d (.val (.int .i64 last)))), .s (.c (.d (.arr .atom a.atoms))), .s (.c (.d (.val (.int .i64 ((a.atoms.length : Nat) : Int)))))]) ∧ (([.s (.c (.d (.val (.int .i64 (0 : Int))))), .s (.c (.d (.val (.int .u16 (0 : Int)))))] : List S) = [.s (.c (.d (.val (.int .i64 ((0 : Nat) : Int))))), .s (.c (.d (.val (.int .u16 (maskS (sts c last (a.atoms.take 0)) : Int)))))]) ∧ (RM []) ∧ (RM []) ∧ True ∧ TT) ∧ (∀ i2 : Nat, (i2 ≤ a.atoms.length ∧ possF c last a.facts = true ∧ okS [] (sts c last (a.atoms.take i2)) = true) → True ∧ (vcIf (decide (((i2 : Nat) : Int) < ((a.atoms.length : Nat) : Int))) ((0 ≤ ((i2 : Nat) : Int) ∧ ((i2 : Nat) : Int) < ((a.atoms.length : Nat) : Int)) ∧ True ∧ (TN ∧ True) ∧ (TF ∧ TF) ∧ True ∧ True ∧ True ∧ True ∧ True ∧ (vcIf (decide (last < ((a.atoms.getD i2 (⟨0, 0, 0⟩ : GAtom)).a))) (True ∧ True ∧ True ∧ (inK .i64 (((i2 : Nat) : Int) + (1 : Int))) ∧ True ∧ ((i2 + 1) ≤ a.atoms.length ∧ possF c last a.facts = true ∧ okS [] (sts c last (a.atoms.take (i2 + 1))) = true) ∧ (a.atoms.length - (i2 + 1) < a.atoms.length - i2) ∧ TT ∧ (RL [.s (.c (.rv .int c)), .s (.c (.d (.val (.int .i64 last)))), .s (.c (.d (.arr .atom a.atoms))), .s (.c (.d (.val (.int .i64 ((a.atoms.length : Nat) : Int)))))]) ∧ (([.s (.c (.d (.val (.int .i64 (((i2 : Nat) : Int) + (1 : Int)))))), .s (.c (.d (.val (.int .u16 (maskS (sts c last (a.atoms.take i2)) : Int)))))] : List S) = [.s (.c (.d (.val (.int .i64 (((i2 + 1) : Nat) : Int))))), .s (.c (.d (.val (.int .u16 (maskS (sts c last (a.atoms.take (i2 + 1))) : Int)))))]) ∧ (RM []) ∧ (RM []) ∧ True ∧ TT) (True ∧ True ∧ True ∧ True ∧ True ∧ (VC_possible_1 c a last k i2)))) (True ∧ (((true, ()) : Bool × Unit) = (possI a c last, ())) ∧ True ∧ True ∧ True ∧ True ∧ TF))))))
def VC_possible (c : List Int) (a : GAsn) (last : Int) (k : Nat) : Prop := TN ∧ True ∧ True ∧ True ∧ True ∧ True ∧ ((0 ≤ a.facts.length ∧ possF c last (a.facts.take 0) = true) ∧ TT ∧ (RL [.s (.c (.rv .int c)), .s (.c (.d (.val (.int .i64 last)))), .s (.c (.ptr 79 0)), .s (.c (.d (.arr .fact a.facts))), .s (.c (.d (.val (.int .i64 ((a.facts.length : Nat) : Int)))))]) ∧ (([.s (.c (.d (.val (.int .i64 (0 : Int)))))] : List S) = [.s (.c (.d (.val (.int .i64 ((0 : Nat) : Int)))))]) ∧ (RM [some (.blk [.d (.arr .fact a.facts), .d (.arr .atom a.atoms)])]) ∧ (RM []) ∧ True ∧ TT) ∧ (∀ i1 : Nat, (i1 ≤ a.facts.length ∧ possF c last (a.facts.take i1) = true) → (VC_possible_2 c a last k i1))
theorem vcn_possible (c : List Int) (a : GAsn) (last : Int) (k : Nat) (hp : c.length = 9 ∧ asV a = true ∧ 0 ≤ last ∧ last ≤ 8) : VC_possible c a last k := by
  unfold VC_possible VC_possible_2 VC_possible_1
  simp only [cln, Nat.reduceEqDiff, Nat.reduceLeDiff, Nat.reduceAdd]
  have hF := asV_facts hp.2.1
  have hX := fun i (h : i < a.atoms.length) => isT_iff.1 (asV_atom (d := ⟨0, 0, 0⟩) hp.2.1 h).1
  have hM := fun i => maskS_bd (sts c last (a.atoms.take i))
  all_goals (try simp only [opn])
  all_goals (repeat' (first | apply And.intro | intro _))
  all_goals (repeat (cases ‹_ ∧ _›))
  all_goals (first | omega | rfl | assumption | (simp_all; done) | (exact (hX _ (by assumption)).1) | (exact (hM _).1) | (exact (hM _).2) | (symm; exact possI_noF (by assumption) (by assumption) (by assumption) (by assumption)) | (rw [possF_step (d := ⟨false, 0, 0⟩) (by assumption)]; simp_all; done) | (rw [possF_step (d := ⟨false, 0, 0⟩) (by assumption)]; simp_all; omega) | (rw [← take_full (l := a.facts) (by assumption)]; assumption) | (rw [sts_skip (c := c) (last := last) (l := a.atoms) (d := ⟨0, 0, 0⟩) (by assumption) (by simp only [stB, Bool.and_eq_false_iff, decide_eq_false_iff_not]; first | (left; left; omega) | (left; right; omega) | (right; assumption))]; done) | (rw [sts_skip (c := c) (last := last) (l := a.atoms) (d := ⟨0, 0, 0⟩) (by assumption) (by simp only [stB, Bool.and_eq_false_iff, decide_eq_false_iff_not]; first | (left; left; omega) | (left; right; omega) | (right; assumption))]; assumption) | (rw [take_full (l := a.atoms) (by assumption)] at *; simp_all [possI]; done) | skip)
  all_goals (have hS := fun (j : Nat) (h1 : ¬ last < (a.atoms.getD j ⟨0, 0, 0⟩).a) (h2 : ¬ last < (a.atoms.getD j ⟨0, 0, 0⟩).b) (h3 : filB c (a.atoms.getD j ⟨0, 0, 0⟩) = true) => show stB c last (a.atoms.getD j ⟨0, 0, 0⟩) = true by (simp only [stB, Bool.and_eq_true, decide_eq_true_eq]; exact ⟨⟨by omega, by omega⟩, by assumption⟩))
  all_goals (first | (symm; exact possI_noA (by assumption) (hS _ (by assumption) (by assumption) (by assumption)) (.inl (by assumption))) | (symm; exact possI_noA (by assumption) (hS _ (by assumption) (by assumption) (by assumption)) (.inr (by assumption))) | (exact (okS_step (by assumption) (by assumption) (hS _ (by assumption) (by assumption) (by assumption)) (by assumption) (by assumption)).1) | (exact (okS_step (by assumption) (by assumption) (hS _ (by assumption) (by assumption) (by assumption)) (by assumption) (by assumption)).2.symm) | skip)
theorem vce_possible (c : List Int) (a : GAsn) (last : Int) (k : Nat) : VC_possible c a last k = vcQ tab (lookF L_possible) (lookP P_possible) (fun _ => false) (fun _ => none) (an_possible c a last) (fun _ => []) (bodyOf Try.f153) (entry (encs c_possible.aks (c, a, last, ())) (rdOf false k)) (retOk tab c_possible Try.f153.results.toList (c, a, last, ()) k) := by kernel_rfl
theorem ok_possible : FnOk Try.prog E 153 c_possible :=
  fn_okQ (l := L_possible) (lp := P_possible) (hp := fun _ => false) (gcs := fun _ => none) (perm := fun _ => []) tabOk mix ⟨ok_tsWith, ok_factHolds, ok_tsHas, ok_isFilled, trivial⟩ trivial Try.func153 rfl (by kernel_rfl) (by decide) (by kernel_rfl) (anns := fun x _ => an_possible x.1 x.2.1 x.2.2.1) (fun ⟨c, a, last, _⟩ k hp _ => (vce_possible c a last k).mp (vcn_possible c a last k hp)) tot_fn
end Go.Proofs.Ytejcmcbpfnmlaaa

namespace Go.Proofs.Ytejcmcbpfnmlaaa
open Go.SE Go.RowKit
set_option linter.unusedSimpArgs false
set_option linter.unusedVariables false
set_option maxHeartbeats 1000000
set_option maxRecDepth 100000

/-! the iterator -/
abbrev L_ext : List (FuncId × Con) := [(129, c_tsHas), (153, c_possible)]
def an_ext (a : GAsn) (tm : Int) (go : List Int → Bool) (T : CG) (l : Nat) (t t' : Int) (en en' : List Int → CG) (c : List Int) (γ : CG) : Nat → St → CG → Option (AnnY CG)
  | 7, st0, GM => some ⟨{ α := Nat × List Int, ok := fun p => p.1 ≤ t.toNat + 1 ∧ p.2.length = 9 ∧ (∀ x : Int, p.2.set t.toNat x = c.set t.toNat x) ∧ ((List.range p.1).flatMap (brC (poss a) en t.toNat c)).all go = true, mu := fun p => t.toNat + 1 - p.1, i0 := fun _ => (0, c), nx := fun p st => (p.1 + 1, vecAt st 95), live := [1, 3, 4, 5, 7], sets := fun p => [(11, sv (.int .i64 p.1))], mids := [127], blks := fun p => [(95, .vec .int p.2)], owns := fun p => [], rd := fun r _ => r, base := 100000 }, fun p => GM ++ (List.range p.1).flatMap (brC (poss a) en t.toNat c)⟩
  | _, _, _ => none
def hp_ext : Nat → Bool
  | 2 => true
  | 5 => true
  | 11 => true
  | _ => false
def VC_ext_1 (a : GAsn) (tm : Int) (go : List Int → Bool) (T : CG) (l : Nat) (t t' : Int) (en en' : List Int → CG) (c : List Int) (γ : CG) (p1 : Nat × List Int) : Prop := (True ∧ (vcIf (possI a (p1.2.set t.toNat (p1.1 : Int)) t) ((9 = (p1.2.set t.toNat (p1.1 : Int)).length * 1) ∧ True ∧ (inK .i64 (t + (1 : Int))) ∧ True ∧ True ∧ True ∧ (((none : Option Nat) = none) ∧ ((p1.2.set t.toNat (p1.1 : Int)).length = 9) ∧ ((t + (1 : Int)) = t') ∧ (a.facts = a.facts) ∧ (a.atoms = a.atoms) ∧ (tm = tm) ∧ ((yV l : Value) = yV l) ∧ ((γ ++ (List.range p1.1).flatMap (brC (poss a) en t.toNat c)).all go = true) ∧ (((γ ++ (List.range p1.1).flatMap (brC (poss a) en t.toNat c)) ++ en (p1.2.set t.toNat (p1.1 : Int))) <+: T)) ∧ True ∧ True ∧ (vcIf (!((en (p1.2.set t.toNat (p1.1 : Int))).all go)) (TT ∧ True ∧ ((none : Option Nat) = none) ∧ (false = (en' c).all go) ∧ ((γ ++ (List.range p1.1).flatMap (brC (poss a) en t.toNat c) ++ upTo go (en (p1.2.set t.toNat (p1.1 : Int))) : CG) = γ ++ upTo go (en' c))) (TT ∧ True ∧ (inK .i64 ((p1.1 : Int) + (1 : Int))) ∧ True ∧ ((p1.1 + 1, (p1.2.set t.toNat (p1.1 : Int))).1 ≤ t.toNat + 1 ∧ (p1.1 + 1, (p1.2.set t.toNat (p1.1 : Int))).2.length = 9 ∧ (∀ x : Int, (p1.1 + 1, (p1.2.set t.toNat (p1.1 : Int))).2.set t.toNat x = c.set t.toNat x) ∧ ((List.range (p1.1 + 1, (p1.2.set t.toNat (p1.1 : Int))).1).flatMap (brC (poss a) en t.toNat c)).all go = true) ∧ ((γ ++ (List.range (p1.1 + 1, (p1.2.set t.toNat (p1.1 : Int))).1).flatMap (brC (poss a) en t.toNat c) : CG) = γ ++ (List.range p1.1).flatMap (brC (poss a) en t.toNat c) ++ upTo go (en (p1.2.set t.toNat (p1.1 : Int)))) ∧ (t.toNat + 1 - (p1.1 + 1, (p1.2.set t.toNat (p1.1 : Int))).1 < t.toNat + 1 - p1.1) ∧ TT ∧ (RL [.s (.c (.d (.val (.int .i64 t)))), .s (.c (.d (.val (.int .u16 tm)))), .s (.c (.d (.val (yV l)))), .s (.c (.ptr 95 0)), .s (.c (.ptr 127 0))]) ∧ (([.s (.c (.d (.val (.int .i64 ((p1.1 : Int) + (1 : Int))))))] : List S) = [.s (.c (.d (.val (.int .i64 ((p1.1 + 1, (p1.2.set t.toNat (p1.1 : Int))).1 : Int)))))]) ∧ (RM [some (.blk [.d (.arr .fact a.facts), .d (.arr .atom a.atoms)])]) ∧ (([some (.vec .int (p1.2.set t.toNat (p1.1 : Int)))] : List (Option Res)) = [some (.vec .int ((p1.1 + 1, (p1.2.set t.toNat (p1.1 : Int))).2))]) ∧ True ∧ TT))) (True ∧ TT ∧ True ∧ (inK .i64 ((p1.1 : Int) + (1 : Int))) ∧ True ∧ ((p1.1 + 1, (p1.2.set t.toNat (p1.1 : Int))).1 ≤ t.toNat + 1 ∧ (p1.1 + 1, (p1.2.set t.toNat (p1.1 : Int))).2.length = 9 ∧ (∀ x : Int, (p1.1 + 1, (p1.2.set t.toNat (p1.1 : Int))).2.set t.toNat x = c.set t.toNat x) ∧ ((List.range (p1.1 + 1, (p1.2.set t.toNat (p1.1 : Int))).1).flatMap (brC (poss a) en t.toNat c)).all go = true) ∧ ((γ ++ (List.range (p1.1 + 1, (p1.2.set t.toNat (p1.1 : Int))).1).flatMap (brC (poss a) en t.toNat c) : CG) = γ ++ (List.range p1.1).flatMap (brC (poss a) en t.toNat c)) ∧ (t.toNat + 1 - (p1.1 + 1, (p1.2.set t.toNat (p1.1 : Int))).1 < t.toNat + 1 - p1.1) ∧ TT ∧ (RL [.s (.c (.d (.val (.int .i64 t)))), .s (.c (.d (.val (.int .u16 tm)))), .s (.c (.d (.val (yV l)))), .s (.c (.ptr 95 0)), .s (.c (.ptr 127 0))]) ∧ (([.s (.c (.d (.val (.int .i64 ((p1.1 : Int) + (1 : Int))))))] : List S) = [.s (.c (.d (.val (.int .i64 ((p1.1 + 1, (p1.2.set t.toNat (p1.1 : Int))).1 : Int)))))]) ∧ (RM [some (.blk [.d (.arr .fact a.facts), .d (.arr .atom a.atoms)])]) ∧ (([some (.vec .int (p1.2.set t.toNat (p1.1 : Int)))] : List (Option Res)) = [some (.vec .int ((p1.1 + 1, (p1.2.set t.toNat (p1.1 : Int))).2))]) ∧ True ∧ TT)))
def VC_ext_2 (a : GAsn) (tm : Int) (go : List Int → Bool) (T : CG) (l : Nat) (t t' : Int) (en en' : List Int → CG) (c : List Int) (γ : CG) (p1 : Nat × List Int) : Prop := (True ∧ (vcIf (possI a (p1.2.set t.toNat (p1.1 : Int)) t) ((9 = (p1.2.set t.toNat (p1.1 : Int)).length * 1) ∧ True ∧ (inK .i64 (t + (1 : Int))) ∧ True ∧ True ∧ True ∧ (((none : Option Nat) = none) ∧ ((p1.2.set t.toNat (p1.1 : Int)).length = 9) ∧ ((t + (1 : Int)) = t') ∧ (a.facts = a.facts) ∧ (a.atoms = a.atoms) ∧ (tm = tm) ∧ ((yV l : Value) = yV l) ∧ ((γ ++ (List.range p1.1).flatMap (brC (poss a) en t.toNat c)).all go = true) ∧ (((γ ++ (List.range p1.1).flatMap (brC (poss a) en t.toNat c)) ++ en (p1.2.set t.toNat (p1.1 : Int))) <+: T)) ∧ True ∧ True ∧ (vcIf (!((en (p1.2.set t.toNat (p1.1 : Int))).all go)) (TT ∧ True ∧ ((none : Option Nat) = none) ∧ (false = (en' c).all go) ∧ ((γ ++ (List.range p1.1).flatMap (brC (poss a) en t.toNat c) ++ upTo go (en (p1.2.set t.toNat (p1.1 : Int))) : CG) = γ ++ upTo go (en' c))) (TT ∧ True ∧ (inK .i64 ((p1.1 : Int) + (1 : Int))) ∧ True ∧ ((p1.1 + 1, (p1.2.set t.toNat (p1.1 : Int))).1 ≤ t.toNat + 1 ∧ (p1.1 + 1, (p1.2.set t.toNat (p1.1 : Int))).2.length = 9 ∧ (∀ x : Int, (p1.1 + 1, (p1.2.set t.toNat (p1.1 : Int))).2.set t.toNat x = c.set t.toNat x) ∧ ((List.range (p1.1 + 1, (p1.2.set t.toNat (p1.1 : Int))).1).flatMap (brC (poss a) en t.toNat c)).all go = true) ∧ ((γ ++ (List.range (p1.1 + 1, (p1.2.set t.toNat (p1.1 : Int))).1).flatMap (brC (poss a) en t.toNat c) : CG) = γ ++ (List.range p1.1).flatMap (brC (poss a) en t.toNat c) ++ upTo go (en (p1.2.set t.toNat (p1.1 : Int)))) ∧ (t.toNat + 1 - (p1.1 + 1, (p1.2.set t.toNat (p1.1 : Int))).1 < t.toNat + 1 - p1.1) ∧ TT ∧ (RL [.s (.c (.d (.val (.int .i64 t)))), .s (.c (.d (.val (.int .u16 tm)))), .s (.c (.d (.val (yV l)))), .s (.c (.ptr 95 0)), .s (.c (.ptr 127 0))]) ∧ (([.s (.c (.d (.val (.int .i64 ((p1.1 : Int) + (1 : Int))))))] : List S) = [.s (.c (.d (.val (.int .i64 ((p1.1 + 1, (p1.2.set t.toNat (p1.1 : Int))).1 : Int)))))]) ∧ (RM [some (.blk [.d (.arr .fact a.facts), .d (.arr .atom a.atoms)])]) ∧ (([some (.vec .int (p1.2.set t.toNat (p1.1 : Int)))] : List (Option Res)) = [some (.vec .int ((p1.1 + 1, (p1.2.set t.toNat (p1.1 : Int))).2))]) ∧ True ∧ TT))) (True ∧ TT ∧ True ∧ (inK .i64 ((p1.1 : Int) + (1 : Int))) ∧ True ∧ ((p1.1 + 1, (p1.2.set t.toNat (p1.1 : Int))).1 ≤ t.toNat + 1 ∧ (p1.1 + 1, (p1.2.set t.toNat (p1.1 : Int))).2.length = 9 ∧ (∀ x : Int, (p1.1 + 1, (p1.2.set t.toNat (p1.1 : Int))).2.set t.toNat x = c.set t.toNat x) ∧ ((List.range (p1.1 + 1, (p1.2.set t.toNat (p1.1 : Int))).1).flatMap (brC (poss a) en t.toNat c)).all go = true) ∧ ((γ ++ (List.range (p1.1 + 1, (p1.2.set t.toNat (p1.1 : Int))).1).flatMap (brC (poss a) en t.toNat c) : CG) = γ ++ (List.range p1.1).flatMap (brC (poss a) en t.toNat c)) ∧ (t.toNat + 1 - (p1.1 + 1, (p1.2.set t.toNat (p1.1 : Int))).1 < t.toNat + 1 - p1.1) ∧ TT ∧ (RL [.s (.c (.d (.val (.int .i64 t)))), .s (.c (.d (.val (.int .u16 tm)))), .s (.c (.d (.val (yV l)))), .s (.c (.ptr 95 0)), .s (.c (.ptr 127 0))]) ∧ (([.s (.c (.d (.val (.int .i64 ((p1.1 : Int) + (1 : Int))))))] : List S) = [.s (.c (.d (.val (.int .i64 ((p1.1 + 1, (p1.2.set t.toNat (p1.1 : Int))).1 : Int)))))]) ∧ (RM [some (.blk [.d (.arr .fact a.facts), .d (.arr .atom a.atoms)])]) ∧ (([some (.vec .int (p1.2.set t.toNat (p1.1 : Int)))] : List (Option Res)) = [some (.vec .int ((p1.1 + 1, (p1.2.set t.toNat (p1.1 : Int))).2))]) ∧ True ∧ TT)))
def VC_ext_3 (a : GAsn) (tm : Int) (go : List Int → Bool) (T : CG) (l : Nat) (t t' : Int) (en en' : List Int → CG) (c : List Int) (γ : CG) : Prop := (True ∧ (vcIf (!(tsHas tm t)) (TT ∧ True ∧ (0 ≤ t ∧ t < ((9 : Nat) : Int) ∧ c.length = 9) ∧ (TF ∧ TF ∧ True) ∧ TT ∧ (9 = (c.set t.toNat (-1 : Int)).length * 1) ∧ True ∧ (inK .i64 (t + (1 : Int))) ∧ True ∧ True ∧ True ∧ (((none : Option Nat) = none) ∧ ((c.set t.toNat (-1 : Int)).length = 9) ∧ ((t + (1 : Int)) = t') ∧ (a.facts = a.facts) ∧ (a.atoms = a.atoms) ∧ (tm = tm) ∧ ((yV l : Value) = yV l) ∧ (γ.all go = true) ∧ ((γ ++ en (c.set t.toNat (-1 : Int))) <+: T)) ∧ True ∧ ((none : Option Nat) = none) ∧ (((en (c.set t.toNat (-1 : Int))).all go) = (en' c).all go) ∧ ((γ ++ upTo go (en (c.set t.toNat (-1 : Int))) : CG) = γ ++ upTo go (en' c))) (TT ∧ True ∧ (((0, c).1 ≤ t.toNat + 1 ∧ (0, c).2.length = 9 ∧ (∀ x : Int, (0, c).2.set t.toNat x = c.set t.toNat x) ∧ ((List.range (0, c).1).flatMap (brC (poss a) en t.toNat c)).all go = true) ∧ ((γ ++ (List.range (0, c).1).flatMap (brC (poss a) en t.toNat c) : CG) = γ) ∧ TT ∧ (RL [.s (.c (.d (.val (.int .i64 t)))), .s (.c (.d (.val (.int .u16 tm)))), .s (.c (.d (.val (yV l)))), .s (.c (.ptr 95 0)), .s (.c (.ptr 127 0))]) ∧ (([.s (.c (.d (.val (.int .i64 (0 : Int)))))] : List S) = [.s (.c (.d (.val (.int .i64 ((0, c).1 : Int)))))]) ∧ (RM [some (.blk [.d (.arr .fact a.facts), .d (.arr .atom a.atoms)])]) ∧ (([some (.vec .int c)] : List (Option Res)) = [some (.vec .int ((0, c).2))]) ∧ True ∧ TT) ∧ (∀ p1 : Nat × List Int, (p1.1 ≤ t.toNat + 1 ∧ p1.2.length = 9 ∧ (∀ x : Int, p1.2.set t.toNat x = c.set t.toNat x) ∧ ((List.range p1.1).flatMap (brC (poss a) en t.toNat c)).all go = true) → TT ∧ True ∧ True ∧ True ∧ (vcIf (decide ((p1.1 : Int) ≤ t)) (TT ∧ True ∧ True ∧ True ∧ True ∧ (vcIf (decide ((p1.1 : Int) < t)) (True ∧ (0 ≤ (p1.1 : Int) ∧ (p1.1 : Int) < ((9 : Nat) : Int) ∧ p1.2.length = 9) ∧ True ∧ True ∧ True ∧ True ∧ (vcIf ((p1.2.getD (p1.1 : Int).toNat (0 : Int)) != (p1.1 : Int)) (TT ∧ True ∧ (inK .i64 ((p1.1 : Int) + (1 : Int))) ∧ True ∧ ((p1.1 + 1, p1.2).1 ≤ t.toNat + 1 ∧ (p1.1 + 1, p1.2).2.length = 9 ∧ (∀ x : Int, (p1.1 + 1, p1.2).2.set t.toNat x = c.set t.toNat x) ∧ ((List.range (p1.1 + 1, p1.2).1).flatMap (brC (poss a) en t.toNat c)).all go = true) ∧ ((γ ++ (List.range (p1.1 + 1, p1.2).1).flatMap (brC (poss a) en t.toNat c) : CG) = γ ++ (List.range p1.1).flatMap (brC (poss a) en t.toNat c)) ∧ (t.toNat + 1 - (p1.1 + 1, p1.2).1 < t.toNat + 1 - p1.1) ∧ TT ∧ (RL [.s (.c (.d (.val (.int .i64 t)))), .s (.c (.d (.val (.int .u16 tm)))), .s (.c (.d (.val (yV l)))), .s (.c (.ptr 95 0)), .s (.c (.ptr 127 0))]) ∧ (([.s (.c (.d (.val (.int .i64 ((p1.1 : Int) + (1 : Int))))))] : List S) = [.s (.c (.d (.val (.int .i64 ((p1.1 + 1, p1.2).1 : Int)))))]) ∧ (RM [some (.blk [.d (.arr .fact a.facts), .d (.arr .atom a.atoms)])]) ∧ (([some (.vec .int p1.2)] : List (Option Res)) = [some (.vec .int ((p1.1 + 1, p1.2).2))]) ∧ True ∧ TT) (TT ∧ True ∧ True ∧ (0 ≤ t ∧ t < ((9 : Nat) : Int) ∧ p1.2.length = 9) ∧ (TF ∧ TF ∧ True) ∧ TT ∧ True ∧ True ∧ (((p1.2.set t.toNat (p1.1 : Int)).length = 9 ∧ asV a = true ∧ 0 ≤ t ∧ t ≤ 8) ∧ True ∧ True) ∧ (VC_ext_1 a tm go T l t t' en en' c γ p1)))) (True ∧ TT ∧ True ∧ True ∧ (0 ≤ t ∧ t < ((9 : Nat) : Int) ∧ p1.2.length = 9) ∧ (TF ∧ TF ∧ True) ∧ TT ∧ True ∧ True ∧ (((p1.2.set t.toNat (p1.1 : Int)).length = 9 ∧ asV a = true ∧ 0 ≤ t ∧ t ≤ 8) ∧ True ∧ True) ∧ (VC_ext_2 a tm go T l t t' en en' c γ p1)))) (TT ∧ True ∧ ((none : Option Nat) = none) ∧ (true = (en' c).all go) ∧ ((γ ++ (List.range p1.1).flatMap (brC (poss a) en t.toNat c) : CG) = γ ++ upTo go (en' c))))))))
def VC_ext (a : GAsn) (tm : Int) (go : List Int → Bool) (T : CG) (l : Nat) (t t' : Int) (en en' : List Int → CG) (c : List Int) (γ : CG) : Prop := TT ∧ TN ∧ TN ∧ True ∧ TT ∧ True ∧ True ∧ (vcIf (decide ((8 : Int) < t)) (TT ∧ True ∧ (9 = c.length * 1) ∧ (((none : Option Nat) = none) ∧ ((.s (.c (.d (.val (yV l)))) : S) = .s (.c (.d (.val (yV l))))) ∧ (γ.all go = true) ∧ ((γ ++ [c]) <+: T)) ∧ True ∧ ((none : Option Nat) = none) ∧ ((go c) = (en' c).all go) ∧ ((γ ++ [c] : CG) = γ ++ upTo go (en' c))) (TT ∧ True ∧ True ∧ ((0 ≤ tm ∧ tm < 512) ∧ True ∧ True) ∧ (VC_ext_3 a tm go T l t t' en en' c γ)))
theorem vcn_ext (a : GAsn) (tm : Int) (go : List Int → Bool) (T : CG) (l : Nat) (t t' : Int) (en en' : List Int → CG) (c : List Int) (γ : CG) (hp : asV a = true ∧ 0 ≤ tm ∧ tm < 512) (ht : 0 ≤ t ∧ t ≤ 9) (ht' : t' = t + 1) (hc : c.length = 9) (hgo : γ.all go = true) (hT : (γ ++ en' c) <+: T) (h9 : 8 < t → en' c = [c]) (h8 : ¬ 8 < t → en' c = cond (tsHas tm t) ((List.range (t.toNat + 1)).flatMap (brC (poss a) en t.toNat c)) (en (c.set t.toNat (-1)))) : VC_ext a tm go T l t t' en en' c γ := by
  unfold VC_ext VC_ext_3 VC_ext_2 VC_ext_1
  simp only [cln, Nat.reduceEqDiff, Nat.reduceLeDiff, Nat.reduceAdd]
  obtain ⟨n, rfl⟩ : ∃ n : Nat, t = (n : Int) := ⟨t.toNat, by omega⟩
  simp only [Int.toNat_natCast] at h8 ⊢
  all_goals (try simp only [vcIf_iff, decide_eq_true_eq, decide_eq_false_iff_not, bne_iff_ne, ne_eq, beq_iff_eq, beq_eq_false_iff_ne, bne_eq_false_iff_eq, Bool.not_eq_true', Bool.not_eq_false', Int.ofNat_lt, Int.natCast_inj])
  all_goals (repeat' (first | apply And.intro | intro _))
  all_goals (first | omega | assumption | rfl | (simp_all; done) | skip)
  · rw [h9 (by assumption)]; simp only [upTo]; cases go c <;> rfl
  all_goals (have hL := h8 (by assumption); rw [(by assumption : tsHas tm (n : Int) = true), cond_true] at hL)
  all_goals (have hok := (by assumption : _ ∧ _ ∧ (∀ x : Int, _) ∧ _); obtain ⟨k1, k2, k3, k4⟩ := hok)
  all_goals (first
    | (have e := fl_skip (a := a) (en := en) k3 (by omega) (by assumption); unfold flC at e; rw [e]; assumption) | (have e := fl_skip (a := a) (en := en) k3 (by omega) (by assumption); unfold flC at e; rw [e]; done)
    | (rw [List.all_append, hgo, k4]; rfl)
    | (exact fl_pre hL k3 (.inr (by assumption)) (by assumption) (by assumption) hT) | (exact fl_pre hL k3 (.inl (by omega)) (by assumption) (by assumption) hT)
    | (exact (fl_all (γ := γ) hL k3 (.inr (by assumption)) (by assumption) (by assumption) (by assumption) k4).1) | (exact (fl_all (γ := γ) hL k3 (.inl (by omega)) (by assumption) (by assumption) (by assumption) k4).1)
    | (exact (fl_all hL k3 (.inr (by assumption)) (by assumption) (by assumption) (by assumption) k4).2) | (exact (fl_all hL k3 (.inl (by omega)) (by assumption) (by assumption) (by assumption) k4).2)
    | (exact (fl_end (γ := γ) hL k1 (by assumption) k4).1) | (exact (fl_end hL k1 (by assumption) k4).2)
    | (have e := fl_no (en := en) k3 (by assumption); unfold flC at e; rw [e]; assumption) | (have e := fl_no (en := en) k3 (by assumption); unfold flC at e; rw [e]; done)
    | (have e := fl_yes (en := en) k3 (.inr (by assumption)) (by assumption) (by assumption); unfold flC at e; rw [e, List.all_append, k4, (by assumption : List.all (en _) go = true)]; rfl)
    | (have e := fl_yes (en := en) k3 (.inl (by omega)) (by assumption) (by assumption); unfold flC at e; rw [e, List.all_append, k4, (by assumption : List.all (en _) go = true)]; rfl)
    | (have e := fl_yes (en := en) k3 (.inr (by assumption)) (by assumption) (by assumption); unfold flC at e; rw [e, upTo_all (by assumption), List.append_assoc]; done)
    | (have e := fl_yes (en := en) k3 (.inl (by omega)) (by assumption) (by assumption); unfold flC at e; rw [e, upTo_all (by assumption), List.append_assoc]; done)
    | skip)
theorem vce_ext (a : GAsn) (tm : Int) (go : List Int → Bool) (T : CG) (l : Nat) (t t' : Int) (en en' : List Int → CG) (c : List Int) (γ : CG) : VC_ext a tm go T l t t' en en' c γ = vcY tab (lookF L_ext) (lookP []) (spE 124 l go T a tm t' en) noSpc (fun _ => false) hp_ext (fun _ => none) (an_ext a tm go T l t t' en en' c γ) (fun _ => []) (bodyOf Try.f124) (entry (extArgs c t a tm l) none) γ (retE tab Try.f124.results.toList go (en' c) γ) := by kernel_rfl
def hp_pc : Nat → Bool
  | 1 => true
  | _ => false
def VC_pc (a : GAsn) (tm : Int) (go : List Int → Bool) (T : CG) (l : Nat) (en : List Int → CG) (γ1 : CG) : Prop := TT ∧ (TN ∧ True) ∧ TT ∧ (9 = (List.replicate 9 (0 : Int)).length * 1) ∧ True ∧ True ∧ True ∧ (((none : Option Nat) = none) ∧ ((List.replicate 9 (0 : Int)).length = 9) ∧ ((0 : Int) = 0) ∧ (a.facts = a.facts) ∧ (a.atoms = a.atoms) ∧ (tm = tm) ∧ ((yV l : Value) = yV l) ∧ ([].all go = true) ∧ (([] ++ en (List.replicate 9 (0 : Int))) <+: T)) ∧ ((none : Option Nat) = none) ∧ (([] ++ upTo go (en (List.replicate 9 (0 : Int))) : CG) = γ1)
theorem vcn_pc (a : GAsn) (tm : Int) (go : List Int → Bool) (T : CG) (l : Nat) (en : List Int → CG) (γ1 : CG) (hT : en (List.replicate 9 0) = T) (h1 : γ1 = upTo go T) : VC_pc a tm go T l en γ1 := by
  unfold VC_pc
  simp only [cln, Nat.reduceEqDiff, Nat.reduceLeDiff, Nat.reduceAdd]
  subst h1 hT
  simp
theorem vce_pc (a : GAsn) (tm : Int) (go : List Int → Bool) (T : CG) (l : Nat) (en : List Int → CG) (γ1 : CG) : VC_pc a tm go T l en γ1 = vcY tab (lookF []) (lookP []) (spE 124 l go T a tm 0 en) noSpc (fun _ => false) hp_pc (fun _ => none) (fun _ _ _ => none) (fun _ => []) (bodyOf Try.f123) (pcSt a tm l) [] (retP0 tab Try.f123.results.toList γ1) := by kernel_rfl

theorem ext_step {J : JJ CG} {a : GAsn} {tm : Int} {go : List Int → Bool} {T : CG} {l : Nat} {t t' : Int} {en en' : List Int → CG} (hp : asV a = true ∧ 0 ≤ tm ∧ tm < 512) (ht : 0 ≤ t ∧ t ≤ 9) (ht' : t' = t + 1) (h9 : ∀ c, 8 < t → en' c = [c]) (h8 : ∀ c, ¬ 8 < t → en' c = cond (tsHas tm t) ((List.range (t.toNat + 1)).flatMap (brC (poss a) en t.toNat c)) (en (c.set t.toNat (-1))))
    (hx : ExtOk Try.prog J 124 l go T a tm t' en) (hy : YOk Try.prog J l go T) : ExtOk Try.prog J 124 l go T a tm t en' :=
  ext_sound (hp := hp_ext) (gcs := fun _ => none) (perm := fun _ => []) (pts := lookP []) tabOk (kall_of (l := L_ext) ⟨ok_tsHas, ok_possible, trivial⟩) (pall_of (l := []) trivial) mix Try.func124 rfl (by kernel_rfl) (by decide) (by kernel_rfl) hx hy (anns := fun c γ => an_ext a tm go T l t t' en en' c γ)
    fun c γ hc hgo hT => (vce_ext a tm go T l t t' en en' c γ).mp (vcn_ext a tm go T l t t' en en' c γ hp ht ht' hc hgo hT (h9 c) (h8 c))
theorem ext_all {J : JJ CG} {a : GAsn} {tm : Int} {go : List Int → Bool} {T : CG} {l : Nat} (hp : asV a = true ∧ 0 ≤ tm ∧ tm < 512) (hy : YOk Try.prog J l go T) : ∀ (f t : Nat), f + t = 9 → ExtOk Try.prog J 124 l go T a tm (t : Int) (enumC (poss a) (hasN tm) f t) := by
  intro f
  induction f with
  | zero =>
    intro t ht
    have : t = 9 := by omega
    subst this
    exact ext_step (t' := 10) hp (by decide) (by decide) (fun c _ => rfl) (fun c h => absurd h (by decide)) ext_none hy
  | succ f ih =>
    intro t ht
    refine ext_step (t' := ((t + 1 : Nat) : Int)) (en := enumC (poss a) (hasN tm) f (t + 1)) hp (by omega) (by omega) (fun c h => by omega) (fun c _ => ?_) (ih (t + 1) (by omega)) hy
    simp only [Int.toNat_natCast]
    rfl
theorem it_ok : ItOk Try.prog 123 itPre itEn := by
  intro J l go a tm hpre hy w p ro0 ρ b1 b2 vs1 ty1 ty2 hin hro h1 hc1 h2 hne hp1 hp2 hr1 hr2 hJ
  exact pc_ok (fid := 124) (T := itEn a tm) (en := enumC (poss a) (hasN tm) 9 0) (t := 0) (hp := hp_pc) (gcs := fun _ => none) (perm := fun _ => []) (K := lookF []) (pts := lookP []) (anns := fun _ _ _ => none) tabOk (kall_of (l := []) trivial) (pall_of (l := []) trivial) mix Try.func123 rfl (by decide) Try.func124 rfl (by kernel_rfl) (by kernel_rfl) (ext_all hpre hy 9 0 rfl) hy
    ((vce_pc a tm go (itEn a tm) l (enumC (poss a) (hasN tm) 9 0) (upTo go (itEn a tm))).mp (vcn_pc a tm go (itEn a tm) l (enumC (poss a) (hasN tm) 9 0) (upTo go (itEn a tm)) rfl rfl)) hin hro h1 hc1 h2 hne hp1 hp2 hr1 hr2 hJ
theorem it_run : ∀ args w, (callFunc 123 args).run Try.prog w = .ok (.enter 123 args) w := run_callFunc Try.func123 (by kernel_rfl) rfl

end Go.Proofs.Ytejcmcbpfnmlaaa

namespace Go.Proofs.Ytejcmcbpfnmlaaa
open Go.SE Go.RowKit
set_option linter.unusedSimpArgs false
set_option linter.unusedVariables false
set_option maxHeartbeats 1000000
set_option maxRecDepth 100000

/-! possibleCases -/
abbrev L_possibleCases : List (FuncId × Con) := [(68, c_tsWith), (76, c_termsIn)]
abbrev P_possibleCases : List (FuncId × PT) := []
abbrev pt_possibleCases : PT := inl tab (lookF L_possibleCases) (lookP P_possibleCases) (fun _ => false) (fun _ _ => none) (fun _ _ _ _ => none) (fun _ => []) Try.f67.ntmps (bodyOf Try.f67) Try.f67.results.toList
theorem ptok_possibleCases : PTOk Try.prog E 67 pt_possibleCases :=
  pt_ok (l := L_possibleCases) (lp := P_possibleCases) tabOk mix ⟨ok_tsWith, ok_termsIn, trivial⟩ trivial Try.func67 rfl (by kernel_rfl) (by kernel_rfl)
end Go.Proofs.Ytejcmcbpfnmlaaa

namespace Go.Proofs.Ytejcmcbpfnmlaaa
open Go.SE Go.RowKit
set_option linter.unusedSimpArgs false
set_option linter.unusedVariables false
set_option maxHeartbeats 1000000
set_option maxRecDepth 100000
/-! firstCase -/
abbrev c_firstCase : Con := ⟨[.asn], [.kase, .bool], fun (a, _) => asV a = true, .inl fun (a, _) => ((casesF a).headD (List.replicate 9 0), !(casesF a).isEmpty, ()), fun _ => 0⟩
abbrev L_firstCase : List (FuncId × Con) := []
abbrev P_firstCase : List (FuncId × PT) := [(67, pt_possibleCases)]
def hp_firstCase : Nat → Bool
  | 1 => true
  | _ => false
def ra_firstCase (a : GAsn) : St → Option RAnn := fun se => some ⟨fun _ => false, [2, 3], [47, 63], fun i => [], [47, 63], fun i => [], fun i => [], 300000⟩
def VC_firstCase (a : GAsn) (k : Nat) : Prop := TT ∧ TN ∧ (TN ∧ True) ∧ (TN ∧ True) ∧ TT ∧ True ∧ ((2 : Nat) ≤ 12) ∧ TN ∧ True ∧ True ∧ ((a.facts.length ≤ 281474976710656 ∧ a.atoms.length ≤ 281474976710656) ∧ True ∧ True) ∧ ((0 ≤ (tsA a) ∧ (tsA a) < 512) ∧ True ∧ True) ∧ True ∧ True ∧ (TN ∧ True) ∧ (TF ∧ TF) ∧ True ∧ True ∧ ((((123 : Nat) = 123) ∧ ((none : Option Nat) = none) ∧ (itPre a (bits .or .u16 (tsWith (tsA a) (0 : Int)) (0 : Int)))) ∧ TT ∧ TT ∧ (RL [.s (.c (.ptr 47 0)), .s (.c (.ptr 63 0))]) ∧ (RL []) ∧ (RM [some (.vec .int (List.replicate 9 (0 : Int))), some (.blk [.d (.val (.bool false))])]) ∧ (RM []) ∧ True ∧ TT) ∧ (∀ i1 : Nat, ∀ c2_0 : Int, ∀ c2_1 : Int, ∀ c2_2 : Int, ∀ c2_3 : Int, ∀ c2_4 : Int, ∀ c2_5 : Int, ∀ c2_6 : Int, ∀ c2_7 : Int, ∀ c2_8 : Int, ((itEn a (bits .or .u16 (tsWith (tsA a) (0 : Int)) (0 : Int)))[i1]? = some ([c2_0, c2_1, c2_2, c2_3, c2_4, c2_5, c2_6, c2_7, c2_8] : List Int)) → (((itEn a (bits .or .u16 (tsWith (tsA a) (0 : Int)) (0 : Int))).take i1).all (fun _ => false) = true) → TT ∧ (TN ∧ True) ∧ ((([c2_0, c2_1, c2_2, c2_3, c2_4, c2_5, c2_6, c2_7, c2_8] : List Int).length = (List.replicate 9 (0 : Int)).length) ∧ TF ∧ TF) ∧ ((none : Option Nat) = none) ∧ TT ∧ (9 = ([c2_0, c2_1, c2_2, c2_3, c2_4, c2_5, c2_6, c2_7, c2_8] : List Int).length * 1) ∧ ((([c2_0, c2_1, c2_2, c2_3, c2_4, c2_5, c2_6, c2_7, c2_8] : List Int).length = (List.replicate 9 (0 : Int)).length) ∧ TF ∧ TF) ∧ (TF ∧ TF) ∧ (false = false) ∧ ((none : Option Nat) = none) ∧ ((none : Option Nat) = none) ∧ (((([c2_0, c2_1, c2_2, c2_3, c2_4, c2_5, c2_6, c2_7, c2_8] : List Int), true, ()) : (List Int) × Bool × Unit) = ((casesF a).headD (List.replicate 9 0), !(casesF a).isEmpty, ())) ∧ True ∧ True ∧ True ∧ True ∧ TF) ∧ (((itEn a (bits .or .u16 (tsWith (tsA a) (0 : Int)) (0 : Int))).all (fun _ => false) = true) → TT ∧ True ∧ (((List.replicate 9 (0 : Int)).length = (List.replicate 9 (0 : Int)).length) ∧ TF ∧ TF) ∧ (TF ∧ TF) ∧ ((none : Option Nat) = none) ∧ (((List.replicate 9 (0 : Int), false, ()) : (List Int) × Bool × Unit) = ((casesF a).headD (List.replicate 9 0), !(casesF a).isEmpty, ())) ∧ True ∧ True ∧ True ∧ True ∧ TF)
theorem vcn_firstCase (a : GAsn) (k : Nat) (hp : asV a = true) : VC_firstCase a k := by
  unfold VC_firstCase
  simp only [cln, Nat.reduceEqDiff, Nat.reduceLeDiff, Nat.reduceAdd]
  have hs := asV_small hp
  have hb := tsA_bd a
  have hw := tsWith_bd (t := 0) hb.1 hb.2
  have ho := tsOr hw.1 hw.2 (y := 0) (by decide) (by decide)
  have hi := itEn_or hp (s := 0) (by decide) (by decide)
  rw [itEn_zero hp]
  all_goals (repeat' (first | apply And.intro | intro _))
  all_goals (first | omega | assumption | rfl | exact hs.1 | exact hs.2 | exact hi.2 | (rw [itEn_zero hp] at *; exact hi.2) | exact ho.1 | exact ho.2.1 | (simp_all; done) | exact (head_hit (by assumption) (by assumption)).1 | exact (head_hit (d := []) (by assumption) (by assumption)).2 | exact (head_none (by assumption)).1 | exact (head_none (d := []) (by assumption)).2 | skip)
theorem vce_firstCase (a : GAsn) (k : Nat) : VC_firstCase a k = vcY tab (lookF L_firstCase) (lookP P_firstCase) noSpB (spR tab (lookF L_firstCase) (lookP P_firstCase) hp_firstCase (fun _ => none) (fun _ _ _ => none) (fun _ => []) Try.f78.ntmps 123 itPre itEn (ra_firstCase a)) (fun b => !b) hp_firstCase (fun _ => none) (fun _ _ _ => none) (fun _ => []) (bodyOf Try.f78) (entry (encs c_firstCase.aks (a, ())) none) false (retR tab c_firstCase Try.f78.results.toList (a, ())) := by kernel_rfl
abbrev spc_firstCase (a : GAsn) : SpCode Bool := spR tab (lookF L_firstCase) (lookP P_firstCase) hp_firstCase (fun _ => none) (fun _ _ _ => none) (fun _ => []) Try.f78.ntmps 123 itPre itEn (ra_firstCase a)
theorem spcok_firstCase (a : GAsn) (wE : World) (ro0 : Nat → Option (Array Value)) (ρ : Nat) : SpcOk Fence.wide 0 Try.prog E (AC wE ro0 ρ) Try.f78.ntmps (spc_firstCase a) :=
  spR_ok tabOk (kall_of (l := L_firstCase) trivial) (pall_of (l := P_firstCase) ⟨ptok_possibleCases, trivial⟩) mix it_ok it_len it_run
theorem vcr_firstCase : ∀ x : Args c_firstCase.aks, c_firstCase.pre x → vcY tab (lookF L_firstCase) (lookP P_firstCase) noSpB (spc_firstCase x.1) (fun b => !b) hp_firstCase (fun _ => none) (fun _ _ _ => none) (fun _ => []) (bodyOf Try.f78) (entry (encs c_firstCase.aks x) none) false (retR tab c_firstCase Try.f78.results.toList x) :=
  fun ⟨a, _⟩ hp => (vce_firstCase a 0).mp (vcn_firstCase a 0 hp)
theorem ok_firstCase : FnOk Try.prog E 78 c_firstCase :=
  fnR_ok (con := c_firstCase) (fn := Try.f78) (l := L_firstCase) (lp := P_firstCase) (hp := hp_firstCase) (gcs := fun _ => none) (perm := fun _ => []) (spc := fun x => spc_firstCase x.1) (anns := fun x => (fun _ _ _ => none)) tabOk mix trivial ⟨ptok_possibleCases, trivial⟩ rfl Try.func78 rfl (by kernel_rfl) (by decide) (by kernel_rfl) (fun x _ => spcok_firstCase x.1) vcr_firstCase tot_fn
end Go.Proofs.Ytejcmcbpfnmlaaa

namespace Go.Proofs.Ytejcmcbpfnmlaaa
open Go.SE Go.RowKit
set_option linter.unusedSimpArgs false
set_option linter.unusedVariables false
set_option maxHeartbeats 1000000
set_option maxRecDepth 100000
/-! iConsistent -/
abbrev c_iConsistent : Con := ⟨[.asn], [.bool], fun (a, _) => a.facts.length ≤ 281474976710656 ∧ a.atoms.length ≤ 281474976710656, .inl fun (a, _) => (asV a && !(casesF a).isEmpty, ()), fun _ => 0⟩
abbrev L_iConsistent : List (FuncId × Con) := [(19, c_iAssertionValid), (78, c_firstCase)]
abbrev P_iConsistent : List (FuncId × PT) := []
def VC_iConsistent (a : GAsn) (k : Nat) : Prop := TN ∧ True ∧ True ∧ ((a.facts.length ≤ 281474976710656 ∧ a.atoms.length ≤ 281474976710656) ∧ True ∧ True) ∧ True ∧ (vcIf (!(asV a)) (True ∧ (((false, ()) : Bool × Unit) = (asV a && !(casesF a).isEmpty, ())) ∧ True ∧ True ∧ True ∧ True ∧ TF) (True ∧ ((asV a = true) ∧ True ∧ True) ∧ True ∧ True ∧ True ∧ (TN ∧ True) ∧ ((((casesF a).headD (List.replicate 9 0)).length = (List.replicate 9 (0 : Int)).length) ∧ TF ∧ TF) ∧ True ∧ True ∧ True ∧ ((((!(casesF a).isEmpty), ()) : Bool × Unit) = (asV a && !(casesF a).isEmpty, ())) ∧ True ∧ True ∧ True ∧ True ∧ TF))
theorem vcn_iConsistent (a : GAsn) (k : Nat) (hp : a.facts.length ≤ 281474976710656 ∧ a.atoms.length ≤ 281474976710656) : VC_iConsistent a k := by
  unfold VC_iConsistent
  simp only [cln, Nat.reduceEqDiff, Nat.reduceLeDiff, Nat.reduceAdd]
  have hl := casesF_len a
  all_goals (try simp only [opn])
  all_goals (repeat' (first | apply And.intro | intro _))
  all_goals (first | omega | (simp_all; done) | grind [])
theorem vce_iConsistent (a : GAsn) (k : Nat) : VC_iConsistent a k = vcQ tab (lookF L_iConsistent) (lookP P_iConsistent) (fun _ => false) (fun _ => none) (fun _ _ => none) (fun _ => []) (bodyOf Try.f28) (entry (encs c_iConsistent.aks (a, ())) (rdOf false k)) (retOk tab c_iConsistent Try.f28.results.toList (a, ()) k) := by kernel_rfl
theorem ok_iConsistent : FnOk Try.prog E 28 c_iConsistent :=
  fn_okQ (l := L_iConsistent) (lp := P_iConsistent) (hp := fun _ => false) (gcs := fun _ => none) (perm := fun _ => []) tabOk mix ⟨ok_iAssertionValid, ok_firstCase, trivial⟩ trivial Try.func28 rfl (by kernel_rfl) (by decide) (by kernel_rfl) (anns := fun x _ => fun _ _ => none) (fun ⟨a, _⟩ k hp _ => (vce_iConsistent a k).mp (vcn_iConsistent a k hp)) tot_fn
end Go.Proofs.Ytejcmcbpfnmlaaa

namespace Go.Proofs.Ytejcmcbpfnmlaaa
open Go.SE Go.RowKit
set_option linter.unusedSimpArgs false
set_option linter.unusedVariables false
set_option maxHeartbeats 1000000
set_option maxRecDepth 100000

/-! l18Open -/
theorem vc_l18Open (code : List UInt8) : vc tab (lookF []) (fun _ => none) (fun _ => []) (bodyOf Try.f79) (entry [.c (.d (.arr .u8 code))] none) openQ := by
  dsimp only [bodyOf, Try.f79]
  simp only [openQ, pickK, openE, openM, true_and, and_true, SE.lookF, tab2, tab3, tab4, tab5, tab7, tab9, tab12, tab13, tab21, tab22, tab23, tab24, tab25, tab26, tab27, tab28, tab39, tab42, tab46, tab47, tab65, tab66, tab67, tab68, tab79, tab80, tab84, tab85, tab90, tab91, tab94, tab111, tab140, tab141, tab157, tab159, tab160, tab161, tab162, tab182, tab194, SE.entry, SE.envOf, SE.rdOf, Option.get_some, SE.vc, SE.vcReg, SE.vcLoop, SE.condK, SE.seqK, SE.blockK, SE.vcOps, SE.vcStep, SE.vcOp, SE.vcTr, SE.vcDet_some, SE.vcDet_none, SE.vcIf_true, SE.vcIf_false, SE.vcEach, SE.pickOps, SE.gslot, SE.trOp, SE.moveId, SE.trMove, SE.trPick, SE.trAlloc, SE.trBox, SE.trBuild, SE.trBuildSlice, SE.trLoad, SE.trStore, SE.trNilCheck, SE.trBin, SE.trUn, SE.trConvert, SE.trFieldAddr, SE.trField, SE.trIndexAddr, SE.trIndex, SE.trSlice, SE.trMakeSlice, SE.trExtract, SE.trLen, SE.trAppend, SE.trCopy, SE.trFn, SE.trCall, SE.argsS, SE.ev, SE.constS, SE.junk, SE.sv, SE.upd_app, SE.adds, SE.sets, SE.nid, SE.St.app, SE.St.put, SE.free, SE.freeL, SE.allFree, SE.rids, SE.AK.rids, SE.castL, SE.rdl, SE.AK.dec, SE.decs, SE.AK.enc, SE.encs, SE.AK.res, SE.ress, SE.pack1, SE.zcells, SE.zeroOf, SE.partCells, SE.putc, SE.fills, SE.datas, SE.elemOf, SE.elemsOf, SE.notSpent, SE.cellsAt, SE.weak, SE.dcellsAt, SE.slAt, SE.rdPlus, SE.intAt, SE.updElem, SE.kill, SE.noJunk, SE.inK, SE.binI, SE.shf, SE.isShift, SE.eqCells, SE.aggS, SE.intOp, SE.nested, SE.hasRdr, SE.refsC, SE.refsCs, SE.ownsC, SE.refsAr, SE.rdFits, SE.costIf, SE.Con.post, SE.Con.det, SE.Ty.cells, SE.Ty.sz, SE.Ty.zero, SE.Ty.flat, SE.Ty.dec, SE.retOk, SE.loadsS, SE.loadS, SE.decRs, SE.decR, SE.outC, SE.rdC, SE.allDiff, SE.notIn, SE.notFrozen, SE.apartL, SE.rdEnd, SE.firstReg, SE.headC, SE.fitsC, SE.idsC, SE.keepE, SE.keepM, SE.keepB, SE.inL, SE.puts, SE.ownRes, SE.ownEnv, SE.renL, SE.srcId, SE.lookR, SE.envSame, SE.envSets, SE.memSame, SE.memBlks, SE.memOwns, SE.famsOf, SE.allIn, SE.closedE, SE.closedV, SE.closedM, SE.closedR, SE.rdLe, SE.S.refs, SE.S0.refs, SE.CV.refs, SE.refsL, SE.refsT, SE.S.ren, SE.S0.ren, SE.CV.ren, SE.Res.refs, SE.Res.ren, min_i64, max_i64, min_u16, max_u16, min_u8, max_u8, min_u64, max_u64, S.s.injEq, S0.c.injEq, CV.d.injEq, DC.val.injEq, Value.int.injEq, Value.bool.injEq, Value.string.injEq, eta_fact, eta_atom, eta_asn, eta_state, List.mem_cons, List.mem_nil_iff, or_false, false_or, or_true, true_or, Option.map_some, Option.map_none, Option.bind_some, Option.getD_some, Option.getD_none, Nat.reduceEqDiff, Nat.reduceAdd, Nat.reduceMul, Nat.reduceLeDiff, ↓reduceIte, reduceCtorEq, true_and, and_true, and_self, forall_const, implies_true, true_implies, List.getElem?_toArray, List.getElem?_cons_succ, List.getElem?_cons_zero, List.append_nil, List.nil_append, List.cons_append, List.length_cons, List.length_nil, List.take_succ_cons, List.take_zero, List.drop_succ_cons, List.drop_zero, List.set_cons_zero, List.set_cons_succ, List.map_cons, List.map_nil, Nat.add_zero, Nat.zero_add, forall_eq, Prod.forall, Bool.not_true, Bool.not_false, Nat.lt_irrefl, Nat.zero_lt_succ, List.singleton_append, Prod.mk.injEq, Nat.zero_mul, Nat.one_mul, Nat.reducePow, Option.some.injEq, not_false_eq_true, Int.toNat_natCast, Nat.sub_zero, Nat.le_refl, Bool.or_false, Bool.false_or, Bool.or_true, Bool.true_or, Bool.and_true, Bool.true_and, Bool.and_false, Bool.false_and, Bool.or_self, Bool.and_self, List.append_eq, and_false, false_and]
  all_goals (try simp only [vcIf_iff, decide_eq_true_eq, decide_eq_false_iff_not])
  all_goals (repeat' (first | apply And.intro | intro _))
  all_goals (first | omega | (simp_all; done) | grind)
theorem open_l18Open : OpenOk Try.prog 79 :=
  open_ok tabOk mix (perm := fun _ => []) Try.func79 (by kernel_rfl) (by kernel_rfl) (by decide) (by kernel_rfl) vc_l18Open
theorem fn_l18Open : ∃ fn c, Try.prog.funcs[79]? = some fn ∧ (fn.name == "runtime.NumGoroutine") = false ∧ fn.body = some c := ⟨_, _, Try.func79, by kernel_rfl, rfl⟩

end Go.Proofs.Ytejcmcbpfnmlaaa

namespace Go.Proofs.Ytejcmcbpfnmlaaa
open Go.SE Go.RowKit
set_option linter.unusedSimpArgs false
set_option linter.unusedVariables false
set_option maxHeartbeats 1000000
set_option maxRecDepth 100000

/-! pick -/
abbrev c_pick : Con := ⟨[.rdr, .int], [.int], fun _ => True, .inr fun (_, n, _) (r, _) => pickP n r, fun _ => 1⟩
theorem vc_pick (code : List UInt8) (v : Value) (p n : Int) (k : Nat) (h1 : code.length ≤ 2000) (h2 : 0 ≤ p) (h3 : p ≤ k) (h4 : k + 1 ≤ rdLimit) : vc tab (lookF []) (fun _ => none) (fun _ => []) (bodyOf Try.f82) (pickSt code v p n) (pickQ code v p n) := by
  have h5 : p ≤ 1099511627776 := by have : k + 1 ≤ 1099511627776 := h4; omega
  dsimp only [bodyOf, Try.f82, rdOf]
  simp only [pickSt, pickQ, pickK, pickM, pickR, pickP, true_and, and_true, SE.lookF, tab2, tab3, tab4, tab5, tab7, tab9, tab12, tab13, tab21, tab22, tab23, tab24, tab25, tab26, tab27, tab28, tab39, tab42, tab46, tab47, tab65, tab66, tab67, tab68, tab79, tab80, tab84, tab85, tab90, tab91, tab94, tab111, tab140, tab141, tab157, tab159, tab160, tab161, tab162, tab182, tab194, SE.entry, SE.envOf, SE.rdOf, Option.get_some, SE.vc, SE.vcReg, SE.vcLoop, SE.condK, SE.seqK, SE.blockK, SE.vcOps, SE.vcStep, SE.vcOp, SE.vcTr, SE.vcDet_some, SE.vcDet_none, SE.vcIf_true, SE.vcIf_false, SE.vcEach, SE.pickOps, SE.gslot, SE.trOp, SE.moveId, SE.trMove, SE.trPick, SE.trAlloc, SE.trBox, SE.trBuild, SE.trBuildSlice, SE.trLoad, SE.trStore, SE.trNilCheck, SE.trBin, SE.trUn, SE.trConvert, SE.trFieldAddr, SE.trField, SE.trIndexAddr, SE.trIndex, SE.trSlice, SE.trMakeSlice, SE.trExtract, SE.trLen, SE.trAppend, SE.trCopy, SE.trFn, SE.trCall, SE.argsS, SE.ev, SE.constS, SE.junk, SE.sv, SE.upd_app, SE.adds, SE.sets, SE.nid, SE.St.app, SE.St.put, SE.free, SE.freeL, SE.allFree, SE.rids, SE.AK.rids, SE.castL, SE.rdl, SE.AK.dec, SE.decs, SE.AK.enc, SE.encs, SE.AK.res, SE.ress, SE.pack1, SE.zcells, SE.zeroOf, SE.partCells, SE.putc, SE.fills, SE.datas, SE.elemOf, SE.elemsOf, SE.notSpent, SE.cellsAt, SE.weak, SE.dcellsAt, SE.slAt, SE.rdPlus, SE.intAt, SE.updElem, SE.kill, SE.noJunk, SE.inK, SE.binI, SE.shf, SE.isShift, SE.eqCells, SE.aggS, SE.intOp, SE.nested, SE.hasRdr, SE.refsC, SE.refsCs, SE.ownsC, SE.refsAr, SE.rdFits, SE.costIf, SE.Con.post, SE.Con.det, SE.Ty.cells, SE.Ty.sz, SE.Ty.zero, SE.Ty.flat, SE.Ty.dec, SE.retOk, SE.loadsS, SE.loadS, SE.decRs, SE.decR, SE.outC, SE.rdC, SE.allDiff, SE.notIn, SE.notFrozen, SE.apartL, SE.rdEnd, SE.firstReg, SE.headC, SE.fitsC, SE.idsC, SE.keepE, SE.keepM, SE.keepB, SE.inL, SE.puts, SE.ownRes, SE.ownEnv, SE.renL, SE.srcId, SE.lookR, SE.envSame, SE.envSets, SE.memSame, SE.memBlks, SE.memOwns, SE.famsOf, SE.allIn, SE.closedE, SE.closedV, SE.closedM, SE.closedR, SE.rdLe, SE.S.refs, SE.S0.refs, SE.CV.refs, SE.refsL, SE.refsT, SE.S.ren, SE.S0.ren, SE.CV.ren, SE.Res.refs, SE.Res.ren, min_i64, max_i64, min_u16, max_u16, min_u8, max_u8, min_u64, max_u64, S.s.injEq, S0.c.injEq, CV.d.injEq, DC.val.injEq, Value.int.injEq, Value.bool.injEq, Value.string.injEq, eta_fact, eta_atom, eta_asn, eta_state, List.mem_cons, List.mem_nil_iff, or_false, false_or, or_true, true_or, Option.map_some, Option.map_none, Option.bind_some, Option.getD_some, Option.getD_none, Nat.reduceEqDiff, Nat.reduceAdd, Nat.reduceMul, Nat.reduceLeDiff, ↓reduceIte, reduceCtorEq, true_and, and_true, and_self, forall_const, implies_true, true_implies, List.getElem?_toArray, List.getElem?_cons_succ, List.getElem?_cons_zero, List.append_nil, List.nil_append, List.cons_append, List.length_cons, List.length_nil, List.take_succ_cons, List.take_zero, List.drop_succ_cons, List.drop_zero, List.set_cons_zero, List.set_cons_succ, List.map_cons, List.map_nil, Nat.add_zero, Nat.zero_add, forall_eq, Prod.forall, Bool.not_true, Bool.not_false, Nat.lt_irrefl, Nat.zero_lt_succ, List.singleton_append, Prod.mk.injEq, Nat.zero_mul, Nat.one_mul, Nat.reducePow, Option.some.injEq, not_false_eq_true, Int.toNat_natCast, Nat.sub_zero, Nat.le_refl, Bool.or_false, Bool.false_or, Bool.or_true, Bool.true_or, Bool.and_true, Bool.true_and, Bool.and_false, Bool.false_and, Bool.or_self, Bool.and_self, List.append_eq, and_false, false_and]
  all_goals (try simp only [vcIf_iff, decide_eq_true_eq, decide_eq_false_iff_not, bne_iff_ne, ne_eq, beq_iff_eq, beq_eq_false_iff_ne])
  have hq : p + 1 - 1 = p := by omega
  simp only [hq]
  have hA := byte_bd code
  generalize hL : (code.length : Int) = L at *
  have hL0 : 0 ≤ L := by omega
  have hm : ∀ x : Int, 0 ≤ x → ¬ L = 0 → 0 ≤ x.tmod L ∧ x.tmod L < L := fun x h0 h1 => tmod_bd h0 (by omega)
  refine ⟨by omega, fun _ _ => by omega, fun hn => ⟨fun _ _ => by omega, fun hl => ⟨by omega, fun hpl => ?_, fun hpl => ?_⟩⟩⟩
  · have a1 := hA p.toNat
    have m1 := tmod_bd (n := n) a1.1 (by omega)
    generalize ((code.getD p.toNat 0).toNat : Int) = A at *
    exact ⟨by omega, by omega, by omega, fun _ => m1, fun h => by omega⟩
  · have m1 := hm p h2 hl
    have m2 := hm (p * 7 + 3) (by omega) hl
    have a1 := hA (p.tmod L).toNat
    have a2 := hA ((p * 7 + 3).tmod L).toNat
    have d1 := tdiv_bd (x := p) (n := L) h2 (by omega)
    generalize ((code.getD (p.tmod L).toNat 0).toNat : Int) = A at *
    generalize ((code.getD ((p * 7 + 3).tmod L).toNat 0).toNat : Int) = B at *
    generalize p.tdiv L = D at *
    have d2 := tdiv_bd (x := A * 131 + B * 1117 + p * 29 + D * 53) (n := 64) (by omega) (by omega)
    have x1 := xor_i64_pos (a := A * 131 + B * 1117 + p * 29 + D * 53) (b := (A * 131 + B * 1117 + p * 29 + D * 53).tdiv 64) (by omega) (by omega) d2.1 (by omega)
    have m3 := tmod_bd (n := n) x1 (by omega)
    repeat' (first | apply And.intro | intro _)
    all_goals (first | assumption | omega | exact m3.1 | exact m3.2)
theorem ok_pick : FnOk Try.prog E 82 c_pick :=
  pick_ok tabOk mix (perm := fun _ => []) Try.func82 (by kernel_rfl) (by decide) (by kernel_rfl) (by decide) (by kernel_rfl) (fun code v p n k h1 h2 h3 h4 => vc_pick code v p n k h1 h2 h3 h4)

end Go.Proofs.Ytejcmcbpfnmlaaa

namespace Go.Proofs.Ytejcmcbpfnmlaaa
open Go.SE Go.RowKit
set_option linter.unusedSimpArgs false
set_option linter.unusedVariables false
set_option maxHeartbeats 1000000
set_option maxRecDepth 100000
/-! num -/
abbrev c_num : Con := ⟨[.rdr, .sl .int], [.int], fun (rr, l, _) => 0 < l.length ∧ l.length ≤ 1000, .inr fun (rr, l, _) r => r.1 ∈ l, fun (rr, l, _) => 1⟩
abbrev L_num : List (FuncId × Con) := [(82, c_pick)]
abbrev P_num : List (FuncId × PT) := []
def VC_num (rr : Unit) (l : List Int) (k : Nat) : Prop := True ∧ True ∧ True ∧ True ∧ True ∧ (True ∧ (k + 1 ≤ 1099511627776) ∧ True) ∧ (∀ r1 : Int × Unit, (pickP ((l.length : Nat) : Int) r1.1) → (0 ≤ r1.1 ∧ r1.1 < ((l.length : Nat) : Int)) ∧ True ∧ True ∧ ((l.getD r1.1.toNat (0 : Int)) ∈ l) ∧ True ∧ True ∧ True ∧ True ∧ (k + 1 ≤ k + 1))
theorem vcn_num (rr : Unit) (l : List Int) (k : Nat) (hp : 0 < l.length ∧ l.length ≤ 1000) (hk : k + (1) ≤ 1099511627776) : VC_num rr l k := by
  unfold VC_num
  simp only [cln, Nat.reduceEqDiff, Nat.reduceLeDiff, Nat.reduceAdd]
  all_goals (try simp only [opn])
  all_goals (repeat' (first | apply And.intro | intro _))
  all_goals (first | omega | (simp_all; done) | grind [getD_mem, pickP])
theorem vce_num (rr : Unit) (l : List Int) (k : Nat) : VC_num rr l k = vcQ tab (lookF L_num) (lookP P_num) (fun _ => false) (fun _ => none) (fun _ _ => none) (fun _ => []) (bodyOf Try.f83) (entry (encs c_num.aks (rr, l, ())) (rdOf true k)) (retOk tab c_num Try.f83.results.toList (rr, l, ()) k) := by kernel_rfl
theorem ok_num : FnOk Try.prog E 83 c_num :=
  fn_okQ (l := L_num) (lp := P_num) (hp := fun _ => false) (gcs := fun _ => none) (perm := fun _ => []) tabOk mix ⟨ok_pick, trivial⟩ trivial Try.func83 rfl (by kernel_rfl) (by decide) (by kernel_rfl) (anns := fun x _ => fun _ _ => none) (fun ⟨rr, l, _⟩ k hp hk => (vce_num rr l k).mp (vcn_num rr l k hp (hk rfl))) (fun ⟨_, l, _⟩ hp => ⟨(l.getD 0 0, ()), getD_mem hp.1⟩)
end Go.Proofs.Ytejcmcbpfnmlaaa

namespace Go.Proofs.Ytejcmcbpfnmlaaa
open Go.SE Go.RowKit
set_option linter.unusedSimpArgs false
set_option linter.unusedVariables false
set_option maxHeartbeats 1000000
set_option maxRecDepth 100000
/-! l3Star -/
abbrev c_l3Star : Con := ⟨[.asn, .asn], [.asn], fun (a, b, _) => a.facts.length ≤ 1048576 ∧ a.atoms.length ≤ 1048576 ∧ b.facts.length ≤ 1048576 ∧ b.atoms.length ≤ 1048576, .inl fun (a, b, _) => (⟨a.facts ++ b.facts, a.atoms ++ b.atoms⟩, ()), fun _ => 0⟩
abbrev L_l3Star : List (FuncId × Con) := []
abbrev P_l3Star : List (FuncId × PT) := []
def VC_l3Star (a : GAsn) (b : GAsn) (k : Nat) : Prop := TN ∧ TN ∧ (TN ∧ TN ∧ TN ∧ True) ∧ (TN ∧ True) ∧ True ∧ True ∧ (TN ∧ TF ∧ TF ∧ (([] : List GFact).length + a.facts.length ≤ 4294967296)) ∧ True ∧ True ∧ (TN ∧ TF ∧ TF ∧ ((([] : List GFact) ++ a.facts).length + b.facts.length ≤ 4294967296)) ∧ (TN ∧ True) ∧ True ∧ True ∧ (TN ∧ TF ∧ TF ∧ (([] : List GAtom).length + a.atoms.length ≤ 4294967296)) ∧ True ∧ True ∧ (TN ∧ TF ∧ TF ∧ ((([] : List GAtom) ++ a.atoms).length + b.atoms.length ≤ 4294967296)) ∧ (TN ∧ TN ∧ True) ∧ (TF ∧ TF) ∧ ((((⟨(([] : List GFact) ++ a.facts) ++ b.facts, (([] : List GAtom) ++ a.atoms) ++ b.atoms⟩ : GAsn), ()) : GAsn × Unit) = (⟨a.facts ++ b.facts, a.atoms ++ b.atoms⟩, ())) ∧ ((((176 : Nat) ≠ 288) ∧ True) ∧ True ∧ True) ∧ ((TF ∧ TF) ∧ (TF ∧ TF) ∧ True) ∧ True ∧ (True ∧ True ∧ True) ∧ TF
theorem vcn_l3Star (a : GAsn) (b : GAsn) (k : Nat) (hp : a.facts.length ≤ 1048576 ∧ a.atoms.length ≤ 1048576 ∧ b.facts.length ≤ 1048576 ∧ b.atoms.length ≤ 1048576) : VC_l3Star a b k := by
  unfold VC_l3Star
  simp only [cln, Nat.reduceEqDiff, Nat.reduceLeDiff, Nat.reduceAdd]
  all_goals (try simp only [opn])
  all_goals (repeat' (first | apply And.intro | intro _))
  all_goals (first | omega | (simp_all; done) | grind [])
theorem vce_l3Star (a : GAsn) (b : GAsn) (k : Nat) : VC_l3Star a b k = vcQ tab (lookF L_l3Star) (lookP P_l3Star) (fun _ => false) (fun _ => none) (fun _ _ => none) (fun _ => []) (bodyOf Try.f122) (entry (encs c_l3Star.aks (a, b, ())) (rdOf false k)) (retOk tab c_l3Star Try.f122.results.toList (a, b, ()) k) := by kernel_rfl
theorem ok_l3Star : FnOk Try.prog E 122 c_l3Star :=
  fn_okQ (l := L_l3Star) (lp := P_l3Star) (hp := fun _ => false) (gcs := fun _ => none) (perm := fun _ => []) tabOk mix trivial trivial Try.func122 rfl (by kernel_rfl) (by decide) (by kernel_rfl) (anns := fun x _ => fun _ _ => none) (fun ⟨a, b, _⟩ k hp _ => (vce_l3Star a b k).mp (vcn_l3Star a b k hp)) tot_fn
end Go.Proofs.Ytejcmcbpfnmlaaa
