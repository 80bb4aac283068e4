/-
  Contracts of single functions of the program, each shown by the engine: what a call returns for arguments within the contract's bounds.
-/
import Derived.Test.YtfoioficiffgkaaFFnEntailsReflexivea
import Derived.Test.YtfoioficiffgkaaFFnEntailsReflexived
import Derived.Test.YtfoioficiffgkaaFFnEntailsReflexivee
import Derived.Test.YtfoioficiffgkaaEd
import Derived.Test.YtfoioficiffgkaaEe
import Derived.Test.YtfoioficiffgkaaFFnEntailsReflexivec
import Derived.Test.YtfoioficiffgkaaEf
set_option linter.unusedSimpArgs false
set_option linter.unusedVariables false
set_option linter.unusedSectionVars false

namespace Go.Proofs.Ytfoioficiffgkaa
open Go.SE Go.RowKit
set_option linter.unusedSimpArgs false
set_option linter.unusedVariables false
set_option maxHeartbeats 1000000
set_option maxRecDepth 100000
abbrev c_possible : Con := ⟨[.pkase, .asn, .int], [.bool], fun (c, a, last, _) => c.length = 9 /\ asV a = true /\ 0 <= last /\ last <= 8, .inl fun (c, a, last, _) => (possI a c last, ()), fun _ => 0⟩
abbrev L_possible : List (FuncId × Con) := [(87, c_tsWith), (88, c_factHolds), (128, c_tsHas), (150, c_isFilled)]
abbrev P_possible : List (FuncId × PT) := []
def an_possible (c : List Int) (a : GAsn) (last : Int) : Nat -> St -> Option Ann
 | 2, se => some { α := Nat, ok := fun i => i <= a.facts.length /\ possF c last (a.facts.take i) = true, mu := fun i => a.facts.length - i, i0 := fun _ => 0, nx := fun a _ => (fun i => i + 1) a, live := [0, 2, 4, 13, 14], sets := fun i => [(15, sv (.int .i64 i))], mids := [79], blks := fun i => [], owns := fun i => [], rd := fun r _ => r, base := 100000 }
 | 9, se => some { α := Nat, ok := fun i => i <= a.atoms.length /\ possF c last a.facts = true /\ okS [] (sts c last (a.atoms.take i)) = true, mu := fun i => a.atoms.length - i, i0 := fun _ => 0, nx := fun a _ => (fun i => i + 1) a, live := [0, 2, 37, 38], sets := fun i => [(39, sv (.int .i64 i)), (9, sv (.int .u16 (maskS (sts c last (a.atoms.take i)))))], mids := [], blks := fun i => [], owns := fun i => [], rd := fun r _ => r, base := 200000 }
 | _, _ => none
def VC_possible_1 (c : List Int) (last : Int) (a : GAsn) : Prop := RL [.s (.c (.rv .int c)), .s (.c (.d (.val (.int .i64 last)))), .s (.c (.ptr 79 0)), .s (.c (.d (.arr .fact a.facts))), .s (.c (.d (.val (.int .i64 ((a.facts.length : Nat) : Int)))))]
def VC_possible_2 (a : GAsn) : Prop := (RM [some (.blk [.d (.arr .fact a.facts), .d (.arr .atom a.atoms)])]) /\ (RM []) /\ True /\ TT
def VC_possible_3 (a : GAsn) (c : List Int) (last : Int) : Prop := True /\ (((false, ()) : Bool × Unit) = (possI a c last, ())) /\ True /\ True /\ True /\ True /\ TF
def VC_possible_4 (i1 : Nat) (a : GAsn) (c : List Int) (last : Int) : Prop := (inK .i64 (((i1 : Nat) : Int) + (1 : Int))) /\ True /\ ((i1 + 1) <= a.facts.length /\ possF c last (a.facts.take (i1 + 1)) = true) /\ (a.facts.length - (i1 + 1) < a.facts.length - i1) /\ TT /\ (VC_possible_1 c last a) /\ (([.s (.c (.d (.val (.int .i64 (((i1 : Nat) : Int) + (1 : Int))))))] : List S) = [.s (.c (.d (.val (.int .i64 (((i1 + 1) : Nat) : Int)))))]) /\ (VC_possible_2 a)
def VC_possible_5 (i1 : Nat) (a : GAsn) (c : List Int) (last : Int) : Prop := True /\ (VC_possible_4 i1 a c last)
def VC_possible_6 (c : List Int) (last : Int) (a : GAsn) : Prop := RL [.s (.c (.rv .int c)), .s (.c (.d (.val (.int .i64 last)))), .s (.c (.d (.arr .atom a.atoms))), .s (.c (.d (.val (.int .i64 ((a.atoms.length : Nat) : Int)))))]
def VC_possible_7 (i2 : Nat) (a : GAsn) (c : List Int) (last : Int) : Prop := (i2 + 1) <= a.atoms.length /\ possF c last a.facts = true /\ okS [] (sts c last (a.atoms.take (i2 + 1))) = true
def VC_possible_8 (i2 : Nat) (a : GAsn) (c : List Int) (last : Int) : Prop := (inK .i64 (((i2 : Nat) : Int) + (1 : Int))) /\ True /\ (VC_possible_7 i2 a c last) /\ (a.atoms.length - (i2 + 1) < a.atoms.length - i2) /\ TT /\ (VC_possible_6 c last a) /\ (([.s (.c (.d (.val (.int .i64 (((i2 : Nat) : Int) + (1 : Int)))))), .s (.c (.d (.val (.int .u16 (maskS (sts c last (a.atoms.take i2)) : Int)))))] : List S) = [.s (.c (.d (.val (.int .i64 (((i2 + 1) : Nat) : Int))))), .s (.c (.d (.val (.int .u16 (maskS (sts c last (a.atoms.take (i2 + 1))) : Int)))))]) /\ (RM []) /\ (RM []) /\ True /\ TT
def VC_possible_9 (i2 : Nat) (a : GAsn) (c : List Int) (last : Int) : Prop := True /\ (VC_possible_8 i2 a c last)
def VC_possible_10 (a : GAsn) (i2 : Nat) (c : List Int) : Prop := 0 <= ((a.atoms.getD i2 (⟨0, 0, 0⟩ : GAtom)).a) /\ ((a.atoms.getD i2 (⟨0, 0, 0⟩ : GAtom)).a) < ((9 : Nat) : Int) /\ c.length = 9
def VC_possible_11 (c : List Int) (last : Int) (a : GAsn) (i2 : Nat) : Prop := (0 <= (maskS (sts c last (a.atoms.take i2)) : Int) /\ (maskS (sts c last (a.atoms.take i2)) : Int) < 512) /\ True /\ True
def VC_possible_12 (i1 : Nat) (a : GAsn) (last : Int) (c : List Int) : Prop := (True /\ (vcIf (decide (((i1 : Nat) : Int) < ((a.facts.length : Nat) : Int))) ((0 <= ((i1 : Nat) : Int) /\ ((i1 : Nat) : Int) < ((a.facts.length : Nat) : Int)) /\ True /\ (TN /\ True) /\ (TF /\ TF) /\ True /\ True /\ True /\ True /\ True /\ (vcIf (decide (((a.facts.getD i1 (⟨false, 0, 0⟩ : GFact)).a) <= last)) (True /\ True /\ True /\ True /\ True /\ True /\ (vcIf (decide (((a.facts.getD i1 (⟨false, 0, 0⟩ : GFact)).b) <= last)) (True /\ True /\ ((c.length = 9 /\ fV (a.facts.getD i1 (⟨false, 0, 0⟩ : GFact)) = true) /\ True /\ True) /\ True /\ True /\ (vcIf (!(fh c (a.facts.getD i1 (⟨false, 0, 0⟩ : GFact)))) (VC_possible_3 a c last) (VC_possible_4 i1 a c last))) (VC_possible_5 i1 a c last))) (True /\ True /\ (VC_possible_5 i1 a c last)))) (True /\ True /\ True /\ True /\ True /\ ((0 <= a.atoms.length /\ possF c last a.facts = true /\ okS [] (sts c last (a.atoms.take 0)) = true) /\ TT /\ (VC_possible_6 c last a) /\ (([.s (.c (.d (.val (.int .i64 (0 : Int))))), .s (.c (.d (.val (.int .u16 (0 : Int)))))] : List S) = [.s (.c (.d (.val (.int .i64 ((0 : Nat) : Int))))), .s (.c (.d (.val (.int .u16 (maskS (sts c last (a.atoms.take 0)) : Int)))))]) /\ (RM []) /\ (RM []) /\ True /\ TT) /\ (∀ i2 : Nat, (i2 <= a.atoms.length /\ possF c last a.facts = true /\ okS [] (sts c last (a.atoms.take i2)) = true) -> True /\ (vcIf (decide (((i2 : Nat) : Int) < ((a.atoms.length : Nat) : Int))) ((0 <= ((i2 : Nat) : Int) /\ ((i2 : Nat) : Int) < ((a.atoms.length : Nat) : Int)) /\ True /\ (TN /\ True) /\ (TF /\ TF) /\ True /\ True /\ True /\ True /\ True /\ (vcIf (decide (last < ((a.atoms.getD i2 (⟨0, 0, 0⟩ : GAtom)).a))) (True /\ True /\ (VC_possible_9 i2 a c last)) (True /\ True /\ True /\ True /\ True /\ True /\ (vcIf (decide (last < ((a.atoms.getD i2 (⟨0, 0, 0⟩ : GAtom)).b))) (VC_possible_9 i2 a c last) (True /\ True /\ ((c.length = 9 /\ atV (a.atoms.getD i2 (⟨0, 0, 0⟩ : GAtom)) = true) /\ True /\ True) /\ True /\ True /\ (vcIf (!(filB c (a.atoms.getD i2 (⟨0, 0, 0⟩ : GAtom)))) (VC_possible_8 i2 a c last) (True /\ True /\ True /\ True /\ (VC_possible_10 a i2 c) /\ True /\ True /\ True /\ (vcIf ((c.getD ((a.atoms.getD i2 (⟨0, 0, 0⟩ : GAtom)).a).toNat (0 : Int)) == (0 : Int)) (True /\ (VC_possible_3 a c last)) (True /\ True /\ True /\ True /\ True /\ (VC_possible_10 a i2 c) /\ True /\ (VC_possible_11 c last a i2) /\ True /\ (vcIf (tsHas (maskS (sts c last (a.atoms.take i2)) : Int) (c.getD ((a.atoms.getD i2 (⟨0, 0, 0⟩ : GAtom)).a).toNat (0 : Int))) (VC_possible_3 a c last) (True /\ True /\ True /\ True /\ True /\ (VC_possible_10 a i2 c) /\ True /\ (VC_possible_11 c last a i2) /\ True /\ (inK .i64 (((i2 : Nat) : Int) + (1 : Int))) /\ True /\ (VC_possible_7 i2 a c last) /\ (a.atoms.length - (i2 + 1) < a.atoms.length - i2) /\ TT /\ (VC_possible_6 c last a) /\ (([.s (.c (.d (.val (.int .i64 (((i2 : Nat) : Int) + (1 : Int)))))), .s (.c (.d (.val (.int .u16 (tsWith (maskS (sts c last (a.atoms.take i2)) : Int) (c.getD ((a.atoms.getD i2 (⟨0, 0, 0⟩ : GAtom)).a).toNat (0 : Int)))))))] : List S) = [.s (.c (.d (.val (.int .i64 (((i2 + 1) : Nat) : Int))))), .s (.c (.d (.val (.int .u16 (maskS (sts c last (a.atoms.take (i2 + 1))) : Int)))))]) /\ (RM []) /\ (RM []) /\ True /\ TT))))))))))) (True /\ (((true, ()) : Bool × Unit) = (possI a c last, ())) /\ True /\ True /\ True /\ True /\ TF))))))
def VC_possible (c : List Int) (a : GAsn) (last : Int) (k : Nat) : Prop := TN /\ True /\ True /\ True /\ True /\ True /\ ((0 <= a.facts.length /\ possF c last (a.facts.take 0) = true) /\ TT /\ (VC_possible_1 c last a) /\ (([.s (.c (.d (.val (.int .i64 (0 : Int)))))] : List S) = [.s (.c (.d (.val (.int .i64 ((0 : Nat) : Int)))))]) /\ (VC_possible_2 a)) /\ (∀ i1 : Nat, (i1 <= a.facts.length /\ possF c last (a.facts.take i1) = true) -> (VC_possible_12 i1 a last c))
theorem vcn_possible (c : List Int) (a : GAsn) (last : Int) (k : Nat) (hp : c.length = 9 /\ asV a = true /\ 0 <= last /\ last <= 8) : VC_possible c a last k := by
 unfold VC_possible VC_possible_12 VC_possible_11 VC_possible_10 VC_possible_9 VC_possible_8 VC_possible_7 VC_possible_6 VC_possible_5 VC_possible_4 VC_possible_3 VC_possible_2 VC_possible_1
 simp only [cln, Nat.reduceEqDiff, Nat.reduceLeDiff, Nat.reduceAdd]
 have hF := asV_facts hp.2.1
 have hX := fun i (h : i < a.atoms.length) => isT_iff.1 (asV_atom (d := ⟨0, 0, 0⟩) hp.2.1 h).1
 have hM := fun i => maskS_bd (sts c last (a.atoms.take i))
 all_goals (try simp only [opn])
 all_goals (repeat' (first | apply And.intro | intro _))
 all_goals (repeat (cases ‹_ /\ _›))
 all_goals (first | omega | rfl | assumption | (simp_all; done) | (exact (hX _ ‹_›).1) | (exact (hM _).1) | (exact (hM _).2) | (symm; exact possI_noF ‹_› ‹_› ‹_› ‹_›) | (rw [possF_step (d := ⟨false, 0, 0⟩) ‹_›]; simp_all; done) | (rw [possF_step (d := ⟨false, 0, 0⟩) ‹_›]; simp_all; omega) | (rw [← take_full (l := a.facts) ‹_›]; assumption) | (rw [sts_skip (c := c) (last := last) (l := a.atoms) (d := ⟨0, 0, 0⟩) ‹_› (by simp only [stB, Bool.and_eq_false_iff, decide_eq_false_iff_not]; first | (left; left; omega) | (left; right; omega) | (right; assumption))]; done) | (rw [sts_skip (c := c) (last := last) (l := a.atoms) (d := ⟨0, 0, 0⟩) ‹_› (by simp only [stB, Bool.and_eq_false_iff, decide_eq_false_iff_not]; first | (left; left; omega) | (left; right; omega) | (right; assumption))]; assumption) | (rw [take_full (l := a.atoms) ‹_›] at *; simp_all [possI]; done) | skip)
 all_goals (have hS := fun (j : Nat) (h1 : ¬ last < (a.atoms.getD j ⟨0, 0, 0⟩).a) (h2 : ¬ last < (a.atoms.getD j ⟨0, 0, 0⟩).b) (h3 : filB c (a.atoms.getD j ⟨0, 0, 0⟩) = true) => show stB c last (a.atoms.getD j ⟨0, 0, 0⟩) = true by (simp only [stB, Bool.and_eq_true, decide_eq_true_eq]; exact ⟨⟨by omega, by omega⟩, by assumption⟩))
 all_goals (first | (symm; exact possI_noA ‹_› (hS _ ‹_› ‹_› ‹_›) (.inl ‹_›)) | (symm; exact possI_noA ‹_› (hS _ ‹_› ‹_› ‹_›) (.inr ‹_›)) | (exact (okS_step ‹_› ‹_› (hS _ ‹_› ‹_› ‹_›) ‹_› ‹_›).1) | (exact (okS_step ‹_› ‹_› (hS _ ‹_› ‹_› ‹_›) ‹_› ‹_›).2.symm) | skip)
theorem ok_possible : FnOk Try.prog E 129 c_possible :=
 fn_okQ (l := L_possible) (lp := P_possible) (hp := fun _ => false) (gcs := fun _ => none) (perm := fun _ => []) tabOk mix ⟨ok_tsWith, ok_factHolds, ok_tsHas, ok_isFilled, trivial⟩ trivial Try.func129 rfl (by kernel_rfl) (by decide) (by kernel_rfl) (anns := fun x _ => an_possible x.1 x.2.1 x.2.2.1) (fun ⟨c, a, last, _⟩ k hp _ => Eq.mp (by kernel_rfl) (vcn_possible c a last k hp)) tot_fn
abbrev L_ext : List (FuncId × Con) := [(128, c_tsHas), (129, c_possible)]
def an_ext (a : GAsn) (tm : Int) (go : List Int -> Bool) (T : CG) (l : Nat) (t t' : Int) (en en' : List Int -> CG) (c : List Int) (γ : CG) : Nat -> St -> CG -> Option (AnnY CG)
 | 7, st0, GM => some ⟨{ α := Nat × List Int, ok := fun p => p.1 <= t.toNat + 1 /\ p.2.length = 9 /\ (∀ x : Int, p.2.set t.toNat x = c.set t.toNat x) /\ ((List.range p.1).flatMap (brC (poss a) en t.toNat c)).all go = true, mu := fun p => t.toNat + 1 - p.1, i0 := fun _ => (0, c), nx := fun p st => (p.1 + 1, vecAt st 95), live := [1, 3, 4, 5, 7], sets := fun p => [(11, sv (.int .i64 p.1))], mids := [127], blks := fun p => [(95, .vec .int p.2)], owns := fun p => [], rd := fun r _ => r, base := 100000 }, fun p => GM ++ (List.range p.1).flatMap (brC (poss a) en t.toNat c)⟩
 | _, _, _ => none
def hp_ext : Nat -> Bool
 | 2 => true
 | 5 => true
 | 11 => true
 | _ => false
def VC_ext_1 (t : Int) (tm : Int) (l : Nat) : Prop := RL [.s (.c (.d (.val (.int .i64 t)))), .s (.c (.d (.val (.int .u16 tm)))), .s (.c (.d (.val (yV l)))), .s (.c (.ptr 95 0)), .s (.c (.ptr 127 0))]
def VC_ext_2 (p1 : Nat × List Int) (t : Int) (c : List Int) (a : GAsn) (en : List Int -> CG) (go : List Int -> Bool) : Prop := (p1.1 + 1, (p1.2.set t.toNat (p1.1 : Int))).1 <= t.toNat + 1 /\ (p1.1 + 1, (p1.2.set t.toNat (p1.1 : Int))).2.length = 9 /\ (∀ x : Int, (p1.1 + 1, (p1.2.set t.toNat (p1.1 : Int))).2.set t.toNat x = c.set t.toNat x) /\ ((List.range (p1.1 + 1, (p1.2.set t.toNat (p1.1 : Int))).1).flatMap (brC (poss a) en t.toNat c)).all go = true
def VC_ext_3 (t : Int) (p1 : Nat × List Int) (tm : Int) (l : Nat) (a : GAsn) : Prop := (t.toNat + 1 - (p1.1 + 1, (p1.2.set t.toNat (p1.1 : Int))).1 < t.toNat + 1 - p1.1) /\ TT /\ (VC_ext_1 t tm l) /\ (([.s (.c (.d (.val (.int .i64 ((p1.1 : Int) + (1 : Int))))))] : List S) = [.s (.c (.d (.val (.int .i64 ((p1.1 + 1, (p1.2.set t.toNat (p1.1 : Int))).1 : Int)))))]) /\ (RM [some (.blk [.d (.arr .fact a.facts), .d (.arr .atom a.atoms)])]) /\ (([some (.vec .int (p1.2.set t.toNat (p1.1 : Int)))] : List (Option Res)) = [some (.vec .int ((p1.1 + 1, (p1.2.set t.toNat (p1.1 : Int))).2))]) /\ True /\ TT
def VC_ext_4 (t : Int) (p1 : Nat × List Int) (a : GAsn) (t' : Int) (tm : Int) (l : Nat) (γ : CG) (en : List Int -> CG) (c : List Int) (go : List Int -> Bool) (T : CG) (en' : List Int -> CG) : Prop := TT /\ True /\ True /\ (0 <= t /\ t < ((9 : Nat) : Int) /\ p1.2.length = 9) /\ (TF /\ TF /\ True) /\ TT /\ True /\ True /\ (((p1.2.set t.toNat (p1.1 : Int)).length = 9 /\ asV a = true /\ 0 <= t /\ t <= 8) /\ True /\ True) /\ True /\ (vcIf (possI a (p1.2.set t.toNat (p1.1 : Int)) t) ((9 = (p1.2.set t.toNat (p1.1 : Int)).length * 1) /\ True /\ (inK .i64 (t + (1 : Int))) /\ True /\ True /\ True /\ (((none : Option Nat) = none) /\ ((p1.2.set t.toNat (p1.1 : Int)).length = 9) /\ ((t + (1 : Int)) = t') /\ (a.facts = a.facts) /\ (a.atoms = a.atoms) /\ (tm = tm) /\ ((yV l : Value) = yV l) /\ ((γ ++ (List.range p1.1).flatMap (brC (poss a) en t.toNat c)).all go = true) /\ (((γ ++ (List.range p1.1).flatMap (brC (poss a) en t.toNat c)) ++ en (p1.2.set t.toNat (p1.1 : Int))) <+: T)) /\ True /\ True /\ (vcIf (!((en (p1.2.set t.toNat (p1.1 : Int))).all go)) (TT /\ True /\ ((none : Option Nat) = none) /\ (false = (en' c).all go) /\ ((γ ++ (List.range p1.1).flatMap (brC (poss a) en t.toNat c) ++ upTo go (en (p1.2.set t.toNat (p1.1 : Int))) : CG) = γ ++ upTo go (en' c))) (TT /\ True /\ (inK .i64 ((p1.1 : Int) + (1 : Int))) /\ True /\ (VC_ext_2 p1 t c a en go) /\ ((γ ++ (List.range (p1.1 + 1, (p1.2.set t.toNat (p1.1 : Int))).1).flatMap (brC (poss a) en t.toNat c) : CG) = γ ++ (List.range p1.1).flatMap (brC (poss a) en t.toNat c) ++ upTo go (en (p1.2.set t.toNat (p1.1 : Int)))) /\ (VC_ext_3 t p1 tm l a)))) (True /\ TT /\ True /\ (inK .i64 ((p1.1 : Int) + (1 : Int))) /\ True /\ (VC_ext_2 p1 t c a en go) /\ ((γ ++ (List.range (p1.1 + 1, (p1.2.set t.toNat (p1.1 : Int))).1).flatMap (brC (poss a) en t.toNat c) : CG) = γ ++ (List.range p1.1).flatMap (brC (poss a) en t.toNat c)) /\ (VC_ext_3 t p1 tm l a)))
def VC_ext_5 (t : Int) (c : List Int) (l : Nat) (γ : CG) (go : List Int -> Bool) (T : CG) (en' : List Int -> CG) (tm : Int) (t' : Int) (a : GAsn) (en : List Int -> CG) : Prop := (True /\ (vcIf (decide ((8 : Int) < t)) (TT /\ True /\ (9 = c.length * 1) /\ (((none : Option Nat) = none) /\ ((.s (.c (.d (.val (yV l)))) : S) = .s (.c (.d (.val (yV l))))) /\ (γ.all go = true) /\ ((γ ++ [c]) <+: T)) /\ True /\ ((none : Option Nat) = none) /\ ((go c) = (en' c).all go) /\ ((γ ++ [c] : CG) = γ ++ upTo go (en' c))) (TT /\ True /\ True /\ ((0 <= tm /\ tm < 512) /\ True /\ True) /\ True /\ (vcIf (!(tsHas tm t)) (TT /\ True /\ (0 <= t /\ t < ((9 : Nat) : Int) /\ c.length = 9) /\ (TF /\ TF /\ True) /\ TT /\ (9 = (c.set t.toNat (-1 : Int)).length * 1) /\ True /\ (inK .i64 (t + (1 : Int))) /\ True /\ True /\ True /\ (((none : Option Nat) = none) /\ ((c.set t.toNat (-1 : Int)).length = 9) /\ ((t + (1 : Int)) = t') /\ (a.facts = a.facts) /\ (a.atoms = a.atoms) /\ (tm = tm) /\ ((yV l : Value) = yV l) /\ (γ.all go = true) /\ ((γ ++ en (c.set t.toNat (-1 : Int))) <+: T)) /\ True /\ ((none : Option Nat) = none) /\ (((en (c.set t.toNat (-1 : Int))).all go) = (en' c).all go) /\ ((γ ++ upTo go (en (c.set t.toNat (-1 : Int))) : CG) = γ ++ upTo go (en' c))) (TT /\ True /\ (((0, c).1 <= t.toNat + 1 /\ (0, c).2.length = 9 /\ (∀ x : Int, (0, c).2.set t.toNat x = c.set t.toNat x) /\ ((List.range (0, c).1).flatMap (brC (poss a) en t.toNat c)).all go = true) /\ ((γ ++ (List.range (0, c).1).flatMap (brC (poss a) en t.toNat c) : CG) = γ) /\ TT /\ (VC_ext_1 t tm l) /\ (([.s (.c (.d (.val (.int .i64 (0 : Int)))))] : List S) = [.s (.c (.d (.val (.int .i64 ((0, c).1 : Int)))))]) /\ (RM [some (.blk [.d (.arr .fact a.facts), .d (.arr .atom a.atoms)])]) /\ (([some (.vec .int c)] : List (Option Res)) = [some (.vec .int ((0, c).2))]) /\ True /\ TT) /\ (∀ p1 : Nat × List Int, (p1.1 <= t.toNat + 1 /\ p1.2.length = 9 /\ (∀ x : Int, p1.2.set t.toNat x = c.set t.toNat x) /\ ((List.range p1.1).flatMap (brC (poss a) en t.toNat c)).all go = true) -> TT /\ True /\ True /\ True /\ (vcIf (decide ((p1.1 : Int) <= t)) (TT /\ True /\ True /\ True /\ True /\ (vcIf (decide ((p1.1 : Int) < t)) (True /\ (0 <= (p1.1 : Int) /\ (p1.1 : Int) < ((9 : Nat) : Int) /\ p1.2.length = 9) /\ True /\ True /\ True /\ True /\ (vcIf ((p1.2.getD (p1.1 : Int).toNat (0 : Int)) != (p1.1 : Int)) (TT /\ True /\ (inK .i64 ((p1.1 : Int) + (1 : Int))) /\ True /\ ((p1.1 + 1, p1.2).1 <= t.toNat + 1 /\ (p1.1 + 1, p1.2).2.length = 9 /\ (∀ x : Int, (p1.1 + 1, p1.2).2.set t.toNat x = c.set t.toNat x) /\ ((List.range (p1.1 + 1, p1.2).1).flatMap (brC (poss a) en t.toNat c)).all go = true) /\ ((γ ++ (List.range (p1.1 + 1, p1.2).1).flatMap (brC (poss a) en t.toNat c) : CG) = γ ++ (List.range p1.1).flatMap (brC (poss a) en t.toNat c)) /\ (t.toNat + 1 - (p1.1 + 1, p1.2).1 < t.toNat + 1 - p1.1) /\ TT /\ (VC_ext_1 t tm l) /\ (([.s (.c (.d (.val (.int .i64 ((p1.1 : Int) + (1 : Int))))))] : List S) = [.s (.c (.d (.val (.int .i64 ((p1.1 + 1, p1.2).1 : Int)))))]) /\ (RM [some (.blk [.d (.arr .fact a.facts), .d (.arr .atom a.atoms)])]) /\ (([some (.vec .int p1.2)] : List (Option Res)) = [some (.vec .int ((p1.1 + 1, p1.2).2))]) /\ True /\ TT) (VC_ext_4 t p1 a t' tm l γ en c go T en'))) (True /\ (VC_ext_4 t p1 a t' tm l γ en c go T en')))) (TT /\ True /\ ((none : Option Nat) = none) /\ (true = (en' c).all go) /\ ((γ ++ (List.range p1.1).flatMap (brC (poss a) en t.toNat c) : CG) = γ ++ upTo go (en' c))))))))))
def VC_ext (a : GAsn) (tm : Int) (go : List Int -> Bool) (T : CG) (l : Nat) (t t' : Int) (en en' : List Int -> CG) (c : List Int) (γ : CG) : Prop := TT /\ TN /\ TN /\ True /\ TT /\ True /\ (VC_ext_5 t c l γ go T en' tm t' a en)
theorem vcn_ext (a : GAsn) (tm : Int) (go : List Int -> Bool) (T : CG) (l : Nat) (t t' : Int) (en en' : List Int -> CG) (c : List Int) (γ : CG) (hp : asV a = true /\ 0 <= tm /\ tm < 512) (ht : 0 <= t /\ t <= 9) (ht' : t' = t + 1) (hc : c.length = 9) (hgo : γ.all go = true) (hT : (γ ++ en' c) <+: T) (h9 : 8 < t -> en' c = [c]) (h8 : ¬ 8 < t -> en' c = cond (tsHas tm t) ((List.range (t.toNat + 1)).flatMap (brC (poss a) en t.toNat c)) (en (c.set t.toNat (-1)))) : VC_ext a tm go T l t t' en en' c γ := by
 unfold VC_ext VC_ext_5 VC_ext_4 VC_ext_3 VC_ext_2 VC_ext_1
 simp only [cln, Nat.reduceEqDiff, Nat.reduceLeDiff, Nat.reduceAdd]
 obtain ⟨n, rfl⟩ : ∃ n : Nat, t = (n : Int) := ⟨t.toNat, by omega⟩
 simp only [Int.toNat_natCast] at h8 ⊢
 all_goals (try simp only [vcIf_iff, decide_eq_true_eq, decide_eq_false_iff_not, bne_iff_ne, ne_eq, beq_iff_eq, beq_eq_false_iff_ne, bne_eq_false_iff_eq, Bool.not_eq_true', Bool.not_eq_false', Int.ofNat_lt, Int.natCast_inj])
 all_goals (repeat' (first | apply And.intro | intro _))
 all_goals (first | omega | assumption | rfl | (simp_all; done) | skip)
 ·rw [h9 ‹_›]; simp only [upTo]; cases go c <;> rfl
 all_goals (have hL := h8 ‹_›; rw [(by assumption : tsHas tm (n : Int) = true), cond_true] at hL)
 all_goals (have hok := (by assumption : _ /\ _ /\ (∀ x : Int, _) /\ _); obtain ⟨k1, k2, k3, k4⟩ := hok)
 all_goals (first
  | (have e := fl_skip (a := a) (en := en) k3 (by omega) ‹_›; unfold flC at e; rw [e]; assumption) | (have e := fl_skip (a := a) (en := en) k3 (by omega) ‹_›; unfold flC at e; rw [e]; done)
  | (rw [List.all_append, hgo, k4]; rfl)
  | (exact fl_pre hL k3 (.inr ‹_›) ‹_› ‹_› hT) | (exact fl_pre hL k3 (.inl (by omega)) ‹_› ‹_› hT)
  | (exact (fl_all (γ := γ) hL k3 (.inr ‹_›) ‹_› ‹_› ‹_› k4).1) | (exact (fl_all (γ := γ) hL k3 (.inl (by omega)) ‹_› ‹_› ‹_› k4).1)
  | (exact (fl_all hL k3 (.inr ‹_›) ‹_› ‹_› ‹_› k4).2) | (exact (fl_all hL k3 (.inl (by omega)) ‹_› ‹_› ‹_› k4).2)
  | (exact (fl_end (γ := γ) hL k1 ‹_› k4).1) | (exact (fl_end hL k1 ‹_› k4).2)
  | (have e := fl_no (en := en) k3 ‹_›; unfold flC at e; rw [e]; assumption) | (have e := fl_no (en := en) k3 ‹_›; unfold flC at e; rw [e]; done)
  | (have e := fl_yes (en := en) k3 (.inr ‹_›) ‹_› ‹_›; unfold flC at e; rw [e, List.all_append, k4, (by assumption : List.all (en _) go = true)]; rfl)
  | (have e := fl_yes (en := en) k3 (.inl (by omega)) ‹_› ‹_›; unfold flC at e; rw [e, List.all_append, k4, (by assumption : List.all (en _) go = true)]; rfl)
  | (have e := fl_yes (en := en) k3 (.inr ‹_›) ‹_› ‹_›; unfold flC at e; rw [e, upTo_all ‹_›, List.append_assoc]; done)
  | (have e := fl_yes (en := en) k3 (.inl (by omega)) ‹_› ‹_›; unfold flC at e; rw [e, upTo_all ‹_›, List.append_assoc]; done)
  | skip)
def hp_pc : Nat -> Bool
 | 1 => true
 | _ => false
def VC_pc (a : GAsn) (tm : Int) (go : List Int -> Bool) (T : CG) (l : Nat) (en : List Int -> CG) (γ1 : CG) : Prop := TT /\ (TN /\ True) /\ TT /\ (9 = (List.replicate 9 (0 : Int)).length * 1) /\ True /\ True /\ True /\ (((none : Option Nat) = none) /\ ((List.replicate 9 (0 : Int)).length = 9) /\ ((0 : Int) = 0) /\ (a.facts = a.facts) /\ (a.atoms = a.atoms) /\ (tm = tm) /\ ((yV l : Value) = yV l) /\ ([].all go = true) /\ (([] ++ en (List.replicate 9 (0 : Int))) <+: T)) /\ ((none : Option Nat) = none) /\ (([] ++ upTo go (en (List.replicate 9 (0 : Int))) : CG) = γ1)
theorem vcn_pc (a : GAsn) (tm : Int) (go : List Int -> Bool) (T : CG) (l : Nat) (en : List Int -> CG) (γ1 : CG) (hT : en (List.replicate 9 0) = T) (h1 : γ1 = upTo go T) : VC_pc a tm go T l en γ1 := by
 unfold VC_pc
 simp only [cln, Nat.reduceEqDiff, Nat.reduceLeDiff, Nat.reduceAdd]
 subst h1 hT
 simp
theorem vce_pc (a : GAsn) (tm : Int) (go : List Int -> Bool) (T : CG) (l : Nat) (en : List Int -> CG) (γ1 : CG) : VC_pc a tm go T l en γ1 = vcY tab (lookF []) (lookP []) (spE 137 l go T a tm 0 en) noSpc (fun _ => false) hp_pc (fun _ => none) (fun _ _ _ => none) (fun _ => []) (bodyOf Try.f136) (pcSt a tm l) [] (retP0 tab Try.f136.results.toList γ1) := by kernel_rfl
theorem ext_step {J : JJ CG} {a : GAsn} {tm : Int} {go : List Int -> Bool} {T : CG} {l : Nat} {t t' : Int} {en en' : List Int -> CG} (hp : asV a = true /\ 0 <= tm /\ tm < 512) (ht : 0 <= t /\ t <= 9) (ht' : t' = t + 1) (h9 : ∀ c, 8 < t -> en' c = [c]) (h8 : ∀ c, ¬ 8 < t -> en' c = cond (tsHas tm t) ((List.range (t.toNat + 1)).flatMap (brC (poss a) en t.toNat c)) (en (c.set t.toNat (-1))))
  (hx : ExtOk Try.prog J 137 l go T a tm t' en) (hy : YOk Try.prog J l go T) : ExtOk Try.prog J 137 l go T a tm t en' :=
 ext_sound (hp := hp_ext) (gcs := fun _ => none) (perm := fun _ => []) (pts := lookP []) tabOk (kall_of (l := L_ext) ⟨ok_tsHas, ok_possible, trivial⟩) (pall_of (l := []) trivial) mix Try.func137 rfl (by kernel_rfl) (by decide) (by kernel_rfl) hx hy (anns := fun c γ => an_ext a tm go T l t t' en en' c γ)
  fun c γ hc hgo hT => Eq.mp (by kernel_rfl) (vcn_ext a tm go T l t t' en en' c γ hp ht ht' hc hgo hT (h9 c) (h8 c))
theorem ext_all {J : JJ CG} {a : GAsn} {tm : Int} {go : List Int -> Bool} {T : CG} {l : Nat} (hp : asV a = true /\ 0 <= tm /\ tm < 512) (hy : YOk Try.prog J l go T) : ∀ (f t : Nat), f + t = 9 -> ExtOk Try.prog J 137 l go T a tm (t : Int) (enumC (poss a) (hasN tm) f t) := by
 intro f
 induction f with
 | zero =>
  intro t ht
  have : t = 9 := by omega
  subst this
  exact ext_step (t' := 10) hp (by decide) (by decide) (fun c _ => rfl) (fun c h => absurd h (by decide)) ext_none hy
 | succ f ih =>
  intro t ht
  refine ext_step (t' := ((t + 1 : Nat) : Int)) (en := enumC (poss a) (hasN tm) f (t + 1)) hp (by omega) (by omega) (fun c h => by omega) (fun c _ => ?_) (ih (t + 1) (by omega)) hy
  simp only [Int.toNat_natCast]
  rfl
theorem it_ok : ItOk Try.prog 136 itPre itEn := by
 intro J l go a tm hpre hy w p ro0 ρ b1 b2 vs1 ty1 ty2 hin hro h1 hc1 h2 hne hp1 hp2 hr1 hr2 hJ
 exact pc_ok (fid := 137) (T := itEn a tm) (en := enumC (poss a) (hasN tm) 9 0) (t := 0) (hp := hp_pc) (gcs := fun _ => none) (perm := fun _ => []) (K := lookF []) (pts := lookP []) (anns := fun _ _ _ => none) tabOk (kall_of (l := []) trivial) (pall_of (l := []) trivial) mix Try.func136 rfl (by decide) Try.func137 rfl (by kernel_rfl) (by kernel_rfl) (ext_all hpre hy 9 0 rfl) hy
  ((vce_pc a tm go (itEn a tm) l (enumC (poss a) (hasN tm) 9 0) (upTo go (itEn a tm))).mp (vcn_pc a tm go (itEn a tm) l (enumC (poss a) (hasN tm) 9 0) (upTo go (itEn a tm)) rfl rfl)) hin hro h1 hc1 h2 hne hp1 hp2 hr1 hr2 hJ
theorem it_run : ∀ args w, (callFunc 136 args).run Try.prog w = .ok (.enter 136 args) w := run_callFunc Try.func136 (by kernel_rfl) rfl
abbrev L_possibleCases : List (FuncId × Con) := [(72, c_termsIn), (87, c_tsWith)]
abbrev P_possibleCases : List (FuncId × PT) := []
abbrev pt_possibleCases : PT := inl tab (lookF L_possibleCases) (lookP P_possibleCases) (fun _ => false) (fun _ _ => none) (fun _ _ _ _ => none) (fun _ => []) Try.f86.ntmps (bodyOf Try.f86) Try.f86.results.toList
theorem ptok_possibleCases : PTOk Try.prog E 86 pt_possibleCases :=
 pt_ok (l := L_possibleCases) (lp := P_possibleCases) tabOk mix ⟨ok_termsIn, ok_tsWith, trivial⟩ trivial Try.func86 rfl (by kernel_rfl) (by kernel_rfl)
abbrev c_failingCase : Con := ⟨[.asn, .asn], [.kase, .bool], fun (a, b, _) => asV a = true /\ asV b = true, .inl fun (a, b, _) => ((FC a b).headD (List.replicate 9 0), !(FC a b).isEmpty, ()), fun _ => 0⟩
abbrev L_failingCase : List (FuncId × Con) := [(72, c_termsIn), (73, c_matchCase)]
abbrev P_failingCase : List (FuncId × PT) := [(86, pt_possibleCases)]
def hp_failingCase : Nat -> Bool
 | 1 => true
 | _ => false
def ra_failingCase (a : GAsn) (b : GAsn) : St -> Option RAnn := fun se => some ⟨fun c => MC a b c, [2, 3, 4, 5], [47, 63, 79, 95], fun i => [], [47, 63, 79, 95], fun i => [], fun i => [], 300000⟩
def VC_failingCase_1 (a : GAsn) (b : GAsn) : Prop := TT /\ (RL [.s (.c (.ptr 47 0)), .s (.c (.ptr 63 0)), .s (.c (.ptr 79 0)), .s (.c (.ptr 95 0))]) /\ (RL []) /\ (RM [some (.blk [.d (.arr .fact a.facts), .d (.arr .atom a.atoms)]), some (.blk [.d (.arr .fact b.facts), .d (.arr .atom b.atoms)]), some (.vec .int (List.replicate 9 (0 : Int))), some (.blk [.d (.val (.bool false))])]) /\ (RM []) /\ True /\ TT
def VC_failingCase_2 (c2_0 : Int) (c2_1 : Int) (c2_2 : Int) (c2_3 : Int) (c2_4 : Int) (c2_5 : Int) (c2_6 : Int) (c2_7 : Int) (c2_8 : Int) : Prop := (([c2_0, c2_1, c2_2, c2_3, c2_4, c2_5, c2_6, c2_7, c2_8] : List Int).length = (List.replicate 9 (0 : Int)).length) /\ TF /\ TF
def VC_failingCase (a : GAsn) (b : GAsn) (k : Nat) : Prop := TT /\ TN /\ TN /\ (TN /\ True) /\ (TN /\ True) /\ TT /\ True /\ True /\ ((b.facts.length <= 281474976710656 /\ b.atoms.length <= 281474976710656) /\ True /\ True) /\ ((2 : Nat) <= 12) /\ TN /\ True /\ True /\ ((a.facts.length <= 281474976710656 /\ a.atoms.length <= 281474976710656) /\ True /\ True) /\ ((0 <= (tsA a) /\ (tsA a) < 512) /\ True /\ True) /\ True /\ True /\ (TN /\ True) /\ (TF /\ TF) /\ True /\ True /\ ((((136 : Nat) = 136) /\ ((none : Option Nat) = none) /\ (itPre a (bits .or .u16 (tsWith (tsA a) (0 : Int)) (tsA b)))) /\ TT /\ (VC_failingCase_1 a b)) /\ (∀ i1 : Nat, ∀ c2_0 : Int, ∀ c2_1 : Int, ∀ c2_2 : Int, ∀ c2_3 : Int, ∀ c2_4 : Int, ∀ c2_5 : Int, ∀ c2_6 : Int, ∀ c2_7 : Int, ∀ c2_8 : Int, ((itEn a (bits .or .u16 (tsWith (tsA a) (0 : Int)) (tsA b)))[i1]? = some ([c2_0, c2_1, c2_2, c2_3, c2_4, c2_5, c2_6, c2_7, c2_8] : List Int)) -> (((itEn a (bits .or .u16 (tsWith (tsA a) (0 : Int)) (tsA b))).take i1).all (fun c => MC a b c) = true) -> TT /\ (TN /\ True) /\ (VC_failingCase_2 c2_0 c2_1 c2_2 c2_3 c2_4 c2_5 c2_6 c2_7 c2_8) /\ ((none : Option Nat) = none) /\ TT /\ True /\ True /\ (9 = ([c2_0, c2_1, c2_2, c2_3, c2_4, c2_5, c2_6, c2_7, c2_8] : List Int).length * 1) /\ ((asV a = true /\ asV b = true /\ ([c2_0, c2_1, c2_2, c2_3, c2_4, c2_5, c2_6, c2_7, c2_8] : List Int).length = 9) /\ True /\ True /\ TN /\ True) /\ (∀ r3 : (List (List Int)) × Bool × Unit, (r3.2.1 = MC a b ([c2_0, c2_1, c2_2, c2_3, c2_4, c2_5, c2_6, c2_7, c2_8] : List Int)) -> True /\ True /\ True /\ True /\ True /\ TT /\ True /\ True /\ (vcIf (!r3.2.1) (TT /\ (9 = ([c2_0, c2_1, c2_2, c2_3, c2_4, c2_5, c2_6, c2_7, c2_8] : List Int).length * 1) /\ (VC_failingCase_2 c2_0 c2_1 c2_2 c2_3 c2_4 c2_5 c2_6 c2_7 c2_8) /\ (TF /\ TF) /\ ((MC a b ([c2_0, c2_1, c2_2, c2_3, c2_4, c2_5, c2_6, c2_7, c2_8] : List Int)) = false) /\ ((none : Option Nat) = none) /\ ((none : Option Nat) = none) /\ (((([c2_0, c2_1, c2_2, c2_3, c2_4, c2_5, c2_6, c2_7, c2_8] : List Int), true, ()) : (List Int) × Bool × Unit) = ((FC a b).headD (List.replicate 9 0), !(FC a b).isEmpty, ())) /\ True /\ True /\ True /\ True /\ TF) (((MC a b ([c2_0, c2_1, c2_2, c2_3, c2_4, c2_5, c2_6, c2_7, c2_8] : List Int)) = true) /\ ((none : Option Nat) = none) /\ (VC_failingCase_1 a b))))) /\ (((itEn a (bits .or .u16 (tsWith (tsA a) (0 : Int)) (tsA b))).all (fun c => MC a b c) = true) -> TT /\ True /\ (((List.replicate 9 (0 : Int)).length = (List.replicate 9 (0 : Int)).length) /\ TF /\ TF) /\ (TF /\ TF) /\ ((none : Option Nat) = none) /\ (((List.replicate 9 (0 : Int), false, ()) : (List Int) × Bool × Unit) = ((FC a b).headD (List.replicate 9 0), !(FC a b).isEmpty, ())) /\ True /\ True /\ True /\ True /\ TF)
theorem vcn_failingCase (a : GAsn) (b : GAsn) (k : Nat) (hp : asV a = true /\ asV b = true) : VC_failingCase a b k := by
 unfold VC_failingCase VC_failingCase_2 VC_failingCase_1
 simp only [cln, Nat.reduceEqDiff, Nat.reduceLeDiff, Nat.reduceAdd]
 have ha := hp.1
 have hb := hp.2
 have hs := asV_facts ha
 have hA := tsA_bd a
 have hB := tsA_bd b
 have hsb := asV_facts hb
 have hI := itEn_ent ha hb
 have hw := tsWith_bd (t := 0) hA.1 hA.2
 all_goals (try simp only [opn])
 all_goals (repeat' (first | apply And.intro | intro _))
 all_goals (first | omega | rfl | assumption | exact hI.2 | exact hI.2.2.1 | exact hI.2.2.2 | skip)
 all_goals (first
  | exact (fc_hit ha hb ‹_› ‹_› ((‹_ = MC a b _›).symm.trans ‹_›)).1.symm
  | (rw [(fc_hit (d := []) ha hb ‹_› ‹_› ((‹_ = MC a b _›).symm.trans ‹_›)).2]; rfl)
  | exact (‹_ = MC a b _›).symm.trans ‹_›
  | (rw [fc_none ha hb ‹_›]; rfl)
  | skip)
abbrev spc_failingCase (a : GAsn) (b : GAsn) : SpCode Bool := spR tab (lookF L_failingCase) (lookP P_failingCase) hp_failingCase (fun _ => none) (fun _ _ _ => none) (fun _ => []) Try.f78.ntmps 136 itPre itEn (ra_failingCase a b)
theorem spcok_failingCase (a : GAsn) (b : GAsn) (wE : World) (ro0 : Nat -> Option (Array Value)) (ρ : Nat) : SpcOk Fence.wide 0 Try.prog E (AC wE ro0 ρ) Try.f78.ntmps (spc_failingCase a b) :=
 spR_ok tabOk (kall_of (l := L_failingCase) ⟨ok_termsIn, ok_matchCase, trivial⟩) (pall_of (l := P_failingCase) ⟨ptok_possibleCases, trivial⟩) mix it_ok it_len it_run
theorem vcr_failingCase : ∀ x : Args c_failingCase.aks, c_failingCase.pre x -> vcY tab (lookF L_failingCase) (lookP P_failingCase) noSpB (spc_failingCase x.1 x.2.1) (fun b => !b) hp_failingCase (fun _ => none) (fun _ _ _ => none) (fun _ => []) (bodyOf Try.f78) (entry (encs c_failingCase.aks x) none) false (retR tab c_failingCase Try.f78.results.toList x) :=
 fun ⟨a, b, _⟩ hp => Eq.mp (by kernel_rfl) (vcn_failingCase a b 0 hp)
theorem ok_failingCase : FnOk Try.prog E 78 c_failingCase :=
 fnR_ok (con := c_failingCase) (fn := Try.f78) (l := L_failingCase) (lp := P_failingCase) (hp := hp_failingCase) (gcs := fun _ => none) (perm := fun _ => []) (spc := fun x => spc_failingCase x.1 x.2.1) (anns := fun x => (fun _ _ _ => none)) tabOk mix ⟨ok_termsIn, ok_matchCase, trivial⟩ ⟨ptok_possibleCases, trivial⟩ rfl Try.func78 rfl (by kernel_rfl) (by decide) (by kernel_rfl) (fun x _ => spcok_failingCase x.1 x.2.1) vcr_failingCase tot_fn
abbrev c_iEntails : Con := ⟨[.asn, .asn], [.bool], fun (a, b, _) => a.facts.length <= 281474976710656 /\ a.atoms.length <= 281474976710656 /\ b.facts.length <= 281474976710656 /\ b.atoms.length <= 281474976710656, .inl fun (a, b, _) => (ENT a b, ()), fun _ => 0⟩
abbrev L_iEntails : List (FuncId × Con) := [(33, c_iAssertionValid), (78, c_failingCase)]
abbrev P_iEntails : List (FuncId × PT) := []
def VC_iEntails_1 (a : GAsn) (b : GAsn) : Prop := True /\ (((false, ()) : Bool × Unit) = (ENT a b, ())) /\ True /\ True /\ True /\ True /\ TF
def VC_iEntails (a : GAsn) (b : GAsn) (k : Nat) : Prop := TN /\ TN /\ True /\ True /\ ((a.facts.length <= 281474976710656 /\ a.atoms.length <= 281474976710656) /\ True /\ True) /\ True /\ True /\ (vcIf (!(asV a)) (True /\ (VC_iEntails_1 a b)) (True /\ ((b.facts.length <= 281474976710656 /\ b.atoms.length <= 281474976710656) /\ True /\ True) /\ True /\ True /\ (vcIf (!(asV b)) (VC_iEntails_1 a b) (True /\ True /\ ((asV a = true /\ asV b = true) /\ True /\ True) /\ True /\ True /\ True /\ (TN /\ True) /\ ((((FC a b).headD (List.replicate 9 0)).length = (List.replicate 9 (0 : Int)).length) /\ TF /\ TF) /\ True /\ True /\ True /\ True /\ (((!(!(FC a b).isEmpty), ()) : Bool × Unit) = (ENT a b, ())) /\ True /\ True /\ True /\ True /\ TF))))
theorem vcn_iEntails (a : GAsn) (b : GAsn) (k : Nat) (hp : a.facts.length <= 281474976710656 /\ a.atoms.length <= 281474976710656 /\ b.facts.length <= 281474976710656 /\ b.atoms.length <= 281474976710656) : VC_iEntails a b k := by
 unfold VC_iEntails VC_iEntails_1
 simp only [cln, Nat.reduceEqDiff, Nat.reduceLeDiff, Nat.reduceAdd]
 all_goals (try simp only [opn])
 all_goals (repeat' (first | apply And.intro | intro _))
 all_goals (repeat (cases ‹_ /\ _›))
 all_goals (first | omega | rfl | assumption | exact (ent_no1 ‹_›).symm | exact (ent_no2 ‹_›).symm | (rw [ENT_FC ‹_› ‹_›, Bool.not_not]; done) | exact fc_len ‹_› ‹_› | skip)
theorem ok_iEntails : FnOk Try.prog E 31 c_iEntails :=
 fn_okQ (l := L_iEntails) (lp := P_iEntails) (hp := fun _ => false) (gcs := fun _ => none) (perm := fun _ => []) tabOk mix ⟨ok_iAssertionValid, ok_failingCase, trivial⟩ trivial Try.func31 rfl (by kernel_rfl) (by decide) (by kernel_rfl) (anns := fun x _ => fun _ _ => none) (fun ⟨a, b, _⟩ k hp _ => Eq.mp (by kernel_rfl) (vcn_iEntails a b k hp)) tot_fn
abbrev c_iEquivalent : Con := ⟨[.asn, .asn], [.bool], fun (a, b, _) => a.facts.length <= 281474976710656 /\ a.atoms.length <= 281474976710656 /\ b.facts.length <= 281474976710656 /\ b.atoms.length <= 281474976710656, .inl fun (a, b, _) => (ENT a b && ENT b a, ()), fun _ => 0⟩
abbrev L_iEquivalent : List (FuncId × Con) := [(31, c_iEntails)]
abbrev P_iEquivalent : List (FuncId × PT) := []
def VC_iEquivalent_1 (a : GAsn) (b : GAsn) : Prop := (a.facts.length <= 281474976710656 /\ a.atoms.length <= 281474976710656 /\ b.facts.length <= 281474976710656 /\ b.atoms.length <= 281474976710656) /\ True /\ True
def VC_iEquivalent (a : GAsn) (b : GAsn) (k : Nat) : Prop := TN /\ TN /\ True /\ True /\ True /\ (VC_iEquivalent_1 a b) /\ True /\ (vcIf (ENT a b) (True /\ True /\ (VC_iEquivalent_1 b a) /\ True /\ True /\ ((((ENT b a), ()) : Bool × Unit) = (ENT a b && ENT b a, ())) /\ True /\ True /\ True /\ True /\ TF) (True /\ True /\ (((false, ()) : Bool × Unit) = (ENT a b && ENT b a, ())) /\ True /\ True /\ True /\ True /\ TF))
theorem vcn_iEquivalent (a : GAsn) (b : GAsn) (k : Nat) (hp : a.facts.length <= 281474976710656 /\ a.atoms.length <= 281474976710656 /\ b.facts.length <= 281474976710656 /\ b.atoms.length <= 281474976710656) : VC_iEquivalent a b k := by
 unfold VC_iEquivalent VC_iEquivalent_1
 simp only [cln, Nat.reduceEqDiff, Nat.reduceLeDiff, Nat.reduceAdd]
 all_goals (try simp only [opn])
 all_goals (repeat' (first | apply And.intro | intro _))
 all_goals (repeat (cases ‹_ /\ _›))
 all_goals (first | omega | rfl | assumption | (simp_all; done) | skip)
theorem ok_iEquivalent : FnOk Try.prog E 38 c_iEquivalent :=
 fn_okQ (l := L_iEquivalent) (lp := P_iEquivalent) (hp := fun _ => false) (gcs := fun _ => none) (perm := fun _ => []) tabOk mix ⟨ok_iEntails, trivial⟩ trivial Try.func38 rfl (by kernel_rfl) (by decide) (by kernel_rfl) (anns := fun x _ => fun _ _ => none) (fun ⟨a, b, _⟩ k hp _ => Eq.mp (by kernel_rfl) (vcn_iEquivalent a b k hp)) tot_fn
abbrev c_FnEntailsReflexive : Con := ⟨[.sl .u8], [.bool], fun (code, _) => code.length <= 281474976710656, .inl fun (code, _) => (true, ()), fun _ => 0⟩
abbrev L_FnEntailsReflexive : List (FuncId × Con) := [(16, c_iNormalForm), (30, c_DrawEntails), (31, c_iEntails), (32, c_sEntails), (33, c_iAssertionValid), (38, c_iEquivalent)]
abbrev P_FnEntailsReflexive : List (FuncId × PT) := []
def an_FnEntailsReflexive (code : List UInt8) : Nat -> St -> Option Ann
 | 9, se => some { α := Nat, ok := fun i => i <= (slAt .atom se (.cell 63 1)).length, mu := fun i => (slAt .atom se (.cell 63 1)).length - i, i0 := fun _ => 0, nx := fun a _ => (fun i => i + 1) a, live := [2, 3, 5, 6], sets := fun i => [(7, sv (.int .i64 (((slAt .atom se (.cell 63 1)).length : Int) - 1 - (i : Int))))], mids := [63, 240, 241], blks := fun i => [(111, .blk [.own 240, .own 8])], owns := fun i => [⟨8, .cell 111 1, .atom, (slAt .atom se (.cell 63 1)).reverse.take i⟩], rd := fun r _ => r, base := 100000 }
 | _, _ => none
def VC_FnEntailsReflexive_1 (r1 : GAsn × GAsn × Unit) : Prop := (r1.1.facts.length <= 281474976710656 /\ r1.1.atoms.length <= 281474976710656 /\ r1.1.facts.length <= 281474976710656 /\ r1.1.atoms.length <= 281474976710656) /\ True /\ True
def VC_FnEntailsReflexive_2 (r1 : GAsn × GAsn × Unit) : Prop := (r1.1.facts.length <= 281474976710656 /\ r1.1.atoms.length <= 281474976710656) /\ True /\ True
def VC_FnEntailsReflexive_3  : Prop := True /\ True /\ (((false, ()) : Bool × Unit) = (true, ())) /\ True /\ True /\ True /\ True /\ TF
def VC_FnEntailsReflexive_4 (r1 : GAsn × GAsn × Unit) : Prop := True /\ True /\ True /\ (VC_FnEntailsReflexive_1 r1) /\ True /\ True /\ (vcIf ((ENT r1.1 r1.1) == (ENT r1.1 r1.1)) (True /\ True /\ (VC_FnEntailsReflexive_2 r1) /\ True /\ True /\ True /\ ((((ENT r1.1 r1.1) == (asV r1.1), ()) : Bool × Unit) = (true, ())) /\ True /\ True /\ True /\ True /\ TF) VC_FnEntailsReflexive_3)
def VC_FnEntailsReflexive_5 (r1 : GAsn × GAsn × Unit) : Prop := RL [.s (.c (.d (.val (.bool false)))), .s (.c (.ptr 63 0)), .s (.c (.d (.val (.bool (ENT r1.1 r1.1))))), .s (.c (.ptr 111 0))]
def VC_FnEntailsReflexive_6 (r1 : GAsn × GAsn × Unit) : Prop := RM [some (.blk [.own 240, .own 241]), some (.sl 240 .fact r1.1.facts), some (.sl 241 .atom r1.1.atoms)]
def VC_FnEntailsReflexive_7  : Prop := True /\ True /\ VC_FnEntailsReflexive_3
def VC_FnEntailsReflexive_8 (r1 : GAsn × GAsn × Unit) : Prop := (True /\ True /\ (TN /\ TN /\ True) /\ (TN /\ TN /\ TN /\ True) /\ (TF /\ TF) /\ True /\ True /\ True /\ (inK .i64 (((r1.1.atoms.length : Nat) : Int) - (1 : Int))) /\ True /\ ((0 <= (r1.1.atoms).length) /\ TT /\ (VC_FnEntailsReflexive_5 r1) /\ (([.s (.c (.d (.val (.int .i64 (((r1.1.atoms.length : Nat) : Int) - (1 : Int))))))] : List S) = [.s (.c (.d (.val (.int .i64 (((r1.1.atoms).length : Int) - 1 - (0 : Int) : Int)))))]) /\ (VC_FnEntailsReflexive_6 r1) /\ (RM [some (.blk [.own 240, .own 705])]) /\ (((some ([] : List GAtom) : Option (List GAtom)) = some ((r1.1.atoms).reverse.take 0)) /\ True) /\ TT) /\ (∀ i2 : Nat, (i2 <= (r1.1.atoms).length) -> True /\ True /\ (vcIf (decide ((0 : Int) <= (((r1.1.atoms).length : Int) - 1 - (i2 : Int) : Int))) (True /\ True /\ True /\ True /\ True /\ (0 <= (((r1.1.atoms).length : Int) - 1 - (i2 : Int) : Int) /\ (((r1.1.atoms).length : Int) - 1 - (i2 : Int) : Int) < ((r1.1.atoms.length : Nat) : Int)) /\ True /\ (TN /\ True) /\ (TN /\ TF /\ TF /\ (((r1.1.atoms).reverse.take i2).length + ([(r1.1.atoms.getD (((r1.1.atoms).length : Int) - 1 - (i2 : Int) : Int).toNat (⟨0, 0, 0⟩ : GAtom))] : List GAtom).length <= 4294967296)) /\ True /\ (TF /\ TF) /\ True /\ (inK .i64 ((((r1.1.atoms).length : Int) - 1 - (i2 : Int) : Int) - (1 : Int))) /\ True /\ ((i2 + 1) <= (r1.1.atoms).length) /\ ((r1.1.atoms).length - (i2 + 1) < (r1.1.atoms).length - i2) /\ TT /\ (VC_FnEntailsReflexive_5 r1) /\ (([.s (.c (.d (.val (.int .i64 ((((r1.1.atoms).length : Int) - 1 - (i2 : Int) : Int) - (1 : Int))))))] : List S) = [.s (.c (.d (.val (.int .i64 (((r1.1.atoms).length : Int) - 1 - ((i2 + 1) : Int) : Int)))))]) /\ (VC_FnEntailsReflexive_6 r1) /\ (RM [some (.blk [.own 240, .own 100976])]) /\ (((some (((r1.1.atoms).reverse.take i2) ++ ([(r1.1.atoms.getD (((r1.1.atoms).length : Int) - 1 - (i2 : Int) : Int).toNat (⟨0, 0, 0⟩ : GAtom))] : List GAtom)) : Option (List GAtom)) = some ((r1.1.atoms).reverse.take (i2 + 1))) /\ True) /\ TT) (True /\ ((r1.1.facts.length <= 281474976710656 /\ r1.1.atoms.length <= 281474976710656) /\ True /\ TN /\ TN /\ True) /\ True /\ True /\ True /\ (TN /\ TN /\ TN /\ True) /\ (TF /\ TF) /\ True /\ True /\ True /\ (vcIf (ENT r1.1 r1.1) (True /\ True /\ ((r1.1.facts.length <= 281474976710656 /\ r1.1.atoms.length <= 281474976710656 /\ (⟨r1.1.facts, (r1.1.atoms).reverse.take i2⟩ : GAsn).facts.length <= 281474976710656 /\ (⟨r1.1.facts, (r1.1.atoms).reverse.take i2⟩ : GAsn).atoms.length <= 281474976710656) /\ True /\ True) /\ True /\ True /\ (vcIf (ENT r1.1 (⟨r1.1.facts, (r1.1.atoms).reverse.take i2⟩ : GAsn) && ENT (⟨r1.1.facts, (r1.1.atoms).reverse.take i2⟩ : GAsn) r1.1) (True /\ True /\ True /\ (vcIf (asV r1.1) (True /\ True /\ ((r1.1.facts.length <= 281474976710656 /\ r1.1.atoms.length <= 281474976710656 /\ (nfL r1.1).facts.length <= 281474976710656 /\ (nfL r1.1).atoms.length <= 281474976710656) /\ True /\ True) /\ True /\ True /\ ((((ENT r1.1 (nfL r1.1) && ENT (nfL r1.1) r1.1), ()) : Bool × Unit) = (true, ())) /\ True /\ True /\ True /\ True /\ TF) VC_FnEntailsReflexive_3)) VC_FnEntailsReflexive_7)) (True /\ True /\ VC_FnEntailsReflexive_7))))))
def VC_FnEntailsReflexive (code : List UInt8) (k : Nat) : Prop := True /\ True /\ True /\ True /\ (vcIf (decide ((1048576 : Int) < ((code.length : Nat) : Int))) (True /\ (((true, ()) : Bool × Unit) = (true, ())) /\ True /\ True /\ True /\ True /\ TF) (True /\ (True /\ True /\ TN /\ TN /\ TN /\ TN /\ True) /\ (∀ r1 : GAsn × GAsn × Unit, (r1.1.facts.length <= 40 /\ r1.1.atoms.length <= 40 /\ r1.2.1.facts.length <= 40 /\ r1.2.1.atoms.length <= 40) -> True /\ True /\ True /\ (TN /\ TN /\ TN /\ True) /\ (TN /\ TN /\ TN /\ True) /\ (TF /\ TF) /\ (TF /\ TF) /\ True /\ True /\ (VC_FnEntailsReflexive_1 r1) /\ True /\ True /\ True /\ True /\ (VC_FnEntailsReflexive_1 r1) /\ True /\ True /\ (vcIf ((ENT r1.1 r1.1) != (ENT r1.1 r1.1)) (True /\ (VC_FnEntailsReflexive_4 r1)) (True /\ (VC_FnEntailsReflexive_2 r1) /\ True /\ True /\ (vcIf (!(asV r1.1)) (VC_FnEntailsReflexive_4 r1) (VC_FnEntailsReflexive_8 r1)))))))
theorem vcn_FnEntailsReflexive (code : List UInt8) (k : Nat) (hp : code.length <= 281474976710656) : VC_FnEntailsReflexive code k := by
 unfold VC_FnEntailsReflexive VC_FnEntailsReflexive_8 VC_FnEntailsReflexive_7 VC_FnEntailsReflexive_6 VC_FnEntailsReflexive_5 VC_FnEntailsReflexive_4 VC_FnEntailsReflexive_3 VC_FnEntailsReflexive_2 VC_FnEntailsReflexive_1
 simp only [cln, Nat.reduceEqDiff, Nat.reduceLeDiff, Nat.reduceAdd, bne_self_eq_false, beq_self_eq_true, decide_true, eq_self, Bool.not_true, Bool.not_false, vcIf_true, vcIf_false, Bool.false_and, Bool.true_and, Bool.or_false, Bool.or_true]
 all_goals (try simp only [opn])
 all_goals (repeat' (first | apply And.intro | intro _))
 all_goals (repeat (cases ‹_ /\ _›))
 all_goals (first | trivial | (exfalso; contradiction) | omega | with_reducible assumption | with_reducible rfl | skip)
 all_goals (first
  | (with_reducible refine Nat.le_trans (m := 200) ?_ (by decide); first
   | with_reducible exact starL_one (by omega) | with_reducible exact starL_oneA (by omega)
   | with_reducible exact starL_bdF (by omega) (by omega) | with_reducible exact starL_bdA (by omega) (by omega)
   | with_reducible exact sub1F (by omega) | with_reducible exact sub1A (by omega)
   | with_reducible exact subL200F (by omega) | with_reducible exact subL200A (by omega)
   | with_reducible exact nf200F (by omega) | with_reducible exact nf200A (by omega)
   | with_reducible exact md200V | with_reducible exact md200H | with_reducible exact rev200 (by omega)
   | with_reducible exact fc200F (by omega) | with_reducible exact fc200A (by omega))
  | with_reducible exact (en_cons ‹_› ‹_› ‹_›).elim | with_reducible exact (en_none ‹_› ‹_› ‹_› ‹_›).elim
  | with_reducible exact en_star ‹_› ‹_› ‹_›
  | with_reducible exact en_fact1 ‹_› ‹_› ‹_› | with_reducible exact en_fact0 ‹_› ‹_› ‹_›
  | with_reducible exact en_sub ‹_› ‹_› ‹_›
  | with_reducible exact en_refl | with_reducible exact (en_refl0 ‹_› ‹_›).elim
  | with_reducible exact rev_step ‹_› | with_reducible exact (rev_no ‹_› ‹_› ‹_›).elim
  | with_reducible exact en_nf ‹_›
  | with_reducible exact ent_hol ‹_› ‹_› | with_reducible exact (en_mdN ‹_› ‹_› ‹_›).elim
  | (simp_all; done)
  | skip)
theorem ok_FnEntailsReflexive : FnOk Try.prog E 8 c_FnEntailsReflexive :=
 fn_okQ (l := L_FnEntailsReflexive) (lp := P_FnEntailsReflexive) (hp := fun _ => false) (gcs := fun _ => none) (perm := fun _ => []) tabOk mix ⟨ok_iNormalForm, ok_DrawEntails, ok_iEntails, ok_sEntails, ok_iAssertionValid, ok_iEquivalent, trivial⟩ trivial Try.func8 rfl (by kernel_rfl) (by decide) (by kernel_rfl) (anns := fun x _ => an_FnEntailsReflexive x.1) (fun ⟨code, _⟩ k hp _ => Eq.mp (by kernel_rfl) (vcn_FnEntailsReflexive code k hp)) tot_fn
end Go.Proofs.Ytfoioficiffgkaa
