/-
  Contracts of single functions of the program, each shown by the engine: what a call returns for arguments within the contract's bounds.
-/
import Derived.Test.YtfoioficiffgkaaFFnEntailsTransitivea
import Derived.Test.YtfoioficiffgkaaFFnEntailsTransitived
import Derived.Test.YtfoioficiffgkaaFFnEntailsTransitivee
import Derived.Test.YtfoioficiffgkaaEd
import Derived.Test.YtfoioficiffgkaaEe
import Derived.Test.YtfoioficiffgkaaEf
set_option linter.unusedSimpArgs false
set_option linter.unusedVariables false
set_option linter.unusedSectionVars false

namespace Go.Proofs.Ytfoioficiffgkaa
open Go.SE Go.RowKit
set_option linter.unusedSimpArgs false
set_option linter.unusedVariables false
set_option maxHeartbeats 1000000
set_option maxRecDepth 100000
abbrev c_possible : Con := ⟨[.pkase, .asn, .int], [.bool], fun (c, a, last, _) => c.length = 9 /\ asV a = true /\ 0 <= last /\ last <= 8, .inl fun (c, a, last, _) => (possI a c last, ()), fun _ => 0⟩
abbrev L_possible : List (FuncId × Con) := [(87, c_tsWith), (88, c_factHolds), (128, c_tsHas), (150, c_isFilled)]
abbrev P_possible : List (FuncId × PT) := []
def an_possible (c : List Int) (a : GAsn) (last : Int) : Nat -> St -> Option Ann
 | 2, se => some { α := Nat, ok := fun i => i <= a.facts.length /\ possF c last (a.facts.take i) = true, mu := fun i => a.facts.length - i, i0 := fun _ => 0, nx := fun a _ => (fun i => i + 1) a, live := [0, 2, 4, 13, 14], sets := fun i => [(15, sv (.int .i64 i))], mids := [79], blks := fun i => [], owns := fun i => [], rd := fun r _ => r, base := 100000 }
 | 9, se => some { α := Nat, ok := fun i => i <= a.atoms.length /\ possF c last a.facts = true /\ okS [] (sts c last (a.atoms.take i)) = true, mu := fun i => a.atoms.length - i, i0 := fun _ => 0, nx := fun a _ => (fun i => i + 1) a, live := [0, 2, 37, 38], sets := fun i => [(39, sv (.int .i64 i)), (9, sv (.int .u16 (maskS (sts c last (a.atoms.take i)))))], mids := [], blks := fun i => [], owns := fun i => [], rd := fun r _ => r, base := 200000 }
 | _, _ => none
def VC_possible_1 (c : List Int) (last : Int) (a : GAsn) : Prop := RL [.s (.c (.rv .int c)), .s (.c (.d (.val (.int .i64 last)))), .s (.c (.ptr 79 0)), .s (.c (.d (.arr .fact a.facts))), .s (.c (.d (.val (.int .i64 ((a.facts.length : Nat) : Int)))))]
def VC_possible_2 (a : GAsn) : Prop := (RM [some (.blk [.d (.arr .fact a.facts), .d (.arr .atom a.atoms)])]) /\ (RM []) /\ True /\ TT
def VC_possible_3 (a : GAsn) (c : List Int) (last : Int) : Prop := True /\ (((false, ()) : Bool × Unit) = (possI a c last, ())) /\ True /\ True /\ True /\ True /\ TF
def VC_possible_4 (i1 : Nat) (a : GAsn) (c : List Int) (last : Int) : Prop := (inK .i64 (((i1 : Nat) : Int) + (1 : Int))) /\ True /\ ((i1 + 1) <= a.facts.length /\ possF c last (a.facts.take (i1 + 1)) = true) /\ (a.facts.length - (i1 + 1) < a.facts.length - i1) /\ TT /\ (VC_possible_1 c last a) /\ (([.s (.c (.d (.val (.int .i64 (((i1 : Nat) : Int) + (1 : Int))))))] : List S) = [.s (.c (.d (.val (.int .i64 (((i1 + 1) : Nat) : Int)))))]) /\ (VC_possible_2 a)
def VC_possible_5 (i1 : Nat) (a : GAsn) (c : List Int) (last : Int) : Prop := True /\ (VC_possible_4 i1 a c last)
def VC_possible_6 (c : List Int) (last : Int) (a : GAsn) : Prop := RL [.s (.c (.rv .int c)), .s (.c (.d (.val (.int .i64 last)))), .s (.c (.d (.arr .atom a.atoms))), .s (.c (.d (.val (.int .i64 ((a.atoms.length : Nat) : Int)))))]
def VC_possible_7 (i2 : Nat) (a : GAsn) (c : List Int) (last : Int) : Prop := (i2 + 1) <= a.atoms.length /\ possF c last a.facts = true /\ okS [] (sts c last (a.atoms.take (i2 + 1))) = true
def VC_possible_8 (i2 : Nat) (a : GAsn) (c : List Int) (last : Int) : Prop := (inK .i64 (((i2 : Nat) : Int) + (1 : Int))) /\ True /\ (VC_possible_7 i2 a c last) /\ (a.atoms.length - (i2 + 1) < a.atoms.length - i2) /\ TT /\ (VC_possible_6 c last a) /\ (([.s (.c (.d (.val (.int .i64 (((i2 : Nat) : Int) + (1 : Int)))))), .s (.c (.d (.val (.int .u16 (maskS (sts c last (a.atoms.take i2)) : Int)))))] : List S) = [.s (.c (.d (.val (.int .i64 (((i2 + 1) : Nat) : Int))))), .s (.c (.d (.val (.int .u16 (maskS (sts c last (a.atoms.take (i2 + 1))) : Int)))))]) /\ (RM []) /\ (RM []) /\ True /\ TT
def VC_possible_9 (i2 : Nat) (a : GAsn) (c : List Int) (last : Int) : Prop := True /\ (VC_possible_8 i2 a c last)
def VC_possible_10 (a : GAsn) (i2 : Nat) (c : List Int) : Prop := 0 <= ((a.atoms.getD i2 (⟨0, 0, 0⟩ : GAtom)).a) /\ ((a.atoms.getD i2 (⟨0, 0, 0⟩ : GAtom)).a) < ((9 : Nat) : Int) /\ c.length = 9
def VC_possible_11 (c : List Int) (last : Int) (a : GAsn) (i2 : Nat) : Prop := (0 <= (maskS (sts c last (a.atoms.take i2)) : Int) /\ (maskS (sts c last (a.atoms.take i2)) : Int) < 512) /\ True /\ True
def VC_possible_12 (i1 : Nat) (a : GAsn) (last : Int) (c : List Int) : Prop := (True /\ (vcIf (decide (((i1 : Nat) : Int) < ((a.facts.length : Nat) : Int))) ((0 <= ((i1 : Nat) : Int) /\ ((i1 : Nat) : Int) < ((a.facts.length : Nat) : Int)) /\ True /\ (TN /\ True) /\ (TF /\ TF) /\ True /\ True /\ True /\ True /\ True /\ (vcIf (decide (((a.facts.getD i1 (⟨false, 0, 0⟩ : GFact)).a) <= last)) (True /\ True /\ True /\ True /\ True /\ True /\ (vcIf (decide (((a.facts.getD i1 (⟨false, 0, 0⟩ : GFact)).b) <= last)) (True /\ True /\ ((c.length = 9 /\ fV (a.facts.getD i1 (⟨false, 0, 0⟩ : GFact)) = true) /\ True /\ True) /\ True /\ True /\ (vcIf (!(fh c (a.facts.getD i1 (⟨false, 0, 0⟩ : GFact)))) (VC_possible_3 a c last) (VC_possible_4 i1 a c last))) (VC_possible_5 i1 a c last))) (True /\ True /\ (VC_possible_5 i1 a c last)))) (True /\ True /\ True /\ True /\ True /\ ((0 <= a.atoms.length /\ possF c last a.facts = true /\ okS [] (sts c last (a.atoms.take 0)) = true) /\ TT /\ (VC_possible_6 c last a) /\ (([.s (.c (.d (.val (.int .i64 (0 : Int))))), .s (.c (.d (.val (.int .u16 (0 : Int)))))] : List S) = [.s (.c (.d (.val (.int .i64 ((0 : Nat) : Int))))), .s (.c (.d (.val (.int .u16 (maskS (sts c last (a.atoms.take 0)) : Int)))))]) /\ (RM []) /\ (RM []) /\ True /\ TT) /\ (∀ i2 : Nat, (i2 <= a.atoms.length /\ possF c last a.facts = true /\ okS [] (sts c last (a.atoms.take i2)) = true) -> True /\ (vcIf (decide (((i2 : Nat) : Int) < ((a.atoms.length : Nat) : Int))) ((0 <= ((i2 : Nat) : Int) /\ ((i2 : Nat) : Int) < ((a.atoms.length : Nat) : Int)) /\ True /\ (TN /\ True) /\ (TF /\ TF) /\ True /\ True /\ True /\ True /\ True /\ (vcIf (decide (last < ((a.atoms.getD i2 (⟨0, 0, 0⟩ : GAtom)).a))) (True /\ True /\ (VC_possible_9 i2 a c last)) (True /\ True /\ True /\ True /\ True /\ True /\ (vcIf (decide (last < ((a.atoms.getD i2 (⟨0, 0, 0⟩ : GAtom)).b))) (VC_possible_9 i2 a c last) (True /\ True /\ ((c.length = 9 /\ atV (a.atoms.getD i2 (⟨0, 0, 0⟩ : GAtom)) = true) /\ True /\ True) /\ True /\ True /\ (vcIf (!(filB c (a.atoms.getD i2 (⟨0, 0, 0⟩ : GAtom)))) (VC_possible_8 i2 a c last) (True /\ True /\ True /\ True /\ (VC_possible_10 a i2 c) /\ True /\ True /\ True /\ (vcIf ((c.getD ((a.atoms.getD i2 (⟨0, 0, 0⟩ : GAtom)).a).toNat (0 : Int)) == (0 : Int)) (True /\ (VC_possible_3 a c last)) (True /\ True /\ True /\ True /\ True /\ (VC_possible_10 a i2 c) /\ True /\ (VC_possible_11 c last a i2) /\ True /\ (vcIf (tsHas (maskS (sts c last (a.atoms.take i2)) : Int) (c.getD ((a.atoms.getD i2 (⟨0, 0, 0⟩ : GAtom)).a).toNat (0 : Int))) (VC_possible_3 a c last) (True /\ True /\ True /\ True /\ True /\ (VC_possible_10 a i2 c) /\ True /\ (VC_possible_11 c last a i2) /\ True /\ (inK .i64 (((i2 : Nat) : Int) + (1 : Int))) /\ True /\ (VC_possible_7 i2 a c last) /\ (a.atoms.length - (i2 + 1) < a.atoms.length - i2) /\ TT /\ (VC_possible_6 c last a) /\ (([.s (.c (.d (.val (.int .i64 (((i2 : Nat) : Int) + (1 : Int)))))), .s (.c (.d (.val (.int .u16 (tsWith (maskS (sts c last (a.atoms.take i2)) : Int) (c.getD ((a.atoms.getD i2 (⟨0, 0, 0⟩ : GAtom)).a).toNat (0 : Int)))))))] : List S) = [.s (.c (.d (.val (.int .i64 (((i2 + 1) : Nat) : Int))))), .s (.c (.d (.val (.int .u16 (maskS (sts c last (a.atoms.take (i2 + 1))) : Int)))))]) /\ (RM []) /\ (RM []) /\ True /\ TT))))))))))) (True /\ (((true, ()) : Bool × Unit) = (possI a c last, ())) /\ True /\ True /\ True /\ True /\ TF))))))
def VC_possible (c : List Int) (a : GAsn) (last : Int) (k : Nat) : Prop := TN /\ True /\ True /\ True /\ True /\ True /\ ((0 <= a.facts.length /\ possF c last (a.facts.take 0) = true) /\ TT /\ (VC_possible_1 c last a) /\ (([.s (.c (.d (.val (.int .i64 (0 : Int)))))] : List S) = [.s (.c (.d (.val (.int .i64 ((0 : Nat) : Int)))))]) /\ (VC_possible_2 a)) /\ (∀ i1 : Nat, (i1 <= a.facts.length /\ possF c last (a.facts.take i1) = true) -> (VC_possible_12 i1 a last c))
theorem vcn_possible (c : List Int) (a : GAsn) (last : Int) (k : Nat) (hp : c.length = 9 /\ asV a = true /\ 0 <= last /\ last <= 8) : VC_possible c a last k := by
 unfold VC_possible VC_possible_12 VC_possible_11 VC_possible_10 VC_possible_9 VC_possible_8 VC_possible_7 VC_possible_6 VC_possible_5 VC_possible_4 VC_possible_3 VC_possible_2 VC_possible_1
 simp only [cln, Nat.reduceEqDiff, Nat.reduceLeDiff, Nat.reduceAdd]
 have hF := asV_facts hp.2.1
 have hX := fun i (h : i < a.atoms.length) => isT_iff.1 (asV_atom (d := ⟨0, 0, 0⟩) hp.2.1 h).1
 have hM := fun i => maskS_bd (sts c last (a.atoms.take i))
 all_goals (try simp only [opn])
 all_goals (repeat' (first | apply And.intro | intro _))
 all_goals (repeat (cases ‹_ /\ _›))
 all_goals (first | omega | rfl | assumption | (simp_all; done) | (exact (hX _ ‹_›).1) | (exact (hM _).1) | (exact (hM _).2) | (symm; exact possI_noF ‹_› ‹_› ‹_› ‹_›) | (rw [possF_step (d := ⟨false, 0, 0⟩) ‹_›]; simp_all; done) | (rw [possF_step (d := ⟨false, 0, 0⟩) ‹_›]; simp_all; omega) | (rw [← take_full (l := a.facts) ‹_›]; assumption) | (rw [sts_skip (c := c) (last := last) (l := a.atoms) (d := ⟨0, 0, 0⟩) ‹_› (by simp only [stB, Bool.and_eq_false_iff, decide_eq_false_iff_not]; first | (left; left; omega) | (left; right; omega) | (right; assumption))]; done) | (rw [sts_skip (c := c) (last := last) (l := a.atoms) (d := ⟨0, 0, 0⟩) ‹_› (by simp only [stB, Bool.and_eq_false_iff, decide_eq_false_iff_not]; first | (left; left; omega) | (left; right; omega) | (right; assumption))]; assumption) | (rw [take_full (l := a.atoms) ‹_›] at *; simp_all [possI]; done) | skip)
 all_goals (have hS := fun (j : Nat) (h1 : ¬ last < (a.atoms.getD j ⟨0, 0, 0⟩).a) (h2 : ¬ last < (a.atoms.getD j ⟨0, 0, 0⟩).b) (h3 : filB c (a.atoms.getD j ⟨0, 0, 0⟩) = true) => show stB c last (a.atoms.getD j ⟨0, 0, 0⟩) = true by (simp only [stB, Bool.and_eq_true, decide_eq_true_eq]; exact ⟨⟨by omega, by omega⟩, by assumption⟩))
 all_goals (first | (symm; exact possI_noA ‹_› (hS _ ‹_› ‹_› ‹_›) (.inl ‹_›)) | (symm; exact possI_noA ‹_› (hS _ ‹_› ‹_› ‹_›) (.inr ‹_›)) | (exact (okS_step ‹_› ‹_› (hS _ ‹_› ‹_› ‹_›) ‹_› ‹_›).1) | (exact (okS_step ‹_› ‹_› (hS _ ‹_› ‹_› ‹_›) ‹_› ‹_›).2.symm) | skip)
theorem ok_possible : FnOk Try.prog E 129 c_possible :=
 fn_okQ (l := L_possible) (lp := P_possible) (hp := fun _ => false) (gcs := fun _ => none) (perm := fun _ => []) tabOk mix ⟨ok_tsWith, ok_factHolds, ok_tsHas, ok_isFilled, trivial⟩ trivial Try.func129 rfl (by kernel_rfl) (by decide) (by kernel_rfl) (anns := fun x _ => an_possible x.1 x.2.1 x.2.2.1) (fun ⟨c, a, last, _⟩ k hp _ => Eq.mp (by kernel_rfl) (vcn_possible c a last k hp)) tot_fn
abbrev L_ext : List (FuncId × Con) := [(128, c_tsHas), (129, c_possible)]
def an_ext (a : GAsn) (tm : Int) (go : List Int -> Bool) (T : CG) (l : Nat) (t t' : Int) (en en' : List Int -> CG) (c : List Int) (γ : CG) : Nat -> St -> CG -> Option (AnnY CG)
 | 7, st0, GM => some ⟨{ α := Nat × List Int, ok := fun p => p.1 <= t.toNat + 1 /\ p.2.length = 9 /\ (∀ x : Int, p.2.set t.toNat x = c.set t.toNat x) /\ ((List.range p.1).flatMap (brC (poss a) en t.toNat c)).all go = true, mu := fun p => t.toNat + 1 - p.1, i0 := fun _ => (0, c), nx := fun p st => (p.1 + 1, vecAt st 95), live := [1, 3, 4, 5, 7], sets := fun p => [(11, sv (.int .i64 p.1))], mids := [127], blks := fun p => [(95, .vec .int p.2)], owns := fun p => [], rd := fun r _ => r, base := 100000 }, fun p => GM ++ (List.range p.1).flatMap (brC (poss a) en t.toNat c)⟩
 | _, _, _ => none
def hp_ext : Nat -> Bool
 | 2 => true
 | 5 => true
 | 11 => true
 | _ => false
def VC_ext_1 (t : Int) (tm : Int) (l : Nat) : Prop := RL [.s (.c (.d (.val (.int .i64 t)))), .s (.c (.d (.val (.int .u16 tm)))), .s (.c (.d (.val (yV l)))), .s (.c (.ptr 95 0)), .s (.c (.ptr 127 0))]
def VC_ext_2 (p1 : Nat × List Int) (t : Int) (c : List Int) (a : GAsn) (en : List Int -> CG) (go : List Int -> Bool) : Prop := (p1.1 + 1, (p1.2.set t.toNat (p1.1 : Int))).1 <= t.toNat + 1 /\ (p1.1 + 1, (p1.2.set t.toNat (p1.1 : Int))).2.length = 9 /\ (∀ x : Int, (p1.1 + 1, (p1.2.set t.toNat (p1.1 : Int))).2.set t.toNat x = c.set t.toNat x) /\ ((List.range (p1.1 + 1, (p1.2.set t.toNat (p1.1 : Int))).1).flatMap (brC (poss a) en t.toNat c)).all go = true
def VC_ext_3 (t : Int) (p1 : Nat × List Int) (tm : Int) (l : Nat) (a : GAsn) : Prop := (t.toNat + 1 - (p1.1 + 1, (p1.2.set t.toNat (p1.1 : Int))).1 < t.toNat + 1 - p1.1) /\ TT /\ (VC_ext_1 t tm l) /\ (([.s (.c (.d (.val (.int .i64 ((p1.1 : Int) + (1 : Int))))))] : List S) = [.s (.c (.d (.val (.int .i64 ((p1.1 + 1, (p1.2.set t.toNat (p1.1 : Int))).1 : Int)))))]) /\ (RM [some (.blk [.d (.arr .fact a.facts), .d (.arr .atom a.atoms)])]) /\ (([some (.vec .int (p1.2.set t.toNat (p1.1 : Int)))] : List (Option Res)) = [some (.vec .int ((p1.1 + 1, (p1.2.set t.toNat (p1.1 : Int))).2))]) /\ True /\ TT
def VC_ext_4 (t : Int) (p1 : Nat × List Int) (a : GAsn) (t' : Int) (tm : Int) (l : Nat) (γ : CG) (en : List Int -> CG) (c : List Int) (go : List Int -> Bool) (T : CG) (en' : List Int -> CG) : Prop := TT /\ True /\ True /\ (0 <= t /\ t < ((9 : Nat) : Int) /\ p1.2.length = 9) /\ (TF /\ TF /\ True) /\ TT /\ True /\ True /\ (((p1.2.set t.toNat (p1.1 : Int)).length = 9 /\ asV a = true /\ 0 <= t /\ t <= 8) /\ True /\ True) /\ True /\ (vcIf (possI a (p1.2.set t.toNat (p1.1 : Int)) t) ((9 = (p1.2.set t.toNat (p1.1 : Int)).length * 1) /\ True /\ (inK .i64 (t + (1 : Int))) /\ True /\ True /\ True /\ (((none : Option Nat) = none) /\ ((p1.2.set t.toNat (p1.1 : Int)).length = 9) /\ ((t + (1 : Int)) = t') /\ (a.facts = a.facts) /\ (a.atoms = a.atoms) /\ (tm = tm) /\ ((yV l : Value) = yV l) /\ ((γ ++ (List.range p1.1).flatMap (brC (poss a) en t.toNat c)).all go = true) /\ (((γ ++ (List.range p1.1).flatMap (brC (poss a) en t.toNat c)) ++ en (p1.2.set t.toNat (p1.1 : Int))) <+: T)) /\ True /\ True /\ (vcIf (!((en (p1.2.set t.toNat (p1.1 : Int))).all go)) (TT /\ True /\ ((none : Option Nat) = none) /\ (false = (en' c).all go) /\ ((γ ++ (List.range p1.1).flatMap (brC (poss a) en t.toNat c) ++ upTo go (en (p1.2.set t.toNat (p1.1 : Int))) : CG) = γ ++ upTo go (en' c))) (TT /\ True /\ (inK .i64 ((p1.1 : Int) + (1 : Int))) /\ True /\ (VC_ext_2 p1 t c a en go) /\ ((γ ++ (List.range (p1.1 + 1, (p1.2.set t.toNat (p1.1 : Int))).1).flatMap (brC (poss a) en t.toNat c) : CG) = γ ++ (List.range p1.1).flatMap (brC (poss a) en t.toNat c) ++ upTo go (en (p1.2.set t.toNat (p1.1 : Int)))) /\ (VC_ext_3 t p1 tm l a)))) (True /\ TT /\ True /\ (inK .i64 ((p1.1 : Int) + (1 : Int))) /\ True /\ (VC_ext_2 p1 t c a en go) /\ ((γ ++ (List.range (p1.1 + 1, (p1.2.set t.toNat (p1.1 : Int))).1).flatMap (brC (poss a) en t.toNat c) : CG) = γ ++ (List.range p1.1).flatMap (brC (poss a) en t.toNat c)) /\ (VC_ext_3 t p1 tm l a)))
def VC_ext_5 (t : Int) (c : List Int) (l : Nat) (γ : CG) (go : List Int -> Bool) (T : CG) (en' : List Int -> CG) (tm : Int) (t' : Int) (a : GAsn) (en : List Int -> CG) : Prop := (True /\ (vcIf (decide ((8 : Int) < t)) (TT /\ True /\ (9 = c.length * 1) /\ (((none : Option Nat) = none) /\ ((.s (.c (.d (.val (yV l)))) : S) = .s (.c (.d (.val (yV l))))) /\ (γ.all go = true) /\ ((γ ++ [c]) <+: T)) /\ True /\ ((none : Option Nat) = none) /\ ((go c) = (en' c).all go) /\ ((γ ++ [c] : CG) = γ ++ upTo go (en' c))) (TT /\ True /\ True /\ ((0 <= tm /\ tm < 512) /\ True /\ True) /\ True /\ (vcIf (!(tsHas tm t)) (TT /\ True /\ (0 <= t /\ t < ((9 : Nat) : Int) /\ c.length = 9) /\ (TF /\ TF /\ True) /\ TT /\ (9 = (c.set t.toNat (-1 : Int)).length * 1) /\ True /\ (inK .i64 (t + (1 : Int))) /\ True /\ True /\ True /\ (((none : Option Nat) = none) /\ ((c.set t.toNat (-1 : Int)).length = 9) /\ ((t + (1 : Int)) = t') /\ (a.facts = a.facts) /\ (a.atoms = a.atoms) /\ (tm = tm) /\ ((yV l : Value) = yV l) /\ (γ.all go = true) /\ ((γ ++ en (c.set t.toNat (-1 : Int))) <+: T)) /\ True /\ ((none : Option Nat) = none) /\ (((en (c.set t.toNat (-1 : Int))).all go) = (en' c).all go) /\ ((γ ++ upTo go (en (c.set t.toNat (-1 : Int))) : CG) = γ ++ upTo go (en' c))) (TT /\ True /\ (((0, c).1 <= t.toNat + 1 /\ (0, c).2.length = 9 /\ (∀ x : Int, (0, c).2.set t.toNat x = c.set t.toNat x) /\ ((List.range (0, c).1).flatMap (brC (poss a) en t.toNat c)).all go = true) /\ ((γ ++ (List.range (0, c).1).flatMap (brC (poss a) en t.toNat c) : CG) = γ) /\ TT /\ (VC_ext_1 t tm l) /\ (([.s (.c (.d (.val (.int .i64 (0 : Int)))))] : List S) = [.s (.c (.d (.val (.int .i64 ((0, c).1 : Int)))))]) /\ (RM [some (.blk [.d (.arr .fact a.facts), .d (.arr .atom a.atoms)])]) /\ (([some (.vec .int c)] : List (Option Res)) = [some (.vec .int ((0, c).2))]) /\ True /\ TT) /\ (∀ p1 : Nat × List Int, (p1.1 <= t.toNat + 1 /\ p1.2.length = 9 /\ (∀ x : Int, p1.2.set t.toNat x = c.set t.toNat x) /\ ((List.range p1.1).flatMap (brC (poss a) en t.toNat c)).all go = true) -> TT /\ True /\ True /\ True /\ (vcIf (decide ((p1.1 : Int) <= t)) (TT /\ True /\ True /\ True /\ True /\ (vcIf (decide ((p1.1 : Int) < t)) (True /\ (0 <= (p1.1 : Int) /\ (p1.1 : Int) < ((9 : Nat) : Int) /\ p1.2.length = 9) /\ True /\ True /\ True /\ True /\ (vcIf ((p1.2.getD (p1.1 : Int).toNat (0 : Int)) != (p1.1 : Int)) (TT /\ True /\ (inK .i64 ((p1.1 : Int) + (1 : Int))) /\ True /\ ((p1.1 + 1, p1.2).1 <= t.toNat + 1 /\ (p1.1 + 1, p1.2).2.length = 9 /\ (∀ x : Int, (p1.1 + 1, p1.2).2.set t.toNat x = c.set t.toNat x) /\ ((List.range (p1.1 + 1, p1.2).1).flatMap (brC (poss a) en t.toNat c)).all go = true) /\ ((γ ++ (List.range (p1.1 + 1, p1.2).1).flatMap (brC (poss a) en t.toNat c) : CG) = γ ++ (List.range p1.1).flatMap (brC (poss a) en t.toNat c)) /\ (t.toNat + 1 - (p1.1 + 1, p1.2).1 < t.toNat + 1 - p1.1) /\ TT /\ (VC_ext_1 t tm l) /\ (([.s (.c (.d (.val (.int .i64 ((p1.1 : Int) + (1 : Int))))))] : List S) = [.s (.c (.d (.val (.int .i64 ((p1.1 + 1, p1.2).1 : Int)))))]) /\ (RM [some (.blk [.d (.arr .fact a.facts), .d (.arr .atom a.atoms)])]) /\ (([some (.vec .int p1.2)] : List (Option Res)) = [some (.vec .int ((p1.1 + 1, p1.2).2))]) /\ True /\ TT) (VC_ext_4 t p1 a t' tm l γ en c go T en'))) (True /\ (VC_ext_4 t p1 a t' tm l γ en c go T en')))) (TT /\ True /\ ((none : Option Nat) = none) /\ (true = (en' c).all go) /\ ((γ ++ (List.range p1.1).flatMap (brC (poss a) en t.toNat c) : CG) = γ ++ upTo go (en' c))))))))))
def VC_ext (a : GAsn) (tm : Int) (go : List Int -> Bool) (T : CG) (l : Nat) (t t' : Int) (en en' : List Int -> CG) (c : List Int) (γ : CG) : Prop := TT /\ TN /\ TN /\ True /\ TT /\ True /\ (VC_ext_5 t c l γ go T en' tm t' a en)
theorem vcn_ext (a : GAsn) (tm : Int) (go : List Int -> Bool) (T : CG) (l : Nat) (t t' : Int) (en en' : List Int -> CG) (c : List Int) (γ : CG) (hp : asV a = true /\ 0 <= tm /\ tm < 512) (ht : 0 <= t /\ t <= 9) (ht' : t' = t + 1) (hc : c.length = 9) (hgo : γ.all go = true) (hT : (γ ++ en' c) <+: T) (h9 : 8 < t -> en' c = [c]) (h8 : ¬ 8 < t -> en' c = cond (tsHas tm t) ((List.range (t.toNat + 1)).flatMap (brC (poss a) en t.toNat c)) (en (c.set t.toNat (-1)))) : VC_ext a tm go T l t t' en en' c γ := by
 unfold VC_ext VC_ext_5 VC_ext_4 VC_ext_3 VC_ext_2 VC_ext_1
 simp only [cln, Nat.reduceEqDiff, Nat.reduceLeDiff, Nat.reduceAdd]
 obtain ⟨n, rfl⟩ : ∃ n : Nat, t = (n : Int) := ⟨t.toNat, by omega⟩
 simp only [Int.toNat_natCast] at h8 ⊢
 all_goals (try simp only [vcIf_iff, decide_eq_true_eq, decide_eq_false_iff_not, bne_iff_ne, ne_eq, beq_iff_eq, beq_eq_false_iff_ne, bne_eq_false_iff_eq, Bool.not_eq_true', Bool.not_eq_false', Int.ofNat_lt, Int.natCast_inj])
 all_goals (repeat' (first | apply And.intro | intro _))
 all_goals (first | omega | assumption | rfl | (simp_all; done) | skip)
 ·rw [h9 ‹_›]; simp only [upTo]; cases go c <;> rfl
 all_goals (have hL := h8 ‹_›; rw [(by assumption : tsHas tm (n : Int) = true), cond_true] at hL)
 all_goals (have hok := (by assumption : _ /\ _ /\ (∀ x : Int, _) /\ _); obtain ⟨k1, k2, k3, k4⟩ := hok)
 all_goals (first
  | (have e := fl_skip (a := a) (en := en) k3 (by omega) ‹_›; unfold flC at e; rw [e]; assumption) | (have e := fl_skip (a := a) (en := en) k3 (by omega) ‹_›; unfold flC at e; rw [e]; done)
  | (rw [List.all_append, hgo, k4]; rfl)
  | (exact fl_pre hL k3 (.inr ‹_›) ‹_› ‹_› hT) | (exact fl_pre hL k3 (.inl (by omega)) ‹_› ‹_› hT)
  | (exact (fl_all (γ := γ) hL k3 (.inr ‹_›) ‹_› ‹_› ‹_› k4).1) | (exact (fl_all (γ := γ) hL k3 (.inl (by omega)) ‹_› ‹_› ‹_› k4).1)
  | (exact (fl_all hL k3 (.inr ‹_›) ‹_› ‹_› ‹_› k4).2) | (exact (fl_all hL k3 (.inl (by omega)) ‹_› ‹_› ‹_› k4).2)
  | (exact (fl_end (γ := γ) hL k1 ‹_› k4).1) | (exact (fl_end hL k1 ‹_› k4).2)
  | (have e := fl_no (en := en) k3 ‹_›; unfold flC at e; rw [e]; assumption) | (have e := fl_no (en := en) k3 ‹_›; unfold flC at e; rw [e]; done)
  | (have e := fl_yes (en := en) k3 (.inr ‹_›) ‹_› ‹_›; unfold flC at e; rw [e, List.all_append, k4, (by assumption : List.all (en _) go = true)]; rfl)
  | (have e := fl_yes (en := en) k3 (.inl (by omega)) ‹_› ‹_›; unfold flC at e; rw [e, List.all_append, k4, (by assumption : List.all (en _) go = true)]; rfl)
  | (have e := fl_yes (en := en) k3 (.inr ‹_›) ‹_› ‹_›; unfold flC at e; rw [e, upTo_all ‹_›, List.append_assoc]; done)
  | (have e := fl_yes (en := en) k3 (.inl (by omega)) ‹_› ‹_›; unfold flC at e; rw [e, upTo_all ‹_›, List.append_assoc]; done)
  | skip)
def hp_pc : Nat -> Bool
 | 1 => true
 | _ => false
def VC_pc (a : GAsn) (tm : Int) (go : List Int -> Bool) (T : CG) (l : Nat) (en : List Int -> CG) (γ1 : CG) : Prop := TT /\ (TN /\ True) /\ TT /\ (9 = (List.replicate 9 (0 : Int)).length * 1) /\ True /\ True /\ True /\ (((none : Option Nat) = none) /\ ((List.replicate 9 (0 : Int)).length = 9) /\ ((0 : Int) = 0) /\ (a.facts = a.facts) /\ (a.atoms = a.atoms) /\ (tm = tm) /\ ((yV l : Value) = yV l) /\ ([].all go = true) /\ (([] ++ en (List.replicate 9 (0 : Int))) <+: T)) /\ ((none : Option Nat) = none) /\ (([] ++ upTo go (en (List.replicate 9 (0 : Int))) : CG) = γ1)
theorem vcn_pc (a : GAsn) (tm : Int) (go : List Int -> Bool) (T : CG) (l : Nat) (en : List Int -> CG) (γ1 : CG) (hT : en (List.replicate 9 0) = T) (h1 : γ1 = upTo go T) : VC_pc a tm go T l en γ1 := by
 unfold VC_pc
 simp only [cln, Nat.reduceEqDiff, Nat.reduceLeDiff, Nat.reduceAdd]
 subst h1 hT
 simp
theorem vce_pc (a : GAsn) (tm : Int) (go : List Int -> Bool) (T : CG) (l : Nat) (en : List Int -> CG) (γ1 : CG) : VC_pc a tm go T l en γ1 = vcY tab (lookF []) (lookP []) (spE 137 l go T a tm 0 en) noSpc (fun _ => false) hp_pc (fun _ => none) (fun _ _ _ => none) (fun _ => []) (bodyOf Try.f136) (pcSt a tm l) [] (retP0 tab Try.f136.results.toList γ1) := by kernel_rfl
theorem ext_step {J : JJ CG} {a : GAsn} {tm : Int} {go : List Int -> Bool} {T : CG} {l : Nat} {t t' : Int} {en en' : List Int -> CG} (hp : asV a = true /\ 0 <= tm /\ tm < 512) (ht : 0 <= t /\ t <= 9) (ht' : t' = t + 1) (h9 : ∀ c, 8 < t -> en' c = [c]) (h8 : ∀ c, ¬ 8 < t -> en' c = cond (tsHas tm t) ((List.range (t.toNat + 1)).flatMap (brC (poss a) en t.toNat c)) (en (c.set t.toNat (-1))))
  (hx : ExtOk Try.prog J 137 l go T a tm t' en) (hy : YOk Try.prog J l go T) : ExtOk Try.prog J 137 l go T a tm t en' :=
 ext_sound (hp := hp_ext) (gcs := fun _ => none) (perm := fun _ => []) (pts := lookP []) tabOk (kall_of (l := L_ext) ⟨ok_tsHas, ok_possible, trivial⟩) (pall_of (l := []) trivial) mix Try.func137 rfl (by kernel_rfl) (by decide) (by kernel_rfl) hx hy (anns := fun c γ => an_ext a tm go T l t t' en en' c γ)
  fun c γ hc hgo hT => Eq.mp (by kernel_rfl) (vcn_ext a tm go T l t t' en en' c γ hp ht ht' hc hgo hT (h9 c) (h8 c))
theorem ext_all {J : JJ CG} {a : GAsn} {tm : Int} {go : List Int -> Bool} {T : CG} {l : Nat} (hp : asV a = true /\ 0 <= tm /\ tm < 512) (hy : YOk Try.prog J l go T) : ∀ (f t : Nat), f + t = 9 -> ExtOk Try.prog J 137 l go T a tm (t : Int) (enumC (poss a) (hasN tm) f t) := by
 intro f
 induction f with
 | zero =>
  intro t ht
  have : t = 9 := by omega
  subst this
  exact ext_step (t' := 10) hp (by decide) (by decide) (fun c _ => rfl) (fun c h => absurd h (by decide)) ext_none hy
 | succ f ih =>
  intro t ht
  refine ext_step (t' := ((t + 1 : Nat) : Int)) (en := enumC (poss a) (hasN tm) f (t + 1)) hp (by omega) (by omega) (fun c h => by omega) (fun c _ => ?_) (ih (t + 1) (by omega)) hy
  simp only [Int.toNat_natCast]
  rfl
theorem it_ok : ItOk Try.prog 136 itPre itEn := by
 intro J l go a tm hpre hy w p ro0 ρ b1 b2 vs1 ty1 ty2 hin hro h1 hc1 h2 hne hp1 hp2 hr1 hr2 hJ
 exact pc_ok (fid := 137) (T := itEn a tm) (en := enumC (poss a) (hasN tm) 9 0) (t := 0) (hp := hp_pc) (gcs := fun _ => none) (perm := fun _ => []) (K := lookF []) (pts := lookP []) (anns := fun _ _ _ => none) tabOk (kall_of (l := []) trivial) (pall_of (l := []) trivial) mix Try.func136 rfl (by decide) Try.func137 rfl (by kernel_rfl) (by kernel_rfl) (ext_all hpre hy 9 0 rfl) hy
  ((vce_pc a tm go (itEn a tm) l (enumC (poss a) (hasN tm) 9 0) (upTo go (itEn a tm))).mp (vcn_pc a tm go (itEn a tm) l (enumC (poss a) (hasN tm) 9 0) (upTo go (itEn a tm)) rfl rfl)) hin hro h1 hc1 h2 hne hp1 hp2 hr1 hr2 hJ
theorem it_run : ∀ args w, (callFunc 136 args).run Try.prog w = .ok (.enter 136 args) w := run_callFunc Try.func136 (by kernel_rfl) rfl
abbrev L_possibleCases : List (FuncId × Con) := [(72, c_termsIn), (87, c_tsWith)]
abbrev P_possibleCases : List (FuncId × PT) := []
abbrev pt_possibleCases : PT := inl tab (lookF L_possibleCases) (lookP P_possibleCases) (fun _ => false) (fun _ _ => none) (fun _ _ _ _ => none) (fun _ => []) Try.f86.ntmps (bodyOf Try.f86) Try.f86.results.toList
theorem ptok_possibleCases : PTOk Try.prog E 86 pt_possibleCases :=
 pt_ok (l := L_possibleCases) (lp := P_possibleCases) tabOk mix ⟨ok_termsIn, ok_tsWith, trivial⟩ trivial Try.func86 rfl (by kernel_rfl) (by kernel_rfl)
abbrev c_failingCase : Con := ⟨[.asn, .asn], [.kase, .bool], fun (a, b, _) => asV a = true /\ asV b = true, .inl fun (a, b, _) => ((FC a b).headD (List.replicate 9 0), !(FC a b).isEmpty, ()), fun _ => 0⟩
abbrev L_failingCase : List (FuncId × Con) := [(72, c_termsIn), (73, c_matchCase)]
abbrev P_failingCase : List (FuncId × PT) := [(86, pt_possibleCases)]
def hp_failingCase : Nat -> Bool
 | 1 => true
 | _ => false
def ra_failingCase (a : GAsn) (b : GAsn) : St -> Option RAnn := fun se => some ⟨fun c => MC a b c, [2, 3, 4, 5], [47, 63, 79, 95], fun i => [], [47, 63, 79, 95], fun i => [], fun i => [], 300000⟩
def VC_failingCase_1 (a : GAsn) (b : GAsn) : Prop := TT /\ (RL [.s (.c (.ptr 47 0)), .s (.c (.ptr 63 0)), .s (.c (.ptr 79 0)), .s (.c (.ptr 95 0))]) /\ (RL []) /\ (RM [some (.blk [.d (.arr .fact a.facts), .d (.arr .atom a.atoms)]), some (.blk [.d (.arr .fact b.facts), .d (.arr .atom b.atoms)]), some (.vec .int (List.replicate 9 (0 : Int))), some (.blk [.d (.val (.bool false))])]) /\ (RM []) /\ True /\ TT
def VC_failingCase_2 (c2_0 : Int) (c2_1 : Int) (c2_2 : Int) (c2_3 : Int) (c2_4 : Int) (c2_5 : Int) (c2_6 : Int) (c2_7 : Int) (c2_8 : Int) : Prop := (([c2_0, c2_1, c2_2, c2_3, c2_4, c2_5, c2_6, c2_7, c2_8] : List Int).length = (List.replicate 9 (0 : Int)).length) /\ TF /\ TF
def VC_failingCase (a : GAsn) (b : GAsn) (k : Nat) : Prop := TT /\ TN /\ TN /\ (TN /\ True) /\ (TN /\ True) /\ TT /\ True /\ True /\ ((b.facts.length <= 281474976710656 /\ b.atoms.length <= 281474976710656) /\ True /\ True) /\ ((2 : Nat) <= 12) /\ TN /\ True /\ True /\ ((a.facts.length <= 281474976710656 /\ a.atoms.length <= 281474976710656) /\ True /\ True) /\ ((0 <= (tsA a) /\ (tsA a) < 512) /\ True /\ True) /\ True /\ True /\ (TN /\ True) /\ (TF /\ TF) /\ True /\ True /\ ((((136 : Nat) = 136) /\ ((none : Option Nat) = none) /\ (itPre a (bits .or .u16 (tsWith (tsA a) (0 : Int)) (tsA b)))) /\ TT /\ (VC_failingCase_1 a b)) /\ (∀ i1 : Nat, ∀ c2_0 : Int, ∀ c2_1 : Int, ∀ c2_2 : Int, ∀ c2_3 : Int, ∀ c2_4 : Int, ∀ c2_5 : Int, ∀ c2_6 : Int, ∀ c2_7 : Int, ∀ c2_8 : Int, ((itEn a (bits .or .u16 (tsWith (tsA a) (0 : Int)) (tsA b)))[i1]? = some ([c2_0, c2_1, c2_2, c2_3, c2_4, c2_5, c2_6, c2_7, c2_8] : List Int)) -> (((itEn a (bits .or .u16 (tsWith (tsA a) (0 : Int)) (tsA b))).take i1).all (fun c => MC a b c) = true) -> TT /\ (TN /\ True) /\ (VC_failingCase_2 c2_0 c2_1 c2_2 c2_3 c2_4 c2_5 c2_6 c2_7 c2_8) /\ ((none : Option Nat) = none) /\ TT /\ True /\ True /\ (9 = ([c2_0, c2_1, c2_2, c2_3, c2_4, c2_5, c2_6, c2_7, c2_8] : List Int).length * 1) /\ ((asV a = true /\ asV b = true /\ ([c2_0, c2_1, c2_2, c2_3, c2_4, c2_5, c2_6, c2_7, c2_8] : List Int).length = 9) /\ True /\ True /\ TN /\ True) /\ (∀ r3 : (List (List Int)) × Bool × Unit, (r3.2.1 = MC a b ([c2_0, c2_1, c2_2, c2_3, c2_4, c2_5, c2_6, c2_7, c2_8] : List Int)) -> True /\ True /\ True /\ True /\ True /\ TT /\ True /\ True /\ (vcIf (!r3.2.1) (TT /\ (9 = ([c2_0, c2_1, c2_2, c2_3, c2_4, c2_5, c2_6, c2_7, c2_8] : List Int).length * 1) /\ (VC_failingCase_2 c2_0 c2_1 c2_2 c2_3 c2_4 c2_5 c2_6 c2_7 c2_8) /\ (TF /\ TF) /\ ((MC a b ([c2_0, c2_1, c2_2, c2_3, c2_4, c2_5, c2_6, c2_7, c2_8] : List Int)) = false) /\ ((none : Option Nat) = none) /\ ((none : Option Nat) = none) /\ (((([c2_0, c2_1, c2_2, c2_3, c2_4, c2_5, c2_6, c2_7, c2_8] : List Int), true, ()) : (List Int) × Bool × Unit) = ((FC a b).headD (List.replicate 9 0), !(FC a b).isEmpty, ())) /\ True /\ True /\ True /\ True /\ TF) (((MC a b ([c2_0, c2_1, c2_2, c2_3, c2_4, c2_5, c2_6, c2_7, c2_8] : List Int)) = true) /\ ((none : Option Nat) = none) /\ (VC_failingCase_1 a b))))) /\ (((itEn a (bits .or .u16 (tsWith (tsA a) (0 : Int)) (tsA b))).all (fun c => MC a b c) = true) -> TT /\ True /\ (((List.replicate 9 (0 : Int)).length = (List.replicate 9 (0 : Int)).length) /\ TF /\ TF) /\ (TF /\ TF) /\ ((none : Option Nat) = none) /\ (((List.replicate 9 (0 : Int), false, ()) : (List Int) × Bool × Unit) = ((FC a b).headD (List.replicate 9 0), !(FC a b).isEmpty, ())) /\ True /\ True /\ True /\ True /\ TF)
theorem vcn_failingCase (a : GAsn) (b : GAsn) (k : Nat) (hp : asV a = true /\ asV b = true) : VC_failingCase a b k := by
 unfold VC_failingCase VC_failingCase_2 VC_failingCase_1
 simp only [cln, Nat.reduceEqDiff, Nat.reduceLeDiff, Nat.reduceAdd]
 have ha := hp.1
 have hb := hp.2
 have hs := asV_facts ha
 have hA := tsA_bd a
 have hB := tsA_bd b
 have hsb := asV_facts hb
 have hI := itEn_ent ha hb
 have hw := tsWith_bd (t := 0) hA.1 hA.2
 all_goals (try simp only [opn])
 all_goals (repeat' (first | apply And.intro | intro _))
 all_goals (first | omega | rfl | assumption | exact hI.2 | exact hI.2.2.1 | exact hI.2.2.2 | skip)
 all_goals (first
  | exact (fc_hit ha hb ‹_› ‹_› ((‹_ = MC a b _›).symm.trans ‹_›)).1.symm
  | (rw [(fc_hit (d := []) ha hb ‹_› ‹_› ((‹_ = MC a b _›).symm.trans ‹_›)).2]; rfl)
  | exact (‹_ = MC a b _›).symm.trans ‹_›
  | (rw [fc_none ha hb ‹_›]; rfl)
  | skip)
abbrev spc_failingCase (a : GAsn) (b : GAsn) : SpCode Bool := spR tab (lookF L_failingCase) (lookP P_failingCase) hp_failingCase (fun _ => none) (fun _ _ _ => none) (fun _ => []) Try.f78.ntmps 136 itPre itEn (ra_failingCase a b)
theorem spcok_failingCase (a : GAsn) (b : GAsn) (wE : World) (ro0 : Nat -> Option (Array Value)) (ρ : Nat) : SpcOk Fence.wide 0 Try.prog E (AC wE ro0 ρ) Try.f78.ntmps (spc_failingCase a b) :=
 spR_ok tabOk (kall_of (l := L_failingCase) ⟨ok_termsIn, ok_matchCase, trivial⟩) (pall_of (l := P_failingCase) ⟨ptok_possibleCases, trivial⟩) mix it_ok it_len it_run
theorem vcr_failingCase : ∀ x : Args c_failingCase.aks, c_failingCase.pre x -> vcY tab (lookF L_failingCase) (lookP P_failingCase) noSpB (spc_failingCase x.1 x.2.1) (fun b => !b) hp_failingCase (fun _ => none) (fun _ _ _ => none) (fun _ => []) (bodyOf Try.f78) (entry (encs c_failingCase.aks x) none) false (retR tab c_failingCase Try.f78.results.toList x) :=
 fun ⟨a, b, _⟩ hp => Eq.mp (by kernel_rfl) (vcn_failingCase a b 0 hp)
theorem ok_failingCase : FnOk Try.prog E 78 c_failingCase :=
 fnR_ok (con := c_failingCase) (fn := Try.f78) (l := L_failingCase) (lp := P_failingCase) (hp := hp_failingCase) (gcs := fun _ => none) (perm := fun _ => []) (spc := fun x => spc_failingCase x.1 x.2.1) (anns := fun x => (fun _ _ _ => none)) tabOk mix ⟨ok_termsIn, ok_matchCase, trivial⟩ ⟨ptok_possibleCases, trivial⟩ rfl Try.func78 rfl (by kernel_rfl) (by decide) (by kernel_rfl) (fun x _ => spcok_failingCase x.1 x.2.1) vcr_failingCase tot_fn
abbrev c_iEntails : Con := ⟨[.asn, .asn], [.bool], fun (a, b, _) => a.facts.length <= 281474976710656 /\ a.atoms.length <= 281474976710656 /\ b.facts.length <= 281474976710656 /\ b.atoms.length <= 281474976710656, .inl fun (a, b, _) => (ENT a b, ()), fun _ => 0⟩
abbrev L_iEntails : List (FuncId × Con) := [(33, c_iAssertionValid), (78, c_failingCase)]
abbrev P_iEntails : List (FuncId × PT) := []
def VC_iEntails_1 (a : GAsn) (b : GAsn) : Prop := True /\ (((false, ()) : Bool × Unit) = (ENT a b, ())) /\ True /\ True /\ True /\ True /\ TF
def VC_iEntails (a : GAsn) (b : GAsn) (k : Nat) : Prop := TN /\ TN /\ True /\ True /\ ((a.facts.length <= 281474976710656 /\ a.atoms.length <= 281474976710656) /\ True /\ True) /\ True /\ True /\ (vcIf (!(asV a)) (True /\ (VC_iEntails_1 a b)) (True /\ ((b.facts.length <= 281474976710656 /\ b.atoms.length <= 281474976710656) /\ True /\ True) /\ True /\ True /\ (vcIf (!(asV b)) (VC_iEntails_1 a b) (True /\ True /\ ((asV a = true /\ asV b = true) /\ True /\ True) /\ True /\ True /\ True /\ (TN /\ True) /\ ((((FC a b).headD (List.replicate 9 0)).length = (List.replicate 9 (0 : Int)).length) /\ TF /\ TF) /\ True /\ True /\ True /\ True /\ (((!(!(FC a b).isEmpty), ()) : Bool × Unit) = (ENT a b, ())) /\ True /\ True /\ True /\ True /\ TF))))
theorem vcn_iEntails (a : GAsn) (b : GAsn) (k : Nat) (hp : a.facts.length <= 281474976710656 /\ a.atoms.length <= 281474976710656 /\ b.facts.length <= 281474976710656 /\ b.atoms.length <= 281474976710656) : VC_iEntails a b k := by
 unfold VC_iEntails VC_iEntails_1
 simp only [cln, Nat.reduceEqDiff, Nat.reduceLeDiff, Nat.reduceAdd]
 all_goals (try simp only [opn])
 all_goals (repeat' (first | apply And.intro | intro _))
 all_goals (repeat (cases ‹_ /\ _›))
 all_goals (first | omega | rfl | assumption | exact (ent_no1 ‹_›).symm | exact (ent_no2 ‹_›).symm | (rw [ENT_FC ‹_› ‹_›, Bool.not_not]; done) | exact fc_len ‹_› ‹_› | skip)
theorem ok_iEntails : FnOk Try.prog E 31 c_iEntails :=
 fn_okQ (l := L_iEntails) (lp := P_iEntails) (hp := fun _ => false) (gcs := fun _ => none) (perm := fun _ => []) tabOk mix ⟨ok_iAssertionValid, ok_failingCase, trivial⟩ trivial Try.func31 rfl (by kernel_rfl) (by decide) (by kernel_rfl) (anns := fun x _ => fun _ _ => none) (fun ⟨a, b, _⟩ k hp _ => Eq.mp (by kernel_rfl) (vcn_iEntails a b k hp)) tot_fn
abbrev L_foldAny : List (FuncId × Con) := []
abbrev P_foldAny : List (FuncId × PT) := []
abbrev pt_foldAny : PT := inl tab (lookF L_foldAny) (lookP P_foldAny) (fun _ => false) (fun _ _ => none) (fun _ _ _ _ => none) (fun _ => []) Try.f96.ntmps (bodyOf Try.f96) Try.f96.results.toList
theorem ptok_foldAny : PTOk Try.prog E 96 pt_foldAny :=
 pt_ok (l := L_foldAny) (lp := P_foldAny) tabOk mix trivial trivial Try.func96 rfl (by kernel_rfl) (by kernel_rfl)
abbrev c_joinListsF : Con := ⟨[.sl .fact, .sl .fact], [.sl .fact], fun (a, b, _) => a.length <= 1048576 /\ b.length <= 1048576, .inl fun (a, b, _) => (a ++ b, ()), fun _ => 0⟩
abbrev L_joinListsF : List (FuncId × Con) := []
abbrev P_joinListsF : List (FuncId × PT) := []
def VC_joinListsF (a : List GFact) (b : List GFact) (k : Nat) : Prop := TN /\ True /\ True /\ True /\ True /\ (inK .i64 (((a.length : Nat) : Int) + ((b.length : Nat) : Int))) /\ (TN /\ (0 <= (0 : Int) /\ (0 : Int) <= (((a.length : Nat) : Int) + ((b.length : Nat) : Int)) /\ (((a.length : Nat) : Int) + ((b.length : Nat) : Int)) <= 4294967296)) /\ True /\ True /\ True /\ (TN /\ TF /\ TF /\ ((List.replicate 0 (⟨false, 0, 0⟩ : GFact)).length + a.length <= 4294967296)) /\ True /\ (TN /\ TF /\ TF /\ (((List.replicate 0 (⟨false, 0, 0⟩ : GFact)) ++ a).length + b.length <= 4294967296)) /\ True /\ (((((List.replicate 0 (⟨false, 0, 0⟩ : GFact)) ++ a) ++ b, ()) : (List GFact) × Unit) = (a ++ b, ())) /\ (True /\ True) /\ ((TF /\ TF) /\ True) /\ True /\ (True /\ True) /\ TF
theorem vcn_joinListsF (a : List GFact) (b : List GFact) (k : Nat) (hp : a.length <= 1048576 /\ b.length <= 1048576) : VC_joinListsF a b k := by
 unfold VC_joinListsF
 simp only [cln, Nat.reduceEqDiff, Nat.reduceLeDiff, Nat.reduceAdd]
 all_goals (try simp only [opn])
 all_goals (repeat' (first | apply And.intro | intro _))
 all_goals (first | omega | (simp_all; done) | grind [])
theorem ok_joinListsF : FnOk Try.prog E 82 c_joinListsF :=
 fn_okQ (l := L_joinListsF) (lp := P_joinListsF) (hp := fun _ => false) (gcs := fun _ => none) (perm := fun _ => []) tabOk mix trivial trivial Try.func82 rfl (by kernel_rfl) (by decide) (by kernel_rfl) (anns := fun x _ => fun _ _ => none) (fun ⟨a, b, _⟩ k hp _ => Eq.mp (by kernel_rfl) (vcn_joinListsF a b k hp)) tot_fn
abbrev c_foldAt : Con := ⟨[.asn, .int, .int], [.asn], fun (a, i, q, _) => a.facts.length <= 1048576 /\ a.atoms.length <= 1048576 /\ 0 <= i /\ i < a.atoms.length /\ 0 <= q /\ q < a.atoms.length, .inl fun (a, i, q, _) => (⟨a.facts, (⟨2, (a.atoms.getD i.toNat ⟨0, 0, 0⟩).a, (a.atoms.getD q.toNat ⟨0, 0, 0⟩).b⟩ : GAtom) :: woF a.atoms i q a.atoms.length⟩, ()), fun _ => 0⟩
abbrev L_foldAt : List (FuncId × Con) := [(82, c_joinListsF)]
abbrev P_foldAt : List (FuncId × PT) := []
def an_foldAt (a : GAsn) (i : Int) (q : Int) : Nat -> St -> Option Ann
 | 3, se => some { α := Nat, ok := fun j => j <= a.atoms.length, mu := fun j => a.atoms.length - j, i0 := fun _ => 0, nx := fun a _ => (fun j => j + 1) a, live := [1, 2, 3, 6, 25, 26], sets := fun j => [(27, sv (.int .i64 j))], mids := [63, 96, 97, 111], blks := fun j => [], owns := fun j => [⟨7, .slot 7, .atom, (⟨2, (a.atoms.getD i.toNat ⟨0, 0, 0⟩).a, (a.atoms.getD q.toNat ⟨0, 0, 0⟩).b⟩ : GAtom) :: woF a.atoms i q j⟩], rd := fun r _ => r, base := 100000 }
 | _, _ => none
def VC_foldAt_1 (i : Int) (q : Int) (a : GAsn) : Prop := RL [.s (.c (.d (.val (.int .i64 i)))), .s (.c (.d (.val (.int .i64 q)))), .s (.c (.ptr 63 0)), .s (.c (.ptr 111 0)), .s (.c (.d (.arr .atom a.atoms))), .s (.c (.d (.val (.int .i64 ((a.atoms.length : Nat) : Int)))))]
def VC_foldAt_2 (a : GAsn) : Prop := RM [some (.blk [.d (.arr .fact a.facts), .d (.arr .atom a.atoms)]), some (.sl 96 .fact ([] : List GFact)), some (.sl 97 .atom ([] : List GAtom)), some (.blk [.own 96, .own 97])]
def VC_foldAt_3 (j1 : Nat) : Prop := ([.s (.c (.d (.val (.int .i64 (((j1 : Nat) : Int) + (1 : Int))))))] : List S) = [.s (.c (.d (.val (.int .i64 (((j1 + 1) : Nat) : Int)))))]
def VC_foldAt_4 (j1 : Nat) (a : GAsn) (i : Int) (q : Int) : Prop := (inK .i64 (((j1 : Nat) : Int) + (1 : Int))) /\ True /\ ((j1 + 1) <= a.atoms.length) /\ (a.atoms.length - (j1 + 1) < a.atoms.length - j1) /\ TT /\ (VC_foldAt_1 i q a) /\ (VC_foldAt_3 j1) /\ (VC_foldAt_2 a) /\ (RM []) /\ (((some ((⟨2, (a.atoms.getD i.toNat ⟨0, 0, 0⟩).a, (a.atoms.getD q.toNat ⟨0, 0, 0⟩).b⟩ : GAtom) :: woF a.atoms i q j1) : Option (List GAtom)) = some ((⟨2, (a.atoms.getD i.toNat ⟨0, 0, 0⟩).a, (a.atoms.getD q.toNat ⟨0, 0, 0⟩).b⟩ : GAtom) :: woF a.atoms i q (j1 + 1))) /\ True) /\ TT
def VC_foldAt (a : GAsn) (i : Int) (q : Int) (k : Nat) : Prop := TN /\ (TN /\ TN /\ TN /\ True) /\ True /\ True /\ True /\ (0 <= i /\ i < ((a.atoms.length : Nat) : Int)) /\ True /\ True /\ True /\ True /\ True /\ (0 <= q /\ q < ((a.atoms.length : Nat) : Int)) /\ True /\ True /\ True /\ (TN /\ True) /\ True /\ True /\ True /\ True /\ True /\ ((0 <= a.atoms.length) /\ TT /\ (VC_foldAt_1 i q a) /\ (([.s (.c (.d (.val (.int .i64 (0 : Int)))))] : List S) = [.s (.c (.d (.val (.int .i64 ((0 : Nat) : Int)))))]) /\ (VC_foldAt_2 a) /\ (RM []) /\ (((some ([(⟨(2 : Int), (a.atoms.getD i.toNat (⟨0, 0, 0⟩ : GAtom)).a, (a.atoms.getD q.toNat (⟨0, 0, 0⟩ : GAtom)).b⟩ : GAtom)] : List GAtom) : Option (List GAtom)) = some ((⟨2, (a.atoms.getD i.toNat ⟨0, 0, 0⟩).a, (a.atoms.getD q.toNat ⟨0, 0, 0⟩).b⟩ : GAtom) :: woF a.atoms i q 0)) /\ True) /\ TT) /\ (∀ j1 : Nat, (j1 <= a.atoms.length) -> True /\ (vcIf (decide (((j1 : Nat) : Int) < ((a.atoms.length : Nat) : Int))) (True /\ (0 <= ((j1 : Nat) : Int) /\ ((j1 : Nat) : Int) < ((a.atoms.length : Nat) : Int)) /\ True /\ (TN /\ True) /\ True /\ (TF /\ TF) /\ True /\ True /\ True /\ True /\ (vcIf (((j1 : Nat) : Int) != i) (True /\ True /\ True /\ True /\ (vcIf (((j1 : Nat) : Int) != q) (True /\ True /\ (TN /\ True) /\ (TN /\ TF /\ TF /\ (((⟨2, (a.atoms.getD i.toNat ⟨0, 0, 0⟩).a, (a.atoms.getD q.toNat ⟨0, 0, 0⟩).b⟩ : GAtom) :: woF a.atoms i q j1).length + ([(a.atoms.getD j1 (⟨0, 0, 0⟩ : GAtom))] : List GAtom).length <= 4294967296)) /\ True /\ (inK .i64 (((j1 : Nat) : Int) + (1 : Int))) /\ True /\ ((j1 + 1) <= a.atoms.length) /\ (a.atoms.length - (j1 + 1) < a.atoms.length - j1) /\ TT /\ (VC_foldAt_1 i q a) /\ (VC_foldAt_3 j1) /\ (VC_foldAt_2 a) /\ (RM []) /\ (((some (((⟨2, (a.atoms.getD i.toNat ⟨0, 0, 0⟩).a, (a.atoms.getD q.toNat ⟨0, 0, 0⟩).b⟩ : GAtom) :: woF a.atoms i q j1) ++ ([(a.atoms.getD j1 (⟨0, 0, 0⟩ : GAtom))] : List GAtom)) : Option (List GAtom)) = some ((⟨2, (a.atoms.getD i.toNat ⟨0, 0, 0⟩).a, (a.atoms.getD q.toNat ⟨0, 0, 0⟩).b⟩ : GAtom) :: woF a.atoms i q (j1 + 1))) /\ True) /\ TT) (VC_foldAt_4 j1 a i q))) (True /\ (VC_foldAt_4 j1 a i q)))) (True /\ True /\ ((a.facts.length <= 1048576 /\ ([] : List GFact).length <= 1048576) /\ True /\ TN /\ True) /\ True /\ (TN /\ TN /\ True) /\ (TF /\ TF) /\ ((((⟨(a.facts ++ ([] : List GFact)), (⟨2, (a.atoms.getD i.toNat ⟨0, 0, 0⟩).a, (a.atoms.getD q.toNat ⟨0, 0, 0⟩).b⟩ : GAtom) :: woF a.atoms i q j1⟩ : GAsn), ()) : GAsn × Unit) = (⟨a.facts, (⟨2, (a.atoms.getD i.toNat ⟨0, 0, 0⟩).a, (a.atoms.getD q.toNat ⟨0, 0, 0⟩).b⟩ : GAtom) :: woF a.atoms i q a.atoms.length⟩, ())) /\ ((((100752 : Nat) ≠ 7) /\ True) /\ True /\ True) /\ ((TF /\ TF) /\ (TF /\ TF) /\ True) /\ True /\ (True /\ True /\ True) /\ TF)))
theorem vcn_foldAt (a : GAsn) (i : Int) (q : Int) (k : Nat) (hp : a.facts.length <= 1048576 /\ a.atoms.length <= 1048576 /\ 0 <= i /\ i < a.atoms.length /\ 0 <= q /\ q < a.atoms.length) : VC_foldAt a i q k := by
 unfold VC_foldAt VC_foldAt_4 VC_foldAt_3 VC_foldAt_2 VC_foldAt_1
 simp only [cln, Nat.reduceEqDiff, Nat.reduceLeDiff, Nat.reduceAdd]
 all_goals (try simp only [opn])
 all_goals (repeat' (first | apply And.intro | intro _))
 all_goals (repeat (cases ‹_ /\ _›))
 all_goals (first | (exfalso; contradiction) | omega | with_reducible assumption | with_reducible rfl | skip)
 all_goals (first
  | rfl
  | (exact woF_bd (by omega))
  | (rw [List.cons_append, woF_go ‹_› ‹_›]; done)
  | (rw [woF_skip (.inl ‹_›)]; done) | (rw [woF_skip (.inr ‹_›)]; done)
  | (have e := Nat.le_antisymm ‹_ <= a.atoms.length› (Nat.le_of_not_lt ‹¬ _ < a.atoms.length›); rw [e]; done)
  | skip)
theorem ok_foldAt : FnOk Try.prog E 142 c_foldAt :=
 fn_okQ (l := L_foldAt) (lp := P_foldAt) (hp := fun _ => false) (gcs := fun _ => none) (perm := fun _ => []) tabOk mix ⟨ok_joinListsF, trivial⟩ trivial Try.func142 rfl (by kernel_rfl) (by decide) (by kernel_rfl) (anns := fun x _ => an_foldAt x.1 x.2.1 x.2.2.1) (fun ⟨a, i, q, _⟩ k hp _ => Eq.mp (by kernel_rfl) (vcn_foldAt a i q k hp)) tot_fn
abbrev c_firstFold : Con := ⟨[.asn, .fnc 96], [.asn, .bool], fun (a, f, _) => asV a = true, .inl fun (a, f, _) => (fcL a, fcB a, ()), fun _ => 0⟩
abbrev L_firstFold : List (FuncId × Con) := [(31, c_iEntails), (142, c_foldAt)]
abbrev P_firstFold : List (FuncId × PT) := [(96, pt_foldAny)]
def an_firstFold (a : GAsn) (f : Unit) : Nat -> St -> Option Ann
 | 2, se => some { α := Nat, ok := fun i => i <= a.atoms.length /\ noI a i = true, mu := fun i => a.atoms.length - i, i0 := fun _ => 0, nx := fun a _ => (fun i => i + 1) a, live := [1, 2, 4, 12, 13], sets := fun i => [(14, sv (.int .i64 i))], mids := [47, 64, 65, 79], blks := fun i => [], owns := fun i => [], rd := fun r _ => r, base := 100000 }
 | 5, se => some { α := Nat, ok := fun j => j <= a.atoms.length /\ noK a (intAt se 14).toNat j = true, mu := fun j => a.atoms.length - j, i0 := fun _ => 0, nx := fun a _ => (fun j => j + 1) a, live := [1, 2, 4, 6, 7, 12, 13, 14, 20, 21], sets := fun j => [(22, sv (.int .i64 j))], mids := [47, 64, 65, 79, 100127], blks := fun j => [], owns := fun j => [], rd := fun r _ => r, base := 200000 }
 | _, _ => none
def hp_firstFold : Nat -> Bool
 | 7 => true
 | _ => false
def VC_firstFold_1 (a : GAsn) : Prop := RL [.s (.c (.fn 96 [])), .s (.c (.ptr 47 0)), .s (.c (.ptr 79 0)), .s (.c (.d (.arr .atom a.atoms))), .s (.c (.d (.val (.int .i64 ((a.atoms.length : Nat) : Int)))))]
def VC_firstFold_2  : Prop := ([.s (.c (.d (.val (.int .i64 (0 : Int)))))] : List S) = [.s (.c (.d (.val (.int .i64 ((0 : Nat) : Int)))))]
def VC_firstFold_3 (a : GAsn) : Prop := (RM [some (.blk [.d (.arr .fact a.facts), .d (.arr .atom a.atoms)]), some (.sl 64 .fact ([] : List GFact)), some (.sl 65 .atom ([] : List GAtom)), some (.blk [.own 64, .own 65])]) /\ (RM []) /\ True /\ TT
def VC_firstFold_4 (i1 : Nat) (a : GAsn) : Prop := RL [.s (.c (.fn 96 [])), .s (.c (.ptr 47 0)), .s (.c (.ptr 79 0)), .s (.c (.d (.val (.int .i64 ((i1 : Nat) : Int))))), .s (.c (.ptr 100127 0)), .s (.c (.d (.arr .atom a.atoms))), .s (.c (.d (.val (.int .i64 ((a.atoms.length : Nat) : Int))))), .s (.c (.d (.val (.int .i64 ((i1 : Nat) : Int))))), .s (.c (.d (.arr .atom a.atoms))), .s (.c (.d (.val (.int .i64 ((a.atoms.length : Nat) : Int)))))]
def VC_firstFold_5 (a : GAsn) (i1 : Nat) : Prop := (RM [some (.blk [.d (.arr .fact a.facts), .d (.arr .atom a.atoms)]), some (.sl 64 .fact ([] : List GFact)), some (.sl 65 .atom ([] : List GAtom)), some (.blk [.own 64, .own 65]), some (.blk [.d (.val (.int .i64 ((a.atoms.getD i1 (⟨0, 0, 0⟩ : GAtom)).kind))), .d (.val (.int .i64 ((a.atoms.getD i1 (⟨0, 0, 0⟩ : GAtom)).a))), .d (.val (.int .i64 ((a.atoms.getD i1 (⟨0, 0, 0⟩ : GAtom)).b)))])]) /\ (RM []) /\ True /\ TT
def VC_firstFold_6 (j2 : Nat) : Prop := ([.s (.c (.d (.val (.int .i64 (((j2 : Nat) : Int) + (1 : Int))))))] : List S) = [.s (.c (.d (.val (.int .i64 (((j2 + 1) : Nat) : Int)))))]
def VC_firstFold_7 (j2 : Nat) (a : GAsn) (i1 : Nat) : Prop := (inK .i64 (((j2 : Nat) : Int) + (1 : Int))) /\ True /\ ((j2 + 1) <= a.atoms.length /\ noK a (((i1 : Nat) : Int)).toNat (j2 + 1) = true) /\ (a.atoms.length - (j2 + 1) < a.atoms.length - j2) /\ TT /\ (VC_firstFold_4 i1 a) /\ (VC_firstFold_6 j2) /\ (VC_firstFold_5 a i1)
def VC_firstFold_8 (j2 : Nat) (a : GAsn) (i1 : Nat) : Prop := True /\ (VC_firstFold_7 j2 a i1)
def VC_firstFold_9 (i1 : Nat) (a : GAsn) : Prop := (True /\ (vcIf (decide (((i1 : Nat) : Int) < ((a.atoms.length : Nat) : Int))) (True /\ (0 <= ((i1 : Nat) : Int) /\ ((i1 : Nat) : Int) < ((a.atoms.length : Nat) : Int)) /\ True /\ (TN /\ True) /\ True /\ (TF /\ TF) /\ True /\ True /\ True /\ True /\ ((0 <= a.atoms.length /\ noK a (((i1 : Nat) : Int)).toNat 0 = true) /\ TT /\ (VC_firstFold_4 i1 a) /\ VC_firstFold_2 /\ (VC_firstFold_5 a i1)) /\ (∀ j2 : Nat, (j2 <= a.atoms.length /\ noK a (((i1 : Nat) : Int)).toNat j2 = true) -> True /\ (vcIf (decide (((j2 : Nat) : Int) < ((a.atoms.length : Nat) : Int))) (True /\ (0 <= ((j2 : Nat) : Int) /\ ((j2 : Nat) : Int) < ((a.atoms.length : Nat) : Int)) /\ True /\ (TN /\ True) /\ True /\ (TF /\ TF) /\ True /\ True /\ True /\ True /\ (vcIf (((i1 : Nat) : Int) == ((j2 : Nat) : Int)) (True /\ True /\ (VC_firstFold_8 j2 a i1)) (True /\ True /\ True /\ True /\ True /\ True /\ True /\ (vcIf (((a.atoms.getD i1 (⟨0, 0, 0⟩ : GAtom)).b) != ((a.atoms.getD j2 (⟨0, 0, 0⟩ : GAtom)).a)) (VC_firstFold_8 j2 a i1) (True /\ True /\ True /\ ((1 : Nat) <= 3) /\ True /\ True /\ True /\ True /\ True /\ True /\ True /\ ((a.facts.length <= 1048576 /\ a.atoms.length <= 1048576 /\ 0 <= ((i1 : Nat) : Int) /\ ((i1 : Nat) : Int) < a.atoms.length /\ 0 <= ((j2 : Nat) : Int) /\ ((j2 : Nat) : Int) < a.atoms.length) /\ True /\ TN /\ TN /\ True) /\ (TN /\ TN /\ TN /\ True) /\ (TF /\ TF) /\ True /\ True /\ ((a.facts.length <= 281474976710656 /\ a.atoms.length <= 281474976710656 /\ (⟨a.facts, ((⟨2, (a.atoms.getD ((i1 : Nat) : Int).toNat ⟨0, 0, 0⟩).a, (a.atoms.getD ((j2 : Nat) : Int).toNat ⟨0, 0, 0⟩).b⟩ : GAtom) :: woF a.atoms ((i1 : Nat) : Int) ((j2 : Nat) : Int) a.atoms.length)⟩ : GAsn).facts.length <= 281474976710656 /\ (⟨a.facts, ((⟨2, (a.atoms.getD ((i1 : Nat) : Int).toNat ⟨0, 0, 0⟩).a, (a.atoms.getD ((j2 : Nat) : Int).toNat ⟨0, 0, 0⟩).b⟩ : GAtom) :: woF a.atoms ((i1 : Nat) : Int) ((j2 : Nat) : Int) a.atoms.length)⟩ : GAsn).atoms.length <= 281474976710656) /\ True /\ True) /\ (vcIf (ENT a (⟨a.facts, ((⟨2, (a.atoms.getD ((i1 : Nat) : Int).toNat ⟨0, 0, 0⟩).a, (a.atoms.getD ((j2 : Nat) : Int).toNat ⟨0, 0, 0⟩).b⟩ : GAtom) :: woF a.atoms ((i1 : Nat) : Int) ((j2 : Nat) : Int) a.atoms.length)⟩ : GAsn)) (True /\ (TF /\ TF) /\ True /\ ((((⟨a.facts, ((⟨2, (a.atoms.getD ((i1 : Nat) : Int).toNat ⟨0, 0, 0⟩).a, (a.atoms.getD ((j2 : Nat) : Int).toNat ⟨0, 0, 0⟩).b⟩ : GAtom) :: woF a.atoms ((i1 : Nat) : Int) ((j2 : Nat) : Int) a.atoms.length)⟩ : GAsn), true, ()) : GAsn × Bool × Unit) = (fcL a, fcB a, ())) /\ ((((200752 : Nat) ≠ 200753) /\ True) /\ True /\ True) /\ ((TF /\ TF) /\ (TF /\ TF) /\ True) /\ True /\ (True /\ True /\ True) /\ TF) (VC_firstFold_7 j2 a i1))))))) ((inK .i64 (((i1 : Nat) : Int) + (1 : Int))) /\ True /\ ((i1 + 1) <= a.atoms.length /\ noI a (i1 + 1) = true) /\ (a.atoms.length - (i1 + 1) < a.atoms.length - i1) /\ TT /\ (VC_firstFold_1 a) /\ (VC_firstFold_6 i1) /\ (VC_firstFold_3 a))))) ((TN /\ TN /\ True) /\ (TF /\ TF) /\ True /\ ((((⟨([] : List GFact), ([] : List GAtom)⟩ : GAsn), false, ()) : GAsn × Bool × Unit) = (fcL a, fcB a, ())) /\ ((((100864 : Nat) ≠ 100865) /\ True) /\ True /\ True) /\ ((TF /\ TF) /\ (TF /\ TF) /\ True) /\ True /\ (True /\ True /\ True) /\ TF)))
def VC_firstFold (a : GAsn) (f : Unit) (k : Nat) : Prop := TN /\ (TN /\ TN /\ TN /\ True) /\ True /\ True /\ True /\ True /\ True /\ ((0 <= a.atoms.length /\ noI a 0 = true) /\ TT /\ (VC_firstFold_1 a) /\ VC_firstFold_2 /\ (VC_firstFold_3 a)) /\ (∀ i1 : Nat, (i1 <= a.atoms.length /\ noI a i1 = true) -> (VC_firstFold_9 i1 a))
theorem vcn_firstFold (a : GAsn) (f : Unit) (k : Nat) (hp : asV a = true) : VC_firstFold a f k := by
 unfold VC_firstFold VC_firstFold_9 VC_firstFold_8 VC_firstFold_7 VC_firstFold_6 VC_firstFold_5 VC_firstFold_4 VC_firstFold_3 VC_firstFold_2 VC_firstFold_1
 simp only [cln, Nat.reduceEqDiff, Nat.reduceLeDiff, Nat.reduceAdd]
 all_goals (try simp only [opn])
 all_goals (repeat' (first | apply And.intro | intro _))
 all_goals (repeat (cases ‹_ /\ _›))
 all_goals (first | (exfalso; contradiction) | omega | with_reducible assumption | with_reducible rfl | skip)
 all_goals (try have h6 := fo_len6 ‹asV a = true›)
 all_goals (first
  | omega
  | with_reducible exact (fo_bad ‹_›).1.symm | with_reducible exact (fo_bad ‹_›).2.symm
  | with_reducible exact noI_zero | with_reducible exact noK_zero
  | with_reducible exact noK_same ‹_› ‹_› | with_reducible exact noK_apart ‹_› ‹_› | with_reducible exact foR_no ‹_› ‹_›
  | (exact woF_bd (by omega))
  | with_reducible exact (foR_hit ‹_› ‹_› ‹_› ‹_› ‹_› ‹_› ‹_› ‹_›).1
  | with_reducible exact (foR_hit ‹_› ‹_› ‹_› ‹_› ‹_› ‹_› ‹_› ‹_›).2
  | with_reducible exact noI_step ‹_› ‹_› ‹_› ‹_›
  | with_reducible exact (fo_end ‹_› ‹_› ‹_›).1.symm | with_reducible exact (fo_end ‹_› ‹_› ‹_›).2.symm
  | skip)
theorem ok_firstFold : FnOk Try.prog E 95 c_firstFold :=
 fn_okQ (l := L_firstFold) (lp := P_firstFold) (hp := hp_firstFold) (gcs := fun _ => none) (perm := fun _ => []) tabOk mix ⟨ok_iEntails, ok_foldAt, trivial⟩ ⟨ptok_foldAny, trivial⟩ Try.func95 rfl (by kernel_rfl) (by decide) (by kernel_rfl) (anns := fun x _ => an_firstFold x.1 x.2.1) (fun ⟨a, f, _⟩ k hp _ => Eq.mp (by kernel_rfl) (vcn_firstFold a f k hp)) tot_fn
abbrev c_iFoldCells : Con := ⟨[.asn], [.asn, .bool], fun (a, _) => a.facts.length <= 281474976710656 /\ a.atoms.length <= 281474976710656, .inl fun (a, _) => (fcL a, fcB a, ()), fun _ => 0⟩
abbrev L_iFoldCells : List (FuncId × Con) := [(33, c_iAssertionValid), (95, c_firstFold)]
abbrev P_iFoldCells : List (FuncId × PT) := [(96, pt_foldAny)]
def hp_iFoldCells : Nat -> Bool
 | 3 => true
 | _ => false
def VC_iFoldCells (a : GAsn) (k : Nat) : Prop := TN /\ (TN /\ TN /\ TN /\ True) /\ True /\ True /\ ((a.facts.length <= 281474976710656 /\ a.atoms.length <= 281474976710656) /\ True /\ True) /\ True /\ (vcIf (!(asV a)) ((TN /\ TN /\ True) /\ (TF /\ TF) /\ True /\ ((((⟨([] : List GFact), ([] : List GAtom)⟩ : GAsn), false, ()) : GAsn × Bool × Unit) = (fcL a, fcB a, ())) /\ ((((112 : Nat) ≠ 113) /\ True) /\ True /\ True) /\ ((TF /\ TF) /\ (TF /\ TF) /\ True) /\ True /\ (True /\ True /\ True) /\ TF) (True /\ ((asV a = true) /\ True /\ TN /\ TN /\ True) /\ True /\ True /\ (TF /\ TF) /\ True /\ ((((fcL a), (fcB a), ()) : GAsn × Bool × Unit) = (fcL a, fcB a, ())) /\ ((((144 : Nat) ≠ 145) /\ True) /\ True /\ True) /\ ((TF /\ TF) /\ (TF /\ TF) /\ True) /\ True /\ (True /\ True /\ True) /\ TF))
theorem vcn_iFoldCells (a : GAsn) (k : Nat) (hp : a.facts.length <= 281474976710656 /\ a.atoms.length <= 281474976710656) : VC_iFoldCells a k := by
 unfold VC_iFoldCells
 simp only [cln, Nat.reduceEqDiff, Nat.reduceLeDiff, Nat.reduceAdd]
 all_goals (try simp only [opn])
 all_goals (repeat' (first | apply And.intro | intro _))
 all_goals (repeat (cases ‹_ /\ _›))
 all_goals (first | (exfalso; contradiction) | omega | with_reducible assumption | with_reducible rfl | skip)
 all_goals (try have h6 := fo_len6 ‹asV a = true›)
 all_goals (first
  | omega
  | with_reducible exact (fo_bad ‹_›).1.symm | with_reducible exact (fo_bad ‹_›).2.symm
  | with_reducible exact noI_zero | with_reducible exact noK_zero
  | with_reducible exact noK_same ‹_› ‹_› | with_reducible exact noK_apart ‹_› ‹_› | with_reducible exact foR_no ‹_› ‹_›
  | (exact woF_bd (by omega))
  | with_reducible exact (foR_hit ‹_› ‹_› ‹_› ‹_› ‹_› ‹_› ‹_› ‹_›).1
  | with_reducible exact (foR_hit ‹_› ‹_› ‹_› ‹_› ‹_› ‹_› ‹_› ‹_›).2
  | with_reducible exact noI_step ‹_› ‹_› ‹_› ‹_›
  | with_reducible exact (fo_end ‹_› ‹_› ‹_›).1.symm | with_reducible exact (fo_end ‹_› ‹_› ‹_›).2.symm
  | skip)
theorem ok_iFoldCells : FnOk Try.prog E 41 c_iFoldCells :=
 fn_okQ (l := L_iFoldCells) (lp := P_iFoldCells) (hp := hp_iFoldCells) (gcs := fun _ => none) (perm := fun _ => []) tabOk mix ⟨ok_iAssertionValid, ok_firstFold, trivial⟩ ⟨ptok_foldAny, trivial⟩ Try.func41 rfl (by kernel_rfl) (by decide) (by kernel_rfl) (anns := fun x _ => fun _ _ => none) (fun ⟨a, _⟩ k hp _ => Eq.mp (by kernel_rfl) (vcn_iFoldCells a k hp)) tot_fn
end Go.Proofs.Ytfoioficiffgkaa
