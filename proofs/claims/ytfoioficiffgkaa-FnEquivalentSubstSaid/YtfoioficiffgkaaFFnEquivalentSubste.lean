/-
  Contracts of single functions of the program, each shown by the engine: what a call returns for arguments within the contract's bounds.
-/
import Derived.Test.YtfoioficiffgkaaFFnEquivalentSubsta
import Derived.Test.YtfoioficiffgkaaEd
import Derived.Test.YtfoioficiffgkaaEe
import Derived.Test.YtfoioficiffgkaaFFnEquivalentSubstd
import Derived.Test.YtfoioficiffgkaaFFnEquivalentSubstb
import Derived.Test.YtfoioficiffgkaaEf
set_option linter.unusedSimpArgs false
set_option linter.unusedVariables false
set_option linter.unusedSectionVars false

namespace Go.Proofs.Ytfoioficiffgkaa
open Go.SE Go.RowKit
set_option linter.unusedSimpArgs false
set_option linter.unusedVariables false
set_option maxHeartbeats 1000000
set_option maxRecDepth 100000
abbrev c_l3Terms : Con := ⟨[.asn], [.sl .bool], fun (a, _) => asV a = true ∨ vA a = true, .inl fun (a, _) => (fl9 (occ a), ()), fun _ => 0⟩
abbrev L_l3Terms : List (FuncId × Con) := []
abbrev P_l3Terms : List (FuncId × PT) := []
def an_l3Terms (a : GAsn) : Nat -> St -> Option Ann
 | 3, se => some { α := Nat, ok := fun i => i <= a.facts.length, mu := fun i => a.facts.length - i, i0 := fun _ => 0, nx := fun a _ => (fun i => i + 1) a, live := [1, 2], sets := fun i => [(4, sv (.int .i64 i))], mids := [31, 32], blks := fun i => [], owns := fun i => [⟨7, .slot 3, .bool, fl9 (occF (a.facts.take i))⟩], rd := fun r _ => r, base := 100000 }
 | 8, se => some { α := Nat, ok := fun i => i <= a.atoms.length, mu := fun i => a.atoms.length - i, i0 := fun _ => 0, nx := fun a _ => (fun i => i + 1) a, live := [1, 2], sets := fun i => [(5, sv (.int .i64 i))], mids := [31, 32], blks := fun i => [], owns := fun i => [⟨7, .slot 3, .bool, fl9 (fun t => occF a.facts t || occG (a.atoms.take i) t)⟩], rd := fun r _ => r, base := 200000 }
 | _, _ => none
def VC_l3Terms_1  : Prop := ([.s (.c (.d (.val (.int .i64 (0 : Int)))))] : List S) = [.s (.c (.d (.val (.int .i64 ((0 : Nat) : Int)))))]
def VC_l3Terms_2 (a : GAsn) : Prop := RM [some (.blk [.d (.arr .fact a.facts), .d (.arr .atom a.atoms)]), some (.sl 32 .bool ([] : List Bool))]
def VC_l3Terms_3 (i1 : Nat) : Prop := ([.s (.c (.d (.val (.int .i64 (((i1 : Nat) : Int) + (1 : Int))))))] : List S) = [.s (.c (.d (.val (.int .i64 (((i1 + 1) : Nat) : Int)))))]
def VC_l3Terms_4 (i1 : Nat) (a : GAsn) : Prop := (True /\ (vcIf (decide (((i1 : Nat) : Int) < ((a.facts.length : Nat) : Int))) (True /\ True /\ True /\ True /\ (0 <= ((i1 : Nat) : Int) /\ ((i1 : Nat) : Int) < ((a.facts.length : Nat) : Int)) /\ True /\ True /\ (0 <= ((a.facts.getD i1 (⟨false, 0, 0⟩ : GFact)).a) /\ ((a.facts.getD i1 (⟨false, 0, 0⟩ : GFact)).a) < (((fl9 (occF (a.facts.take i1))).length : Nat) : Int)) /\ (TF /\ TF /\ True /\ ((7 : Nat) ∉ ([] : List Nat))) /\ True /\ True /\ True /\ True /\ (0 <= ((i1 : Nat) : Int) /\ ((i1 : Nat) : Int) < ((a.facts.length : Nat) : Int)) /\ True /\ True /\ (0 <= ((a.facts.getD i1 (⟨false, 0, 0⟩ : GFact)).b) /\ ((a.facts.getD i1 (⟨false, 0, 0⟩ : GFact)).b) < ((((fl9 (occF (a.facts.take i1))).set ((a.facts.getD i1 (⟨false, 0, 0⟩ : GFact)).a).toNat true).length : Nat) : Int)) /\ (TF /\ TF /\ True /\ ((7 : Nat) ∉ ([] : List Nat))) /\ True /\ (inK .i64 (((i1 : Nat) : Int) + (1 : Int))) /\ True /\ ((i1 + 1) <= a.facts.length) /\ (a.facts.length - (i1 + 1) < a.facts.length - i1) /\ TT /\ (RL [.s (.c (.ptr 31 0)), .s (.c (.own 32))]) /\ (VC_l3Terms_3 i1) /\ (VC_l3Terms_2 a) /\ (RM []) /\ (((some (((fl9 (occF (a.facts.take i1))).set ((a.facts.getD i1 (⟨false, 0, 0⟩ : GFact)).a).toNat true).set ((a.facts.getD i1 (⟨false, 0, 0⟩ : GFact)).b).toNat true) : Option (List Bool)) = some (fl9 (occF (a.facts.take (i1 + 1))))) /\ True) /\ TT) (True /\ ((0 <= a.atoms.length) /\ TT /\ (RL [.s (.c (.ptr 31 0)), .s (.c (.own 32))]) /\ VC_l3Terms_1 /\ (VC_l3Terms_2 a) /\ (RM []) /\ (((some (fl9 (occF (a.facts.take i1))) : Option (List Bool)) = some (fl9 (fun t => occF a.facts t || occG (a.atoms.take 0) t))) /\ True) /\ TT) /\ (∀ i2 : Nat, (i2 <= a.atoms.length) -> True /\ True /\ True /\ True /\ True /\ (vcIf (decide (((i2 : Nat) : Int) < ((a.atoms.length : Nat) : Int))) (True /\ True /\ True /\ True /\ (0 <= ((i2 : Nat) : Int) /\ ((i2 : Nat) : Int) < ((a.atoms.length : Nat) : Int)) /\ True /\ True /\ (0 <= ((a.atoms.getD i2 (⟨0, 0, 0⟩ : GAtom)).a) /\ ((a.atoms.getD i2 (⟨0, 0, 0⟩ : GAtom)).a) < (((fl9 (fun t => occF a.facts t || occG (a.atoms.take i2) t)).length : Nat) : Int)) /\ (TF /\ TF /\ True /\ ((7 : Nat) ∉ ([] : List Nat))) /\ True /\ True /\ True /\ True /\ (0 <= ((i2 : Nat) : Int) /\ ((i2 : Nat) : Int) < ((a.atoms.length : Nat) : Int)) /\ True /\ True /\ (0 <= ((a.atoms.getD i2 (⟨0, 0, 0⟩ : GAtom)).b) /\ ((a.atoms.getD i2 (⟨0, 0, 0⟩ : GAtom)).b) < ((((fl9 (fun t => occF a.facts t || occG (a.atoms.take i2) t)).set ((a.atoms.getD i2 (⟨0, 0, 0⟩ : GAtom)).a).toNat true).length : Nat) : Int)) /\ (TF /\ TF /\ True /\ ((7 : Nat) ∉ ([] : List Nat))) /\ True /\ (inK .i64 (((i2 : Nat) : Int) + (1 : Int))) /\ True /\ ((i2 + 1) <= a.atoms.length) /\ (a.atoms.length - (i2 + 1) < a.atoms.length - i2) /\ TT /\ (RL [.s (.c (.ptr 31 0)), .s (.c (.own 32))]) /\ (VC_l3Terms_3 i2) /\ (VC_l3Terms_2 a) /\ (RM []) /\ (((some (((fl9 (fun t => occF a.facts t || occG (a.atoms.take i2) t)).set ((a.atoms.getD i2 (⟨0, 0, 0⟩ : GAtom)).a).toNat true).set ((a.atoms.getD i2 (⟨0, 0, 0⟩ : GAtom)).b).toNat true) : Option (List Bool)) = some (fl9 (fun t => occF a.facts t || occG (a.atoms.take (i2 + 1)) t))) /\ True) /\ TT) (True /\ True /\ (((fl9 (fun t => occF a.facts t || occG (a.atoms.take i2) t), ()) : (List Bool) × Unit) = (fl9 (occ a), ())) /\ (True /\ True) /\ ((TF /\ TF) /\ True) /\ True /\ (True /\ True) /\ TF))))))
def VC_l3Terms (a : GAsn) (k : Nat) : Prop := TN /\ TN /\ (TN /\ (0 <= (9 : Int) /\ (9 : Int) <= (9 : Int) /\ (9 : Int) <= 4294967296)) /\ True /\ True /\ ((0 <= a.facts.length) /\ TT /\ (RL [.s (.c (.ptr 31 0)), .s (.c (.own 32))]) /\ VC_l3Terms_1 /\ (VC_l3Terms_2 a) /\ (RM []) /\ (((some (List.replicate 9 false) : Option (List Bool)) = some (fl9 (occF (a.facts.take 0)))) /\ True) /\ TT) /\ (∀ i1 : Nat, (i1 <= a.facts.length) -> True /\ True /\ True /\ True /\ (VC_l3Terms_4 i1 a))
theorem vcn_l3Terms (a : GAsn) (k : Nat) (hp : asV a = true ∨ vA a = true) : VC_l3Terms a k := by
 unfold VC_l3Terms VC_l3Terms_4 VC_l3Terms_3 VC_l3Terms_2 VC_l3Terms_1
 simp only [cln, Nat.reduceEqDiff, Nat.reduceLeDiff, Nat.reduceAdd]
 have hl := vA_iff.1 (hp.elim vA_of id)
 have hF := fun i (h : i < a.facts.length) => fV_isT (all_get (d := (⟨false, 0, 0⟩ : GFact)) hl.1 h)
 have hG := fun i (h : i < a.atoms.length) => atV_isT (all_get (d := (⟨0, 0, 0⟩ : GAtom)) hl.2.1 h)
 have hi : ∀ t, isT t = true -> 0 <= t /\ t <= 8 := fun t h => isT_iff.1 h
 have hL := fl9_len
 all_goals (try simp only [opn])
 all_goals (repeat' (first | apply And.intro | intro _))
 all_goals (first | omega | rfl | (simp_all; done) | (exact flF_step ‹_› (hF _ ‹_›).1 (hF _ ‹_›).2) | (exact flG_step ‹_› (hG _ ‹_›).1 (hG _ ‹_›).2) | skip)
 all_goals (first | (have h1 := hF _ ‹_›; have h2 := hi _ h1.1; have h3 := hi _ h1.2; simp only [List.length_set, hL]; omega) | (have h1 := hG _ ‹_›; have h2 := hi _ h1.1; have h3 := hi _ h1.2; simp only [List.length_set, hL]; omega) | (rw [take_full ‹_›]; done) | (rw [take_full ‹_›]; apply fl9_congr; intro t; simp [occF, occG, occ]; done) | (rw [take_full ‹_›]; rfl) | grind)
theorem ok_l3Terms : FnOk Try.prog E 92 c_l3Terms :=
 fn_okQ (l := L_l3Terms) (lp := P_l3Terms) (hp := fun _ => false) (gcs := fun _ => none) (perm := fun _ => []) tabOk mix trivial trivial Try.func92 rfl (by kernel_rfl) (by decide) (by kernel_rfl) (anns := fun x _ => an_l3Terms x.1) (fun ⟨a, _⟩ k hp _ => Eq.mp (by kernel_rfl) (vcn_l3Terms a k hp)) tot_fn
abbrev c_l5Fits : Con := ⟨[.sl .fact, .sl .int], [.bool], fun (l, c, _) => l.length <= 1048576 /\ l.all fV = true /\ c.length = 9, .inl fun (l, c, _) => (sFit l c, ()), fun _ => 0⟩
abbrev L_l5Fits : List (FuncId × Con) := []
abbrev P_l5Fits : List (FuncId × PT) := []
def an_l5Fits (l : List GFact) (c : List Int) : Nat -> St -> Option Ann
 | 2, se => some { α := Nat, ok := fun i => i <= l.length /\ sFit (l.take i) c = true, mu := fun i => l.length - i, i0 := fun _ => 0, nx := fun a _ => (fun i => i + 1) a, live := [0, 1], sets := fun i => [(5, sv (.int .i64 i))], mids := [], blks := fun i => [], owns := fun i => [], rd := fun r _ => r, base := 100000 }
 | _, _ => none
def VC_l5Fits_1 (i1 : Nat) (l : List GFact) (c : List Int) : Prop := True /\ (inK .i64 (((i1 : Nat) : Int) + (1 : Int))) /\ True /\ ((i1 + 1) <= l.length /\ sFit (l.take (i1 + 1)) c = true) /\ (l.length - (i1 + 1) < l.length - i1) /\ TT /\ (RL [.s (.c (.d (.arr .fact l))), .s (.c (.d (.arr .int c)))]) /\ (([.s (.c (.d (.val (.int .i64 (((i1 : Nat) : Int) + (1 : Int))))))] : List S) = [.s (.c (.d (.val (.int .i64 (((i1 + 1) : Nat) : Int)))))]) /\ (RM []) /\ (RM []) /\ True /\ TT
def VC_l5Fits_2 (i1 : Nat) (l : List GFact) (c : List Int) : Prop := True /\ (VC_l5Fits_1 i1 l c)
def VC_l5Fits (l : List GFact) (c : List Int) (k : Nat) : Prop := True /\ True /\ ((0 <= l.length /\ sFit (l.take 0) c = true) /\ TT /\ (RL [.s (.c (.d (.arr .fact l))), .s (.c (.d (.arr .int c)))]) /\ (([.s (.c (.d (.val (.int .i64 (0 : Int)))))] : List S) = [.s (.c (.d (.val (.int .i64 ((0 : Nat) : Int)))))]) /\ (RM []) /\ (RM []) /\ True /\ TT) /\ (∀ i1 : Nat, (i1 <= l.length /\ sFit (l.take i1) c = true) -> True /\ True /\ True /\ True /\ (vcIf (decide (((i1 : Nat) : Int) < ((l.length : Nat) : Int))) (True /\ True /\ True /\ (0 <= ((i1 : Nat) : Int) /\ ((i1 : Nat) : Int) < ((l.length : Nat) : Int)) /\ True /\ True /\ (0 <= ((l.getD i1 (⟨false, 0, 0⟩ : GFact)).a) /\ ((l.getD i1 (⟨false, 0, 0⟩ : GFact)).a) < ((c.length : Nat) : Int)) /\ True /\ True /\ True /\ True /\ True /\ (0 <= ((i1 : Nat) : Int) /\ ((i1 : Nat) : Int) < ((l.length : Nat) : Int)) /\ True /\ True /\ (0 <= ((l.getD i1 (⟨false, 0, 0⟩ : GFact)).b) /\ ((l.getD i1 (⟨false, 0, 0⟩ : GFact)).b) < ((c.length : Nat) : Int)) /\ True /\ True /\ True /\ True /\ True /\ (vcIf (decide ((0 : Int) <= (c.getD ((l.getD i1 (⟨false, 0, 0⟩ : GFact)).a).toNat (0 : Int)))) (True /\ True /\ True /\ True /\ (vcIf (decide ((0 : Int) <= (c.getD ((l.getD i1 (⟨false, 0, 0⟩ : GFact)).b).toNat (0 : Int)))) (True /\ True /\ True /\ True /\ True /\ (0 <= ((i1 : Nat) : Int) /\ ((i1 : Nat) : Int) < ((l.length : Nat) : Int)) /\ True /\ True /\ True /\ True /\ (vcIf (((c.getD ((l.getD i1 (⟨false, 0, 0⟩ : GFact)).a).toNat (0 : Int)) == (c.getD ((l.getD i1 (⟨false, 0, 0⟩ : GFact)).b).toNat (0 : Int))) != ((l.getD i1 (⟨false, 0, 0⟩ : GFact)).eq)) (True /\ (((false, ()) : Bool × Unit) = (sFit l c, ())) /\ True /\ True /\ True /\ True /\ TF) (VC_l5Fits_1 i1 l c))) (VC_l5Fits_2 i1 l c))) (True /\ True /\ (VC_l5Fits_2 i1 l c)))) (True /\ (((true, ()) : Bool × Unit) = (sFit l c, ())) /\ True /\ True /\ True /\ True /\ TF)))
theorem vcn_l5Fits (l : List GFact) (c : List Int) (k : Nat) (hp : l.length <= 1048576 /\ l.all fV = true /\ c.length = 9) : VC_l5Fits l c k := by
 unfold VC_l5Fits VC_l5Fits_2 VC_l5Fits_1
 simp only [cln, Nat.reduceEqDiff, Nat.reduceLeDiff, Nat.reduceAdd]
 have hV := hp.2.1
 all_goals (try simp only [opn])
 all_goals (repeat' (first | apply And.intro | intro _))
 all_goals (repeat (cases ‹_ /\ _›))
 all_goals (first | omega | rfl | assumption | (simp_all; done) | skip)
 all_goals (first
  | (have h1 := fact_idx (l := l) hV ‹_›; omega)
  | (symm; exact sFit_no ‹_› ‹_› ‹_› (by unfold fh cl; rw [beq_eq_false_iff_ne]; assumption))
  | (rw [sFit_step (d := ⟨false, 0, 0⟩) ‹_›]; unfold fh cl; simp_all; done)
  | (rw [take_full (l := l) ‹_›] at *; simp_all; done) | skip)
theorem ok_l5Fits : FnOk Try.prog E 122 c_l5Fits :=
 fn_okQ (l := L_l5Fits) (lp := P_l5Fits) (hp := fun _ => false) (gcs := fun _ => none) (perm := fun _ => []) tabOk mix trivial trivial Try.func122 rfl (by kernel_rfl) (by decide) (by kernel_rfl) (anns := fun x _ => an_l5Fits x.1 x.2.1) (fun ⟨l, c, _⟩ k hp _ => Eq.mp (by kernel_rfl) (vcn_l5Fits l c k hp)) tot_fn
abbrev c_l5Apart : Con := ⟨[.sl .atom], [.bool], fun (l, _) => l.length <= 1048576, .inl fun (l, _) => (sApart l, ()), fun _ => 0⟩
abbrev L_l5Apart : List (FuncId × Con) := []
abbrev P_l5Apart : List (FuncId × PT) := []
def an_l5Apart (l : List GAtom) : Nat -> St -> Option Ann
 | 2, se => some { α := Nat, ok := fun i => i <= l.length /\ sApart (l.take i) = true, mu := fun i => l.length - i, i0 := fun _ => 0, nx := fun a _ => (fun i => i + 1) a, live := [0], sets := fun i => [(3, sv (.int .i64 i))], mids := [], blks := fun i => [], owns := fun i => [], rd := fun r _ => r, base := 100000 }
 | 7, se => some { α := Nat, ok := fun j => (j : Int) <= intAt se 3 /\ ((l.take j).all fun x => !(x.a == (l.getD (intAt se 3).toNat ⟨0, 0, 0⟩).a)) = true, mu := fun j => (intAt se 3).toNat - j, i0 := fun _ => 0, nx := fun a _ => (fun j => j + 1) a, live := [0, 3], sets := fun j => [(4, sv (.int .i64 j))], mids := [], blks := fun j => [], owns := fun j => [], rd := fun r _ => r, base := 200000 }
 | _, _ => none
def VC_l5Apart_1  : Prop := (([.s (.c (.d (.val (.int .i64 (0 : Int)))))] : List S) = [.s (.c (.d (.val (.int .i64 ((0 : Nat) : Int)))))]) /\ (RM []) /\ (RM []) /\ True /\ TT
def VC_l5Apart_2 (l : List GAtom) : Prop := True /\ (((false, ()) : Bool × Unit) = (sApart l, ())) /\ True /\ True /\ True /\ True /\ TF
def VC_l5Apart_3 (j2 : Nat) : Prop := (([.s (.c (.d (.val (.int .i64 (((j2 : Nat) : Int) + (1 : Int))))))] : List S) = [.s (.c (.d (.val (.int .i64 (((j2 + 1) : Nat) : Int)))))]) /\ (RM []) /\ (RM []) /\ True /\ TT
def VC_l5Apart (l : List GAtom) (k : Nat) : Prop := True /\ True /\ ((0 <= l.length /\ sApart (l.take 0) = true) /\ TT /\ (RL [.s (.c (.d (.arr .atom l)))]) /\ VC_l5Apart_1) /\ (∀ i1 : Nat, (i1 <= l.length /\ sApart (l.take i1) = true) -> True /\ True /\ True /\ True /\ (vcIf (decide (((i1 : Nat) : Int) < ((l.length : Nat) : Int))) (True /\ True /\ (0 <= ((i1 : Nat) : Int) /\ ((i1 : Nat) : Int) < ((l.length : Nat) : Int)) /\ True /\ True /\ True /\ (vcIf (((l.getD i1 (⟨0, 0, 0⟩ : GAtom)).a) == (0 : Int)) (VC_l5Apart_2 l) (True /\ (((0 : Int) <= ((i1 : Nat) : Int) /\ ((l.take 0).all fun x => !(x.a == (l.getD (((i1 : Nat) : Int)).toNat ⟨0, 0, 0⟩).a)) = true) /\ TT /\ (RL [.s (.c (.d (.arr .atom l))), .s (.c (.d (.val (.int .i64 ((i1 : Nat) : Int)))))]) /\ VC_l5Apart_1) /\ (∀ j2 : Nat, ((j2 : Int) <= ((i1 : Nat) : Int) /\ ((l.take j2).all fun x => !(x.a == (l.getD (((i1 : Nat) : Int)).toNat ⟨0, 0, 0⟩).a)) = true) -> True /\ True /\ True /\ (vcIf (decide (((j2 : Nat) : Int) < ((i1 : Nat) : Int))) (True /\ True /\ (0 <= ((j2 : Nat) : Int) /\ ((j2 : Nat) : Int) < ((l.length : Nat) : Int)) /\ True /\ True /\ True /\ True /\ (0 <= ((i1 : Nat) : Int) /\ ((i1 : Nat) : Int) < ((l.length : Nat) : Int)) /\ True /\ True /\ True /\ (vcIf (((l.getD j2 (⟨0, 0, 0⟩ : GAtom)).a) == ((l.getD i1 (⟨0, 0, 0⟩ : GAtom)).a)) (VC_l5Apart_2 l) (True /\ (inK .i64 (((j2 : Nat) : Int) + (1 : Int))) /\ True /\ (((j2 + 1) : Int) <= ((i1 : Nat) : Int) /\ ((l.take (j2 + 1)).all fun x => !(x.a == (l.getD (((i1 : Nat) : Int)).toNat ⟨0, 0, 0⟩).a)) = true) /\ ((((i1 : Nat) : Int)).toNat - (j2 + 1) < (((i1 : Nat) : Int)).toNat - j2) /\ TT /\ (RL [.s (.c (.d (.arr .atom l))), .s (.c (.d (.val (.int .i64 ((i1 : Nat) : Int)))))]) /\ (VC_l5Apart_3 j2)))) (True /\ (inK .i64 (((i1 : Nat) : Int) + (1 : Int))) /\ True /\ ((i1 + 1) <= l.length /\ sApart (l.take (i1 + 1)) = true) /\ (l.length - (i1 + 1) < l.length - i1) /\ TT /\ (RL [.s (.c (.d (.arr .atom l)))]) /\ (VC_l5Apart_3 i1))))))) (True /\ (((true, ()) : Bool × Unit) = (sApart l, ())) /\ True /\ True /\ True /\ True /\ TF)))
theorem vcn_l5Apart (l : List GAtom) (k : Nat) (hp : l.length <= 1048576) : VC_l5Apart l k := by
 unfold VC_l5Apart VC_l5Apart_3 VC_l5Apart_2 VC_l5Apart_1
 simp only [cln, Nat.reduceEqDiff, Nat.reduceLeDiff, Nat.reduceAdd]
 all_goals (try simp only [opn])
 all_goals (repeat' (first | apply And.intro | intro _))
 all_goals (repeat (cases ‹_ /\ _›))
 all_goals (first | omega | rfl | assumption | (simp_all; done) | skip)
 all_goals (first
  | (symm; exact sApart_zero (d := ⟨0, 0, 0⟩) ‹_› ‹_›)
  | (symm; exact sApart_two (d := ⟨0, 0, 0⟩) (h := by assumption) (hj := by assumption) (h0 := by assumption))
  | exact apart_in (by omega) ‹_› ‹_›
  | exact apart_fin ‹_› ‹_› ‹_› ‹_› ‹_› ‹_›
  | (rw [take_full (l := l) ‹_›] at *; simp_all; done) | skip)
theorem ok_l5Apart : FnOk Try.prog E 123 c_l5Apart :=
 fn_okQ (l := L_l5Apart) (lp := P_l5Apart) (hp := fun _ => false) (gcs := fun _ => none) (perm := fun _ => []) tabOk mix trivial trivial Try.func123 rfl (by kernel_rfl) (by decide) (by kernel_rfl) (anns := fun x _ => an_l5Apart x.1) (fun ⟨l, _⟩ k hp _ => Eq.mp (by kernel_rfl) (vcn_l5Apart l k hp)) tot_fn
abbrev c_l5Filled : Con := ⟨[.sl .atom, .sl .int], [.sl .atom], fun (l, c, _) => l.length <= 1048576 /\ l.all atV = true /\ c.length = 9, .inl fun (l, c, _) => (fL c l, ()), fun _ => 0⟩
abbrev L_l5Filled : List (FuncId × Con) := []
abbrev P_l5Filled : List (FuncId × PT) := []
def an_l5Filled (l : List GAtom) (c : List Int) : Nat -> St -> Option Ann
 | 3, se => some { α := Nat, ok := fun i => i <= l.length, mu := fun i => l.length - i, i0 := fun _ => 0, nx := fun a _ => (fun i => i + 1) a, live := [0, 1, 4], sets := fun i => [(6, sv (.int .i64 i))], mids := [64], blks := fun i => [], owns := fun i => [⟨7, .slot 5, .atom, fL c (l.take i)⟩], rd := fun r _ => r, base := 100000 }
 | _, _ => none
def VC_l5Filled_1 (i1 : Nat) : Prop := ([.s (.c (.d (.val (.int .i64 (((i1 : Nat) : Int) + (1 : Int))))))] : List S) = [.s (.c (.d (.val (.int .i64 (((i1 + 1) : Nat) : Int)))))]
def VC_l5Filled_2 (c : List Int) (l : List GAtom) (i1 : Nat) : Prop := True /\ True /\ (TN /\ True) /\ (TN /\ TF /\ TF /\ ((fL c (l.take i1)).length + ([(⟨(l.getD i1 (⟨0, 0, 0⟩ : GAtom)).kind, (c.getD ((l.getD i1 (⟨0, 0, 0⟩ : GAtom)).a).toNat (0 : Int)), (c.getD ((l.getD i1 (⟨0, 0, 0⟩ : GAtom)).b).toNat (0 : Int))⟩ : GAtom)] : List GAtom).length <= 4294967296)) /\ True /\ True /\ (inK .i64 (((i1 : Nat) : Int) + (1 : Int))) /\ True /\ ((i1 + 1) <= l.length) /\ (l.length - (i1 + 1) < l.length - i1) /\ TT /\ (RL [.s (.c (.d (.arr .atom l))), .s (.c (.d (.arr .int c))), .s (.c (.own 64))]) /\ (VC_l5Filled_1 i1) /\ (RM [some (.sl 64 .atom ([] : List GAtom))]) /\ (RM []) /\ (((some ((fL c (l.take i1)) ++ ([(⟨(l.getD i1 (⟨0, 0, 0⟩ : GAtom)).kind, (c.getD ((l.getD i1 (⟨0, 0, 0⟩ : GAtom)).a).toNat (0 : Int)), (c.getD ((l.getD i1 (⟨0, 0, 0⟩ : GAtom)).b).toNat (0 : Int))⟩ : GAtom)] : List GAtom)) : Option (List GAtom)) = some (fL c (l.take (i1 + 1)))) /\ True) /\ TT
def VC_l5Filled (l : List GAtom) (c : List Int) (k : Nat) : Prop := TN /\ (TN /\ True) /\ True /\ True /\ ((0 <= l.length) /\ TT /\ (RL [.s (.c (.d (.arr .atom l))), .s (.c (.d (.arr .int c))), .s (.c (.own 64))]) /\ (([.s (.c (.d (.val (.int .i64 (0 : Int)))))] : List S) = [.s (.c (.d (.val (.int .i64 ((0 : Nat) : Int)))))]) /\ (RM [some (.sl 64 .atom ([] : List GAtom))]) /\ (RM []) /\ (((some ([] : List GAtom) : Option (List GAtom)) = some (fL c (l.take 0))) /\ True) /\ TT) /\ (∀ i1 : Nat, (i1 <= l.length) -> True /\ True /\ True /\ True /\ (vcIf (decide (((i1 : Nat) : Int) < ((l.length : Nat) : Int))) (True /\ True /\ (0 <= ((i1 : Nat) : Int) /\ ((i1 : Nat) : Int) < ((l.length : Nat) : Int)) /\ True /\ True /\ True /\ True /\ True /\ (0 <= ((i1 : Nat) : Int) /\ ((i1 : Nat) : Int) < ((l.length : Nat) : Int)) /\ True /\ True /\ (0 <= ((l.getD i1 (⟨0, 0, 0⟩ : GAtom)).a) /\ ((l.getD i1 (⟨0, 0, 0⟩ : GAtom)).a) < ((c.length : Nat) : Int)) /\ True /\ True /\ True /\ True /\ (0 <= ((i1 : Nat) : Int) /\ ((i1 : Nat) : Int) < ((l.length : Nat) : Int)) /\ True /\ True /\ (0 <= ((l.getD i1 (⟨0, 0, 0⟩ : GAtom)).b) /\ ((l.getD i1 (⟨0, 0, 0⟩ : GAtom)).b) < ((c.length : Nat) : Int)) /\ True /\ True /\ (TN /\ True) /\ (TF /\ TF) /\ True /\ True /\ True /\ True /\ (vcIf (((l.getD i1 (⟨0, 0, 0⟩ : GAtom)).kind) == (1 : Int)) (True /\ (VC_l5Filled_2 c l i1)) (True /\ True /\ True /\ True /\ True /\ True /\ (vcIf ((c.getD ((l.getD i1 (⟨0, 0, 0⟩ : GAtom)).a).toNat (0 : Int)) != (c.getD ((l.getD i1 (⟨0, 0, 0⟩ : GAtom)).b).toNat (0 : Int))) (VC_l5Filled_2 c l i1) (True /\ (inK .i64 (((i1 : Nat) : Int) + (1 : Int))) /\ True /\ ((i1 + 1) <= l.length) /\ (l.length - (i1 + 1) < l.length - i1) /\ TT /\ (RL [.s (.c (.d (.arr .atom l))), .s (.c (.d (.arr .int c))), .s (.c (.own 64))]) /\ (VC_l5Filled_1 i1) /\ (RM [some (.sl 64 .atom ([] : List GAtom))]) /\ (RM []) /\ (((some (fL c (l.take i1)) : Option (List GAtom)) = some (fL c (l.take (i1 + 1)))) /\ True) /\ TT))))) (True /\ True /\ (((fL c (l.take i1), ()) : (List GAtom) × Unit) = (fL c l, ())) /\ (True /\ True) /\ ((TF /\ TF) /\ True) /\ True /\ (True /\ True) /\ TF)))
theorem vcn_l5Filled (l : List GAtom) (c : List Int) (k : Nat) (hp : l.length <= 1048576 /\ l.all atV = true /\ c.length = 9) : VC_l5Filled l c k := by
 unfold VC_l5Filled VC_l5Filled_2 VC_l5Filled_1
 simp only [cln, Nat.reduceEqDiff, Nat.reduceLeDiff, Nat.reduceAdd]
 have hV := hp.2.1
 have hL : ∀ i, (fL c (l.take i)).length <= 1048576 := fun i => Nat.le_trans (fL_len _ _) (by simp; omega)
 all_goals (try simp only [opn])
 all_goals (repeat' (first | apply And.intro | intro _))
 all_goals (repeat (cases ‹_ /\ _›))
 all_goals (first | omega | rfl | assumption | (simp_all; done) | skip)
 all_goals (first
  | (have h1 := atom_idx (l := l) hV ‹_›; omega)
  | exact Nat.le_trans (hL _) (by decide)
  | (rw [fL_step (d := ⟨0, 0, 0⟩) ‹_›]; unfold filB cl; simp_all; done)
  | (rw [fL_step (d := ⟨0, 0, 0⟩) ‹_›]; unfold filB cl; rw [beq_eq_false_iff_ne.2 (by assumption : ¬ (_ : GAtom).kind = 1), beq_eq_false_iff_ne.2 ‹_›]; rfl)
  | (rw [fL_step (d := ⟨0, 0, 0⟩) ‹_›]; unfold filB cl; rw [beq_eq_false_iff_ne.2 (by assumption : ¬ (_ : GAtom).kind = 1), beq_iff_eq.2 ‹_›]; rfl)
  | (rw [take_full (l := l) ‹_›]; done) | skip)
theorem ok_l5Filled : FnOk Try.prog E 124 c_l5Filled :=
 fn_okQ (l := L_l5Filled) (lp := P_l5Filled) (hp := fun _ => false) (gcs := fun _ => none) (perm := fun _ => []) tabOk mix trivial trivial Try.func124 rfl (by kernel_rfl) (by decide) (by kernel_rfl) (anns := fun x _ => an_l5Filled x.1 x.2.1) (fun ⟨l, c, _⟩ k hp _ => Eq.mp (by kernel_rfl) (vcn_l5Filled l c k hp)) tot_fn
abbrev c_l5Early : Con := ⟨[.sl .atom, .sl .int], [.bool], fun (l, c, _) => l.length <= 1048576 /\ l.all atV = true /\ c.length = 9 /\ le8 c = true, .inl fun (l, c, _) => (sEarly l c, ()), fun _ => 0⟩
abbrev L_l5Early : List (FuncId × Con) := []
abbrev P_l5Early : List (FuncId × PT) := []
def an_l5Early (l : List GAtom) (c : List Int) : Nat -> St -> Option Ann
 | 3, se => some { α := Nat, ok := fun i => i <= l.length /\ okS [] (est c (l.take i)) = true, mu := fun i => l.length - i, i0 := fun _ => 0, nx := fun a _ => (fun i => i + 1) a, live := [0, 1], sets := fun i => [(6, sv (.int .i64 i))], mids := [], blks := fun i => [], owns := fun i => [⟨7, .slot 5, .bool, fl9 (fun t => (est c (l.take i)).contains t)⟩], rd := fun r _ => r, base := 100000 }
 | _, _ => none
def VC_l5Early_1 (i1 : Nat) : Prop := ([.s (.c (.d (.val (.int .i64 (((i1 : Nat) : Int) + (1 : Int))))))] : List S) = [.s (.c (.d (.val (.int .i64 (((i1 + 1) : Nat) : Int)))))]
def VC_l5Early_2 (i1 : Nat) (l : List GAtom) (c : List Int) : Prop := True /\ (inK .i64 (((i1 : Nat) : Int) + (1 : Int))) /\ True /\ ((i1 + 1) <= l.length /\ okS [] (est c (l.take (i1 + 1))) = true) /\ (l.length - (i1 + 1) < l.length - i1) /\ TT /\ (RL [.s (.c (.d (.arr .atom l))), .s (.c (.d (.arr .int c)))]) /\ (VC_l5Early_1 i1) /\ (RM []) /\ (RM []) /\ (((some (fl9 (fun t => (est c (l.take i1)).contains t)) : Option (List Bool)) = some (fl9 (fun t => (est c (l.take (i1 + 1))).contains t))) /\ True) /\ TT
def VC_l5Early_3 (l : List GAtom) (c : List Int) : Prop := True /\ (((false, ()) : Bool × Unit) = (sEarly l c, ())) /\ True /\ True /\ True /\ True /\ TF
def VC_l5Early_4 (c : List Int) (l : List GAtom) (i1 : Nat) : Prop := 0 <= (c.getD ((l.getD i1 (⟨0, 0, 0⟩ : GAtom)).a).toNat (0 : Int)) /\ (c.getD ((l.getD i1 (⟨0, 0, 0⟩ : GAtom)).a).toNat (0 : Int)) < (((fl9 (fun t => (est c (l.take i1)).contains t)).length : Nat) : Int)
def VC_l5Early (l : List GAtom) (c : List Int) (k : Nat) : Prop := True /\ (TN /\ (0 <= (9 : Int) /\ (9 : Int) <= (9 : Int) /\ (9 : Int) <= 4294967296)) /\ True /\ True /\ ((0 <= l.length /\ okS [] (est c (l.take 0)) = true) /\ TT /\ (RL [.s (.c (.d (.arr .atom l))), .s (.c (.d (.arr .int c)))]) /\ (([.s (.c (.d (.val (.int .i64 (0 : Int)))))] : List S) = [.s (.c (.d (.val (.int .i64 ((0 : Nat) : Int)))))]) /\ (RM []) /\ (RM []) /\ (((some (List.replicate 9 false) : Option (List Bool)) = some (fl9 (fun t => (est c (l.take 0)).contains t))) /\ True) /\ TT) /\ (∀ i1 : Nat, (i1 <= l.length /\ okS [] (est c (l.take i1)) = true) -> True /\ True /\ True /\ True /\ (vcIf (decide (((i1 : Nat) : Int) < ((l.length : Nat) : Int))) (True /\ True /\ True /\ (0 <= ((i1 : Nat) : Int) /\ ((i1 : Nat) : Int) < ((l.length : Nat) : Int)) /\ True /\ True /\ (0 <= ((l.getD i1 (⟨0, 0, 0⟩ : GAtom)).a) /\ ((l.getD i1 (⟨0, 0, 0⟩ : GAtom)).a) < ((c.length : Nat) : Int)) /\ True /\ True /\ True /\ True /\ (0 <= ((i1 : Nat) : Int) /\ ((i1 : Nat) : Int) < ((l.length : Nat) : Int)) /\ True /\ True /\ True /\ True /\ (vcIf (((l.getD i1 (⟨0, 0, 0⟩ : GAtom)).kind) != (1 : Int)) (True /\ (VC_l5Early_2 i1 l c)) (True /\ True /\ True /\ (vcIf (decide ((c.getD ((l.getD i1 (⟨0, 0, 0⟩ : GAtom)).a).toNat (0 : Int)) < (0 : Int))) (VC_l5Early_2 i1 l c) (True /\ True /\ True /\ (vcIf ((c.getD ((l.getD i1 (⟨0, 0, 0⟩ : GAtom)).a).toNat (0 : Int)) == (0 : Int)) (True /\ (VC_l5Early_3 l c)) (True /\ True /\ (VC_l5Early_4 c l i1) /\ True /\ True /\ (vcIf ((fl9 (fun t => (est c (l.take i1)).contains t)).getD (c.getD ((l.getD i1 (⟨0, 0, 0⟩ : GAtom)).a).toNat (0 : Int)).toNat false) (VC_l5Early_3 l c) (True /\ True /\ (VC_l5Early_4 c l i1) /\ (TF /\ TF /\ True /\ ((7 : Nat) ∉ ([] : List Nat))) /\ True /\ (inK .i64 (((i1 : Nat) : Int) + (1 : Int))) /\ True /\ ((i1 + 1) <= l.length /\ okS [] (est c (l.take (i1 + 1))) = true) /\ (l.length - (i1 + 1) < l.length - i1) /\ TT /\ (RL [.s (.c (.d (.arr .atom l))), .s (.c (.d (.arr .int c)))]) /\ (VC_l5Early_1 i1) /\ (RM []) /\ (RM []) /\ (((some ((fl9 (fun t => (est c (l.take i1)).contains t)).set (c.getD ((l.getD i1 (⟨0, 0, 0⟩ : GAtom)).a).toNat (0 : Int)).toNat true) : Option (List Bool)) = some (fl9 (fun t => (est c (l.take (i1 + 1))).contains t))) /\ True) /\ TT))))))))) (True /\ (((true, ()) : Bool × Unit) = (sEarly l c, ())) /\ True /\ True /\ True /\ True /\ TF)))
theorem vcn_l5Early (l : List GAtom) (c : List Int) (k : Nat) (hp : l.length <= 1048576 /\ l.all atV = true /\ c.length = 9 /\ le8 c = true) : VC_l5Early l c k := by
 unfold VC_l5Early VC_l5Early_4 VC_l5Early_3 VC_l5Early_2 VC_l5Early_1
 simp only [cln, Nat.reduceEqDiff, Nat.reduceLeDiff, Nat.reduceAdd]
 have h8 := le8_get hp.2.2.2
 have hV := hp.2.1
 all_goals (try simp only [opn])
 all_goals (repeat' (first | apply And.intro | intro _))
 all_goals (repeat (cases ‹_ /\ _›))
 all_goals (first | omega | rfl | assumption | (simp_all; done) | skip)
 all_goals (first
  | (have h1 := atom_idx (l := l) hV ‹_›; omega)
  | (rw [early_skip (d := ⟨0, 0, 0⟩) ‹_› (.inl ‹_›)]; done)
  | (rw [early_skip (d := ⟨0, 0, 0⟩) ‹_› (.inl ‹_›)]; assumption)
  | (rw [early_skip (d := ⟨0, 0, 0⟩) ‹_› (.inr ‹_›)]; done)
  | (rw [early_skip (d := ⟨0, 0, 0⟩) ‹_› (.inr ‹_›)]; assumption)
  | exact early_no (d := ⟨0, 0, 0⟩) ‹_› ‹_› ‹_› ‹_› (.inl ‹_›)
  | exact early_no (d := ⟨0, 0, 0⟩) ‹_› ‹_› ‹_› ‹_› (.inr ‹_›)
  | exact (early_go (d := ⟨0, 0, 0⟩) ‹_› ‹_› ‹_› ‹_› ‹_› ‹_› ‹_›).1
  | exact (early_go (d := ⟨0, 0, 0⟩) ‹_› ‹_› ‹_› ‹_› ‹_› ‹_› ‹_›).2
  | (rw [fl9_len]; exact Int.lt_of_le_of_lt (h8 _) (by decide))
  | (unfold sEarly; rw [take_full (l := l) ‹_›] at *; simp_all; done) | skip)
theorem ok_l5Early : FnOk Try.prog E 141 c_l5Early :=
 fn_okQ (l := L_l5Early) (lp := P_l5Early) (hp := fun _ => false) (gcs := fun _ => none) (perm := fun _ => []) tabOk mix trivial trivial Try.func141 rfl (by kernel_rfl) (by decide) (by kernel_rfl) (anns := fun x _ => an_l5Early x.1 x.2.1) (fun ⟨l, c, _⟩ k hp _ => Eq.mp (by kernel_rfl) (vcn_l5Early l c k hp)) tot_fn
abbrev c_l5First : Con := ⟨[.asn, .sl .bool, .sl .int, .int], [.sl .int, .bool], fun (a, tm, c, t, _) => vA a = true /\ tm.length = 9 /\ c.length = 9 /\ le8 c = true /\ 1 <= t /\ t <= 9, .inl fun (a, tm, c, t, _) => ((sQ (sFin a) a tm c t).headD [], !(sQ (sFin a) a tm c t).isEmpty, ()), fun _ => 0⟩
abbrev mu_l5First : Args c_l5First.aks -> Nat := fun (a, tm, c, t, _) => (9 - t).toNat
abbrev L_l5First (m : Nat) : List (FuncId × Con) := [(93, c_l5First.lim mu_l5First m), (122, c_l5Fits), (123, c_l5Apart), (124, c_l5Filled), (141, c_l5Early)]
abbrev P_l5First : List (FuncId × PT) := []
def an_l5First (a : GAsn) (tm : List Bool) (c : List Int) (t : Int) : Nat -> St -> Option Ann
 | 10, se => some { α := Nat, ok := fun i => (i : Int) <= t + 1 /\ ∀ j, j < i -> brE (sFin a) a tm c t j = [], mu := fun i => (t + 1).toNat - i, i0 := fun _ => 0, nx := fun a _ => (fun i => i + 1) a, live := [1, 2, 3, 4], sets := fun i => [(10, sv (.int .i64 i))], mids := [79], blks := fun i => [], owns := fun i => [], rd := fun r _ => r, base := 100000 }
 | _, _ => none
def VC_l5First_1 (a : GAsn) (tm : List Bool) (c : List Int) (t : Int) : Prop := (TN /\ True) /\ True /\ True /\ (((([] : List Int), false, ()) : (List Int) × Bool × Unit) = ((sQ (sFin a) a tm c t).headD [], !(sQ (sFin a) a tm c t).isEmpty, ())) /\ (True /\ True) /\ ((TF /\ TF) /\ True) /\ True /\ (True /\ True) /\ TF
def VC_l5First_2 (tm : List Bool) (c : List Int) (t : Int) : Prop := RL [.s (.c (.d (.arr .bool tm))), .s (.c (.d (.arr .int c))), .s (.c (.d (.val (.int .i64 t)))), .s (.c (.ptr 79 0))]
def VC_l5First_3 (a : GAsn) : Prop := (RM [some (.blk [.d (.arr .fact a.facts), .d (.arr .atom a.atoms)])]) /\ (RM []) /\ True /\ TT
def VC_l5First_4 (i1 : Nat) (t : Int) (a : GAsn) (tm : List Bool) (c : List Int) : Prop := True /\ (inK .i64 (((i1 : Nat) : Int) + (1 : Int))) /\ True /\ (((i1 + 1) : Int) <= t + 1 /\ ∀ j, j < (i1 + 1) -> brE (sFin a) a tm c t j = []) /\ ((t + 1).toNat - (i1 + 1) < (t + 1).toNat - i1) /\ TT /\ (VC_l5First_2 tm c t) /\ (([.s (.c (.d (.val (.int .i64 (((i1 : Nat) : Int) + (1 : Int))))))] : List S) = [.s (.c (.d (.val (.int .i64 (((i1 + 1) : Nat) : Int)))))]) /\ (VC_l5First_3 a)
def VC_l5First_5 (c : List Int) (t : Int) (a : GAsn) (tm : List Bool) (i1 : Nat) (m : Nat) : Prop := (TN /\ True) /\ True /\ (TN /\ TF /\ TF /\ (([] : List Int).length + c.length <= 4294967296)) /\ True /\ True /\ True /\ True /\ (0 <= t /\ t < (((([] : List Int) ++ c).length : Nat) : Int)) /\ (TF /\ TF /\ True /\ ((101104 : Nat) ∉ ([] : List Nat))) /\ True /\ True /\ True /\ True /\ (inK .i64 (t + (1 : Int))) /\ (((vA a = true /\ tm.length = 9 /\ ((([] : List Int) ++ c).set t.toNat ((i1 : Nat) : Int)).length = 9 /\ le8 ((([] : List Int) ++ c).set t.toNat ((i1 : Nat) : Int)) = true /\ 1 <= (t + (1 : Int)) /\ (t + (1 : Int)) <= 9) /\ (9 - (t + (1 : Int))).toNat < m) /\ True /\ TN /\ True) /\ True /\ True /\ True /\ True /\ True /\ True /\ (vcIf (!(sQ (sFin a) a tm ((([] : List Int) ++ c).set t.toNat ((i1 : Nat) : Int)) (t + (1 : Int))).isEmpty) (True /\ True /\ True /\ (((((sQ (sFin a) a tm ((([] : List Int) ++ c).set t.toNat ((i1 : Nat) : Int)) (t + (1 : Int))).headD []), true, ()) : (List Int) × Bool × Unit) = ((sQ (sFin a) a tm c t).headD [], !(sQ (sFin a) a tm c t).isEmpty, ())) /\ (True /\ True) /\ ((TF /\ TF) /\ True) /\ True /\ (True /\ True) /\ TF) (VC_l5First_4 i1 t a tm c))
def VC_l5First (a : GAsn) (tm : List Bool) (c : List Int) (t : Int) (m : Nat) (k : Nat) : Prop := TN /\ TN /\ True /\ True /\ True /\ True /\ ((a.facts.length <= 1048576 /\ a.facts.all fV = true /\ c.length = 9) /\ True /\ True) /\ True /\ True /\ (vcIf (!(sFit a.facts c)) (True /\ (VC_l5First_1 a tm c t)) (True /\ True /\ True /\ ((a.atoms.length <= 1048576 /\ a.atoms.all atV = true /\ c.length = 9 /\ le8 c = true) /\ True /\ True) /\ True /\ True /\ (vcIf (!(sEarly a.atoms c)) (VC_l5First_1 a tm c t) (True /\ True /\ (vcIf (decide ((8 : Int) < t)) (True /\ True /\ True /\ ((a.atoms.length <= 1048576 /\ a.atoms.all atV = true /\ c.length = 9) /\ True /\ TN /\ True) /\ (((fL c a.atoms).length <= 1048576) /\ True /\ True) /\ (vcIf (sApart (fL c a.atoms)) ((TN /\ True) /\ True /\ (TN /\ TF /\ TF /\ (([] : List Int).length + c.length <= 4294967296)) /\ True /\ True /\ (((([] : List Int) ++ c, true, ()) : (List Int) × Bool × Unit) = ((sQ (sFin a) a tm c t).headD [], !(sQ (sFin a) a tm c t).isEmpty, ())) /\ (True /\ True) /\ ((TF /\ TF) /\ True) /\ True /\ (True /\ True) /\ TF) (VC_l5First_1 a tm c t))) (True /\ True /\ (0 <= t /\ t < ((tm.length : Nat) : Int)) /\ True /\ True /\ (vcIf (!(tm.getD t.toNat false)) (True /\ True /\ True /\ True /\ (inK .i64 (t + (1 : Int))) /\ (((vA a = true /\ tm.length = 9 /\ c.length = 9 /\ le8 c = true /\ 1 <= (t + (1 : Int)) /\ (t + (1 : Int)) <= 9) /\ (9 - (t + (1 : Int))).toNat < m) /\ True /\ TN /\ True) /\ True /\ True /\ True /\ True /\ (((((sQ (sFin a) a tm c (t + (1 : Int))).headD []), (!(sQ (sFin a) a tm c (t + (1 : Int))).isEmpty), ()) : (List Int) × Bool × Unit) = ((sQ (sFin a) a tm c t).headD [], !(sQ (sFin a) a tm c t).isEmpty, ())) /\ (True /\ True) /\ ((TF /\ TF) /\ True) /\ True /\ (True /\ True) /\ TF) (True /\ (((0 : Int) <= t + 1 /\ ∀ j, j < 0 -> brE (sFin a) a tm c t j = []) /\ TT /\ (VC_l5First_2 tm c t) /\ (([.s (.c (.d (.val (.int .i64 (0 : Int)))))] : List S) = [.s (.c (.d (.val (.int .i64 ((0 : Nat) : Int)))))]) /\ (VC_l5First_3 a)) /\ (∀ i1 : Nat, ((i1 : Int) <= t + 1 /\ ∀ j, j < i1 -> brE (sFin a) a tm c t j = []) -> True /\ True /\ True /\ (vcIf (decide (((i1 : Nat) : Int) <= t)) (True /\ True /\ True /\ True /\ (vcIf (decide (((i1 : Nat) : Int) < t)) (True /\ True /\ (0 <= ((i1 : Nat) : Int) /\ ((i1 : Nat) : Int) < ((c.length : Nat) : Int)) /\ True /\ True /\ True /\ True /\ (vcIf ((c.getD i1 (0 : Int)) != ((i1 : Nat) : Int)) (VC_l5First_4 i1 t a tm c) (VC_l5First_5 c t a tm i1 m))) (True /\ (VC_l5First_5 c t a tm i1 m)))) (VC_l5First_1 a tm c t)))))))))))
theorem vcn_l5First (a : GAsn) (tm : List Bool) (c : List Int) (t : Int) (m : Nat) (k : Nat) (hp : (vA a = true /\ tm.length = 9 /\ c.length = 9 /\ le8 c = true /\ 1 <= t /\ t <= 9) /\ (9 - t).toNat < m + 1) : VC_l5First a tm c t m k := by
 unfold VC_l5First VC_l5First_5 VC_l5First_4 VC_l5First_3 VC_l5First_2 VC_l5First_1
 simp only [cln, Nat.reduceEqDiff, Nat.reduceLeDiff, Nat.reduceAdd]
 have hV := vA_iff.1 hp.1.1
 have hA : (fL c a.atoms).length <= 1048576 := Nat.le_trans (fL_len _ _) (Nat.le_trans hV.2.2.2 (by decide))
 all_goals (try simp only [opn])
 all_goals (repeat' (first | apply And.intro | intro _))
 all_goals (repeat (cases ‹_ /\ _›))
 all_goals (first | omega | rfl | assumption | (simp_all; done) | skip)
 all_goals (first
  | exact hV.1 | exact hV.2.1 | exact Nat.le_trans hV.2.2.1 (by decide) | exact Nat.le_trans hV.2.2.2 (by decide) | exact Nat.le_trans (fL_len _ _) (Nat.le_trans hV.2.2.2 (by decide))
  | (rw [fits_no1 ‹_›]; rfl) | (rw [fits_no2 ‹_›]; rfl)
  | (rw [last_yes ‹_› ‹_› ‹_› ‹_›]; rfl) | (rw [last_no ‹_› ‹_› ‹_› ‹_›]; rfl)
  | (rw [sQ_skip (t := t) ‹_› (by omega) (fits_yes ‹_› ‹_›) ‹_›]; done)
  | exact brE_skip ‹_› ‹_› ‹_› _ ‹_›
  | exact brE_none ‹_› ‹_› _ ‹_›
  | exact le8_set ‹_› (by omega)
  | exact (sQ_hit ‹_› (by omega) (fits_yes ‹_› ‹_›) ‹_› ‹_› ‹_› (.inr ‹_›) ‹_›).1.symm
  | exact (sQ_hit ‹_› (by omega) (fits_yes ‹_› ‹_›) ‹_› ‹_› ‹_› (.inl (by omega)) ‹_›).1.symm
  | (rw [(sQ_hit ‹_› (by omega) (fits_yes ‹_› ‹_›) ‹_› ‹_› ‹_› (.inr ‹_›) ‹_›).2]; rfl)
  | (rw [(sQ_hit ‹_› (by omega) (fits_yes ‹_› ‹_›) ‹_› ‹_› ‹_› (.inl (by omega)) ‹_›).2]; rfl)
  | (rw [sQ_none ‹_› (by omega) (fits_yes ‹_› ‹_›) ‹_› ‹_› ‹_›]; rfl)
  | skip)
theorem ok_l5First : FnOk Try.prog E 93 c_l5First :=
 fn_rec (mu := mu_l5First) (fun m ih => fn_okQ (con := c_l5First.lim mu_l5First (m + 1)) (fn := Try.f93) (l := L_l5First m) (lp := P_l5First) (hp := fun _ => false) (gcs := fun _ => none) (perm := fun _ => []) tabOk mix ⟨ih, ok_l5Fits, ok_l5Apart, ok_l5Filled, ok_l5Early, trivial⟩ trivial Try.func93 rfl (by kernel_rfl) (show c_l5First.aks.length <= Try.f93.ntmps by decide) (by kernel_rfl) (anns := fun x _ => an_l5First x.1 x.2.1 x.2.2.1 x.2.2.2.1) (fun ⟨a, tm, c, t, _⟩ k hp _ => Eq.mp (by kernel_rfl) (vcn_l5First a tm c t m k hp)) tot_fn) ⟨_, _, Try.func93, by kernel_rfl, rfl⟩ tot_fn
abbrev c_l5Open : Con := ⟨[], [.sl .int], fun _ => True, .inl fun _ => (opens, ()), fun _ => 0⟩
abbrev L_l5Open : List (FuncId × Con) := []
abbrev P_l5Open : List (FuncId × PT) := []
def an_l5Open  : Nat -> St -> Option Ann
 | 2, se => some { α := Nat, ok := fun i => i <= 8, mu := fun i => 8 - i, i0 := fun _ => 0, nx := fun a _ => (fun i => i + 1) a, live := [0], sets := fun i => [], mids := [0], blks := fun i => [], owns := fun i => [⟨7, .slot 1, .int, 0 :: List.replicate i (-1)⟩], rd := fun r _ => r, base := 100000 }
 | _, _ => none
def VC_l5Open (k : Nat) : Prop := TN /\ (TN /\ True) /\ True /\ ((0 <= 8) /\ TT /\ (RL [.s (.c (.own 0))]) /\ (RL []) /\ (RM [some (.sl 0 .int ([] : List Int))]) /\ (RM []) /\ (((some ([(0 : Int)] : List Int) : Option (List Int)) = some (0 :: List.replicate 0 (-1))) /\ True) /\ TT) /\ (∀ i1 : Nat, (i1 <= 8) -> True /\ True /\ True /\ (vcIf (decide ((((0 :: List.replicate i1 (-1)).length : Nat) : Int) <= (8 : Int))) (True /\ (TN /\ True) /\ (TN /\ TF /\ TF /\ ((0 :: List.replicate i1 (-1)).length + ([(-1 : Int)] : List Int).length <= 4294967296)) /\ True /\ ((i1 + 1) <= 8) /\ (8 - (i1 + 1) < 8 - i1) /\ TT /\ (RL [.s (.c (.own 0))]) /\ (RL []) /\ (RM [some (.sl 0 .int ([] : List Int))]) /\ (RM []) /\ (((some ((0 :: List.replicate i1 (-1)) ++ ([(-1 : Int)] : List Int)) : Option (List Int)) = some (0 :: List.replicate (i1 + 1) (-1))) /\ True) /\ TT) (True /\ True /\ (((0 :: List.replicate i1 (-1), ()) : (List Int) × Unit) = (opens, ())) /\ (True /\ True) /\ ((TF /\ TF) /\ True) /\ True /\ (True /\ True) /\ TF)))
theorem vcn_l5Open  (k : Nat) : VC_l5Open  k := by
 unfold VC_l5Open
 simp only [cln, Nat.reduceEqDiff, Nat.reduceLeDiff, Nat.reduceAdd]
 all_goals (try simp only [opn])
 all_goals (repeat' (first | apply And.intro | intro _))
 all_goals (repeat (cases ‹_ /\ _›))
 all_goals (first | omega | rfl | assumption | (simp_all; done) | skip)
 all_goals (first
  | exact open_lt ‹_› | (have h1 := open_lt ‹_›; omega) | (rw [List.replicate_succ']; rfl) | exact open_end ‹_› ‹_› | skip)
theorem ok_l5Open : FnOk Try.prog E 94 c_l5Open :=
 fn_okQ (l := L_l5Open) (lp := P_l5Open) (hp := fun _ => false) (gcs := fun _ => none) (perm := fun _ => []) tabOk mix trivial trivial Try.func94 rfl (by kernel_rfl) (by decide) (by kernel_rfl) (anns := fun x _ => an_l5Open ) (fun _ k _ _ => Eq.mp (by kernel_rfl) (vcn_l5Open  k)) tot_fn
abbrev c_sImplies : Con := ⟨[.asn, .fact], [.bool], fun (a, f, _) => a.facts.length <= 281474976710656 /\ a.atoms.length <= 281474976710656, .inl fun (a, f, _) => (IMP a f, ()), fun _ => 0⟩
abbrev L_sImplies : List (FuncId × Con) := [(56, c_sAssertionValid), (91, c_sFactValid), (92, c_l3Terms), (93, c_l5First), (94, c_l5Open)]
abbrev P_sImplies : List (FuncId × PT) := []
def VC_sImplies_1 (a : GAsn) (f : GFact) : Prop := True /\ (((false, ()) : Bool × Unit) = (IMP a f, ())) /\ True /\ True /\ True /\ True /\ TF
def VC_sImplies (a : GAsn) (f : GFact) (k : Nat) : Prop := TN /\ TN /\ True /\ True /\ ((a.facts.length <= 281474976710656 /\ a.atoms.length <= 281474976710656) /\ True /\ True) /\ True /\ True /\ (vcIf (!(asV a)) (True /\ (VC_sImplies_1 a f)) (True /\ (True /\ True /\ True) /\ True /\ True /\ (vcIf (!(fV f)) (VC_sImplies_1 a f) (True /\ ((asV a = true ∨ vA a = true) /\ True /\ TN /\ True) /\ True /\ True /\ True /\ True /\ (0 <= f.a /\ f.a < (((fl9 (occ a)).length : Nat) : Int)) /\ (TF /\ TF /\ True /\ ((288 : Nat) ∉ ([] : List Nat))) /\ True /\ True /\ True /\ (0 <= f.b /\ f.b < ((((fl9 (occ a)).set f.a.toNat true).length : Nat) : Int)) /\ (TF /\ TF /\ True /\ ((288 : Nat) ∉ ([] : List Nat))) /\ True /\ True /\ True /\ True /\ True /\ True /\ True /\ True /\ (TN /\ True) /\ (TF /\ TF) /\ (TN /\ True) /\ True /\ True /\ (TN /\ TF /\ TF /\ (([] : List GFact).length + a.facts.length <= 4294967296)) /\ True /\ (TN /\ True) /\ (TN /\ TF /\ TF /\ ((([] : List GFact) ++ a.facts).length + ([(⟨!f.eq, f.a, f.b⟩ : GFact)] : List GFact).length <= 4294967296)) /\ True /\ True /\ (TN /\ TN /\ True) /\ True /\ (True /\ True /\ TN /\ True) /\ ((vA (⟨(([] : List GFact) ++ a.facts) ++ ([(⟨!f.eq, f.a, f.b⟩ : GFact)] : List GFact), a.atoms⟩ : GAsn) = true /\ (((fl9 (occ a)).set f.a.toNat true).set f.b.toNat true).length = 9 /\ opens.length = 9 /\ le8 opens = true /\ 1 <= (1 : Int) /\ (1 : Int) <= 9) /\ True /\ TN /\ True) /\ True /\ True /\ True /\ True /\ True /\ True /\ True /\ True /\ (((!(!(sQ (sFin (⟨(([] : List GFact) ++ a.facts) ++ ([(⟨!f.eq, f.a, f.b⟩ : GFact)] : List GFact), a.atoms⟩ : GAsn)) (⟨(([] : List GFact) ++ a.facts) ++ ([(⟨!f.eq, f.a, f.b⟩ : GFact)] : List GFact), a.atoms⟩ : GAsn) (((fl9 (occ a)).set f.a.toNat true).set f.b.toNat true) opens (1 : Int)).isEmpty), ()) : Bool × Unit) = (IMP a f, ())) /\ True /\ True /\ True /\ True /\ TF))))
theorem vcn_sImplies (a : GAsn) (f : GFact) (k : Nat) (hp : a.facts.length <= 281474976710656 /\ a.atoms.length <= 281474976710656) : VC_sImplies a f k := by
 unfold VC_sImplies VC_sImplies_1
 simp only [cln, Nat.reduceEqDiff, Nat.reduceLeDiff, Nat.reduceAdd]
 try unfold IMP
 all_goals (try simp only [opn])
 all_goals (repeat' (first | apply And.intro | intro _))
 all_goals (repeat (cases ‹_ /\ _›))
 all_goals (first | omega | rfl | assumption | (simp_all; done) | skip)
 all_goals (have hf := (by assumption : fV f = true); have ha := (by assumption : asV a = true); have hs := asV_facts ha; have h1 := isT_iff.1 (fV_isT hf).1; have h2 := isT_iff.1 (fV_isT hf).2; have hl := fl9_len (occ a))
 all_goals (first
  | omega | (simp only [List.length_set]; omega) | exact vA_add (f := negF f) ha hf
  | (have e := sImpl ha hf (p := fun t => occ a t || qF f t) (fun k _ _ => rfl); rw [fl9_two hf, Bool.not_not, ha, hf]; exact e)
  | skip)
theorem ok_sImplies : FnOk Try.prog E 40 c_sImplies :=
 fn_okQ (l := L_sImplies) (lp := P_sImplies) (hp := fun _ => false) (gcs := fun _ => none) (perm := fun _ => []) tabOk mix ⟨ok_sAssertionValid, ok_sFactValid, ok_l3Terms, ok_l5First, ok_l5Open, trivial⟩ trivial Try.func40 rfl (by kernel_rfl) (by decide) (by kernel_rfl) (anns := fun x _ => fun _ _ => none) (fun ⟨a, f, _⟩ k hp _ => Eq.mp (by kernel_rfl) (vcn_sImplies a f k hp)) tot_fn
abbrev c_FnEquivalentSubst : Con := ⟨[.sl .u8], [.bool], fun (code, _) => code.length <= 281474976710656, .inl fun (code, _) => (true, ()), fun _ => 0⟩
abbrev L_FnEquivalentSubst : List (FuncId × Con) := [(35, c_iStarAssertions), (36, c_DrawImplies), (37, c_iImplies), (38, c_iEquivalent), (39, c_iSubstAssertion), (40, c_sImplies)]
abbrev P_FnEquivalentSubst : List (FuncId × PT) := []
def VC_FnEquivalentSubst_1 (r1 : GAsn × GFact × Unit) : Prop := (r1.1.facts.length <= 281474976710656 /\ r1.1.atoms.length <= 281474976710656) /\ True /\ True
def VC_FnEquivalentSubst_2 (r1 : GAsn × GFact × Unit) : Prop := True /\ True /\ True /\ True /\ True /\ True /\ True /\ (VC_FnEquivalentSubst_1 r1) /\ True /\ True /\ ((((IMP r1.1 (⟨true, r1.2.1.a, r1.2.1.b⟩ : GFact)) == (IMP r1.1 (⟨true, r1.2.1.a, r1.2.1.b⟩ : GFact)), ()) : Bool × Unit) = (true, ())) /\ True /\ True /\ True /\ True /\ TF
def VC_FnEquivalentSubst_3 (r1 : GAsn × GFact × Unit) : Prop := True /\ (VC_FnEquivalentSubst_2 r1)
def VC_FnEquivalentSubst_4 (r1 : GAsn × GFact × Unit) : Prop := True /\ True /\ (VC_FnEquivalentSubst_3 r1)
def VC_FnEquivalentSubst (code : List UInt8) (k : Nat) : Prop := True /\ True /\ True /\ True /\ (vcIf (decide ((1048576 : Int) < ((code.length : Nat) : Int))) (True /\ (((true, ()) : Bool × Unit) = (true, ())) /\ True /\ True /\ True /\ True /\ TF) (True /\ (True /\ True /\ TN /\ TN /\ True) /\ (∀ r1 : GAsn × GFact × Unit, (r1.1.facts.length <= 40 /\ r1.1.atoms.length <= 40) -> True /\ True /\ True /\ (TN /\ TN /\ TN /\ True) /\ (TN /\ True) /\ (TF /\ TF) /\ (TF /\ TF) /\ True /\ True /\ True /\ True /\ True /\ True /\ (VC_FnEquivalentSubst_1 r1) /\ True /\ True /\ True /\ True /\ True /\ True /\ ((r1.1.facts.length <= 281474976710656 /\ r1.1.atoms.length <= 281474976710656) /\ True /\ TN /\ TN /\ True) /\ True /\ True /\ True /\ (TN /\ TN /\ TN /\ True) /\ (TF /\ TF) /\ True /\ True /\ True /\ True /\ True /\ True /\ True /\ (TN /\ True) /\ (TN /\ TN /\ True) /\ (((subL r1.1 r1.2.1.a r1.2.1.b).facts.length <= 1048576 /\ (subL r1.1 r1.2.1.a r1.2.1.b).atoms.length <= 1048576 /\ (⟨([(⟨true, r1.2.1.a, r1.2.1.b⟩ : GFact)] : List GFact), ([] : List GAtom)⟩ : GAsn).facts.length <= 1048576 /\ (⟨([(⟨true, r1.2.1.a, r1.2.1.b⟩ : GFact)] : List GFact), ([] : List GAtom)⟩ : GAsn).atoms.length <= 1048576) /\ True /\ TN /\ TN /\ True) /\ True /\ True /\ True /\ (TN /\ TN /\ TN /\ True) /\ (TF /\ TF) /\ True /\ True /\ True /\ True /\ True /\ True /\ True /\ True /\ (VC_FnEquivalentSubst_1 r1) /\ True /\ True /\ (vcIf ((IMP r1.1 (⟨true, r1.2.1.a, r1.2.1.b⟩ : GFact)) != (IMP r1.1 (⟨true, r1.2.1.a, r1.2.1.b⟩ : GFact))) (True /\ True /\ (VC_FnEquivalentSubst_4 r1)) (True /\ True /\ True /\ True /\ (vcIf (!(IMP r1.1 (⟨true, r1.2.1.a, r1.2.1.b⟩ : GFact))) (VC_FnEquivalentSubst_4 r1) (True /\ True /\ True /\ True /\ (vcIf (!(subOk r1.1 r1.2.1.a r1.2.1.b)) (VC_FnEquivalentSubst_3 r1) (True /\ True /\ True /\ (vcIf (!(starOk (subL r1.1 r1.2.1.a r1.2.1.b) (⟨([(⟨true, r1.2.1.a, r1.2.1.b⟩ : GFact)] : List GFact), ([] : List GAtom)⟩ : GAsn))) (VC_FnEquivalentSubst_2 r1) (True /\ True /\ ((r1.1.facts.length <= 281474976710656 /\ r1.1.atoms.length <= 281474976710656 /\ (starL (subL r1.1 r1.2.1.a r1.2.1.b) (⟨([(⟨true, r1.2.1.a, r1.2.1.b⟩ : GFact)] : List GFact), ([] : List GAtom)⟩ : GAsn)).facts.length <= 281474976710656 /\ (starL (subL r1.1 r1.2.1.a r1.2.1.b) (⟨([(⟨true, r1.2.1.a, r1.2.1.b⟩ : GFact)] : List GFact), ([] : List GAtom)⟩ : GAsn)).atoms.length <= 281474976710656) /\ True /\ True) /\ True /\ ((((ENT r1.1 (starL (subL r1.1 r1.2.1.a r1.2.1.b) (⟨([(⟨true, r1.2.1.a, r1.2.1.b⟩ : GFact)] : List GFact), ([] : List GAtom)⟩ : GAsn)) && ENT (starL (subL r1.1 r1.2.1.a r1.2.1.b) (⟨([(⟨true, r1.2.1.a, r1.2.1.b⟩ : GFact)] : List GFact), ([] : List GAtom)⟩ : GAsn)) r1.1), ()) : Bool × Unit) = (true, ())) /\ True /\ True /\ True /\ True /\ TF)))))))))))
theorem vcn_FnEquivalentSubst (code : List UInt8) (k : Nat) (hp : code.length <= 281474976710656) : VC_FnEquivalentSubst code k := by
 unfold VC_FnEquivalentSubst VC_FnEquivalentSubst_4 VC_FnEquivalentSubst_3 VC_FnEquivalentSubst_2 VC_FnEquivalentSubst_1
 simp only [cln, Nat.reduceEqDiff, Nat.reduceLeDiff, Nat.reduceAdd, bne_self_eq_false, beq_self_eq_true, decide_true, eq_self, Bool.not_true, Bool.not_false, vcIf_true, vcIf_false, Bool.false_and, Bool.true_and, Bool.or_false, Bool.or_true]
 all_goals (try simp only [opn])
 all_goals (repeat' (first | apply And.intro | intro _))
 all_goals (repeat (cases ‹_ /\ _›))
 all_goals (first | trivial | (exfalso; contradiction) | omega | with_reducible assumption | with_reducible rfl | skip)
 all_goals (first
  | (with_reducible refine Nat.le_trans (m := 200) ?_ (by decide); first
   | with_reducible exact starL_one (by omega) | with_reducible exact starL_oneA (by omega)
   | with_reducible exact starL_bdF (by omega) (by omega) | with_reducible exact starL_bdA (by omega) (by omega)
   | with_reducible exact sub1F (by omega) | with_reducible exact sub1A (by omega)
   | with_reducible exact subL200F (by omega) | with_reducible exact subL200A (by omega)
   | with_reducible exact nf200F (by omega) | with_reducible exact nf200A (by omega)
   | with_reducible exact md200V | with_reducible exact md200H | with_reducible exact rev200 (by omega)
   | with_reducible exact fc200F (by omega) | with_reducible exact fc200A (by omega))
  | with_reducible exact (en_cons ‹_› ‹_› ‹_›).elim | with_reducible exact (en_none ‹_› ‹_› ‹_› ‹_›).elim
  | with_reducible exact en_star ‹_› ‹_› ‹_›
  | with_reducible exact en_fact1 ‹_› ‹_› ‹_› | with_reducible exact en_fact0 ‹_› ‹_› ‹_›
  | with_reducible exact en_sub ‹_› ‹_› ‹_›
  | with_reducible exact en_refl | with_reducible exact (en_refl0 ‹_› ‹_›).elim
  | with_reducible exact rev_step ‹_› | with_reducible exact (rev_no ‹_› ‹_› ‹_›).elim
  | with_reducible exact en_nf ‹_›
  | with_reducible exact ent_hol ‹_› ‹_› | with_reducible exact (en_mdN ‹_› ‹_› ‹_›).elim
  | (simp_all; done)
  | skip)
theorem ok_FnEquivalentSubst : FnOk Try.prog E 9 c_FnEquivalentSubst :=
 fn_okQ (l := L_FnEquivalentSubst) (lp := P_FnEquivalentSubst) (hp := fun _ => false) (gcs := fun _ => none) (perm := fun _ => []) tabOk mix ⟨ok_iStarAssertions, ok_DrawImplies, ok_iImplies, ok_iEquivalent, ok_iSubstAssertion, ok_sImplies, trivial⟩ trivial Try.func9 rfl (by kernel_rfl) (by decide) (by kernel_rfl) (anns := fun x _ => fun _ _ => none) (fun ⟨code, _⟩ k hp _ => Eq.mp (by kernel_rfl) (vcn_FnEquivalentSubst code k hp)) tot_fn
end Go.Proofs.Ytfoioficiffgkaa
