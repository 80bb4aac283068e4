/-
  Contracts of single functions of the program, each shown by the engine: what a call returns for arguments within the contract's bounds.
-/
import Derived.Test.YtfoioficiffgkaaFFnFoldCellsa
import Derived.Test.YtfoioficiffgkaaEd
import Derived.Test.YtfoioficiffgkaaEe
import Derived.Test.YtfoioficiffgkaaFFnFoldCellsf
import Derived.Test.YtfoioficiffgkaaEf
import Derived.Test.YtfoioficiffgkaaFFnFoldCellsb
import Derived.Test.YtfoioficiffgkaaFFnFoldCellsc
import Derived.Test.YtfoioficiffgkaaFFnFoldCellsd
import Derived.Test.YtfoioficiffgkaaFFnFoldCellse
set_option linter.unusedSimpArgs false
set_option linter.unusedVariables false
set_option linter.unusedSectionVars false

namespace Go.Proofs.Ytfoioficiffgkaa
open Go.SE Go.RowKit
set_option linter.unusedSimpArgs false
set_option linter.unusedVariables false
set_option maxHeartbeats 1000000
set_option maxRecDepth 100000
abbrev c_l5Early : Con := ⟨[.sl .atom, .sl .int], [.bool], fun (l, c, _) => l.length <= 1048576 /\ l.all atV = true /\ c.length = 9 /\ le8 c = true, .inl fun (l, c, _) => (sEarly l c, ()), fun _ => 0⟩
abbrev L_l5Early : List (FuncId × Con) := []
abbrev P_l5Early : List (FuncId × PT) := []
def an_l5Early (l : List GAtom) (c : List Int) : Nat -> St -> Option Ann
 | 3, se => some { α := Nat, ok := fun i => i <= l.length /\ okS [] (est c (l.take i)) = true, mu := fun i => l.length - i, i0 := fun _ => 0, nx := fun a _ => (fun i => i + 1) a, live := [0, 1], sets := fun i => [(6, sv (.int .i64 i))], mids := [], blks := fun i => [], owns := fun i => [⟨7, .slot 5, .bool, fl9 (fun t => (est c (l.take i)).contains t)⟩], rd := fun r _ => r, base := 100000 }
 | _, _ => none
def VC_l5Early_1 (i1 : Nat) : Prop := ([.s (.c (.d (.val (.int .i64 (((i1 : Nat) : Int) + (1 : Int))))))] : List S) = [.s (.c (.d (.val (.int .i64 (((i1 + 1) : Nat) : Int)))))]
def VC_l5Early_2 (i1 : Nat) (l : List GAtom) (c : List Int) : Prop := True /\ (inK .i64 (((i1 : Nat) : Int) + (1 : Int))) /\ True /\ ((i1 + 1) <= l.length /\ okS [] (est c (l.take (i1 + 1))) = true) /\ (l.length - (i1 + 1) < l.length - i1) /\ TT /\ (RL [.s (.c (.d (.arr .atom l))), .s (.c (.d (.arr .int c)))]) /\ (VC_l5Early_1 i1) /\ (RM []) /\ (RM []) /\ (((some (fl9 (fun t => (est c (l.take i1)).contains t)) : Option (List Bool)) = some (fl9 (fun t => (est c (l.take (i1 + 1))).contains t))) /\ True) /\ TT
def VC_l5Early_3 (l : List GAtom) (c : List Int) : Prop := True /\ (((false, ()) : Bool × Unit) = (sEarly l c, ())) /\ True /\ True /\ True /\ True /\ TF
def VC_l5Early_4 (c : List Int) (l : List GAtom) (i1 : Nat) : Prop := 0 <= (c.getD ((l.getD i1 (⟨0, 0, 0⟩ : GAtom)).a).toNat (0 : Int)) /\ (c.getD ((l.getD i1 (⟨0, 0, 0⟩ : GAtom)).a).toNat (0 : Int)) < (((fl9 (fun t => (est c (l.take i1)).contains t)).length : Nat) : Int)
def VC_l5Early (l : List GAtom) (c : List Int) (k : Nat) : Prop := True /\ (TN /\ (0 <= (9 : Int) /\ (9 : Int) <= (9 : Int) /\ (9 : Int) <= 4294967296)) /\ True /\ True /\ ((0 <= l.length /\ okS [] (est c (l.take 0)) = true) /\ TT /\ (RL [.s (.c (.d (.arr .atom l))), .s (.c (.d (.arr .int c)))]) /\ (([.s (.c (.d (.val (.int .i64 (0 : Int)))))] : List S) = [.s (.c (.d (.val (.int .i64 ((0 : Nat) : Int)))))]) /\ (RM []) /\ (RM []) /\ (((some (List.replicate 9 false) : Option (List Bool)) = some (fl9 (fun t => (est c (l.take 0)).contains t))) /\ True) /\ TT) /\ (∀ i1 : Nat, (i1 <= l.length /\ okS [] (est c (l.take i1)) = true) -> True /\ True /\ True /\ True /\ (vcIf (decide (((i1 : Nat) : Int) < ((l.length : Nat) : Int))) (True /\ True /\ True /\ (0 <= ((i1 : Nat) : Int) /\ ((i1 : Nat) : Int) < ((l.length : Nat) : Int)) /\ True /\ True /\ (0 <= ((l.getD i1 (⟨0, 0, 0⟩ : GAtom)).a) /\ ((l.getD i1 (⟨0, 0, 0⟩ : GAtom)).a) < ((c.length : Nat) : Int)) /\ True /\ True /\ True /\ True /\ (0 <= ((i1 : Nat) : Int) /\ ((i1 : Nat) : Int) < ((l.length : Nat) : Int)) /\ True /\ True /\ True /\ True /\ (vcIf (((l.getD i1 (⟨0, 0, 0⟩ : GAtom)).kind) != (1 : Int)) (True /\ (VC_l5Early_2 i1 l c)) (True /\ True /\ True /\ (vcIf (decide ((c.getD ((l.getD i1 (⟨0, 0, 0⟩ : GAtom)).a).toNat (0 : Int)) < (0 : Int))) (VC_l5Early_2 i1 l c) (True /\ True /\ True /\ (vcIf ((c.getD ((l.getD i1 (⟨0, 0, 0⟩ : GAtom)).a).toNat (0 : Int)) == (0 : Int)) (True /\ (VC_l5Early_3 l c)) (True /\ True /\ (VC_l5Early_4 c l i1) /\ True /\ True /\ (vcIf ((fl9 (fun t => (est c (l.take i1)).contains t)).getD (c.getD ((l.getD i1 (⟨0, 0, 0⟩ : GAtom)).a).toNat (0 : Int)).toNat false) (VC_l5Early_3 l c) (True /\ True /\ (VC_l5Early_4 c l i1) /\ (TF /\ TF /\ True /\ ((7 : Nat) ∉ ([] : List Nat))) /\ True /\ (inK .i64 (((i1 : Nat) : Int) + (1 : Int))) /\ True /\ ((i1 + 1) <= l.length /\ okS [] (est c (l.take (i1 + 1))) = true) /\ (l.length - (i1 + 1) < l.length - i1) /\ TT /\ (RL [.s (.c (.d (.arr .atom l))), .s (.c (.d (.arr .int c)))]) /\ (VC_l5Early_1 i1) /\ (RM []) /\ (RM []) /\ (((some ((fl9 (fun t => (est c (l.take i1)).contains t)).set (c.getD ((l.getD i1 (⟨0, 0, 0⟩ : GAtom)).a).toNat (0 : Int)).toNat true) : Option (List Bool)) = some (fl9 (fun t => (est c (l.take (i1 + 1))).contains t))) /\ True) /\ TT))))))))) (True /\ (((true, ()) : Bool × Unit) = (sEarly l c, ())) /\ True /\ True /\ True /\ True /\ TF)))
theorem vcn_l5Early (l : List GAtom) (c : List Int) (k : Nat) (hp : l.length <= 1048576 /\ l.all atV = true /\ c.length = 9 /\ le8 c = true) : VC_l5Early l c k := by
 unfold VC_l5Early VC_l5Early_4 VC_l5Early_3 VC_l5Early_2 VC_l5Early_1
 simp only [cln, Nat.reduceEqDiff, Nat.reduceLeDiff, Nat.reduceAdd]
 have h8 := le8_get hp.2.2.2
 have hV := hp.2.1
 all_goals (try simp only [opn])
 all_goals (repeat' (first | apply And.intro | intro _))
 all_goals (repeat (cases ‹_ /\ _›))
 all_goals (first | omega | rfl | assumption | (simp_all; done) | skip)
 all_goals (first
  | (have h1 := atom_idx (l := l) hV ‹_›; omega)
  | (rw [early_skip (d := ⟨0, 0, 0⟩) ‹_› (.inl ‹_›)]; done)
  | (rw [early_skip (d := ⟨0, 0, 0⟩) ‹_› (.inl ‹_›)]; assumption)
  | (rw [early_skip (d := ⟨0, 0, 0⟩) ‹_› (.inr ‹_›)]; done)
  | (rw [early_skip (d := ⟨0, 0, 0⟩) ‹_› (.inr ‹_›)]; assumption)
  | exact early_no (d := ⟨0, 0, 0⟩) ‹_› ‹_› ‹_› ‹_› (.inl ‹_›)
  | exact early_no (d := ⟨0, 0, 0⟩) ‹_› ‹_› ‹_› ‹_› (.inr ‹_›)
  | exact (early_go (d := ⟨0, 0, 0⟩) ‹_› ‹_› ‹_› ‹_› ‹_› ‹_› ‹_›).1
  | exact (early_go (d := ⟨0, 0, 0⟩) ‹_› ‹_› ‹_› ‹_› ‹_› ‹_› ‹_›).2
  | (rw [fl9_len]; exact Int.lt_of_le_of_lt (h8 _) (by decide))
  | (unfold sEarly; rw [take_full (l := l) ‹_›] at *; simp_all; done) | skip)
theorem ok_l5Early : FnOk Try.prog E 141 c_l5Early :=
 fn_okQ (l := L_l5Early) (lp := P_l5Early) (hp := fun _ => false) (gcs := fun _ => none) (perm := fun _ => []) tabOk mix trivial trivial Try.func141 rfl (by kernel_rfl) (by decide) (by kernel_rfl) (anns := fun x _ => an_l5Early x.1 x.2.1) (fun ⟨l, c, _⟩ k hp _ => Eq.mp (by kernel_rfl) (vcn_l5Early l c k hp)) tot_fn
abbrev c_l6Seek : Con := ⟨[.asn, .asn, .sl .bool, .sl .int, .int], [.sl .int, .bool], fun (a, b, tm, c, t, _) => asV a = true /\ asV b = true /\ tm.length = 9 /\ c.length = 9 /\ le8 c = true /\ 1 <= t /\ t <= 9, .inl fun (a, b, tm, c, t, _) => ((sQ (sFn a b) a tm c t).headD [], !(sQ (sFn a b) a tm c t).isEmpty, ()), fun _ => 0⟩
abbrev mu_l6Seek : Args c_l6Seek.aks -> Nat := fun (a, b, tm, c, t, _) => (9 - t).toNat
abbrev L_l6Seek (m : Nat) : List (FuncId × Con) := [(68, c_l6Case), (122, c_l5Fits), (123, c_l5Apart), (124, c_l5Filled), (135, c_l6Seek.lim mu_l6Seek m), (141, c_l5Early)]
abbrev P_l6Seek : List (FuncId × PT) := []
def an_l6Seek (a : GAsn) (b : GAsn) (tm : List Bool) (c : List Int) (t : Int) : Nat -> St -> Option Ann
 | 10, se => some { α := Nat, ok := fun i => (i : Int) <= t + 1 /\ ∀ j, j < i -> brE (sFn a b) a tm c t j = [], mu := fun i => (t + 1).toNat - i, i0 := fun _ => 0, nx := fun a _ => (fun i => i + 1) a, live := [2, 3, 4, 5, 6], sets := fun i => [(12, sv (.int .i64 i))], mids := [95, 111], blks := fun i => [], owns := fun i => [], rd := fun r _ => r, base := 100000 }
 | _, _ => none
def VC_l6Seek_1 (a : GAsn) (b : GAsn) (tm : List Bool) (c : List Int) (t : Int) : Prop := (TN /\ True) /\ True /\ True /\ (((([] : List Int), false, ()) : (List Int) × Bool × Unit) = ((sQ (sFn a b) a tm c t).headD [], !(sQ (sFn a b) a tm c t).isEmpty, ())) /\ (True /\ True) /\ ((TF /\ TF) /\ True) /\ True /\ (True /\ True) /\ TF
def VC_l6Seek_2 (a : GAsn) (b : GAsn) (tm : List Bool) (c : List Int) (t : Int) : Prop := True /\ (VC_l6Seek_1 a b tm c t)
def VC_l6Seek_3 (tm : List Bool) (c : List Int) (t : Int) : Prop := RL [.s (.c (.d (.arr .bool tm))), .s (.c (.d (.arr .int c))), .s (.c (.d (.val (.int .i64 t)))), .s (.c (.ptr 95 0)), .s (.c (.ptr 111 0))]
def VC_l6Seek_4 (a : GAsn) (b : GAsn) : Prop := (RM [some (.blk [.d (.arr .fact a.facts), .d (.arr .atom a.atoms)]), some (.blk [.d (.arr .fact b.facts), .d (.arr .atom b.atoms)])]) /\ (RM []) /\ True /\ TT
def VC_l6Seek_5 (i1 : Nat) (t : Int) (a : GAsn) (b : GAsn) (tm : List Bool) (c : List Int) : Prop := True /\ (inK .i64 (((i1 : Nat) : Int) + (1 : Int))) /\ True /\ (((i1 + 1) : Int) <= t + 1 /\ ∀ j, j < (i1 + 1) -> brE (sFn a b) a tm c t j = []) /\ ((t + 1).toNat - (i1 + 1) < (t + 1).toNat - i1) /\ TT /\ (VC_l6Seek_3 tm c t) /\ (([.s (.c (.d (.val (.int .i64 (((i1 : Nat) : Int) + (1 : Int))))))] : List S) = [.s (.c (.d (.val (.int .i64 (((i1 + 1) : Nat) : Int)))))]) /\ (VC_l6Seek_4 a b)
def VC_l6Seek_6 (c : List Int) (t : Int) (a : GAsn) (b : GAsn) (tm : List Bool) (i1 : Nat) (m : Nat) : Prop := (TN /\ True) /\ True /\ (TN /\ TF /\ TF /\ (([] : List Int).length + c.length <= 4294967296)) /\ True /\ True /\ True /\ True /\ (0 <= t /\ t < (((([] : List Int) ++ c).length : Nat) : Int)) /\ (TF /\ TF /\ True /\ ((101264 : Nat) ∉ ([] : List Nat))) /\ True /\ True /\ True /\ True /\ True /\ (inK .i64 (t + (1 : Int))) /\ (((asV a = true /\ asV b = true /\ tm.length = 9 /\ ((([] : List Int) ++ c).set t.toNat ((i1 : Nat) : Int)).length = 9 /\ le8 ((([] : List Int) ++ c).set t.toNat ((i1 : Nat) : Int)) = true /\ 1 <= (t + (1 : Int)) /\ (t + (1 : Int)) <= 9) /\ (9 - (t + (1 : Int))).toNat < m) /\ True /\ TN /\ True) /\ True /\ True /\ True /\ True /\ True /\ True /\ (vcIf (!(sQ (sFn a b) a tm ((([] : List Int) ++ c).set t.toNat ((i1 : Nat) : Int)) (t + (1 : Int))).isEmpty) (True /\ True /\ True /\ (((((sQ (sFn a b) a tm ((([] : List Int) ++ c).set t.toNat ((i1 : Nat) : Int)) (t + (1 : Int))).headD []), true, ()) : (List Int) × Bool × Unit) = ((sQ (sFn a b) a tm c t).headD [], !(sQ (sFn a b) a tm c t).isEmpty, ())) /\ (True /\ True) /\ ((TF /\ TF) /\ True) /\ True /\ (True /\ True) /\ TF) (VC_l6Seek_5 i1 t a b tm c))
def VC_l6Seek (a : GAsn) (b : GAsn) (tm : List Bool) (c : List Int) (t : Int) (m : Nat) (k : Nat) : Prop := TN /\ TN /\ TN /\ True /\ True /\ True /\ True /\ ((a.facts.length <= 1048576 /\ a.facts.all fV = true /\ c.length = 9) /\ True /\ True) /\ True /\ True /\ (vcIf (!(sFit a.facts c)) (VC_l6Seek_2 a b tm c t) (True /\ True /\ True /\ ((a.atoms.length <= 1048576 /\ a.atoms.all atV = true /\ c.length = 9 /\ le8 c = true) /\ True /\ True) /\ True /\ True /\ (vcIf (!(sEarly a.atoms c)) (VC_l6Seek_1 a b tm c t) (True /\ True /\ (vcIf (decide ((8 : Int) < t)) (True /\ True /\ True /\ ((a.atoms.length <= 1048576 /\ a.atoms.all atV = true /\ c.length = 9) /\ True /\ TN /\ True) /\ (((fL c a.atoms).length <= 1048576) /\ True /\ True) /\ True /\ (vcIf (sApart (fL c a.atoms)) (True /\ True /\ True /\ ((asV a = true /\ asV b = true /\ c.length = 9) /\ True /\ True) /\ True /\ True /\ (vcIf (!(EC a b c)) ((TN /\ True) /\ True /\ (TN /\ TF /\ TF /\ (([] : List Int).length + c.length <= 4294967296)) /\ True /\ True /\ (((([] : List Int) ++ c, true, ()) : (List Int) × Bool × Unit) = ((sQ (sFn a b) a tm c t).headD [], !(sQ (sFn a b) a tm c t).isEmpty, ())) /\ (True /\ True) /\ ((TF /\ TF) /\ True) /\ True /\ (True /\ True) /\ TF) (VC_l6Seek_1 a b tm c t))) (VC_l6Seek_2 a b tm c t))) (True /\ True /\ (0 <= t /\ t < ((tm.length : Nat) : Int)) /\ True /\ True /\ (vcIf (!(tm.getD t.toNat false)) (True /\ True /\ True /\ True /\ True /\ (inK .i64 (t + (1 : Int))) /\ (((asV a = true /\ asV b = true /\ tm.length = 9 /\ c.length = 9 /\ le8 c = true /\ 1 <= (t + (1 : Int)) /\ (t + (1 : Int)) <= 9) /\ (9 - (t + (1 : Int))).toNat < m) /\ True /\ TN /\ True) /\ True /\ True /\ True /\ True /\ (((((sQ (sFn a b) a tm c (t + (1 : Int))).headD []), (!(sQ (sFn a b) a tm c (t + (1 : Int))).isEmpty), ()) : (List Int) × Bool × Unit) = ((sQ (sFn a b) a tm c t).headD [], !(sQ (sFn a b) a tm c t).isEmpty, ())) /\ (True /\ True) /\ ((TF /\ TF) /\ True) /\ True /\ (True /\ True) /\ TF) (True /\ (((0 : Int) <= t + 1 /\ ∀ j, j < 0 -> brE (sFn a b) a tm c t j = []) /\ TT /\ (VC_l6Seek_3 tm c t) /\ (([.s (.c (.d (.val (.int .i64 (0 : Int)))))] : List S) = [.s (.c (.d (.val (.int .i64 ((0 : Nat) : Int)))))]) /\ (VC_l6Seek_4 a b)) /\ (∀ i1 : Nat, ((i1 : Int) <= t + 1 /\ ∀ j, j < i1 -> brE (sFn a b) a tm c t j = []) -> True /\ True /\ True /\ (vcIf (decide (((i1 : Nat) : Int) <= t)) (True /\ True /\ True /\ True /\ (vcIf (decide (((i1 : Nat) : Int) < t)) (True /\ True /\ (0 <= ((i1 : Nat) : Int) /\ ((i1 : Nat) : Int) < ((c.length : Nat) : Int)) /\ True /\ True /\ True /\ True /\ (vcIf ((c.getD i1 (0 : Int)) != ((i1 : Nat) : Int)) (VC_l6Seek_5 i1 t a b tm c) (VC_l6Seek_6 c t a b tm i1 m))) (True /\ (VC_l6Seek_6 c t a b tm i1 m)))) (VC_l6Seek_1 a b tm c t)))))))))))
theorem vcn_l6Seek (a : GAsn) (b : GAsn) (tm : List Bool) (c : List Int) (t : Int) (m : Nat) (k : Nat) (hp : (asV a = true /\ asV b = true /\ tm.length = 9 /\ c.length = 9 /\ le8 c = true /\ 1 <= t /\ t <= 9) /\ (9 - t).toNat < m + 1) : VC_l6Seek a b tm c t m k := by
 unfold VC_l6Seek VC_l6Seek_6 VC_l6Seek_5 VC_l6Seek_4 VC_l6Seek_3 VC_l6Seek_2 VC_l6Seek_1
 simp only [cln, Nat.reduceEqDiff, Nat.reduceLeDiff, Nat.reduceAdd]
 have hV := vA_iff.1 (vA_of hp.1.1)
 have hA : (fL c a.atoms).length <= 1048576 := Nat.le_trans (fL_len _ _) (Nat.le_trans hV.2.2.2 (by decide))
 all_goals (try simp only [opn])
 all_goals (repeat' (first | apply And.intro | intro _))
 all_goals (repeat (cases ‹_ /\ _›))
 all_goals (first | omega | rfl | assumption | (simp_all; done) | skip)
 all_goals (first
  | exact hV.1 | exact hV.2.1 | exact Nat.le_trans hV.2.2.1 (by decide) | exact Nat.le_trans hV.2.2.2 (by decide) | exact Nat.le_trans (fL_len _ _) (Nat.le_trans hV.2.2.2 (by decide))
  | (rw [fits_no1 ‹_›]; rfl) | (rw [fits_no2 ‹_›]; rfl)
  | (rw [sk_last ‹_› ‹_› ‹_› ‹_› ‹_›]; rfl) | (rw [sk_no1 ‹_› ‹_› ‹_› ‹_›]; rfl) | (rw [sk_no2 ‹_› ‹_› ‹_› ‹_›]; rfl)
  | (rw [sQ_skip (t := t) ‹_› (by omega) (fits_yes ‹_› ‹_›) ‹_›]; done)
  | exact brE_skip ‹_› ‹_› ‹_› _ ‹_›
  | exact brE_none ‹_› ‹_› _ ‹_›
  | exact le8_set ‹_› (by omega)
  | exact (sQ_hit ‹_› (by omega) (fits_yes ‹_› ‹_›) ‹_› ‹_› ‹_› (.inr ‹_›) ‹_›).1.symm
  | exact (sQ_hit ‹_› (by omega) (fits_yes ‹_› ‹_›) ‹_› ‹_› ‹_› (.inl (by omega)) ‹_›).1.symm
  | (rw [(sQ_hit ‹_› (by omega) (fits_yes ‹_› ‹_›) ‹_› ‹_› ‹_› (.inr ‹_›) ‹_›).2]; rfl)
  | (rw [(sQ_hit ‹_› (by omega) (fits_yes ‹_› ‹_›) ‹_› ‹_› ‹_› (.inl (by omega)) ‹_›).2]; rfl)
  | (rw [sQ_none ‹_› (by omega) (fits_yes ‹_› ‹_›) ‹_› ‹_› ‹_›]; rfl)
  | skip)
theorem ok_l6Seek : FnOk Try.prog E 135 c_l6Seek :=
 fn_rec (mu := mu_l6Seek) (fun m ih => fn_okQ (con := c_l6Seek.lim mu_l6Seek (m + 1)) (fn := Try.f135) (l := L_l6Seek m) (lp := P_l6Seek) (hp := fun _ => false) (gcs := fun _ => none) (perm := fun _ => []) tabOk mix ⟨ok_l6Case, ok_l5Fits, ok_l5Apart, ok_l5Filled, ih, ok_l5Early, trivial⟩ trivial Try.func135 rfl (by kernel_rfl) (show c_l6Seek.aks.length <= Try.f135.ntmps by decide) (by kernel_rfl) (anns := fun x _ => an_l6Seek x.1 x.2.1 x.2.2.1 x.2.2.2.1 x.2.2.2.2.1) (fun ⟨a, b, tm, c, t, _⟩ k hp _ => Eq.mp (by kernel_rfl) (vcn_l6Seek a b tm c t m k hp)) tot_fn) ⟨_, _, Try.func135, by kernel_rfl, rfl⟩ tot_fn
abbrev c_l6Fails : Con := ⟨[.asn, .asn], [.sl .int, .bool], fun (a, b, _) => asV a = true /\ asV b = true, .inl fun (a, b, _) => ((FC a b).headD [], !(FC a b).isEmpty, ()), fun _ => 0⟩
abbrev L_l6Fails : List (FuncId × Con) := [(67, c_l6Both), (94, c_l5Open), (135, c_l6Seek)]
abbrev P_l6Fails : List (FuncId × PT) := []
def VC_l6Fails (a : GAsn) (b : GAsn) (k : Nat) : Prop := TN /\ TN /\ TN /\ True /\ True /\ True /\ True /\ True /\ ((asV a = true /\ asV b = true) /\ True /\ TN /\ True) /\ (True /\ True /\ TN /\ True) /\ ((asV a = true /\ asV b = true /\ (fl9 (fun t => occ a t || occ b t)).length = 9 /\ opens.length = 9 /\ le8 opens = true /\ 1 <= (1 : Int) /\ (1 : Int) <= 9) /\ True /\ TN /\ True) /\ True /\ True /\ True /\ True /\ (((((sQ (sFn a b) a (fl9 (fun t => occ a t || occ b t)) opens (1 : Int)).headD []), (!(sQ (sFn a b) a (fl9 (fun t => occ a t || occ b t)) opens (1 : Int)).isEmpty), ()) : (List Int) × Bool × Unit) = ((FC a b).headD [], !(FC a b).isEmpty, ())) /\ (True /\ True) /\ ((TF /\ TF) /\ True) /\ True /\ (True /\ True) /\ TF
theorem vcn_l6Fails (a : GAsn) (b : GAsn) (k : Nat) (hp : asV a = true /\ asV b = true) : VC_l6Fails a b k := by
 unfold VC_l6Fails
 simp only [cln, Nat.reduceEqDiff, Nat.reduceLeDiff, Nat.reduceAdd]
 have hA := asV_facts hp.1
 have hB := asV_facts hp.2
 all_goals (try rw [sFC hp.1 hp.2])
 all_goals (try simp only [opn])
 all_goals (repeat' (first | apply And.intro | intro _))
 all_goals (first | omega | rfl | assumption | exact hp.1 | exact hp.2 | exact fl9_len _ | trivial | skip)
theorem ok_l6Fails : FnOk Try.prog E 79 c_l6Fails :=
 fn_okQ (l := L_l6Fails) (lp := P_l6Fails) (hp := fun _ => false) (gcs := fun _ => none) (perm := fun _ => []) tabOk mix ⟨ok_l6Both, ok_l5Open, ok_l6Seek, trivial⟩ trivial Try.func79 rfl (by kernel_rfl) (by decide) (by kernel_rfl) (anns := fun x _ => fun _ _ => none) (fun ⟨a, b, _⟩ k hp _ => Eq.mp (by kernel_rfl) (vcn_l6Fails a b k hp)) tot_fn
abbrev c_sEntails : Con := ⟨[.asn, .asn], [.bool], fun (a, b, _) => a.facts.length <= 281474976710656 /\ a.atoms.length <= 281474976710656 /\ b.facts.length <= 281474976710656 /\ b.atoms.length <= 281474976710656, .inl fun (a, b, _) => (ENT a b, ()), fun _ => 0⟩
abbrev L_sEntails : List (FuncId × Con) := [(56, c_sAssertionValid), (79, c_l6Fails)]
abbrev P_sEntails : List (FuncId × PT) := []
def VC_sEntails_1 (a : GAsn) (b : GAsn) : Prop := True /\ (((false, ()) : Bool × Unit) = (ENT a b, ())) /\ True /\ True /\ True /\ True /\ TF
def VC_sEntails (a : GAsn) (b : GAsn) (k : Nat) : Prop := TN /\ TN /\ True /\ True /\ ((a.facts.length <= 281474976710656 /\ a.atoms.length <= 281474976710656) /\ True /\ True) /\ True /\ True /\ (vcIf (!(asV a)) (True /\ (VC_sEntails_1 a b)) (True /\ ((b.facts.length <= 281474976710656 /\ b.atoms.length <= 281474976710656) /\ True /\ True) /\ True /\ True /\ (vcIf (!(asV b)) (VC_sEntails_1 a b) (True /\ True /\ ((asV a = true /\ asV b = true) /\ True /\ TN /\ True) /\ True /\ True /\ True /\ True /\ True /\ True /\ True /\ True /\ (((!(!(FC a b).isEmpty), ()) : Bool × Unit) = (ENT a b, ())) /\ True /\ True /\ True /\ True /\ TF))))
theorem vcn_sEntails (a : GAsn) (b : GAsn) (k : Nat) (hp : a.facts.length <= 281474976710656 /\ a.atoms.length <= 281474976710656 /\ b.facts.length <= 281474976710656 /\ b.atoms.length <= 281474976710656) : VC_sEntails a b k := by
 unfold VC_sEntails VC_sEntails_1
 simp only [cln, Nat.reduceEqDiff, Nat.reduceLeDiff, Nat.reduceAdd]
 all_goals (try simp only [opn])
 all_goals (repeat' (first | apply And.intro | intro _))
 all_goals (repeat (cases ‹_ /\ _›))
 all_goals (first | omega | rfl | assumption | exact (ent_no1 ‹_›).symm | exact (ent_no2 ‹_›).symm | (rw [ENT_FC ‹_› ‹_›, Bool.not_not]; done) | exact fc_len ‹_› ‹_› | skip)
theorem ok_sEntails : FnOk Try.prog E 32 c_sEntails :=
 fn_okQ (l := L_sEntails) (lp := P_sEntails) (hp := fun _ => false) (gcs := fun _ => none) (perm := fun _ => []) tabOk mix ⟨ok_sAssertionValid, ok_l6Fails, trivial⟩ trivial Try.func32 rfl (by kernel_rfl) (by decide) (by kernel_rfl) (anns := fun x _ => fun _ _ => none) (fun ⟨a, b, _⟩ k hp _ => Eq.mp (by kernel_rfl) (vcn_sEntails a b k hp)) tot_fn
abbrev c_l6Without : Con := ⟨[.asn, .int, .int, .atom], [.asn], fun (a, i, q, x, _) => a.facts.length <= 1048576 /\ a.atoms.length <= 1048576, .inl fun (a, i, q, x, _) => (⟨a.facts, x :: woF a.atoms i q a.atoms.length⟩, ()), fun _ => 0⟩
abbrev L_l6Without : List (FuncId × Con) := []
abbrev P_l6Without : List (FuncId × PT) := []
def an_l6Without (a : GAsn) (i : Int) (q : Int) (x : GAtom) : Nat -> St -> Option Ann
 | 3, se => some { α := Nat, ok := fun j => j <= a.atoms.length, mu := fun j => a.atoms.length - j, i0 := fun _ => 0, nx := fun a _ => (fun j => j + 1) a, live := [1, 2, 4, 8, 9], sets := fun j => [(10, sv (.int .i64 j))], mids := [79, 128, 129, 143], blks := fun j => [(159, .blk [.own 7, .own 8])], owns := fun j => [⟨7, .cell 159 0, .fact, a.facts⟩, ⟨8, .cell 159 1, .atom, x :: woF a.atoms i q j⟩], rd := fun r _ => r, base := 100000 }
 | _, _ => none
def VC_l6Without_1 (i : Int) (q : Int) : Prop := RL [.s (.c (.d (.val (.int .i64 i)))), .s (.c (.d (.val (.int .i64 q)))), .s (.c (.ptr 79 0)), .s (.c (.ptr 143 0)), .s (.c (.ptr 159 0))]
def VC_l6Without_2 (a : GAsn) : Prop := RM [some (.blk [.d (.arr .fact a.facts), .d (.arr .atom a.atoms)]), some (.sl 128 .fact ([] : List GFact)), some (.sl 129 .atom ([] : List GAtom)), some (.blk [.own 128, .own 129])]
def VC_l6Without_3 (j1 : Nat) : Prop := ([.s (.c (.d (.val (.int .i64 (((j1 : Nat) : Int) + (1 : Int))))))] : List S) = [.s (.c (.d (.val (.int .i64 (((j1 + 1) : Nat) : Int)))))]
def VC_l6Without_4 (j1 : Nat) (a : GAsn) (i : Int) (q : Int) (x : GAtom) : Prop := True /\ (inK .i64 (((j1 : Nat) : Int) + (1 : Int))) /\ True /\ ((j1 + 1) <= a.atoms.length) /\ (a.atoms.length - (j1 + 1) < a.atoms.length - j1) /\ TT /\ (VC_l6Without_1 i q) /\ (VC_l6Without_3 j1) /\ (VC_l6Without_2 a) /\ (RM [some (.blk [.own 7, .own 8])]) /\ (((some a.facts : Option (List GFact)) = some a.facts) /\ ((some (x :: woF a.atoms i q j1) : Option (List GAtom)) = some (x :: woF a.atoms i q (j1 + 1))) /\ True) /\ TT
def VC_l6Without (a : GAsn) (i : Int) (q : Int) (x : GAtom) (k : Nat) : Prop := TN /\ TN /\ (TN /\ TN /\ TN /\ True) /\ (TN /\ True) /\ True /\ True /\ (TN /\ TF /\ TF /\ (([] : List GFact).length + a.facts.length <= 4294967296)) /\ True /\ (TN /\ True) /\ (TN /\ TN /\ True) /\ (TN /\ TN /\ TN /\ True) /\ (TF /\ TF) /\ True /\ ((0 <= a.atoms.length) /\ TT /\ (VC_l6Without_1 i q) /\ (([.s (.c (.d (.val (.int .i64 (0 : Int)))))] : List S) = [.s (.c (.d (.val (.int .i64 ((0 : Nat) : Int)))))]) /\ (VC_l6Without_2 a) /\ (RM [some (.blk [.own 224, .own 256])]) /\ (((some (([] : List GFact) ++ a.facts) : Option (List GFact)) = some a.facts) /\ ((some ([x] : List GAtom) : Option (List GAtom)) = some (x :: woF a.atoms i q 0)) /\ True) /\ TT) /\ (∀ j1 : Nat, (j1 <= a.atoms.length) -> True /\ True /\ True /\ True /\ True /\ (vcIf (decide (((j1 : Nat) : Int) < ((a.atoms.length : Nat) : Int))) (True /\ True /\ True /\ True /\ (vcIf (((j1 : Nat) : Int) != i) (True /\ True /\ True /\ True /\ (vcIf (((j1 : Nat) : Int) != q) (True /\ True /\ True /\ True /\ True /\ (0 <= ((j1 : Nat) : Int) /\ ((j1 : Nat) : Int) < ((a.atoms.length : Nat) : Int)) /\ True /\ (TN /\ True) /\ (TN /\ TF /\ TF /\ ((x :: woF a.atoms i q j1).length + ([(a.atoms.getD j1 (⟨0, 0, 0⟩ : GAtom))] : List GAtom).length <= 4294967296)) /\ True /\ (TF /\ TF) /\ True /\ (inK .i64 (((j1 : Nat) : Int) + (1 : Int))) /\ True /\ ((j1 + 1) <= a.atoms.length) /\ (a.atoms.length - (j1 + 1) < a.atoms.length - j1) /\ TT /\ (VC_l6Without_1 i q) /\ (VC_l6Without_3 j1) /\ (VC_l6Without_2 a) /\ (RM [some (.blk [.own 7, .own 100656])]) /\ (((some a.facts : Option (List GFact)) = some a.facts) /\ ((some ((x :: woF a.atoms i q j1) ++ ([(a.atoms.getD j1 (⟨0, 0, 0⟩ : GAtom))] : List GAtom)) : Option (List GAtom)) = some (x :: woF a.atoms i q (j1 + 1))) /\ True) /\ TT) (VC_l6Without_4 j1 a i q x))) (True /\ (VC_l6Without_4 j1 a i q x)))) (True /\ (TF /\ TF) /\ ((((⟨a.facts, x :: woF a.atoms i q j1⟩ : GAsn), ()) : GAsn × Unit) = (⟨a.facts, x :: woF a.atoms i q a.atoms.length⟩, ())) /\ ((((7 : Nat) ≠ 8) /\ True) /\ True /\ True) /\ ((TF /\ TF) /\ (TF /\ TF) /\ True) /\ True /\ (True /\ True /\ True) /\ TF)))
theorem vcn_l6Without (a : GAsn) (i : Int) (q : Int) (x : GAtom) (k : Nat) (hp : a.facts.length <= 1048576 /\ a.atoms.length <= 1048576) : VC_l6Without a i q x k := by
 unfold VC_l6Without VC_l6Without_4 VC_l6Without_3 VC_l6Without_2 VC_l6Without_1
 simp only [cln, Nat.reduceEqDiff, Nat.reduceLeDiff, Nat.reduceAdd]
 all_goals (try simp only [opn])
 all_goals (repeat' (first | apply And.intro | intro _))
 all_goals (repeat (cases ‹_ /\ _›))
 all_goals (first | (exfalso; contradiction) | omega | with_reducible assumption | with_reducible rfl | skip)
 all_goals (first
  | rfl
  | (exact woF_bd (by omega))
  | (rw [List.cons_append, woF_go ‹_› ‹_›]; done)
  | (rw [woF_skip (.inl ‹_›)]; done) | (rw [woF_skip (.inr ‹_›)]; done)
  | (have e := Nat.le_antisymm ‹_ <= a.atoms.length› (Nat.le_of_not_lt ‹¬ _ < a.atoms.length›); rw [e]; done)
  | skip)
theorem ok_l6Without : FnOk Try.prog E 103 c_l6Without :=
 fn_okQ (l := L_l6Without) (lp := P_l6Without) (hp := fun _ => false) (gcs := fun _ => none) (perm := fun _ => []) tabOk mix trivial trivial Try.func103 rfl (by kernel_rfl) (by decide) (by kernel_rfl) (anns := fun x _ => an_l6Without x.1 x.2.1 x.2.2.1 x.2.2.2.1) (fun ⟨a, i, q, x, _⟩ k hp _ => Eq.mp (by kernel_rfl) (vcn_l6Without a i q x k hp)) tot_fn
abbrev c_sFoldCells : Con := ⟨[.asn], [.asn, .bool], fun (a, _) => a.facts.length <= 281474976710656 /\ a.atoms.length <= 281474976710656, .inl fun (a, _) => (fcL a, fcB a, ()), fun _ => 0⟩
abbrev L_sFoldCells : List (FuncId × Con) := [(32, c_sEntails), (56, c_sAssertionValid), (103, c_l6Without)]
abbrev P_sFoldCells : List (FuncId × PT) := []
def an_sFoldCells (a : GAsn) : Nat -> St -> Option Ann
 | 4, se => some { α := Nat, ok := fun i => i <= a.atoms.length /\ asV a = true /\ noI a i = true, mu := fun i => a.atoms.length - i, i0 := fun _ => 0, nx := fun a _ => (fun i => i + 1) a, live := [1, 2], sets := fun i => [(4, sv (.int .i64 i))], mids := [31, 32, 33, 47], blks := fun i => [], owns := fun i => [], rd := fun r _ => r, base := 100000 }
 | 7, se => some { α := Nat, ok := fun j => j <= a.atoms.length /\ noK a (intAt se 4).toNat j = true, mu := fun j => a.atoms.length - j, i0 := fun _ => 0, nx := fun a _ => (fun j => j + 1) a, live := [1, 2, 4], sets := fun j => [(5, sv (.int .i64 j))], mids := [31, 32, 33, 47], blks := fun j => [], owns := fun j => [], rd := fun r _ => r, base := 200000 }
 | _, _ => none
def VC_sFoldCells_1 (a : GAsn) : Prop := (((⟨([] : List GFact), ([] : List GAtom)⟩ : GAsn), false, ()) : GAsn × Bool × Unit) = (fcL a, fcB a, ())
def VC_sFoldCells_2 (a : GAsn) : Prop := (RM [some (.blk [.d (.arr .fact a.facts), .d (.arr .atom a.atoms)]), some (.sl 32 .fact ([] : List GFact)), some (.sl 33 .atom ([] : List GAtom)), some (.blk [.own 32, .own 33])]) /\ (RM []) /\ True /\ TT
def VC_sFoldCells_3 (a : GAsn) : Prop := (([.s (.c (.d (.val (.int .i64 (0 : Int)))))] : List S) = [.s (.c (.d (.val (.int .i64 ((0 : Nat) : Int)))))]) /\ (VC_sFoldCells_2 a)
def VC_sFoldCells_4 (i1 : Nat) : Prop := RL [.s (.c (.ptr 31 0)), .s (.c (.ptr 47 0)), .s (.c (.d (.val (.int .i64 ((i1 : Nat) : Int)))))]
def VC_sFoldCells_5 (j2 : Nat) (a : GAsn) : Prop := (([.s (.c (.d (.val (.int .i64 (((j2 : Nat) : Int) + (1 : Int))))))] : List S) = [.s (.c (.d (.val (.int .i64 (((j2 + 1) : Nat) : Int)))))]) /\ (VC_sFoldCells_2 a)
def VC_sFoldCells_6 (j2 : Nat) (a : GAsn) (i1 : Nat) : Prop := True /\ (inK .i64 (((j2 : Nat) : Int) + (1 : Int))) /\ True /\ ((j2 + 1) <= a.atoms.length /\ noK a (((i1 : Nat) : Int)).toNat (j2 + 1) = true) /\ (a.atoms.length - (j2 + 1) < a.atoms.length - j2) /\ TT /\ (VC_sFoldCells_4 i1) /\ (VC_sFoldCells_5 j2 a)
def VC_sFoldCells_7 (a : GAsn) : Prop := (((0 <= a.atoms.length /\ asV a = true /\ noI a 0 = true) /\ TT /\ (RL [.s (.c (.ptr 31 0)), .s (.c (.ptr 47 0))]) /\ (VC_sFoldCells_3 a)) /\ (∀ i1 : Nat, (i1 <= a.atoms.length /\ asV a = true /\ noI a i1 = true) -> True /\ True /\ True /\ True /\ True /\ (vcIf (decide (((i1 : Nat) : Int) < ((a.atoms.length : Nat) : Int))) (True /\ ((0 <= a.atoms.length /\ noK a (((i1 : Nat) : Int)).toNat 0 = true) /\ TT /\ (VC_sFoldCells_4 i1) /\ (VC_sFoldCells_3 a)) /\ (∀ j2 : Nat, (j2 <= a.atoms.length /\ noK a (((i1 : Nat) : Int)).toNat j2 = true) -> True /\ True /\ True /\ True /\ True /\ (vcIf (decide (((j2 : Nat) : Int) < ((a.atoms.length : Nat) : Int))) (True /\ True /\ True /\ True /\ (vcIf (((i1 : Nat) : Int) == ((j2 : Nat) : Int)) (True /\ (VC_sFoldCells_6 j2 a i1)) (True /\ True /\ True /\ (0 <= ((i1 : Nat) : Int) /\ ((i1 : Nat) : Int) < ((a.atoms.length : Nat) : Int)) /\ True /\ True /\ True /\ True /\ True /\ (0 <= ((j2 : Nat) : Int) /\ ((j2 : Nat) : Int) < ((a.atoms.length : Nat) : Int)) /\ True /\ True /\ True /\ True /\ (vcIf (((a.atoms.getD i1 (⟨0, 0, 0⟩ : GAtom)).b) != ((a.atoms.getD j2 (⟨0, 0, 0⟩ : GAtom)).a)) (VC_sFoldCells_6 j2 a i1) (True /\ True /\ True /\ True /\ True /\ True /\ (0 <= ((i1 : Nat) : Int) /\ ((i1 : Nat) : Int) < ((a.atoms.length : Nat) : Int)) /\ True /\ True /\ True /\ True /\ True /\ (0 <= ((j2 : Nat) : Int) /\ ((j2 : Nat) : Int) < ((a.atoms.length : Nat) : Int)) /\ True /\ True /\ True /\ ((a.facts.length <= 1048576 /\ a.atoms.length <= 1048576) /\ True /\ TN /\ TN /\ True) /\ (TN /\ TN /\ TN /\ True) /\ (TF /\ TF) /\ True /\ True /\ ((a.facts.length <= 281474976710656 /\ a.atoms.length <= 281474976710656 /\ (⟨a.facts, ((⟨(2 : Int), (a.atoms.getD i1 (⟨0, 0, 0⟩ : GAtom)).a, (a.atoms.getD j2 (⟨0, 0, 0⟩ : GAtom)).b⟩ : GAtom) :: woF a.atoms ((i1 : Nat) : Int) ((j2 : Nat) : Int) a.atoms.length)⟩ : GAsn).facts.length <= 281474976710656 /\ (⟨a.facts, ((⟨(2 : Int), (a.atoms.getD i1 (⟨0, 0, 0⟩ : GAtom)).a, (a.atoms.getD j2 (⟨0, 0, 0⟩ : GAtom)).b⟩ : GAtom) :: woF a.atoms ((i1 : Nat) : Int) ((j2 : Nat) : Int) a.atoms.length)⟩ : GAsn).atoms.length <= 281474976710656) /\ True /\ True) /\ (vcIf (ENT a (⟨a.facts, ((⟨(2 : Int), (a.atoms.getD i1 (⟨0, 0, 0⟩ : GAtom)).a, (a.atoms.getD j2 (⟨0, 0, 0⟩ : GAtom)).b⟩ : GAtom) :: woF a.atoms ((i1 : Nat) : Int) ((j2 : Nat) : Int) a.atoms.length)⟩ : GAsn)) (True /\ (TF /\ TF) /\ True /\ ((((⟨a.facts, ((⟨(2 : Int), (a.atoms.getD i1 (⟨0, 0, 0⟩ : GAtom)).a, (a.atoms.getD j2 (⟨0, 0, 0⟩ : GAtom)).b⟩ : GAtom) :: woF a.atoms ((i1 : Nat) : Int) ((j2 : Nat) : Int) a.atoms.length)⟩ : GAsn), true, ()) : GAsn × Bool × Unit) = (fcL a, fcB a, ())) /\ ((((200944 : Nat) ≠ 200945) /\ True) /\ True /\ True) /\ ((TF /\ TF) /\ (TF /\ TF) /\ True) /\ True /\ (True /\ True /\ True) /\ TF) (VC_sFoldCells_6 j2 a i1))))))) (True /\ (inK .i64 (((i1 : Nat) : Int) + (1 : Int))) /\ True /\ ((i1 + 1) <= a.atoms.length /\ asV a = true /\ noI a (i1 + 1) = true) /\ (a.atoms.length - (i1 + 1) < a.atoms.length - i1) /\ TT /\ (RL [.s (.c (.ptr 31 0)), .s (.c (.ptr 47 0))]) /\ (VC_sFoldCells_5 i1 a))))) ((TN /\ TN /\ True) /\ (TF /\ TF) /\ True /\ (VC_sFoldCells_1 a) /\ ((((101024 : Nat) ≠ 101025) /\ True) /\ True /\ True) /\ ((TF /\ TF) /\ (TF /\ TF) /\ True) /\ True /\ (True /\ True /\ True) /\ TF))))
def VC_sFoldCells (a : GAsn) (k : Nat) : Prop := TN /\ (TN /\ TN /\ TN /\ True) /\ True /\ True /\ ((a.facts.length <= 281474976710656 /\ a.atoms.length <= 281474976710656) /\ True /\ True) /\ True /\ (vcIf (!(asV a)) ((TN /\ TN /\ True) /\ (TF /\ TF) /\ True /\ (VC_sFoldCells_1 a) /\ ((((160 : Nat) ≠ 161) /\ True) /\ True /\ True) /\ ((TF /\ TF) /\ (TF /\ TF) /\ True) /\ True /\ (True /\ True /\ True) /\ TF) (True /\ (VC_sFoldCells_7 a)))
theorem vcn_sFoldCells (a : GAsn) (k : Nat) (hp : a.facts.length <= 281474976710656 /\ a.atoms.length <= 281474976710656) : VC_sFoldCells a k := by
 unfold VC_sFoldCells VC_sFoldCells_7 VC_sFoldCells_6 VC_sFoldCells_5 VC_sFoldCells_4 VC_sFoldCells_3 VC_sFoldCells_2 VC_sFoldCells_1
 simp only [cln, Nat.reduceEqDiff, Nat.reduceLeDiff, Nat.reduceAdd]
 all_goals (try simp only [opn])
 all_goals (repeat' (first | apply And.intro | intro _))
 all_goals (repeat (cases ‹_ /\ _›))
 all_goals (first | (exfalso; contradiction) | omega | with_reducible assumption | with_reducible rfl | skip)
 all_goals (try have h6 := fo_len6 ‹asV a = true›)
 all_goals (first
  | omega
  | with_reducible exact (fo_bad ‹_›).1.symm | with_reducible exact (fo_bad ‹_›).2.symm
  | with_reducible exact noI_zero | with_reducible exact noK_zero
  | with_reducible exact noK_same ‹_› ‹_› | with_reducible exact noK_apart ‹_› ‹_› | with_reducible exact foR_no ‹_› ‹_›
  | (exact woF_bd (by omega))
  | with_reducible exact (foR_hit ‹_› ‹_› ‹_› ‹_› ‹_› ‹_› ‹_› ‹_›).1
  | with_reducible exact (foR_hit ‹_› ‹_› ‹_› ‹_› ‹_› ‹_› ‹_› ‹_›).2
  | with_reducible exact noI_step ‹_› ‹_› ‹_› ‹_›
  | with_reducible exact (fo_end ‹_› ‹_› ‹_›).1.symm | with_reducible exact (fo_end ‹_› ‹_› ‹_›).2.symm
  | skip)
theorem ok_sFoldCells : FnOk Try.prog E 48 c_sFoldCells :=
 fn_okQ (l := L_sFoldCells) (lp := P_sFoldCells) (hp := fun _ => false) (gcs := fun _ => none) (perm := fun _ => []) tabOk mix ⟨ok_sEntails, ok_sAssertionValid, ok_l6Without, trivial⟩ trivial Try.func48 rfl (by kernel_rfl) (by decide) (by kernel_rfl) (anns := fun x _ => an_sFoldCells x.1) (fun ⟨a, _⟩ k hp _ => Eq.mp (by kernel_rfl) (vcn_sFoldCells a k hp)) tot_fn
abbrev c_FnFoldCells : Con := ⟨[.sl .u8], [.bool], fun (code, _) => code.length <= 281474976710656, .inl fun (code, _) => (true, ()), fun _ => 0⟩
abbrev L_FnFoldCells : List (FuncId × Con) := [(18, c_iAssertionSame), (20, c_iModelOf), (21, c_iHolds), (31, c_iEntails), (41, c_iFoldCells), (47, c_DrawFoldCells), (48, c_sFoldCells)]
abbrev P_FnFoldCells : List (FuncId × PT) := []
def VC_FnFoldCells_1  : Prop := True /\ (((true, ()) : Bool × Unit) = (true, ())) /\ True /\ True /\ True /\ True /\ TF
def VC_FnFoldCells_2 (r1 : GAsn × Unit) : Prop := (r1.1.facts.length <= 281474976710656 /\ r1.1.atoms.length <= 281474976710656) /\ True /\ TN /\ TN /\ True
def VC_FnFoldCells_3 (r1 : GAsn × Unit) : Prop := ((fcL r1.1).facts.length <= 281474976710656 /\ (fcL r1.1).atoms.length <= 281474976710656 /\ (fcL r1.1).facts.length <= 281474976710656 /\ (fcL r1.1).atoms.length <= 281474976710656) /\ True /\ True
def VC_FnFoldCells_4  : Prop := True /\ True /\ (((false, ()) : Bool × Unit) = (true, ())) /\ True /\ True /\ True /\ True /\ TF
def VC_FnFoldCells_5 (r1 : GAsn × Unit) : Prop := True /\ True /\ True /\ True /\ (vcIf ((fcB r1.1) == (fcB r1.1)) (True /\ True /\ (VC_FnFoldCells_3 r1) /\ True /\ True /\ ((((decide ((fcL r1.1) = (fcL r1.1))), ()) : Bool × Unit) = (true, ())) /\ True /\ True /\ True /\ True /\ TF) VC_FnFoldCells_4)
def VC_FnFoldCells_6 (r1 : GAsn × Unit) : Prop := True /\ (VC_FnFoldCells_5 r1)
def VC_FnFoldCells (code : List UInt8) (k : Nat) : Prop := True /\ True /\ True /\ True /\ (vcIf (decide ((1048576 : Int) < ((code.length : Nat) : Int))) VC_FnFoldCells_1 (True /\ (True /\ True /\ TN /\ TN /\ True) /\ (∀ r1 : GAsn × Unit, (r1.1.facts.length <= 40 /\ r1.1.atoms.length <= 40) -> (TN /\ TN /\ TN /\ True) /\ (TF /\ TF) /\ True /\ (VC_FnFoldCells_2 r1) /\ True /\ True /\ True /\ (TN /\ TN /\ TN /\ True) /\ (TF /\ TF) /\ True /\ True /\ (VC_FnFoldCells_2 r1) /\ True /\ True /\ True /\ (TN /\ TN /\ TN /\ True) /\ (TF /\ TF) /\ True /\ True /\ True /\ True /\ True /\ (vcIf ((fcB r1.1) != (fcB r1.1)) (True /\ True /\ (VC_FnFoldCells_6 r1)) (True /\ True /\ (VC_FnFoldCells_3 r1) /\ True /\ True /\ True /\ (vcIf (!(decide ((fcL r1.1) = (fcL r1.1)))) (VC_FnFoldCells_6 r1) (True /\ True /\ True /\ (vcIf (!(fcB r1.1)) (VC_FnFoldCells_5 r1) (True /\ (VC_FnFoldCells_2 r1) /\ True /\ True /\ True /\ (TN /\ TN /\ TN /\ True) /\ (TF /\ TF) /\ True /\ True /\ True /\ ((r1.1.facts.length <= 281474976710656 /\ r1.1.atoms.length <= 281474976710656 /\ (fcL r1.1).facts.length <= 281474976710656 /\ (fcL r1.1).atoms.length <= 281474976710656) /\ True /\ True) /\ True /\ (vcIf (ENT r1.1 (fcL r1.1)) (True /\ True /\ True /\ True /\ True /\ True /\ (inK .i64 (((r1.1.atoms.length : Nat) : Int) - (1 : Int))) /\ True /\ True /\ True /\ (vcIf (((((fcL r1.1).atoms).length : Nat) : Int) == (((r1.1.atoms.length : Nat) : Int) - (1 : Int))) (True /\ True /\ True /\ (vcIf (!(asV r1.1 && !(casesF r1.1).isEmpty)) (True /\ True /\ VC_FnFoldCells_1) (True /\ True /\ (((mdL r1.1).vals.length <= 281474976710656 /\ (mdL r1.1).heap.length <= 281474976710656 /\ (fcL r1.1).facts.length <= 281474976710656 /\ (fcL r1.1).atoms.length <= 281474976710656) /\ True /\ True) /\ True /\ True /\ True /\ ((((HOL (mdL r1.1) (fcL r1.1)), ()) : Bool × Unit) = (true, ())) /\ True /\ True /\ True /\ True /\ TF))) VC_FnFoldCells_4)) (True /\ True /\ VC_FnFoldCells_4)))))))))))
theorem vcn_FnFoldCells (code : List UInt8) (k : Nat) (hp : code.length <= 281474976710656) : VC_FnFoldCells code k := by
 unfold VC_FnFoldCells VC_FnFoldCells_6 VC_FnFoldCells_5 VC_FnFoldCells_4 VC_FnFoldCells_3 VC_FnFoldCells_2 VC_FnFoldCells_1
 simp only [cln, Nat.reduceEqDiff, Nat.reduceLeDiff, Nat.reduceAdd, bne_self_eq_false, beq_self_eq_true, decide_true, eq_self, Bool.not_true, Bool.not_false, vcIf_true, vcIf_false, Bool.false_and, Bool.true_and, Bool.or_false, Bool.or_true]
 all_goals (try simp only [opn])
 all_goals (repeat' (first | apply And.intro | intro _))
 all_goals (repeat (cases ‹_ /\ _›))
 all_goals (first | trivial | (exfalso; contradiction) | omega | with_reducible assumption | with_reducible rfl | skip)
 all_goals (first
  | (with_reducible refine Nat.le_trans (m := 200) ?_ (by decide); first
   | with_reducible exact md200V | with_reducible exact md200H
   | with_reducible exact fc200F (by omega) | with_reducible exact fc200A (by omega))
  | with_reducible exact en_fold ‹_› ‹_›
  | with_reducible exact (en_trN ‹_› ‹_› ‹_›).elim
  | with_reducible exact fo_hol ‹_› ‹_›
  | with_reducible exact (fo_lenI ‹_› ‹_›).elim
  | with_reducible exact (fo_entN ‹_› ‹_›).elim
  | skip)
theorem ok_FnFoldCells : FnOk Try.prog E 13 c_FnFoldCells :=
 fn_okQ (l := L_FnFoldCells) (lp := P_FnFoldCells) (hp := fun _ => false) (gcs := fun _ => none) (perm := fun _ => []) tabOk mix ⟨ok_iAssertionSame, ok_iModelOf, ok_iHolds, ok_iEntails, ok_iFoldCells, ok_DrawFoldCells, ok_sFoldCells, trivial⟩ trivial Try.func13 rfl (by kernel_rfl) (by decide) (by kernel_rfl) (anns := fun x _ => fun _ _ => none) (fun ⟨code, _⟩ k hp _ => Eq.mp (by kernel_rfl) (vcn_FnFoldCells code k hp)) tot_fn
end Go.Proofs.Ytfoioficiffgkaa
