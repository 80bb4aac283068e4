/-
  Contracts of single functions of the program, each shown by the engine: what a call returns for arguments within the contract's bounds.
-/
import Derived.Test.YtejcmcbpfnmlaaaFFnCasesFacta
import Derived.Test.YtejcmcbpfnmlaaaEe
import Derived.Test.YtejcmcbpfnmlaaaEf
import Derived.Test.YtejcmcbpfnmlaaaEg
import Derived.Test.YtejcmcbpfnmlaaaFFnCasesFactb
set_option linter.unusedSimpArgs false
set_option linter.unusedVariables false
set_option linter.unusedSectionVars false

namespace Go.Proofs.Ytejcmcbpfnmlaaa
open Go.SE Go.RowKit
set_option linter.unusedSimpArgs false
set_option linter.unusedVariables false
set_option maxHeartbeats 1000000
set_option maxRecDepth 100000
/-! l5Open -/
abbrev c_l5Open : Con := ⟨[], [.sl .int], fun _ => True, .inl fun _ => (opens, ()), fun _ => 0⟩
abbrev L_l5Open : List (FuncId × Con) := []
abbrev P_l5Open : List (FuncId × PT) := []
def an_l5Open  : Nat → St → Option Ann
  | 2, se => some { α := Nat, ok := fun i => i ≤ 8, mu := fun i => 8 - i, i0 := fun _ => 0, nx := fun a _ => (fun i => i + 1) a, live := [0], sets := fun i => [], mids := [0], blks := fun i => [], owns := fun i => [⟨7, .slot 1, .int, 0 :: List.replicate i (-1)⟩], rd := fun r _ => r, base := 100000 }
  | _, _ => none
def VC_l5Open (k : Nat) : Prop := TN ∧ (TN ∧ True) ∧ True ∧ ((0 ≤ 8) ∧ TT ∧ (RL [.s (.c (.own 0))]) ∧ (RL []) ∧ (RM [some (.sl 0 .int ([] : List Int))]) ∧ (RM []) ∧ (((some ([(0 : Int)] : List Int) : Option (List Int)) = some (0 :: List.replicate 0 (-1))) ∧ True) ∧ TT) ∧ (∀ i1 : Nat, (i1 ≤ 8) → True ∧ True ∧ True ∧ (vcIf (decide ((((0 :: List.replicate i1 (-1)).length : Nat) : Int) ≤ (8 : Int))) (True ∧ (TN ∧ True) ∧ (TN ∧ TF ∧ TF ∧ ((0 :: List.replicate i1 (-1)).length + ([(-1 : Int)] : List Int).length ≤ 4294967296)) ∧ True ∧ ((i1 + 1) ≤ 8) ∧ (8 - (i1 + 1) < 8 - i1) ∧ TT ∧ (RL [.s (.c (.own 0))]) ∧ (RL []) ∧ (RM [some (.sl 0 .int ([] : List Int))]) ∧ (RM []) ∧ (((some ((0 :: List.replicate i1 (-1)) ++ ([(-1 : Int)] : List Int)) : Option (List Int)) = some (0 :: List.replicate (i1 + 1) (-1))) ∧ True) ∧ TT) (True ∧ True ∧ (((0 :: List.replicate i1 (-1), ()) : (List Int) × Unit) = (opens, ())) ∧ (True ∧ True) ∧ ((TF ∧ TF) ∧ True) ∧ True ∧ (True ∧ True) ∧ TF)))
theorem vcn_l5Open  (k : Nat) : VC_l5Open  k := by
  unfold VC_l5Open
  simp only [cln, Nat.reduceEqDiff, Nat.reduceLeDiff, Nat.reduceAdd]
  all_goals (try simp only [opn])
  all_goals (repeat' (first | apply And.intro | intro _))
  all_goals (repeat (cases ‹_ ∧ _›))
  all_goals (first | omega | rfl | assumption | (simp_all; done) | skip)
  all_goals (first
   | exact open_lt (by assumption) | (have h1 := open_lt (by assumption); omega) | (rw [List.replicate_succ']; rfl) | exact open_end (by assumption) (by assumption) | skip)
theorem vce_l5Open  (k : Nat) : VC_l5Open  k = vcQ tab (lookF L_l5Open) (lookP P_l5Open) (fun _ => false) (fun _ => none) (an_l5Open ) (fun _ => []) (bodyOf Try.f99) (entry (encs c_l5Open.aks ()) (rdOf false k)) (retOk tab c_l5Open Try.f99.results.toList () k) := by kernel_rfl
theorem ok_l5Open : FnOk Try.prog E 99 c_l5Open :=
  fn_okQ (l := L_l5Open) (lp := P_l5Open) (hp := fun _ => false) (gcs := fun _ => none) (perm := fun _ => []) tabOk mix trivial trivial Try.func99 rfl (by kernel_rfl) (by decide) (by kernel_rfl) (anns := fun x _ => an_l5Open ) (fun _ k _ _ => (vce_l5Open  k).mp (vcn_l5Open  k)) tot_fn
end Go.Proofs.Ytejcmcbpfnmlaaa

namespace Go.Proofs.Ytejcmcbpfnmlaaa
open Go.SE Go.RowKit
set_option linter.unusedSimpArgs false
set_option linter.unusedVariables false
set_option maxHeartbeats 1000000
set_option maxRecDepth 100000
/-! l5Filled -/
abbrev c_l5Filled : Con := ⟨[.sl .atom, .sl .int], [.sl .atom], fun (l, c, _) => l.length ≤ 1048576 ∧ l.all atV = true ∧ c.length = 9, .inl fun (l, c, _) => (fL c l, ()), fun _ => 0⟩
abbrev L_l5Filled : List (FuncId × Con) := []
abbrev P_l5Filled : List (FuncId × PT) := []
def an_l5Filled (l : List GAtom) (c : List Int) : Nat → St → Option Ann
  | 3, se => some { α := Nat, ok := fun i => i ≤ l.length, mu := fun i => l.length - i, i0 := fun _ => 0, nx := fun a _ => (fun i => i + 1) a, live := [0, 1, 4], sets := fun i => [(6, sv (.int .i64 i))], mids := [64], blks := fun i => [], owns := fun i => [⟨7, .slot 5, .atom, fL c (l.take i)⟩], rd := fun r _ => r, base := 100000 }
  | _, _ => none
def VC_l5Filled_1 (l : List GAtom) (c : List Int) (k : Nat) (i1 : Nat) : Prop := ((0 ≤ ((i1 : Nat) : Int) ∧ ((i1 : Nat) : Int) < ((l.length : Nat) : Int)) ∧ True ∧ True ∧ (0 ≤ ((l.getD i1 (⟨0, 0, 0⟩ : GAtom)).b) ∧ ((l.getD i1 (⟨0, 0, 0⟩ : GAtom)).b) < ((c.length : Nat) : Int)) ∧ True ∧ True ∧ (TN ∧ True) ∧ (TF ∧ TF) ∧ True ∧ True ∧ True ∧ True ∧ (vcIf (((l.getD i1 (⟨0, 0, 0⟩ : GAtom)).kind) == (1 : Int)) (True ∧ True ∧ True ∧ (TN ∧ True) ∧ (TN ∧ TF ∧ TF ∧ ((fL c (l.take i1)).length + ([(⟨(l.getD i1 (⟨0, 0, 0⟩ : GAtom)).kind, (c.getD ((l.getD i1 (⟨0, 0, 0⟩ : GAtom)).a).toNat (0 : Int)), (c.getD ((l.getD i1 (⟨0, 0, 0⟩ : GAtom)).b).toNat (0 : Int))⟩ : GAtom)] : List GAtom).length ≤ 4294967296)) ∧ True ∧ True ∧ (inK .i64 (((i1 : Nat) : Int) + (1 : Int))) ∧ True ∧ ((i1 + 1) ≤ l.length) ∧ (l.length - (i1 + 1) < l.length - i1) ∧ TT ∧ (RL [.s (.c (.d (.arr .atom l))), .s (.c (.d (.arr .int c))), .s (.c (.own 64))]) ∧ (([.s (.c (.d (.val (.int .i64 (((i1 : Nat) : Int) + (1 : Int))))))] : List S) = [.s (.c (.d (.val (.int .i64 (((i1 + 1) : Nat) : Int)))))]) ∧ (RM [some (.sl 64 .atom ([] : List GAtom))]) ∧ (RM []) ∧ (((some ((fL c (l.take i1)) ++ ([(⟨(l.getD i1 (⟨0, 0, 0⟩ : GAtom)).kind, (c.getD ((l.getD i1 (⟨0, 0, 0⟩ : GAtom)).a).toNat (0 : Int)), (c.getD ((l.getD i1 (⟨0, 0, 0⟩ : GAtom)).b).toNat (0 : Int))⟩ : GAtom)] : List GAtom)) : Option (List GAtom)) = some (fL c (l.take (i1 + 1)))) ∧ True) ∧ TT) (True ∧ True ∧ True ∧ True ∧ True ∧ True ∧ (vcIf ((c.getD ((l.getD i1 (⟨0, 0, 0⟩ : GAtom)).a).toNat (0 : Int)) != (c.getD ((l.getD i1 (⟨0, 0, 0⟩ : GAtom)).b).toNat (0 : Int))) (True ∧ True ∧ (TN ∧ True) ∧ (TN ∧ TF ∧ TF ∧ ((fL c (l.take i1)).length + ([(⟨(l.getD i1 (⟨0, 0, 0⟩ : GAtom)).kind, (c.getD ((l.getD i1 (⟨0, 0, 0⟩ : GAtom)).a).toNat (0 : Int)), (c.getD ((l.getD i1 (⟨0, 0, 0⟩ : GAtom)).b).toNat (0 : Int))⟩ : GAtom)] : List GAtom).length ≤ 4294967296)) ∧ True ∧ True ∧ (inK .i64 (((i1 : Nat) : Int) + (1 : Int))) ∧ True ∧ ((i1 + 1) ≤ l.length) ∧ (l.length - (i1 + 1) < l.length - i1) ∧ TT ∧ (RL [.s (.c (.d (.arr .atom l))), .s (.c (.d (.arr .int c))), .s (.c (.own 64))]) ∧ (([.s (.c (.d (.val (.int .i64 (((i1 : Nat) : Int) + (1 : Int))))))] : List S) = [.s (.c (.d (.val (.int .i64 (((i1 + 1) : Nat) : Int)))))]) ∧ (RM [some (.sl 64 .atom ([] : List GAtom))]) ∧ (RM []) ∧ (((some ((fL c (l.take i1)) ++ ([(⟨(l.getD i1 (⟨0, 0, 0⟩ : GAtom)).kind, (c.getD ((l.getD i1 (⟨0, 0, 0⟩ : GAtom)).a).toNat (0 : Int)), (c.getD ((l.getD i1 (⟨0, 0, 0⟩ : GAtom)).b).toNat (0 : Int))⟩ : GAtom)] : List GAtom)) : Option (List GAtom)) = some (fL c (l.take (i1 + 1)))) ∧ True) ∧ TT) (True ∧ (inK .i64 (((i1 : Nat) : Int) + (1 : Int))) ∧ True ∧ ((i1 + 1) ≤ l.length) ∧ (l.length - (i1 + 1) < l.length - i1) ∧ TT ∧ (RL [.s (.c (.d (.arr .atom l))), .s (.c (.d (.arr .int c))), .s (.c (.own 64))]) ∧ (([.s (.c (.d (.val (.int .i64 (((i1 : Nat) : Int) + (1 : Int))))))] : List S) = [.s (.c (.d (.val (.int .i64 (((i1 + 1) : Nat) : Int)))))]) ∧ (RM [some (.sl 64 .atom ([] : List GAtom))]) ∧ (RM []) ∧ (((some (fL c (l.take i1)) : Option (List GAtom)) = some (fL c (l.take (i1 + 1)))) ∧ True) ∧ TT)))))
def VC_l5Filled (l : List GAtom) (c : List Int) (k : Nat) : Prop := TN ∧ (TN ∧ True) ∧ True ∧ True ∧ ((0 ≤ l.length) ∧ TT ∧ (RL [.s (.c (.d (.arr .atom l))), .s (.c (.d (.arr .int c))), .s (.c (.own 64))]) ∧ (([.s (.c (.d (.val (.int .i64 (0 : Int)))))] : List S) = [.s (.c (.d (.val (.int .i64 ((0 : Nat) : Int)))))]) ∧ (RM [some (.sl 64 .atom ([] : List GAtom))]) ∧ (RM []) ∧ (((some ([] : List GAtom) : Option (List GAtom)) = some (fL c (l.take 0))) ∧ True) ∧ TT) ∧ (∀ i1 : Nat, (i1 ≤ l.length) → True ∧ True ∧ True ∧ True ∧ (vcIf (decide (((i1 : Nat) : Int) < ((l.length : Nat) : Int))) (True ∧ True ∧ (0 ≤ ((i1 : Nat) : Int) ∧ ((i1 : Nat) : Int) < ((l.length : Nat) : Int)) ∧ True ∧ True ∧ True ∧ True ∧ True ∧ (0 ≤ ((i1 : Nat) : Int) ∧ ((i1 : Nat) : Int) < ((l.length : Nat) : Int)) ∧ True ∧ True ∧ (0 ≤ ((l.getD i1 (⟨0, 0, 0⟩ : GAtom)).a) ∧ ((l.getD i1 (⟨0, 0, 0⟩ : GAtom)).a) < ((c.length : Nat) : Int)) ∧ True ∧ True ∧ True ∧ True ∧ (VC_l5Filled_1 l c k i1)) (True ∧ True ∧ (((fL c (l.take i1), ()) : (List GAtom) × Unit) = (fL c l, ())) ∧ (True ∧ True) ∧ ((TF ∧ TF) ∧ True) ∧ True ∧ (True ∧ True) ∧ TF)))
theorem vcn_l5Filled (l : List GAtom) (c : List Int) (k : Nat) (hp : l.length ≤ 1048576 ∧ l.all atV = true ∧ c.length = 9) : VC_l5Filled l c k := by
  unfold VC_l5Filled VC_l5Filled_1
  simp only [cln, Nat.reduceEqDiff, Nat.reduceLeDiff, Nat.reduceAdd]
  have hV := hp.2.1
  have hL : ∀ i, (fL c (l.take i)).length ≤ 1048576 := fun i => Nat.le_trans (fL_len _ _) (by simp; omega)
  all_goals (try simp only [opn])
  all_goals (repeat' (first | apply And.intro | intro _))
  all_goals (repeat (cases ‹_ ∧ _›))
  all_goals (first | omega | rfl | assumption | (simp_all; done) | skip)
  all_goals (first
   | (have h1 := atom_idx (l := l) hV (by assumption); omega)
   | exact Nat.le_trans (hL _) (by decide)
   | (rw [fL_step (d := ⟨0, 0, 0⟩) (by assumption)]; unfold filB cl; simp_all; done)
   | (rw [fL_step (d := ⟨0, 0, 0⟩) (by assumption)]; unfold filB cl; rw [beq_eq_false_iff_ne.2 (by assumption : ¬ (_ : GAtom).kind = 1), beq_eq_false_iff_ne.2 (by assumption)]; rfl)
   | (rw [fL_step (d := ⟨0, 0, 0⟩) (by assumption)]; unfold filB cl; rw [beq_eq_false_iff_ne.2 (by assumption : ¬ (_ : GAtom).kind = 1), beq_iff_eq.2 (by assumption)]; rfl)
   | (rw [take_full (l := l) (by assumption)]; done) | skip)
theorem vce_l5Filled (l : List GAtom) (c : List Int) (k : Nat) : VC_l5Filled l c k = vcQ tab (lookF L_l5Filled) (lookP P_l5Filled) (fun _ => false) (fun _ => none) (an_l5Filled l c) (fun _ => []) (bodyOf Try.f106) (entry (encs c_l5Filled.aks (l, c, ())) (rdOf false k)) (retOk tab c_l5Filled Try.f106.results.toList (l, c, ()) k) := by kernel_rfl
theorem ok_l5Filled : FnOk Try.prog E 106 c_l5Filled :=
  fn_okQ (l := L_l5Filled) (lp := P_l5Filled) (hp := fun _ => false) (gcs := fun _ => none) (perm := fun _ => []) tabOk mix trivial trivial Try.func106 rfl (by kernel_rfl) (by decide) (by kernel_rfl) (anns := fun x _ => an_l5Filled x.1 x.2.1) (fun ⟨l, c, _⟩ k hp _ => (vce_l5Filled l c k).mp (vcn_l5Filled l c k hp)) tot_fn
end Go.Proofs.Ytejcmcbpfnmlaaa

namespace Go.Proofs.Ytejcmcbpfnmlaaa
open Go.SE Go.RowKit
set_option linter.unusedSimpArgs false
set_option linter.unusedVariables false
set_option maxHeartbeats 1000000
set_option maxRecDepth 100000
/-! l5Fits -/
abbrev c_l5Fits : Con := ⟨[.sl .fact, .sl .int], [.bool], fun (l, c, _) => l.length ≤ 1048576 ∧ l.all fV = true ∧ c.length = 9, .inl fun (l, c, _) => (sFit l c, ()), fun _ => 0⟩
abbrev L_l5Fits : List (FuncId × Con) := []
abbrev P_l5Fits : List (FuncId × PT) := []
def an_l5Fits (l : List GFact) (c : List Int) : Nat → St → Option Ann
  | 2, se => some { α := Nat, ok := fun i => i ≤ l.length ∧ sFit (l.take i) c = true, mu := fun i => l.length - i, i0 := fun _ => 0, nx := fun a _ => (fun i => i + 1) a, live := [0, 1], sets := fun i => [(5, sv (.int .i64 i))], mids := [], blks := fun i => [], owns := fun i => [], rd := fun r _ => r, base := 100000 }
  | _, _ => none
def VC_l5Fits (l : List GFact) (c : List Int) (k : Nat) : Prop := True ∧ True ∧ ((0 ≤ l.length ∧ sFit (l.take 0) c = true) ∧ TT ∧ (RL [.s (.c (.d (.arr .fact l))), .s (.c (.d (.arr .int c)))]) ∧ (([.s (.c (.d (.val (.int .i64 (0 : Int)))))] : List S) = [.s (.c (.d (.val (.int .i64 ((0 : Nat) : Int)))))]) ∧ (RM []) ∧ (RM []) ∧ True ∧ TT) ∧ (∀ i1 : Nat, (i1 ≤ l.length ∧ sFit (l.take i1) c = true) → True ∧ True ∧ True ∧ True ∧ (vcIf (decide (((i1 : Nat) : Int) < ((l.length : Nat) : Int))) (True ∧ True ∧ True ∧ (0 ≤ ((i1 : Nat) : Int) ∧ ((i1 : Nat) : Int) < ((l.length : Nat) : Int)) ∧ True ∧ True ∧ (0 ≤ ((l.getD i1 (⟨false, 0, 0⟩ : GFact)).a) ∧ ((l.getD i1 (⟨false, 0, 0⟩ : GFact)).a) < ((c.length : Nat) : Int)) ∧ True ∧ True ∧ True ∧ True ∧ True ∧ (0 ≤ ((i1 : Nat) : Int) ∧ ((i1 : Nat) : Int) < ((l.length : Nat) : Int)) ∧ True ∧ True ∧ (0 ≤ ((l.getD i1 (⟨false, 0, 0⟩ : GFact)).b) ∧ ((l.getD i1 (⟨false, 0, 0⟩ : GFact)).b) < ((c.length : Nat) : Int)) ∧ True ∧ True ∧ True ∧ True ∧ True ∧ (vcIf (decide ((0 : Int) ≤ (c.getD ((l.getD i1 (⟨false, 0, 0⟩ : GFact)).a).toNat (0 : Int)))) (True ∧ True ∧ True ∧ True ∧ (vcIf (decide ((0 : Int) ≤ (c.getD ((l.getD i1 (⟨false, 0, 0⟩ : GFact)).b).toNat (0 : Int)))) (True ∧ True ∧ True ∧ True ∧ True ∧ (0 ≤ ((i1 : Nat) : Int) ∧ ((i1 : Nat) : Int) < ((l.length : Nat) : Int)) ∧ True ∧ True ∧ True ∧ True ∧ (vcIf (((c.getD ((l.getD i1 (⟨false, 0, 0⟩ : GFact)).a).toNat (0 : Int)) == (c.getD ((l.getD i1 (⟨false, 0, 0⟩ : GFact)).b).toNat (0 : Int))) != ((l.getD i1 (⟨false, 0, 0⟩ : GFact)).eq)) (True ∧ (((false, ()) : Bool × Unit) = (sFit l c, ())) ∧ True ∧ True ∧ True ∧ True ∧ TF) (True ∧ (inK .i64 (((i1 : Nat) : Int) + (1 : Int))) ∧ True ∧ ((i1 + 1) ≤ l.length ∧ sFit (l.take (i1 + 1)) c = true) ∧ (l.length - (i1 + 1) < l.length - i1) ∧ TT ∧ (RL [.s (.c (.d (.arr .fact l))), .s (.c (.d (.arr .int c)))]) ∧ (([.s (.c (.d (.val (.int .i64 (((i1 : Nat) : Int) + (1 : Int))))))] : List S) = [.s (.c (.d (.val (.int .i64 (((i1 + 1) : Nat) : Int)))))]) ∧ (RM []) ∧ (RM []) ∧ True ∧ TT))) (True ∧ True ∧ (inK .i64 (((i1 : Nat) : Int) + (1 : Int))) ∧ True ∧ ((i1 + 1) ≤ l.length ∧ sFit (l.take (i1 + 1)) c = true) ∧ (l.length - (i1 + 1) < l.length - i1) ∧ TT ∧ (RL [.s (.c (.d (.arr .fact l))), .s (.c (.d (.arr .int c)))]) ∧ (([.s (.c (.d (.val (.int .i64 (((i1 : Nat) : Int) + (1 : Int))))))] : List S) = [.s (.c (.d (.val (.int .i64 (((i1 + 1) : Nat) : Int)))))]) ∧ (RM []) ∧ (RM []) ∧ True ∧ TT))) (True ∧ True ∧ True ∧ True ∧ (inK .i64 (((i1 : Nat) : Int) + (1 : Int))) ∧ True ∧ ((i1 + 1) ≤ l.length ∧ sFit (l.take (i1 + 1)) c = true) ∧ (l.length - (i1 + 1) < l.length - i1) ∧ TT ∧ (RL [.s (.c (.d (.arr .fact l))), .s (.c (.d (.arr .int c)))]) ∧ (([.s (.c (.d (.val (.int .i64 (((i1 : Nat) : Int) + (1 : Int))))))] : List S) = [.s (.c (.d (.val (.int .i64 (((i1 + 1) : Nat) : Int)))))]) ∧ (RM []) ∧ (RM []) ∧ True ∧ TT))) (True ∧ (((true, ()) : Bool × Unit) = (sFit l c, ())) ∧ True ∧ True ∧ True ∧ True ∧ TF)))
theorem vcn_l5Fits (l : List GFact) (c : List Int) (k : Nat) (hp : l.length ≤ 1048576 ∧ l.all fV = true ∧ c.length = 9) : VC_l5Fits l c k := by
  unfold VC_l5Fits
  simp only [cln, Nat.reduceEqDiff, Nat.reduceLeDiff, Nat.reduceAdd]
  have hV := hp.2.1
  all_goals (try simp only [opn])
  all_goals (repeat' (first | apply And.intro | intro _))
  all_goals (repeat (cases ‹_ ∧ _›))
  all_goals (first | omega | rfl | assumption | (simp_all; done) | skip)
  all_goals (first
   | (have h1 := fact_idx (l := l) hV (by assumption); omega)
   | (symm; exact sFit_no (by assumption) (by assumption) (by assumption) (by unfold fh cl; rw [beq_eq_false_iff_ne]; assumption))
   | (rw [sFit_step (d := ⟨false, 0, 0⟩) (by assumption)]; unfold fh cl; simp_all; done)
   | (rw [take_full (l := l) (by assumption)] at *; simp_all; done) | skip)
theorem vce_l5Fits (l : List GFact) (c : List Int) (k : Nat) : VC_l5Fits l c k = vcQ tab (lookF L_l5Fits) (lookP P_l5Fits) (fun _ => false) (fun _ => none) (an_l5Fits l c) (fun _ => []) (bodyOf Try.f145) (entry (encs c_l5Fits.aks (l, c, ())) (rdOf false k)) (retOk tab c_l5Fits Try.f145.results.toList (l, c, ()) k) := by kernel_rfl
theorem ok_l5Fits : FnOk Try.prog E 145 c_l5Fits :=
  fn_okQ (l := L_l5Fits) (lp := P_l5Fits) (hp := fun _ => false) (gcs := fun _ => none) (perm := fun _ => []) tabOk mix trivial trivial Try.func145 rfl (by kernel_rfl) (by decide) (by kernel_rfl) (anns := fun x _ => an_l5Fits x.1 x.2.1) (fun ⟨l, c, _⟩ k hp _ => (vce_l5Fits l c k).mp (vcn_l5Fits l c k hp)) tot_fn
end Go.Proofs.Ytejcmcbpfnmlaaa

namespace Go.Proofs.Ytejcmcbpfnmlaaa
open Go.SE Go.RowKit
set_option linter.unusedSimpArgs false
set_option linter.unusedVariables false
set_option maxHeartbeats 1000000
set_option maxRecDepth 100000
/-! l5Early -/
abbrev c_l5Early : Con := ⟨[.sl .atom, .sl .int], [.bool], fun (l, c, _) => l.length ≤ 1048576 ∧ l.all atV = true ∧ c.length = 9 ∧ le8 c = true, .inl fun (l, c, _) => (sEarly l c, ()), fun _ => 0⟩
abbrev L_l5Early : List (FuncId × Con) := []
abbrev P_l5Early : List (FuncId × PT) := []
def an_l5Early (l : List GAtom) (c : List Int) : Nat → St → Option Ann
  | 3, se => some { α := Nat, ok := fun i => i ≤ l.length ∧ okS [] (est c (l.take i)) = true, mu := fun i => l.length - i, i0 := fun _ => 0, nx := fun a _ => (fun i => i + 1) a, live := [0, 1], sets := fun i => [(6, sv (.int .i64 i))], mids := [], blks := fun i => [], owns := fun i => [⟨7, .slot 5, .bool, fl9 (fun t => (est c (l.take i)).contains t)⟩], rd := fun r _ => r, base := 100000 }
  | _, _ => none
def VC_l5Early_1 (l : List GAtom) (c : List Int) (k : Nat) (i1 : Nat) : Prop := ((0 ≤ ((l.getD i1 (⟨0, 0, 0⟩ : GAtom)).a) ∧ ((l.getD i1 (⟨0, 0, 0⟩ : GAtom)).a) < ((c.length : Nat) : Int)) ∧ True ∧ True ∧ True ∧ True ∧ (0 ≤ ((i1 : Nat) : Int) ∧ ((i1 : Nat) : Int) < ((l.length : Nat) : Int)) ∧ True ∧ True ∧ True ∧ True ∧ (vcIf (((l.getD i1 (⟨0, 0, 0⟩ : GAtom)).kind) != (1 : Int)) (True ∧ True ∧ (inK .i64 (((i1 : Nat) : Int) + (1 : Int))) ∧ True ∧ ((i1 + 1) ≤ l.length ∧ okS [] (est c (l.take (i1 + 1))) = true) ∧ (l.length - (i1 + 1) < l.length - i1) ∧ TT ∧ (RL [.s (.c (.d (.arr .atom l))), .s (.c (.d (.arr .int c)))]) ∧ (([.s (.c (.d (.val (.int .i64 (((i1 : Nat) : Int) + (1 : Int))))))] : List S) = [.s (.c (.d (.val (.int .i64 (((i1 + 1) : Nat) : Int)))))]) ∧ (RM []) ∧ (RM []) ∧ (((some (fl9 (fun t => (est c (l.take i1)).contains t)) : Option (List Bool)) = some (fl9 (fun t => (est c (l.take (i1 + 1))).contains t))) ∧ True) ∧ TT) (True ∧ True ∧ True ∧ (vcIf (decide ((c.getD ((l.getD i1 (⟨0, 0, 0⟩ : GAtom)).a).toNat (0 : Int)) < (0 : Int))) (True ∧ (inK .i64 (((i1 : Nat) : Int) + (1 : Int))) ∧ True ∧ ((i1 + 1) ≤ l.length ∧ okS [] (est c (l.take (i1 + 1))) = true) ∧ (l.length - (i1 + 1) < l.length - i1) ∧ TT ∧ (RL [.s (.c (.d (.arr .atom l))), .s (.c (.d (.arr .int c)))]) ∧ (([.s (.c (.d (.val (.int .i64 (((i1 : Nat) : Int) + (1 : Int))))))] : List S) = [.s (.c (.d (.val (.int .i64 (((i1 + 1) : Nat) : Int)))))]) ∧ (RM []) ∧ (RM []) ∧ (((some (fl9 (fun t => (est c (l.take i1)).contains t)) : Option (List Bool)) = some (fl9 (fun t => (est c (l.take (i1 + 1))).contains t))) ∧ True) ∧ TT) (True ∧ True ∧ True ∧ (vcIf ((c.getD ((l.getD i1 (⟨0, 0, 0⟩ : GAtom)).a).toNat (0 : Int)) == (0 : Int)) (True ∧ True ∧ (((false, ()) : Bool × Unit) = (sEarly l c, ())) ∧ True ∧ True ∧ True ∧ True ∧ TF) (True ∧ True ∧ (0 ≤ (c.getD ((l.getD i1 (⟨0, 0, 0⟩ : GAtom)).a).toNat (0 : Int)) ∧ (c.getD ((l.getD i1 (⟨0, 0, 0⟩ : GAtom)).a).toNat (0 : Int)) < (((fl9 (fun t => (est c (l.take i1)).contains t)).length : Nat) : Int)) ∧ True ∧ True ∧ (vcIf ((fl9 (fun t => (est c (l.take i1)).contains t)).getD (c.getD ((l.getD i1 (⟨0, 0, 0⟩ : GAtom)).a).toNat (0 : Int)).toNat false) (True ∧ (((false, ()) : Bool × Unit) = (sEarly l c, ())) ∧ True ∧ True ∧ True ∧ True ∧ TF) (True ∧ True ∧ (0 ≤ (c.getD ((l.getD i1 (⟨0, 0, 0⟩ : GAtom)).a).toNat (0 : Int)) ∧ (c.getD ((l.getD i1 (⟨0, 0, 0⟩ : GAtom)).a).toNat (0 : Int)) < (((fl9 (fun t => (est c (l.take i1)).contains t)).length : Nat) : Int)) ∧ (TF ∧ TF ∧ True ∧ ((7 : Nat) ∉ ([] : List Nat))) ∧ True ∧ (inK .i64 (((i1 : Nat) : Int) + (1 : Int))) ∧ True ∧ ((i1 + 1) ≤ l.length ∧ okS [] (est c (l.take (i1 + 1))) = true) ∧ (l.length - (i1 + 1) < l.length - i1) ∧ TT ∧ (RL [.s (.c (.d (.arr .atom l))), .s (.c (.d (.arr .int c)))]) ∧ (([.s (.c (.d (.val (.int .i64 (((i1 : Nat) : Int) + (1 : Int))))))] : List S) = [.s (.c (.d (.val (.int .i64 (((i1 + 1) : Nat) : Int)))))]) ∧ (RM []) ∧ (RM []) ∧ (((some ((fl9 (fun t => (est c (l.take i1)).contains t)).set (c.getD ((l.getD i1 (⟨0, 0, 0⟩ : GAtom)).a).toNat (0 : Int)).toNat true) : Option (List Bool)) = some (fl9 (fun t => (est c (l.take (i1 + 1))).contains t))) ∧ True) ∧ TT)))))))))
def VC_l5Early (l : List GAtom) (c : List Int) (k : Nat) : Prop := True ∧ (TN ∧ (0 ≤ (9 : Int) ∧ (9 : Int) ≤ (9 : Int) ∧ (9 : Int) ≤ 4294967296)) ∧ True ∧ True ∧ ((0 ≤ l.length ∧ okS [] (est c (l.take 0)) = true) ∧ TT ∧ (RL [.s (.c (.d (.arr .atom l))), .s (.c (.d (.arr .int c)))]) ∧ (([.s (.c (.d (.val (.int .i64 (0 : Int)))))] : List S) = [.s (.c (.d (.val (.int .i64 ((0 : Nat) : Int)))))]) ∧ (RM []) ∧ (RM []) ∧ (((some (List.replicate 9 false) : Option (List Bool)) = some (fl9 (fun t => (est c (l.take 0)).contains t))) ∧ True) ∧ TT) ∧ (∀ i1 : Nat, (i1 ≤ l.length ∧ okS [] (est c (l.take i1)) = true) → True ∧ True ∧ True ∧ True ∧ (vcIf (decide (((i1 : Nat) : Int) < ((l.length : Nat) : Int))) (True ∧ True ∧ True ∧ (0 ≤ ((i1 : Nat) : Int) ∧ ((i1 : Nat) : Int) < ((l.length : Nat) : Int)) ∧ True ∧ True ∧ (VC_l5Early_1 l c k i1)) (True ∧ (((true, ()) : Bool × Unit) = (sEarly l c, ())) ∧ True ∧ True ∧ True ∧ True ∧ TF)))
theorem vcn_l5Early (l : List GAtom) (c : List Int) (k : Nat) (hp : l.length ≤ 1048576 ∧ l.all atV = true ∧ c.length = 9 ∧ le8 c = true) : VC_l5Early l c k := by
  unfold VC_l5Early VC_l5Early_1
  simp only [cln, Nat.reduceEqDiff, Nat.reduceLeDiff, Nat.reduceAdd]
  have h8 := le8_get hp.2.2.2
  have hV := hp.2.1
  all_goals (try simp only [opn])
  all_goals (repeat' (first | apply And.intro | intro _))
  all_goals (repeat (cases ‹_ ∧ _›))
  all_goals (first | omega | rfl | assumption | (simp_all; done) | skip)
  all_goals (first
   | (have h1 := atom_idx (l := l) hV (by assumption); omega)
   | (rw [early_skip (d := ⟨0, 0, 0⟩) (by assumption) (.inl (by assumption))]; done)
   | (rw [early_skip (d := ⟨0, 0, 0⟩) (by assumption) (.inl (by assumption))]; assumption)
   | (rw [early_skip (d := ⟨0, 0, 0⟩) (by assumption) (.inr (by assumption))]; done)
   | (rw [early_skip (d := ⟨0, 0, 0⟩) (by assumption) (.inr (by assumption))]; assumption)
   | exact early_no (d := ⟨0, 0, 0⟩) (by assumption) (by assumption) (by assumption) (by assumption) (.inl (by assumption))
   | exact early_no (d := ⟨0, 0, 0⟩) (by assumption) (by assumption) (by assumption) (by assumption) (.inr (by assumption))
   | exact (early_go (d := ⟨0, 0, 0⟩) (by assumption) (by assumption) (by assumption) (by assumption) (by assumption) (by assumption) (by assumption)).1
   | exact (early_go (d := ⟨0, 0, 0⟩) (by assumption) (by assumption) (by assumption) (by assumption) (by assumption) (by assumption) (by assumption)).2
   | (rw [fl9_len]; exact Int.lt_of_le_of_lt (h8 _) (by decide))
   | (unfold sEarly; rw [take_full (l := l) (by assumption)] at *; simp_all; done) | skip)
theorem vce_l5Early (l : List GAtom) (c : List Int) (k : Nat) : VC_l5Early l c k = vcQ tab (lookF L_l5Early) (lookP P_l5Early) (fun _ => false) (fun _ => none) (an_l5Early l c) (fun _ => []) (bodyOf Try.f146) (entry (encs c_l5Early.aks (l, c, ())) (rdOf false k)) (retOk tab c_l5Early Try.f146.results.toList (l, c, ()) k) := by kernel_rfl
theorem ok_l5Early : FnOk Try.prog E 146 c_l5Early :=
  fn_okQ (l := L_l5Early) (lp := P_l5Early) (hp := fun _ => false) (gcs := fun _ => none) (perm := fun _ => []) tabOk mix trivial trivial Try.func146 rfl (by kernel_rfl) (by decide) (by kernel_rfl) (anns := fun x _ => an_l5Early x.1 x.2.1) (fun ⟨l, c, _⟩ k hp _ => (vce_l5Early l c k).mp (vcn_l5Early l c k hp)) tot_fn
end Go.Proofs.Ytejcmcbpfnmlaaa

namespace Go.Proofs.Ytejcmcbpfnmlaaa
open Go.SE Go.RowKit
set_option linter.unusedSimpArgs false
set_option linter.unusedVariables false
set_option maxHeartbeats 1000000
set_option maxRecDepth 100000
/-! l5Apart -/
abbrev c_l5Apart : Con := ⟨[.sl .atom], [.bool], fun (l, _) => l.length ≤ 1048576, .inl fun (l, _) => (sApart l, ()), fun _ => 0⟩
abbrev L_l5Apart : List (FuncId × Con) := []
abbrev P_l5Apart : List (FuncId × PT) := []
def an_l5Apart (l : List GAtom) : Nat → St → Option Ann
  | 2, se => some { α := Nat, ok := fun i => i ≤ l.length ∧ sApart (l.take i) = true, mu := fun i => l.length - i, i0 := fun _ => 0, nx := fun a _ => (fun i => i + 1) a, live := [0], sets := fun i => [(3, sv (.int .i64 i))], mids := [], blks := fun i => [], owns := fun i => [], rd := fun r _ => r, base := 100000 }
  | 7, se => some { α := Nat, ok := fun j => (j : Int) ≤ intAt se 3 ∧ ((l.take j).all fun x => !(x.a == (l.getD (intAt se 3).toNat ⟨0, 0, 0⟩).a)) = true, mu := fun j => (intAt se 3).toNat - j, i0 := fun _ => 0, nx := fun a _ => (fun j => j + 1) a, live := [0, 3], sets := fun j => [(4, sv (.int .i64 j))], mids := [], blks := fun j => [], owns := fun j => [], rd := fun r _ => r, base := 200000 }
  | _, _ => none
def VC_l5Apart (l : List GAtom) (k : Nat) : Prop := True ∧ True ∧ ((0 ≤ l.length ∧ sApart (l.take 0) = true) ∧ TT ∧ (RL [.s (.c (.d (.arr .atom l)))]) ∧ (([.s (.c (.d (.val (.int .i64 (0 : Int)))))] : List S) = [.s (.c (.d (.val (.int .i64 ((0 : Nat) : Int)))))]) ∧ (RM []) ∧ (RM []) ∧ True ∧ TT) ∧ (∀ i1 : Nat, (i1 ≤ l.length ∧ sApart (l.take i1) = true) → True ∧ True ∧ True ∧ True ∧ (vcIf (decide (((i1 : Nat) : Int) < ((l.length : Nat) : Int))) (True ∧ True ∧ (0 ≤ ((i1 : Nat) : Int) ∧ ((i1 : Nat) : Int) < ((l.length : Nat) : Int)) ∧ True ∧ True ∧ True ∧ (vcIf (((l.getD i1 (⟨0, 0, 0⟩ : GAtom)).a) == (0 : Int)) (True ∧ (((false, ()) : Bool × Unit) = (sApart l, ())) ∧ True ∧ True ∧ True ∧ True ∧ TF) (True ∧ (((0 : Int) ≤ ((i1 : Nat) : Int) ∧ ((l.take 0).all fun x => !(x.a == (l.getD (((i1 : Nat) : Int)).toNat ⟨0, 0, 0⟩).a)) = true) ∧ TT ∧ (RL [.s (.c (.d (.arr .atom l))), .s (.c (.d (.val (.int .i64 ((i1 : Nat) : Int)))))]) ∧ (([.s (.c (.d (.val (.int .i64 (0 : Int)))))] : List S) = [.s (.c (.d (.val (.int .i64 ((0 : Nat) : Int)))))]) ∧ (RM []) ∧ (RM []) ∧ True ∧ TT) ∧ (∀ j2 : Nat, ((j2 : Int) ≤ ((i1 : Nat) : Int) ∧ ((l.take j2).all fun x => !(x.a == (l.getD (((i1 : Nat) : Int)).toNat ⟨0, 0, 0⟩).a)) = true) → True ∧ True ∧ True ∧ (vcIf (decide (((j2 : Nat) : Int) < ((i1 : Nat) : Int))) (True ∧ True ∧ (0 ≤ ((j2 : Nat) : Int) ∧ ((j2 : Nat) : Int) < ((l.length : Nat) : Int)) ∧ True ∧ True ∧ True ∧ True ∧ (0 ≤ ((i1 : Nat) : Int) ∧ ((i1 : Nat) : Int) < ((l.length : Nat) : Int)) ∧ True ∧ True ∧ True ∧ (vcIf (((l.getD j2 (⟨0, 0, 0⟩ : GAtom)).a) == ((l.getD i1 (⟨0, 0, 0⟩ : GAtom)).a)) (True ∧ (((false, ()) : Bool × Unit) = (sApart l, ())) ∧ True ∧ True ∧ True ∧ True ∧ TF) (True ∧ (inK .i64 (((j2 : Nat) : Int) + (1 : Int))) ∧ True ∧ (((j2 + 1) : Int) ≤ ((i1 : Nat) : Int) ∧ ((l.take (j2 + 1)).all fun x => !(x.a == (l.getD (((i1 : Nat) : Int)).toNat ⟨0, 0, 0⟩).a)) = true) ∧ ((((i1 : Nat) : Int)).toNat - (j2 + 1) < (((i1 : Nat) : Int)).toNat - j2) ∧ TT ∧ (RL [.s (.c (.d (.arr .atom l))), .s (.c (.d (.val (.int .i64 ((i1 : Nat) : Int)))))]) ∧ (([.s (.c (.d (.val (.int .i64 (((j2 : Nat) : Int) + (1 : Int))))))] : List S) = [.s (.c (.d (.val (.int .i64 (((j2 + 1) : Nat) : Int)))))]) ∧ (RM []) ∧ (RM []) ∧ True ∧ TT))) (True ∧ (inK .i64 (((i1 : Nat) : Int) + (1 : Int))) ∧ True ∧ ((i1 + 1) ≤ l.length ∧ sApart (l.take (i1 + 1)) = true) ∧ (l.length - (i1 + 1) < l.length - i1) ∧ TT ∧ (RL [.s (.c (.d (.arr .atom l)))]) ∧ (([.s (.c (.d (.val (.int .i64 (((i1 : Nat) : Int) + (1 : Int))))))] : List S) = [.s (.c (.d (.val (.int .i64 (((i1 + 1) : Nat) : Int)))))]) ∧ (RM []) ∧ (RM []) ∧ True ∧ TT)))))) (True ∧ (((true, ()) : Bool × Unit) = (sApart l, ())) ∧ True ∧ True ∧ True ∧ True ∧ TF)))
theorem vcn_l5Apart (l : List GAtom) (k : Nat) (hp : l.length ≤ 1048576) : VC_l5Apart l k := by
  unfold VC_l5Apart
  simp only [cln, Nat.reduceEqDiff, Nat.reduceLeDiff, Nat.reduceAdd]
  all_goals (try simp only [opn])
  all_goals (repeat' (first | apply And.intro | intro _))
  all_goals (repeat (cases ‹_ ∧ _›))
  all_goals (first | omega | rfl | assumption | (simp_all; done) | skip)
  all_goals (first
   | (symm; exact sApart_zero (d := ⟨0, 0, 0⟩) (by assumption) (by assumption))
   | (symm; exact sApart_two (d := ⟨0, 0, 0⟩) (h := by assumption) (hj := by assumption) (h0 := by assumption))
   | exact apart_in (by omega) (by assumption) (by assumption)
   | exact apart_fin (by assumption) (by assumption) (by assumption) (by assumption) (by assumption) (by assumption)
   | (rw [take_full (l := l) (by assumption)] at *; simp_all; done) | skip)
theorem vce_l5Apart (l : List GAtom) (k : Nat) : VC_l5Apart l k = vcQ tab (lookF L_l5Apart) (lookP P_l5Apart) (fun _ => false) (fun _ => none) (an_l5Apart l) (fun _ => []) (bodyOf Try.f147) (entry (encs c_l5Apart.aks (l, ())) (rdOf false k)) (retOk tab c_l5Apart Try.f147.results.toList (l, ()) k) := by kernel_rfl
theorem ok_l5Apart : FnOk Try.prog E 147 c_l5Apart :=
  fn_okQ (l := L_l5Apart) (lp := P_l5Apart) (hp := fun _ => false) (gcs := fun _ => none) (perm := fun _ => []) tabOk mix trivial trivial Try.func147 rfl (by kernel_rfl) (by decide) (by kernel_rfl) (anns := fun x _ => an_l5Apart x.1) (fun ⟨l, _⟩ k hp _ => (vce_l5Apart l k).mp (vcn_l5Apart l k hp)) tot_fn
end Go.Proofs.Ytejcmcbpfnmlaaa

namespace Go.Proofs.Ytejcmcbpfnmlaaa
open Go.SE Go.RowKit
set_option linter.unusedSimpArgs false
set_option linter.unusedVariables false
set_option maxHeartbeats 1000000
set_option maxRecDepth 100000
/-! l5Cases -/
abbrev m_l5Cases : CCon := ⟨[], .ints, [.asn, .sl .bool, .sl .int, .int], fun _ o (a, tm, c, t, _) => vA a = true ∧ tm.length = 9 ∧ c.length = 9 ∧ le8 c = true ∧ 1 ≤ t ∧ t ≤ 9 ∧ o.length + (sQ (sFin a) a tm c t).length ≤ 4294967296, fun _ o (a, tm, c, t, _) => o ++ sQ (sFin a) a tm c t⟩
abbrev pt_l5Cases : PT := ptC m_l5Cases
abbrev mu_l5Cases : Args m_l5Cases.k1 → List m_l5Cases.t.den → Args m_l5Cases.k2 → Nat := fun _ o (a, tm, c, t, _) => (9 - t).toNat
abbrev L_l5Cases : List (FuncId × Con) := [(106, c_l5Filled), (145, c_l5Fits), (146, c_l5Early), (147, c_l5Apart)]
abbrev P_l5Cases (m : Nat) : List (FuncId × PT) := [(128, ptC (m_l5Cases.lim mu_l5Cases m))]
def an_l5Cases (o : List (List Int)) (a : GAsn) (tm : List Bool) (c : List Int) (t : Int) : Nat → St → Option Ann
  | 10, se => some { α := Nat, ok := fun i => (i : Int) ≤ t + 1, mu := fun i => (t + 1).toNat - i, i0 := fun _ => 0, nx := fun a _ => (fun i => i + 1) a, live := [2, 3, 4, 6, 10], sets := fun i => [(11, sv (.int .i64 i))], mids := [127, 176], blks := fun i => [], owns := fun i => [⟨7, .slot 0, .ints, o ++ brS (sFin a) a tm c t i⟩], rd := fun r _ => r, base := 100000 }
  | _, _ => none
def hp_l5Cases : Nat → Bool
  | 8 => true
  | 15 => true
  | _ => false
def VC_l5Cases_1 (o : List (List Int)) (a : GAsn) (tm : List Bool) (c : List Int) (t : Int) (m : Nat) (k : Nat) (i1 : Nat) : Prop := (True ∧ (vcIf (decide (((i1 : Nat) : Int) < t)) (True ∧ True ∧ (0 ≤ ((i1 : Nat) : Int) ∧ ((i1 : Nat) : Int) < ((c.length : Nat) : Int)) ∧ True ∧ True ∧ True ∧ True ∧ (vcIf ((c.getD i1 (0 : Int)) != ((i1 : Nat) : Int)) (True ∧ (inK .i64 (((i1 : Nat) : Int) + (1 : Int))) ∧ True ∧ (((i1 + 1) : Int) ≤ t + 1) ∧ ((t + 1).toNat - (i1 + 1) < (t + 1).toNat - i1) ∧ TT ∧ (RL [.s (.c (.d (.arr .bool tm))), .s (.c (.d (.arr .int c))), .s (.c (.d (.val (.int .i64 t)))), .s (.c (.ptr 127 0)), .s (.c (.own 176))]) ∧ (([.s (.c (.d (.val (.int .i64 (((i1 : Nat) : Int) + (1 : Int))))))] : List S) = [.s (.c (.d (.val (.int .i64 (((i1 + 1) : Nat) : Int)))))]) ∧ (RM [some (.blk [.d (.arr .fact a.facts), .d (.arr .atom a.atoms)]), some (.sl 176 .ints ([] : List (List Int)))]) ∧ (RM []) ∧ (((some (o ++ brS (sFin a) a tm c t i1) : Option (List (List Int))) = some (o ++ brS (sFin a) a tm c t (i1 + 1))) ∧ True) ∧ TT) ((TN ∧ True) ∧ True ∧ (TN ∧ TF ∧ TF ∧ (([] : List Int).length + c.length ≤ 4294967296)) ∧ True ∧ True ∧ True ∧ True ∧ (0 ≤ t ∧ t < (((([] : List Int) ++ c).length : Nat) : Int)) ∧ (TF ∧ TF ∧ True ∧ ((101120 : Nat) ∉ ([] : List Nat))) ∧ True ∧ True ∧ True ∧ True ∧ True ∧ (inK .i64 (t + (1 : Int))) ∧ TF ∧ TF ∧ (TF ∧ True) ∧ (((7 : Nat) ≠ 101120) ∧ True) ∧ ((none : Option Nat) = none) ∧ TN ∧ ((vA a = true ∧ tm.length = 9 ∧ ((([] : List Int) ++ c).set t.toNat ((i1 : Nat) : Int)).length = 9 ∧ le8 ((([] : List Int) ++ c).set t.toNat ((i1 : Nat) : Int)) = true ∧ 1 ≤ (t + (1 : Int)) ∧ (t + (1 : Int)) ≤ 9 ∧ (o ++ brS (sFin a) a tm c t i1).length + (sQ (sFin a) a tm ((([] : List Int) ++ c).set t.toNat ((i1 : Nat) : Int)) (t + (1 : Int))).length ≤ 4294967296) ∧ (9 - (t + (1 : Int))).toNat < m) ∧ True ∧ True ∧ (inK .i64 (((i1 : Nat) : Int) + (1 : Int))) ∧ True ∧ (((i1 + 1) : Int) ≤ t + 1) ∧ ((t + 1).toNat - (i1 + 1) < (t + 1).toNat - i1) ∧ TT ∧ (RL [.s (.c (.d (.arr .bool tm))), .s (.c (.d (.arr .int c))), .s (.c (.d (.val (.int .i64 t)))), .s (.c (.ptr 127 0)), .s (.c (.own 176))]) ∧ (([.s (.c (.d (.val (.int .i64 (((i1 : Nat) : Int) + (1 : Int))))))] : List S) = [.s (.c (.d (.val (.int .i64 (((i1 + 1) : Nat) : Int)))))]) ∧ (RM [some (.blk [.d (.arr .fact a.facts), .d (.arr .atom a.atoms)]), some (.sl 176 .ints ([] : List (List Int)))]) ∧ (RM []) ∧ (((some ((o ++ brS (sFin a) a tm c t i1) ++ sQ (sFin a) a tm ((([] : List Int) ++ c).set t.toNat ((i1 : Nat) : Int)) (t + (1 : Int))) : Option (List (List Int))) = some (o ++ brS (sFin a) a tm c t (i1 + 1))) ∧ True) ∧ TT))) (True ∧ (TN ∧ True) ∧ True ∧ (TN ∧ TF ∧ TF ∧ (([] : List Int).length + c.length ≤ 4294967296)) ∧ True ∧ True ∧ True ∧ True ∧ (0 ≤ t ∧ t < (((([] : List Int) ++ c).length : Nat) : Int)) ∧ (TF ∧ TF ∧ True ∧ ((101120 : Nat) ∉ ([] : List Nat))) ∧ True ∧ True ∧ True ∧ True ∧ True ∧ (inK .i64 (t + (1 : Int))) ∧ TF ∧ TF ∧ (TF ∧ True) ∧ (((7 : Nat) ≠ 101120) ∧ True) ∧ ((none : Option Nat) = none) ∧ TN ∧ ((vA a = true ∧ tm.length = 9 ∧ ((([] : List Int) ++ c).set t.toNat ((i1 : Nat) : Int)).length = 9 ∧ le8 ((([] : List Int) ++ c).set t.toNat ((i1 : Nat) : Int)) = true ∧ 1 ≤ (t + (1 : Int)) ∧ (t + (1 : Int)) ≤ 9 ∧ (o ++ brS (sFin a) a tm c t i1).length + (sQ (sFin a) a tm ((([] : List Int) ++ c).set t.toNat ((i1 : Nat) : Int)) (t + (1 : Int))).length ≤ 4294967296) ∧ (9 - (t + (1 : Int))).toNat < m) ∧ True ∧ True ∧ (inK .i64 (((i1 : Nat) : Int) + (1 : Int))) ∧ True ∧ (((i1 + 1) : Int) ≤ t + 1) ∧ ((t + 1).toNat - (i1 + 1) < (t + 1).toNat - i1) ∧ TT ∧ (RL [.s (.c (.d (.arr .bool tm))), .s (.c (.d (.arr .int c))), .s (.c (.d (.val (.int .i64 t)))), .s (.c (.ptr 127 0)), .s (.c (.own 176))]) ∧ (([.s (.c (.d (.val (.int .i64 (((i1 : Nat) : Int) + (1 : Int))))))] : List S) = [.s (.c (.d (.val (.int .i64 (((i1 + 1) : Nat) : Int)))))]) ∧ (RM [some (.blk [.d (.arr .fact a.facts), .d (.arr .atom a.atoms)]), some (.sl 176 .ints ([] : List (List Int)))]) ∧ (RM []) ∧ (((some ((o ++ brS (sFin a) a tm c t i1) ++ sQ (sFin a) a tm ((([] : List Int) ++ c).set t.toNat ((i1 : Nat) : Int)) (t + (1 : Int))) : Option (List (List Int))) = some (o ++ brS (sFin a) a tm c t (i1 + 1))) ∧ True) ∧ TT)))
def VC_l5Cases (o : List (List Int)) (a : GAsn) (tm : List Bool) (c : List Int) (t : Int) (m : Nat) (k : Nat) : Prop := TN ∧ TN ∧ True ∧ True ∧ True ∧ ((a.facts.length ≤ 1048576 ∧ a.facts.all fV = true ∧ c.length = 9) ∧ True ∧ True) ∧ True ∧ True ∧ (vcIf (!(sFit a.facts c)) (True ∧ True ∧ True ∧ ((some o : Option (List (List Int))) = some (o ++ sQ (sFin a) a tm c t)) ∧ TF ∧ TF) (True ∧ True ∧ True ∧ ((a.atoms.length ≤ 1048576 ∧ a.atoms.all atV = true ∧ c.length = 9 ∧ le8 c = true) ∧ True ∧ True) ∧ True ∧ True ∧ (vcIf (!(sEarly a.atoms c)) (True ∧ True ∧ ((some o : Option (List (List Int))) = some (o ++ sQ (sFin a) a tm c t)) ∧ TF ∧ TF) (True ∧ True ∧ (vcIf (decide ((8 : Int) < t)) (True ∧ True ∧ True ∧ ((a.atoms.length ≤ 1048576 ∧ a.atoms.all atV = true ∧ c.length = 9) ∧ True ∧ TN ∧ True) ∧ (((fL c a.atoms).length ≤ 1048576) ∧ True ∧ True) ∧ (vcIf (sApart (fL c a.atoms)) (True ∧ (TN ∧ True) ∧ True ∧ (TN ∧ TF ∧ TF ∧ (([] : List Int).length + c.length ≤ 4294967296)) ∧ (TN ∧ TF ∧ True) ∧ (TN ∧ TF ∧ TF ∧ (o.length + ([([] : List Int) ++ c] : List (List Int)).length ≤ 4294967296)) ∧ True ∧ True ∧ True ∧ ((some (o ++ ([([] : List Int) ++ c] : List (List Int))) : Option (List (List Int))) = some (o ++ sQ (sFin a) a tm c t)) ∧ TF ∧ TF) (True ∧ True ∧ ((some o : Option (List (List Int))) = some (o ++ sQ (sFin a) a tm c t)) ∧ TF ∧ TF))) (True ∧ True ∧ (0 ≤ t ∧ t < ((tm.length : Nat) : Int)) ∧ True ∧ True ∧ (vcIf (!(tm.getD t.toNat false)) (True ∧ True ∧ True ∧ True ∧ True ∧ (inK .i64 (t + (1 : Int))) ∧ TF ∧ TF ∧ True ∧ True ∧ ((none : Option Nat) = none) ∧ TN ∧ ((vA a = true ∧ tm.length = 9 ∧ c.length = 9 ∧ le8 c = true ∧ 1 ≤ (t + (1 : Int)) ∧ (t + (1 : Int)) ≤ 9 ∧ o.length + (sQ (sFin a) a tm c (t + (1 : Int))).length ≤ 4294967296) ∧ (9 - (t + (1 : Int))).toNat < m) ∧ True ∧ ((some (o ++ sQ (sFin a) a tm c (t + (1 : Int))) : Option (List (List Int))) = some (o ++ sQ (sFin a) a tm c t)) ∧ TF ∧ TF) (True ∧ (((0 : Int) ≤ t + 1) ∧ TT ∧ (RL [.s (.c (.d (.arr .bool tm))), .s (.c (.d (.arr .int c))), .s (.c (.d (.val (.int .i64 t)))), .s (.c (.ptr 127 0)), .s (.c (.own 176))]) ∧ (([.s (.c (.d (.val (.int .i64 (0 : Int)))))] : List S) = [.s (.c (.d (.val (.int .i64 ((0 : Nat) : Int)))))]) ∧ (RM [some (.blk [.d (.arr .fact a.facts), .d (.arr .atom a.atoms)]), some (.sl 176 .ints ([] : List (List Int)))]) ∧ (RM []) ∧ (((some o : Option (List (List Int))) = some (o ++ brS (sFin a) a tm c t 0)) ∧ True) ∧ TT) ∧ (∀ i1 : Nat, ((i1 : Int) ≤ t + 1) → True ∧ True ∧ True ∧ (vcIf (decide (((i1 : Nat) : Int) ≤ t)) (True ∧ True ∧ True ∧ (VC_l5Cases_1 o a tm c t m k i1)) (True ∧ True ∧ ((some (o ++ brS (sFin a) a tm c t i1) : Option (List (List Int))) = some (o ++ sQ (sFin a) a tm c t)) ∧ TF ∧ TF)))))))))))
theorem vcn_l5Cases (o : List (List Int)) (a : GAsn) (tm : List Bool) (c : List Int) (t : Int) (m : Nat) (k : Nat) (hp : (vA a = true ∧ tm.length = 9 ∧ c.length = 9 ∧ le8 c = true ∧ 1 ≤ t ∧ t ≤ 9 ∧ o.length + (sQ (sFin a) a tm c t).length ≤ 4294967296) ∧ (9 - t).toNat < m + 1) : VC_l5Cases o a tm c t m k := by
  unfold VC_l5Cases VC_l5Cases_1
  simp only [cln, Nat.reduceEqDiff, Nat.reduceLeDiff, Nat.reduceAdd]
  have hV := vA_iff.1 hp.1.1
  have hA : (fL c a.atoms).length ≤ 1048576 := Nat.le_trans (fL_len _ _) (Nat.le_trans hV.2.2.2 (by decide))
  all_goals (try simp only [opn])
  all_goals (repeat' (first | apply And.intro | intro _))
  all_goals (repeat (cases ‹_ ∧ _›))
  all_goals (first | omega | rfl | assumption | (simp_all; done) | skip)
  all_goals (first
   | exact hV.1 | exact hV.2.1 | exact Nat.le_trans hV.2.2.1 (by decide) | exact Nat.le_trans hV.2.2.2 (by decide) | exact Nat.le_trans (fL_len _ _) (Nat.le_trans hV.2.2.2 (by decide))
   | exact le8_set (by assumption) (by omega)
   | (rw [fits_no1 (by assumption), List.append_nil]; done) | (rw [fits_no2 (by assumption), List.append_nil]; done)
   | (rw [last_yes (by assumption) (by assumption) (by assumption) (by assumption)]; done) | (rw [last_no (by assumption) (by assumption) (by assumption) (by assumption), List.append_nil]; done)
   | (rw [last_yes (by assumption) (by assumption) (by assumption) (by assumption)] at *; simp only [List.length_singleton] at *; omega)
   | (rw [sQ_skip (t := t) (by assumption) (by omega) (fits_yes (by assumption) (by assumption)) (by assumption)]; done)
   | (rw [sQ_skip (t := t) (by assumption) (by omega) (fits_yes (by assumption) (by assumption)) (by assumption)] at *; first | assumption | rfl)
   | (rw [brS_zero, List.append_nil]; done)
   | (rw [brS_skip (by assumption) (by assumption)]; done)
   | (rw [brS_take (.inr (by assumption)), List.append_assoc]; done)
   | (rw [brS_take (.inl (by omega)), List.append_assoc]; done)
   | exact brS_fit (by assumption) (by assumption) (by assumption) (fits_yes (by assumption) (by assumption)) (by assumption) (by assumption) (.inr (by assumption))
   | exact brS_fit (by assumption) (by assumption) (by assumption) (fits_yes (by assumption) (by assumption)) (by assumption) (by assumption) (.inl (by omega))
   | (rw [brS_full (by assumption) (by omega) (fits_yes (by assumption) (by assumption)) (by assumption) (by assumption) (by assumption)]; done)
   | skip)
theorem vce_l5Cases (o : List (List Int)) (a : GAsn) (tm : List Bool) (c : List Int) (t : Int) (m : Nat) (k : Nat) : VC_l5Cases o a tm c t m k = vcQ tab (lookF L_l5Cases) (lookP (P_l5Cases m)) (hp_l5Cases) (fun _ => none) (an_l5Cases o a tm c t) (fun _ => []) (bodyOf Try.f128) (isoStC (m_l5Cases.lim mu_l5Cases (m + 1)) () o (a, tm, c, t, ())) (isoQC tab (m_l5Cases.lim mu_l5Cases (m + 1)) Try.f128.results.toList () o (a, tm, c, t, ())) := by kernel_rfl
theorem ptok_l5Cases : PTOk Try.prog E 128 pt_l5Cases :=
  ptC_rec (mu := mu_l5Cases) (fun m ih => cons_ok (c := (m_l5Cases.lim mu_l5Cases (m + 1))) (fn := Try.f128) (l := L_l5Cases) (lp := P_l5Cases m) (hp := hp_l5Cases) (perm := fun _ => []) tabOk mix ⟨ok_l5Filled, ok_l5Fits, ok_l5Early, ok_l5Apart, trivial⟩ ⟨ih, trivial⟩ Try.func128 rfl (by kernel_rfl) (show m_l5Cases.k1.length + m_l5Cases.k2.length + 1 ≤ Try.f128.ntmps by decide) (by kernel_rfl) (anns := fun x l y => an_l5Cases l y.1 y.2.1 y.2.2.1 y.2.2.2.1) (fun _ o ⟨a, tm, c, t, _⟩ hp => (vce_l5Cases o a tm c t m 0).mp (vcn_l5Cases o a tm c t m 0 hp))) ⟨_, _, Try.func128, by kernel_rfl, rfl⟩
end Go.Proofs.Ytejcmcbpfnmlaaa

namespace Go.Proofs.Ytejcmcbpfnmlaaa
open Go.SE Go.RowKit
set_option linter.unusedSimpArgs false
set_option linter.unusedVariables false
set_option maxHeartbeats 1000000
set_option maxRecDepth 100000
/-! l5All -/
abbrev c_l5All : Con := ⟨[.asn, .sl .bool], [.sl .ints], fun (a, tm, _) => vA a = true ∧ tm.length = 9, .inl fun (a, tm, _) => (sQ (sFin a) a tm opens 1, ()), fun _ => 0⟩
abbrev L_l5All : List (FuncId × Con) := [(99, c_l5Open)]
abbrev P_l5All : List (FuncId × PT) := [(128, pt_l5Cases)]
def hp_l5All : Nat → Bool
  | 1 => true
  | _ => false
def VC_l5All (a : GAsn) (tm : List Bool) (k : Nat) : Prop := TT ∧ TN ∧ TN ∧ TT ∧ (TN ∧ True) ∧ True ∧ True ∧ (True ∧ True ∧ TN ∧ True) ∧ TF ∧ TF ∧ (TF ∧ True) ∧ (((80 : Nat) ≠ 128) ∧ True) ∧ ((none : Option Nat) = none) ∧ TN ∧ (vA a = true ∧ tm.length = 9 ∧ opens.length = 9 ∧ le8 opens = true ∧ 1 ≤ (1 : Int) ∧ (1 : Int) ≤ 9 ∧ ([] : List (List Int)).length + (sQ (sFin a) a tm opens (1 : Int)).length ≤ 4294967296) ∧ True ∧ ((none : Option Nat) = none) ∧ (((([] : List (List Int)) ++ sQ (sFin a) a tm opens (1 : Int), ()) : (List (List Int)) × Unit) = (sQ (sFin a) a tm opens 1, ())) ∧ (True ∧ True) ∧ ((TF ∧ TF) ∧ True) ∧ True ∧ (True ∧ True) ∧ TF
theorem vcn_l5All (a : GAsn) (tm : List Bool) (k : Nat) (hp : vA a = true ∧ tm.length = 9) : VC_l5All a tm k := by
  unfold VC_l5All
  simp only [cln, Nat.reduceEqDiff, Nat.reduceLeDiff, Nat.reduceAdd]
  all_goals (try simp only [opn])
  all_goals (repeat' (first | apply And.intro | intro _))
  all_goals (repeat (cases ‹_ ∧ _›))
  all_goals (first | omega | rfl | assumption | exact sQ_max | (simp_all; done) | skip)
theorem vce_l5All (a : GAsn) (tm : List Bool) (k : Nat) : VC_l5All a tm k = vcY tab (lookF L_l5All) (lookP P_l5All) noSpB ((fun _ _ _ _ _ _ => none)) (fun b => !b) hp_l5All (fun _ => none) (fun _ _ _ => none) (fun _ => []) (bodyOf Try.f74) (entry (encs c_l5All.aks (a, tm, ())) none) false (retR tab c_l5All Try.f74.results.toList (a, tm, ())) := by kernel_rfl
abbrev spc_l5All (a : GAsn) (tm : List Bool) : SpCode Bool := (fun _ _ _ _ _ _ => none)
theorem spcok_l5All (a : GAsn) (tm : List Bool) (wE : World) (ro0 : Nat → Option (Array Value)) (ρ : Nat) : SpcOk Fence.wide 0 Try.prog E (AC wE ro0 ρ) Try.f74.ntmps (spc_l5All a tm) :=
  fun _ _ _ _ _ _ _ h => by cases h
theorem vcr_l5All : ∀ x : Args c_l5All.aks, c_l5All.pre x → vcY tab (lookF L_l5All) (lookP P_l5All) noSpB (spc_l5All x.1 x.2.1) (fun b => !b) hp_l5All (fun _ => none) (fun _ _ _ => none) (fun _ => []) (bodyOf Try.f74) (entry (encs c_l5All.aks x) none) false (retR tab c_l5All Try.f74.results.toList x) :=
  fun ⟨a, tm, _⟩ hp => (vce_l5All a tm 0).mp (vcn_l5All a tm 0 hp)
theorem ok_l5All : FnOk Try.prog E 74 c_l5All :=
  fnR_ok (con := c_l5All) (fn := Try.f74) (l := L_l5All) (lp := P_l5All) (hp := hp_l5All) (gcs := fun _ => none) (perm := fun _ => []) (spc := fun x => spc_l5All x.1 x.2.1) (anns := fun x => (fun _ _ _ => none)) tabOk mix ⟨ok_l5Open, trivial⟩ ⟨ptok_l5Cases, trivial⟩ rfl Try.func74 rfl (by kernel_rfl) (by decide) (by kernel_rfl) (fun x _ => spcok_l5All x.1 x.2.1) vcr_l5All tot_fn
end Go.Proofs.Ytejcmcbpfnmlaaa

namespace Go.Proofs.Ytejcmcbpfnmlaaa
open Go.SE Go.RowKit
set_option linter.unusedSimpArgs false
set_option linter.unusedVariables false
set_option maxHeartbeats 1000000
set_option maxRecDepth 100000
/-! l3Terms -/
abbrev c_l3Terms : Con := ⟨[.asn], [.sl .bool], fun (a, _) => asV a = true ∨ vA a = true, .inl fun (a, _) => (fl9 (occ a), ()), fun _ => 0⟩
abbrev L_l3Terms : List (FuncId × Con) := []
abbrev P_l3Terms : List (FuncId × PT) := []
def an_l3Terms (a : GAsn) : Nat → St → Option Ann
  | 3, se => some { α := Nat, ok := fun i => i ≤ a.facts.length, mu := fun i => a.facts.length - i, i0 := fun _ => 0, nx := fun a _ => (fun i => i + 1) a, live := [1, 2], sets := fun i => [(4, sv (.int .i64 i))], mids := [31, 32], blks := fun i => [], owns := fun i => [⟨7, .slot 3, .bool, fl9 (occF (a.facts.take i))⟩], rd := fun r _ => r, base := 100000 }
  | 8, se => some { α := Nat, ok := fun i => i ≤ a.atoms.length, mu := fun i => a.atoms.length - i, i0 := fun _ => 0, nx := fun a _ => (fun i => i + 1) a, live := [1, 2], sets := fun i => [(5, sv (.int .i64 i))], mids := [31, 32], blks := fun i => [], owns := fun i => [⟨7, .slot 3, .bool, fl9 (fun t => occF a.facts t || occG (a.atoms.take i) t)⟩], rd := fun r _ => r, base := 200000 }
  | _, _ => none
def VC_l3Terms_1 (a : GAsn) (k : Nat) (i1 : Nat) : Prop := (True ∧ (vcIf (decide (((i1 : Nat) : Int) < ((a.facts.length : Nat) : Int))) (True ∧ True ∧ True ∧ True ∧ (0 ≤ ((i1 : Nat) : Int) ∧ ((i1 : Nat) : Int) < ((a.facts.length : Nat) : Int)) ∧ True ∧ True ∧ (0 ≤ ((a.facts.getD i1 (⟨false, 0, 0⟩ : GFact)).a) ∧ ((a.facts.getD i1 (⟨false, 0, 0⟩ : GFact)).a) < (((fl9 (occF (a.facts.take i1))).length : Nat) : Int)) ∧ (TF ∧ TF ∧ True ∧ ((7 : Nat) ∉ ([] : List Nat))) ∧ True ∧ True ∧ True ∧ True ∧ (0 ≤ ((i1 : Nat) : Int) ∧ ((i1 : Nat) : Int) < ((a.facts.length : Nat) : Int)) ∧ True ∧ True ∧ (0 ≤ ((a.facts.getD i1 (⟨false, 0, 0⟩ : GFact)).b) ∧ ((a.facts.getD i1 (⟨false, 0, 0⟩ : GFact)).b) < ((((fl9 (occF (a.facts.take i1))).set ((a.facts.getD i1 (⟨false, 0, 0⟩ : GFact)).a).toNat true).length : Nat) : Int)) ∧ (TF ∧ TF ∧ True ∧ ((7 : Nat) ∉ ([] : List Nat))) ∧ True ∧ (inK .i64 (((i1 : Nat) : Int) + (1 : Int))) ∧ True ∧ ((i1 + 1) ≤ a.facts.length) ∧ (a.facts.length - (i1 + 1) < a.facts.length - i1) ∧ TT ∧ (RL [.s (.c (.ptr 31 0)), .s (.c (.own 32))]) ∧ (([.s (.c (.d (.val (.int .i64 (((i1 : Nat) : Int) + (1 : Int))))))] : List S) = [.s (.c (.d (.val (.int .i64 (((i1 + 1) : Nat) : Int)))))]) ∧ (RM [some (.blk [.d (.arr .fact a.facts), .d (.arr .atom a.atoms)]), some (.sl 32 .bool ([] : List Bool))]) ∧ (RM []) ∧ (((some (((fl9 (occF (a.facts.take i1))).set ((a.facts.getD i1 (⟨false, 0, 0⟩ : GFact)).a).toNat true).set ((a.facts.getD i1 (⟨false, 0, 0⟩ : GFact)).b).toNat true) : Option (List Bool)) = some (fl9 (occF (a.facts.take (i1 + 1))))) ∧ True) ∧ TT) (True ∧ ((0 ≤ a.atoms.length) ∧ TT ∧ (RL [.s (.c (.ptr 31 0)), .s (.c (.own 32))]) ∧ (([.s (.c (.d (.val (.int .i64 (0 : Int)))))] : List S) = [.s (.c (.d (.val (.int .i64 ((0 : Nat) : Int)))))]) ∧ (RM [some (.blk [.d (.arr .fact a.facts), .d (.arr .atom a.atoms)]), some (.sl 32 .bool ([] : List Bool))]) ∧ (RM []) ∧ (((some (fl9 (occF (a.facts.take i1))) : Option (List Bool)) = some (fl9 (fun t => occF a.facts t || occG (a.atoms.take 0) t))) ∧ True) ∧ TT) ∧ (∀ i2 : Nat, (i2 ≤ a.atoms.length) → True ∧ True ∧ True ∧ True ∧ True ∧ (vcIf (decide (((i2 : Nat) : Int) < ((a.atoms.length : Nat) : Int))) (True ∧ True ∧ True ∧ True ∧ (0 ≤ ((i2 : Nat) : Int) ∧ ((i2 : Nat) : Int) < ((a.atoms.length : Nat) : Int)) ∧ True ∧ True ∧ (0 ≤ ((a.atoms.getD i2 (⟨0, 0, 0⟩ : GAtom)).a) ∧ ((a.atoms.getD i2 (⟨0, 0, 0⟩ : GAtom)).a) < (((fl9 (fun t => occF a.facts t || occG (a.atoms.take i2) t)).length : Nat) : Int)) ∧ (TF ∧ TF ∧ True ∧ ((7 : Nat) ∉ ([] : List Nat))) ∧ True ∧ True ∧ True ∧ True ∧ (0 ≤ ((i2 : Nat) : Int) ∧ ((i2 : Nat) : Int) < ((a.atoms.length : Nat) : Int)) ∧ True ∧ True ∧ (0 ≤ ((a.atoms.getD i2 (⟨0, 0, 0⟩ : GAtom)).b) ∧ ((a.atoms.getD i2 (⟨0, 0, 0⟩ : GAtom)).b) < ((((fl9 (fun t => occF a.facts t || occG (a.atoms.take i2) t)).set ((a.atoms.getD i2 (⟨0, 0, 0⟩ : GAtom)).a).toNat true).length : Nat) : Int)) ∧ (TF ∧ TF ∧ True ∧ ((7 : Nat) ∉ ([] : List Nat))) ∧ True ∧ (inK .i64 (((i2 : Nat) : Int) + (1 : Int))) ∧ True ∧ ((i2 + 1) ≤ a.atoms.length) ∧ (a.atoms.length - (i2 + 1) < a.atoms.length - i2) ∧ TT ∧ (RL [.s (.c (.ptr 31 0)), .s (.c (.own 32))]) ∧ (([.s (.c (.d (.val (.int .i64 (((i2 : Nat) : Int) + (1 : Int))))))] : List S) = [.s (.c (.d (.val (.int .i64 (((i2 + 1) : Nat) : Int)))))]) ∧ (RM [some (.blk [.d (.arr .fact a.facts), .d (.arr .atom a.atoms)]), some (.sl 32 .bool ([] : List Bool))]) ∧ (RM []) ∧ (((some (((fl9 (fun t => occF a.facts t || occG (a.atoms.take i2) t)).set ((a.atoms.getD i2 (⟨0, 0, 0⟩ : GAtom)).a).toNat true).set ((a.atoms.getD i2 (⟨0, 0, 0⟩ : GAtom)).b).toNat true) : Option (List Bool)) = some (fl9 (fun t => occF a.facts t || occG (a.atoms.take (i2 + 1)) t))) ∧ True) ∧ TT) (True ∧ True ∧ (((fl9 (fun t => occF a.facts t || occG (a.atoms.take i2) t), ()) : (List Bool) × Unit) = (fl9 (occ a), ())) ∧ (True ∧ True) ∧ ((TF ∧ TF) ∧ True) ∧ True ∧ (True ∧ True) ∧ TF))))))
def VC_l3Terms (a : GAsn) (k : Nat) : Prop := TN ∧ TN ∧ (TN ∧ (0 ≤ (9 : Int) ∧ (9 : Int) ≤ (9 : Int) ∧ (9 : Int) ≤ 4294967296)) ∧ True ∧ True ∧ ((0 ≤ a.facts.length) ∧ TT ∧ (RL [.s (.c (.ptr 31 0)), .s (.c (.own 32))]) ∧ (([.s (.c (.d (.val (.int .i64 (0 : Int)))))] : List S) = [.s (.c (.d (.val (.int .i64 ((0 : Nat) : Int)))))]) ∧ (RM [some (.blk [.d (.arr .fact a.facts), .d (.arr .atom a.atoms)]), some (.sl 32 .bool ([] : List Bool))]) ∧ (RM []) ∧ (((some (List.replicate 9 false) : Option (List Bool)) = some (fl9 (occF (a.facts.take 0)))) ∧ True) ∧ TT) ∧ (∀ i1 : Nat, (i1 ≤ a.facts.length) → True ∧ True ∧ True ∧ True ∧ (VC_l3Terms_1 a k i1))
theorem vcn_l3Terms (a : GAsn) (k : Nat) (hp : asV a = true ∨ vA a = true) : VC_l3Terms a k := by
  unfold VC_l3Terms VC_l3Terms_1
  simp only [cln, Nat.reduceEqDiff, Nat.reduceLeDiff, Nat.reduceAdd]
  have hl := vA_iff.1 (hp.elim vA_of id)
  have hF := fun i (h : i < a.facts.length) => fV_isT (all_get (d := (⟨false, 0, 0⟩ : GFact)) hl.1 h)
  have hG := fun i (h : i < a.atoms.length) => atV_isT (all_get (d := (⟨0, 0, 0⟩ : GAtom)) hl.2.1 h)
  have hi : ∀ t, isT t = true → 0 ≤ t ∧ t ≤ 8 := fun t h => isT_iff.1 h
  have hL := fl9_len
  all_goals (try simp only [opn])
  all_goals (repeat' (first | apply And.intro | intro _))
  all_goals (first | omega | rfl | (simp_all; done) | (exact flF_step (by assumption) (hF _ (by assumption)).1 (hF _ (by assumption)).2) | (exact flG_step (by assumption) (hG _ (by assumption)).1 (hG _ (by assumption)).2) | skip)
  all_goals (first | (have h1 := hF _ (by assumption); have h2 := hi _ h1.1; have h3 := hi _ h1.2; simp only [List.length_set, hL]; omega) | (have h1 := hG _ (by assumption); have h2 := hi _ h1.1; have h3 := hi _ h1.2; simp only [List.length_set, hL]; omega) | (rw [take_full (by assumption)]; done) | (rw [take_full (by assumption)]; apply fl9_congr; intro t; simp [occF, occG, occ]; done) | (rw [take_full (by assumption)]; rfl) | grind)
theorem vce_l3Terms (a : GAsn) (k : Nat) : VC_l3Terms a k = vcQ tab (lookF L_l3Terms) (lookP P_l3Terms) (fun _ => false) (fun _ => none) (an_l3Terms a) (fun _ => []) (bodyOf Try.f75) (entry (encs c_l3Terms.aks (a, ())) (rdOf false k)) (retOk tab c_l3Terms Try.f75.results.toList (a, ()) k) := by kernel_rfl
theorem ok_l3Terms : FnOk Try.prog E 75 c_l3Terms :=
  fn_okQ (l := L_l3Terms) (lp := P_l3Terms) (hp := fun _ => false) (gcs := fun _ => none) (perm := fun _ => []) tabOk mix trivial trivial Try.func75 rfl (by kernel_rfl) (by decide) (by kernel_rfl) (anns := fun x _ => an_l3Terms x.1) (fun ⟨a, _⟩ k hp _ => (vce_l3Terms a k).mp (vcn_l3Terms a k hp)) tot_fn
end Go.Proofs.Ytejcmcbpfnmlaaa

namespace Go.Proofs.Ytejcmcbpfnmlaaa
open Go.SE Go.RowKit
set_option linter.unusedSimpArgs false
set_option linter.unusedVariables false
set_option maxHeartbeats 1000000
set_option maxRecDepth 100000
/-! sCasesOf -/
abbrev c_sCasesOf : Con := ⟨[.asn], [.sl .ints], fun (a, _) => a.facts.length ≤ 281474976710656 ∧ a.atoms.length ≤ 281474976710656, .inl fun (a, _) => (cond (asV a) (casesF a) [], ()), fun _ => 0⟩
abbrev L_sCasesOf : List (FuncId × Con) := [(73, c_sAssertionValid), (74, c_l5All), (75, c_l3Terms)]
abbrev P_sCasesOf : List (FuncId × PT) := []
def VC_sCasesOf (a : GAsn) (k : Nat) : Prop := TN ∧ TN ∧ True ∧ ((a.facts.length ≤ 281474976710656 ∧ a.atoms.length ≤ 281474976710656) ∧ True ∧ True) ∧ True ∧ (vcIf (!(asV a)) ((TN ∧ True) ∧ True ∧ (((([] : List (List Int)), ()) : (List (List Int)) × Unit) = (cond (asV a) (casesF a) [], ())) ∧ (True ∧ True) ∧ ((TF ∧ TF) ∧ True) ∧ True ∧ (True ∧ True) ∧ TF) (True ∧ True ∧ ((asV a = true ∨ vA a = true) ∧ True ∧ TN ∧ True) ∧ ((vA a = true ∧ (fl9 (occ a)).length = 9) ∧ (TF ∧ True) ∧ True ∧ TN ∧ True) ∧ True ∧ ((((sQ (sFin a) a (fl9 (occ a)) opens 1), ()) : (List (List Int)) × Unit) = (cond (asV a) (casesF a) [], ())) ∧ (True ∧ True) ∧ ((TF ∧ TF) ∧ True) ∧ True ∧ (True ∧ True) ∧ TF))
theorem vcn_sCasesOf (a : GAsn) (k : Nat) (hp : a.facts.length ≤ 281474976710656 ∧ a.atoms.length ≤ 281474976710656) : VC_sCasesOf a k := by
  unfold VC_sCasesOf
  simp only [cln, Nat.reduceEqDiff, Nat.reduceLeDiff, Nat.reduceAdd]
  all_goals (try simp only [opn])
  all_goals (repeat' (first | apply And.intro | intro _))
  all_goals (repeat (cases ‹_ ∧ _›))
  all_goals (first | omega | with_reducible assumption | (simp_all; done) | skip)
  all_goals (first
   | with_reducible exact ll_ne (by assumption) | with_reducible exact ll_no (by assumption)
   | exact ll_len ‹∀ x ∈ a, _› (by omega) | exact ll_len ‹∀ x ∈ b, _› (by omega)
   | with_reducible exact ll_step (by assumption) (by assumption) (by assumption) (by assumption)
   | with_reducible exact ll_end (by assumption) (by assumption) (by assumption)
   | with_reducible exact vA_of (by assumption) | with_reducible exact fl9_len _ | with_reducible exact sc_end (by assumption)
   | with_reducible exact (itl_bd (by assumption)).1.1 | with_reducible exact (itl_bd (by assumption)).1.2 | with_reducible exact (itl_bd (by assumption)).2.1 | with_reducible exact (itl_bd (by assumption)).2.2
   | with_reducible exact itl_pre (by assumption)
   | with_reducible exact itl_len (by assumption) | with_reducible exact itl_step (by assumption) | with_reducible exact itl_end (by assumption)
   | skip)
theorem vce_sCasesOf (a : GAsn) (k : Nat) : VC_sCasesOf a k = vcQ tab (lookF L_sCasesOf) (lookP P_sCasesOf) (fun _ => false) (fun _ => none) (fun _ _ => none) (fun _ => []) (bodyOf Try.f25) (entry (encs c_sCasesOf.aks (a, ())) (rdOf false k)) (retOk tab c_sCasesOf Try.f25.results.toList (a, ()) k) := by kernel_rfl
theorem ok_sCasesOf : FnOk Try.prog E 25 c_sCasesOf :=
  fn_okQ (l := L_sCasesOf) (lp := P_sCasesOf) (hp := fun _ => false) (gcs := fun _ => none) (perm := fun _ => []) tabOk mix ⟨ok_sAssertionValid, ok_l5All, ok_l3Terms, trivial⟩ trivial Try.func25 rfl (by kernel_rfl) (by decide) (by kernel_rfl) (anns := fun x _ => fun _ _ => none) (fun ⟨a, _⟩ k hp _ => (vce_sCasesOf a k).mp (vcn_sCasesOf a k hp)) tot_fn
end Go.Proofs.Ytejcmcbpfnmlaaa

namespace Go.Proofs.Ytejcmcbpfnmlaaa
open Go.SE Go.RowKit
set_option linter.unusedSimpArgs false
set_option linter.unusedVariables false
set_option maxHeartbeats 1000000
set_option maxRecDepth 100000
/-! tsList -/
abbrev c_tsList : Con := ⟨[.u16], [.sl .int], fun (s, _) => 0 ≤ s ∧ s < 512, .inl fun (s, _) => (tsLk s 9, ()), fun _ => 0⟩
abbrev L_tsList : List (FuncId × Con) := [(129, c_tsHas)]
abbrev P_tsList : List (FuncId × PT) := []
def an_tsList (s : Int) : Nat → St → Option Ann
  | 3, se => some { α := Nat, ok := fun i => i ≤ 9, mu := fun i => 9 - i, i0 := fun _ => 0, nx := fun a _ => (fun i => i + 1) a, live := [0, 2], sets := fun i => [(4, sv (.int .i64 i))], mids := [32], blks := fun i => [], owns := fun i => [⟨7, .slot 3, .int, tsLk s i⟩], rd := fun r _ => r, base := 100000 }
  | _, _ => none
def VC_tsList (s : Int) (k : Nat) : Prop := TN ∧ TN ∧ True ∧ ((0 ≤ 9) ∧ TT ∧ (RL [.s (.c (.d (.val (.int .u16 s)))), .s (.c (.own 32))]) ∧ (([.s (.c (.d (.val (.int .i64 (0 : Int)))))] : List S) = [.s (.c (.d (.val (.int .i64 ((0 : Nat) : Int)))))]) ∧ (RM [some (.sl 32 .int ([] : List Int))]) ∧ (RM []) ∧ (((some ([] : List Int) : Option (List Int)) = some (tsLk s 0)) ∧ True) ∧ TT) ∧ (∀ i1 : Nat, (i1 ≤ 9) → True ∧ True ∧ (vcIf (decide (((i1 : Nat) : Int) ≤ (8 : Int))) (True ∧ True ∧ ((0 ≤ s ∧ s < 512) ∧ True ∧ True) ∧ (vcIf (tsHas s ((i1 : Nat) : Int)) (True ∧ True ∧ (TN ∧ True) ∧ (TN ∧ TF ∧ TF ∧ ((tsLk s i1).length + ([((i1 : Nat) : Int)] : List Int).length ≤ 4294967296)) ∧ True ∧ True ∧ (inK .i64 (((i1 : Nat) : Int) + (1 : Int))) ∧ True ∧ ((i1 + 1) ≤ 9) ∧ (9 - (i1 + 1) < 9 - i1) ∧ TT ∧ (RL [.s (.c (.d (.val (.int .u16 s)))), .s (.c (.own 32))]) ∧ (([.s (.c (.d (.val (.int .i64 (((i1 : Nat) : Int) + (1 : Int))))))] : List S) = [.s (.c (.d (.val (.int .i64 (((i1 + 1) : Nat) : Int)))))]) ∧ (RM [some (.sl 32 .int ([] : List Int))]) ∧ (RM []) ∧ (((some ((tsLk s i1) ++ ([((i1 : Nat) : Int)] : List Int)) : Option (List Int)) = some (tsLk s (i1 + 1))) ∧ True) ∧ TT) (True ∧ (inK .i64 (((i1 : Nat) : Int) + (1 : Int))) ∧ True ∧ ((i1 + 1) ≤ 9) ∧ (9 - (i1 + 1) < 9 - i1) ∧ TT ∧ (RL [.s (.c (.d (.val (.int .u16 s)))), .s (.c (.own 32))]) ∧ (([.s (.c (.d (.val (.int .i64 (((i1 : Nat) : Int) + (1 : Int))))))] : List S) = [.s (.c (.d (.val (.int .i64 (((i1 + 1) : Nat) : Int)))))]) ∧ (RM [some (.sl 32 .int ([] : List Int))]) ∧ (RM []) ∧ (((some (tsLk s i1) : Option (List Int)) = some (tsLk s (i1 + 1))) ∧ True) ∧ TT))) (True ∧ True ∧ (((tsLk s i1, ()) : (List Int) × Unit) = (tsLk s 9, ())) ∧ (True ∧ True) ∧ ((TF ∧ TF) ∧ True) ∧ True ∧ (True ∧ True) ∧ TF)))
theorem vcn_tsList (s : Int) (k : Nat) (hp : 0 ≤ s ∧ s < 512) : VC_tsList s k := by
  unfold VC_tsList
  simp only [cln, Nat.reduceEqDiff, Nat.reduceLeDiff, Nat.reduceAdd]
  all_goals (try simp only [opn])
  all_goals (repeat' (first | apply And.intro | intro _))
  all_goals (first | omega | (simp_all; done) | grind [tsLk_step, tsLk])
theorem vce_tsList (s : Int) (k : Nat) : VC_tsList s k = vcQ tab (lookF L_tsList) (lookP P_tsList) (fun _ => false) (fun _ => none) (an_tsList s) (fun _ => []) (bodyOf Try.f77) (entry (encs c_tsList.aks (s, ())) (rdOf false k)) (retOk tab c_tsList Try.f77.results.toList (s, ()) k) := by kernel_rfl
theorem ok_tsList : FnOk Try.prog E 77 c_tsList :=
  fn_okQ (l := L_tsList) (lp := P_tsList) (hp := fun _ => false) (gcs := fun _ => none) (perm := fun _ => []) tabOk mix ⟨ok_tsHas, trivial⟩ trivial Try.func77 rfl (by kernel_rfl) (by decide) (by kernel_rfl) (anns := fun x _ => an_tsList x.1) (fun ⟨s, _⟩ k hp _ => (vce_tsList s k).mp (vcn_tsList s k hp)) tot_fn
end Go.Proofs.Ytejcmcbpfnmlaaa
