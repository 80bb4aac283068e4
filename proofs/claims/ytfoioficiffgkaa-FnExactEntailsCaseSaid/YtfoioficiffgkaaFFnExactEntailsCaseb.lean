/-
  Contracts of single functions of the program, each shown by the engine: what a call returns for arguments within the contract's bounds.
-/
import Derived.Test.YtfoioficiffgkaaFFnExactEntailsCasea
import Derived.Test.YtfoioficiffgkaaEe
import Derived.Test.YtfoioficiffgkaaEf
set_option linter.unusedSimpArgs false
set_option linter.unusedVariables false
set_option linter.unusedSectionVars false

namespace Go.Proofs.Ytfoioficiffgkaa
open Go.SE Go.RowKit
set_option linter.unusedSimpArgs false
set_option linter.unusedVariables false
set_option maxHeartbeats 1000000
set_option maxRecDepth 100000
/-! l3Terms -/
abbrev c_l3Terms : Con := ⟨[.asn], [.sl .bool], fun (a, _) => asV a = true ∨ vA a = true, .inl fun (a, _) => (fl9 (occ a), ()), fun _ => 0⟩
abbrev L_l3Terms : List (FuncId × Con) := []
abbrev P_l3Terms : List (FuncId × PT) := []
def an_l3Terms (a : GAsn) : Nat → St → Option Ann
  | 3, se => some { α := Nat, ok := fun i => i ≤ a.facts.length, mu := fun i => a.facts.length - i, i0 := fun _ => 0, nx := fun a _ => (fun i => i + 1) a, live := [1, 2], sets := fun i => [(4, sv (.int .i64 i))], mids := [31, 32], blks := fun i => [], owns := fun i => [⟨7, .slot 3, .bool, fl9 (occF (a.facts.take i))⟩], rd := fun r _ => r, base := 100000 }
  | 8, se => some { α := Nat, ok := fun i => i ≤ a.atoms.length, mu := fun i => a.atoms.length - i, i0 := fun _ => 0, nx := fun a _ => (fun i => i + 1) a, live := [1, 2], sets := fun i => [(5, sv (.int .i64 i))], mids := [31, 32], blks := fun i => [], owns := fun i => [⟨7, .slot 3, .bool, fl9 (fun t => occF a.facts t || occG (a.atoms.take i) t)⟩], rd := fun r _ => r, base := 200000 }
  | _, _ => none
def VC_l3Terms_1 (a : GAsn) (k : Nat) (i1 : Nat) : Prop := (True ∧ (vcIf (decide (((i1 : Nat) : Int) < ((a.facts.length : Nat) : Int))) (True ∧ True ∧ True ∧ True ∧ (0 ≤ ((i1 : Nat) : Int) ∧ ((i1 : Nat) : Int) < ((a.facts.length : Nat) : Int)) ∧ True ∧ True ∧ (0 ≤ ((a.facts.getD i1 (⟨false, 0, 0⟩ : GFact)).a) ∧ ((a.facts.getD i1 (⟨false, 0, 0⟩ : GFact)).a) < (((fl9 (occF (a.facts.take i1))).length : Nat) : Int)) ∧ (TF ∧ TF ∧ True ∧ ((7 : Nat) ∉ ([] : List Nat))) ∧ True ∧ True ∧ True ∧ True ∧ (0 ≤ ((i1 : Nat) : Int) ∧ ((i1 : Nat) : Int) < ((a.facts.length : Nat) : Int)) ∧ True ∧ True ∧ (0 ≤ ((a.facts.getD i1 (⟨false, 0, 0⟩ : GFact)).b) ∧ ((a.facts.getD i1 (⟨false, 0, 0⟩ : GFact)).b) < ((((fl9 (occF (a.facts.take i1))).set ((a.facts.getD i1 (⟨false, 0, 0⟩ : GFact)).a).toNat true).length : Nat) : Int)) ∧ (TF ∧ TF ∧ True ∧ ((7 : Nat) ∉ ([] : List Nat))) ∧ True ∧ (inK .i64 (((i1 : Nat) : Int) + (1 : Int))) ∧ True ∧ ((i1 + 1) ≤ a.facts.length) ∧ (a.facts.length - (i1 + 1) < a.facts.length - i1) ∧ TT ∧ (RL [.s (.c (.ptr 31 0)), .s (.c (.own 32))]) ∧ (([.s (.c (.d (.val (.int .i64 (((i1 : Nat) : Int) + (1 : Int))))))] : List S) = [.s (.c (.d (.val (.int .i64 (((i1 + 1) : Nat) : Int)))))]) ∧ (RM [some (.blk [.d (.arr .fact a.facts), .d (.arr .atom a.atoms)]), some (.sl 32 .bool ([] : List Bool))]) ∧ (RM []) ∧ (((some (((fl9 (occF (a.facts.take i1))).set ((a.facts.getD i1 (⟨false, 0, 0⟩ : GFact)).a).toNat true).set ((a.facts.getD i1 (⟨false, 0, 0⟩ : GFact)).b).toNat true) : Option (List Bool)) = some (fl9 (occF (a.facts.take (i1 + 1))))) ∧ True) ∧ TT) (True ∧ ((0 ≤ a.atoms.length) ∧ TT ∧ (RL [.s (.c (.ptr 31 0)), .s (.c (.own 32))]) ∧ (([.s (.c (.d (.val (.int .i64 (0 : Int)))))] : List S) = [.s (.c (.d (.val (.int .i64 ((0 : Nat) : Int)))))]) ∧ (RM [some (.blk [.d (.arr .fact a.facts), .d (.arr .atom a.atoms)]), some (.sl 32 .bool ([] : List Bool))]) ∧ (RM []) ∧ (((some (fl9 (occF (a.facts.take i1))) : Option (List Bool)) = some (fl9 (fun t => occF a.facts t || occG (a.atoms.take 0) t))) ∧ True) ∧ TT) ∧ (∀ i2 : Nat, (i2 ≤ a.atoms.length) → True ∧ True ∧ True ∧ True ∧ True ∧ (vcIf (decide (((i2 : Nat) : Int) < ((a.atoms.length : Nat) : Int))) (True ∧ True ∧ True ∧ True ∧ (0 ≤ ((i2 : Nat) : Int) ∧ ((i2 : Nat) : Int) < ((a.atoms.length : Nat) : Int)) ∧ True ∧ True ∧ (0 ≤ ((a.atoms.getD i2 (⟨0, 0, 0⟩ : GAtom)).a) ∧ ((a.atoms.getD i2 (⟨0, 0, 0⟩ : GAtom)).a) < (((fl9 (fun t => occF a.facts t || occG (a.atoms.take i2) t)).length : Nat) : Int)) ∧ (TF ∧ TF ∧ True ∧ ((7 : Nat) ∉ ([] : List Nat))) ∧ True ∧ True ∧ True ∧ True ∧ (0 ≤ ((i2 : Nat) : Int) ∧ ((i2 : Nat) : Int) < ((a.atoms.length : Nat) : Int)) ∧ True ∧ True ∧ (0 ≤ ((a.atoms.getD i2 (⟨0, 0, 0⟩ : GAtom)).b) ∧ ((a.atoms.getD i2 (⟨0, 0, 0⟩ : GAtom)).b) < ((((fl9 (fun t => occF a.facts t || occG (a.atoms.take i2) t)).set ((a.atoms.getD i2 (⟨0, 0, 0⟩ : GAtom)).a).toNat true).length : Nat) : Int)) ∧ (TF ∧ TF ∧ True ∧ ((7 : Nat) ∉ ([] : List Nat))) ∧ True ∧ (inK .i64 (((i2 : Nat) : Int) + (1 : Int))) ∧ True ∧ ((i2 + 1) ≤ a.atoms.length) ∧ (a.atoms.length - (i2 + 1) < a.atoms.length - i2) ∧ TT ∧ (RL [.s (.c (.ptr 31 0)), .s (.c (.own 32))]) ∧ (([.s (.c (.d (.val (.int .i64 (((i2 : Nat) : Int) + (1 : Int))))))] : List S) = [.s (.c (.d (.val (.int .i64 (((i2 + 1) : Nat) : Int)))))]) ∧ (RM [some (.blk [.d (.arr .fact a.facts), .d (.arr .atom a.atoms)]), some (.sl 32 .bool ([] : List Bool))]) ∧ (RM []) ∧ (((some (((fl9 (fun t => occF a.facts t || occG (a.atoms.take i2) t)).set ((a.atoms.getD i2 (⟨0, 0, 0⟩ : GAtom)).a).toNat true).set ((a.atoms.getD i2 (⟨0, 0, 0⟩ : GAtom)).b).toNat true) : Option (List Bool)) = some (fl9 (fun t => occF a.facts t || occG (a.atoms.take (i2 + 1)) t))) ∧ True) ∧ TT) (True ∧ True ∧ (((fl9 (fun t => occF a.facts t || occG (a.atoms.take i2) t), ()) : (List Bool) × Unit) = (fl9 (occ a), ())) ∧ (True ∧ True) ∧ ((TF ∧ TF) ∧ True) ∧ True ∧ (True ∧ True) ∧ TF))))))
def VC_l3Terms (a : GAsn) (k : Nat) : Prop := TN ∧ TN ∧ (TN ∧ (0 ≤ (9 : Int) ∧ (9 : Int) ≤ (9 : Int) ∧ (9 : Int) ≤ 4294967296)) ∧ True ∧ True ∧ ((0 ≤ a.facts.length) ∧ TT ∧ (RL [.s (.c (.ptr 31 0)), .s (.c (.own 32))]) ∧ (([.s (.c (.d (.val (.int .i64 (0 : Int)))))] : List S) = [.s (.c (.d (.val (.int .i64 ((0 : Nat) : Int)))))]) ∧ (RM [some (.blk [.d (.arr .fact a.facts), .d (.arr .atom a.atoms)]), some (.sl 32 .bool ([] : List Bool))]) ∧ (RM []) ∧ (((some (List.replicate 9 false) : Option (List Bool)) = some (fl9 (occF (a.facts.take 0)))) ∧ True) ∧ TT) ∧ (∀ i1 : Nat, (i1 ≤ a.facts.length) → True ∧ True ∧ True ∧ True ∧ (VC_l3Terms_1 a k i1))
theorem vcn_l3Terms (a : GAsn) (k : Nat) (hp : asV a = true ∨ vA a = true) : VC_l3Terms a k := by
  unfold VC_l3Terms VC_l3Terms_1
  simp only [cln, Nat.reduceEqDiff, Nat.reduceLeDiff, Nat.reduceAdd]
  have hl := vA_iff.1 (hp.elim vA_of id)
  have hF := fun i (h : i < a.facts.length) => fV_isT (all_get (d := (⟨false, 0, 0⟩ : GFact)) hl.1 h)
  have hG := fun i (h : i < a.atoms.length) => atV_isT (all_get (d := (⟨0, 0, 0⟩ : GAtom)) hl.2.1 h)
  have hi : ∀ t, isT t = true → 0 ≤ t ∧ t ≤ 8 := fun t h => isT_iff.1 h
  have hL := fl9_len
  all_goals (try simp only [opn])
  all_goals (repeat' (first | apply And.intro | intro _))
  all_goals (first | omega | rfl | (simp_all; done) | (exact flF_step (by assumption) (hF _ (by assumption)).1 (hF _ (by assumption)).2) | (exact flG_step (by assumption) (hG _ (by assumption)).1 (hG _ (by assumption)).2) | skip)
  all_goals (first | (have h1 := hF _ (by assumption); have h2 := hi _ h1.1; have h3 := hi _ h1.2; simp only [List.length_set, hL]; omega) | (have h1 := hG _ (by assumption); have h2 := hi _ h1.1; have h3 := hi _ h1.2; simp only [List.length_set, hL]; omega) | (rw [take_full (by assumption)]; done) | (rw [take_full (by assumption)]; apply fl9_congr; intro t; simp [occF, occG, occ]; done) | (rw [take_full (by assumption)]; rfl) | grind)
theorem vce_l3Terms (a : GAsn) (k : Nat) : VC_l3Terms a k = vcQ tab (lookF L_l3Terms) (lookP P_l3Terms) (fun _ => false) (fun _ => none) (an_l3Terms a) (fun _ => []) (bodyOf Try.f92) (entry (encs c_l3Terms.aks (a, ())) (rdOf false k)) (retOk tab c_l3Terms Try.f92.results.toList (a, ()) k) := by kernel_rfl
theorem ok_l3Terms : FnOk Try.prog E 92 c_l3Terms :=
  fn_okQ (l := L_l3Terms) (lp := P_l3Terms) (hp := fun _ => false) (gcs := fun _ => none) (perm := fun _ => []) tabOk mix trivial trivial Try.func92 rfl (by kernel_rfl) (by decide) (by kernel_rfl) (anns := fun x _ => an_l3Terms x.1) (fun ⟨a, _⟩ k hp _ => (vce_l3Terms a k).mp (vcn_l3Terms a k hp)) tot_fn
end Go.Proofs.Ytfoioficiffgkaa

namespace Go.Proofs.Ytfoioficiffgkaa
open Go.SE Go.RowKit
set_option linter.unusedSimpArgs false
set_option linter.unusedVariables false
set_option maxHeartbeats 1000000
set_option maxRecDepth 100000
/-! l6Both -/
abbrev c_l6Both : Con := ⟨[.asn, .asn], [.sl .bool], fun (a, b, _) => asV a = true ∧ asV b = true, .inl fun (a, b, _) => (fl9 (fun t => occ a t || occ b t), ()), fun _ => 0⟩
abbrev L_l6Both : List (FuncId × Con) := [(92, c_l3Terms)]
abbrev P_l6Both : List (FuncId × PT) := []
def VC_l6Both (a : GAsn) (b : GAsn) (k : Nat) : Prop := TN ∧ TN ∧ TN ∧ (TN ∧ True) ∧ True ∧ True ∧ (TN ∧ TF ∧ TF ∧ (([] : List GFact).length + a.facts.length ≤ 4294967296)) ∧ True ∧ True ∧ (TN ∧ TF ∧ TF ∧ ((([] : List GFact) ++ a.facts).length + b.facts.length ≤ 4294967296)) ∧ (TN ∧ True) ∧ True ∧ True ∧ (TN ∧ TF ∧ TF ∧ (([] : List GAtom).length + a.atoms.length ≤ 4294967296)) ∧ True ∧ True ∧ (TN ∧ TF ∧ TF ∧ ((([] : List GAtom) ++ a.atoms).length + b.atoms.length ≤ 4294967296)) ∧ (TN ∧ TN ∧ True) ∧ ((asV (⟨(([] : List GFact) ++ a.facts) ++ b.facts, (([] : List GAtom) ++ a.atoms) ++ b.atoms⟩ : GAsn) = true ∨ vA (⟨(([] : List GFact) ++ a.facts) ++ b.facts, (([] : List GAtom) ++ a.atoms) ++ b.atoms⟩ : GAsn) = true) ∧ True ∧ TN ∧ True) ∧ True ∧ ((((fl9 (occ (⟨(([] : List GFact) ++ a.facts) ++ b.facts, (([] : List GAtom) ++ a.atoms) ++ b.atoms⟩ : GAsn))), ()) : (List Bool) × Unit) = (fl9 (fun t => occ a t || occ b t), ())) ∧ (True ∧ True) ∧ ((TF ∧ TF) ∧ True) ∧ True ∧ (True ∧ True) ∧ TF
theorem vcn_l6Both (a : GAsn) (b : GAsn) (k : Nat) (hp : asV a = true ∧ asV b = true) : VC_l6Both a b k := by
  unfold VC_l6Both
  simp only [cln, Nat.reduceEqDiff, Nat.reduceLeDiff, Nat.reduceAdd]
  have hA := asV_facts hp.1
  have hB := asV_facts hp.2
  have hV := both_vA hp.1 hp.2
  all_goals (try simp only [opn, List.length_append])
  all_goals (repeat' (first | apply And.intro | intro _))
  all_goals (first | omega | rfl | assumption | exact .inr hV | exact both_fl | skip)
theorem vce_l6Both (a : GAsn) (b : GAsn) (k : Nat) : VC_l6Both a b k = vcQ tab (lookF L_l6Both) (lookP P_l6Both) (fun _ => false) (fun _ => none) (fun _ _ => none) (fun _ => []) (bodyOf Try.f67) (entry (encs c_l6Both.aks (a, b, ())) (rdOf false k)) (retOk tab c_l6Both Try.f67.results.toList (a, b, ()) k) := by kernel_rfl
theorem ok_l6Both : FnOk Try.prog E 67 c_l6Both :=
  fn_okQ (l := L_l6Both) (lp := P_l6Both) (hp := fun _ => false) (gcs := fun _ => none) (perm := fun _ => []) tabOk mix ⟨ok_l3Terms, trivial⟩ trivial Try.func67 rfl (by kernel_rfl) (by decide) (by kernel_rfl) (anns := fun x _ => fun _ _ => none) (fun ⟨a, b, _⟩ k hp _ => (vce_l6Both a b k).mp (vcn_l6Both a b k hp)) tot_fn
end Go.Proofs.Ytfoioficiffgkaa

namespace Go.Proofs.Ytfoioficiffgkaa
open Go.SE Go.RowKit
set_option linter.unusedSimpArgs false
set_option linter.unusedVariables false
set_option maxHeartbeats 1000000
set_option maxRecDepth 100000
/-! l6Find -/
abbrev c_l6Find : Con := ⟨[.sl .atom, .sl .bool, .int], [.int], fun (l, u, q, _) => l.length ≤ 1048576 ∧ u.length = l.length, .inl fun (l, u, q, _) => (fdI l u q, ()), fun _ => 0⟩
abbrev L_l6Find : List (FuncId × Con) := []
abbrev P_l6Find : List (FuncId × PT) := []
def an_l6Find (l : List GAtom) (u : List Bool) (q : Int) : Nat → St → Option Ann
  | 2, se => some { α := Nat, ok := fun i => i ≤ l.length ∧ uaN l u q i = true, mu := fun i => l.length - i, i0 := fun _ => 0, nx := fun a _ => (fun i => i + 1) a, live := [0, 1, 2], sets := fun i => [(7, sv (.int .i64 i))], mids := [], blks := fun i => [], owns := fun i => [], rd := fun r _ => r, base := 100000 }
  | _, _ => none
def VC_l6Find (l : List GAtom) (u : List Bool) (q : Int) (k : Nat) : Prop := True ∧ True ∧ ((0 ≤ l.length ∧ uaN l u q 0 = true) ∧ TT ∧ (RL [.s (.c (.d (.arr .atom l))), .s (.c (.d (.arr .bool u))), .s (.c (.d (.val (.int .i64 q))))]) ∧ (([.s (.c (.d (.val (.int .i64 (0 : Int)))))] : List S) = [.s (.c (.d (.val (.int .i64 ((0 : Nat) : Int)))))]) ∧ (RM []) ∧ (RM []) ∧ True ∧ TT) ∧ (∀ i1 : Nat, (i1 ≤ l.length ∧ uaN l u q i1 = true) → True ∧ True ∧ True ∧ True ∧ (vcIf (decide (((i1 : Nat) : Int) < ((l.length : Nat) : Int))) (True ∧ True ∧ (0 ≤ ((i1 : Nat) : Int) ∧ ((i1 : Nat) : Int) < ((u.length : Nat) : Int)) ∧ True ∧ True ∧ True ∧ (vcIf (!(u.getD i1 false)) (True ∧ True ∧ (0 ≤ ((i1 : Nat) : Int) ∧ ((i1 : Nat) : Int) < ((l.length : Nat) : Int)) ∧ True ∧ True ∧ True ∧ True ∧ True ∧ (vcIf (((l.getD i1 (⟨0, 0, 0⟩ : GAtom)).a) == q) (True ∧ True ∧ (((((i1 : Nat) : Int), ()) : Int × Unit) = (fdI l u q, ())) ∧ True ∧ True ∧ True ∧ True ∧ TF) (True ∧ (inK .i64 (((i1 : Nat) : Int) + (1 : Int))) ∧ True ∧ ((i1 + 1) ≤ l.length ∧ uaN l u q (i1 + 1) = true) ∧ (l.length - (i1 + 1) < l.length - i1) ∧ TT ∧ (RL [.s (.c (.d (.arr .atom l))), .s (.c (.d (.arr .bool u))), .s (.c (.d (.val (.int .i64 q))))]) ∧ (([.s (.c (.d (.val (.int .i64 (((i1 : Nat) : Int) + (1 : Int))))))] : List S) = [.s (.c (.d (.val (.int .i64 (((i1 + 1) : Nat) : Int)))))]) ∧ (RM []) ∧ (RM []) ∧ True ∧ TT))) (True ∧ True ∧ (inK .i64 (((i1 : Nat) : Int) + (1 : Int))) ∧ True ∧ ((i1 + 1) ≤ l.length ∧ uaN l u q (i1 + 1) = true) ∧ (l.length - (i1 + 1) < l.length - i1) ∧ TT ∧ (RL [.s (.c (.d (.arr .atom l))), .s (.c (.d (.arr .bool u))), .s (.c (.d (.val (.int .i64 q))))]) ∧ (([.s (.c (.d (.val (.int .i64 (((i1 : Nat) : Int) + (1 : Int))))))] : List S) = [.s (.c (.d (.val (.int .i64 (((i1 + 1) : Nat) : Int)))))]) ∧ (RM []) ∧ (RM []) ∧ True ∧ TT))) (True ∧ ((((-1 : Int), ()) : Int × Unit) = (fdI l u q, ())) ∧ True ∧ True ∧ True ∧ True ∧ TF)))
theorem vcn_l6Find (l : List GAtom) (u : List Bool) (q : Int) (k : Nat) (hp : l.length ≤ 1048576 ∧ u.length = l.length) : VC_l6Find l u q k := by
  unfold VC_l6Find
  simp only [cln, Nat.reduceEqDiff, Nat.reduceLeDiff, Nat.reduceAdd]
  all_goals (try simp only [opn])
  all_goals (repeat' (first | apply And.intro | intro _))
  all_goals (repeat (cases ‹_ ∧ _›))
  all_goals (first | omega | rfl | assumption | (simp_all; done) | skip)
  all_goals (first
   | exact fd_hit (by assumption) (by assumption) (by assumption) (by assumption)
   | exact fd_miss (by assumption) (by assumption) (by assumption)
   | exact uaN_s1 (by assumption) (by assumption)
   | exact uaN_s3 (by assumption) (by assumption)
   | skip)
theorem vce_l6Find (l : List GAtom) (u : List Bool) (q : Int) (k : Nat) : VC_l6Find l u q k = vcQ tab (lookF L_l6Find) (lookP P_l6Find) (fun _ => false) (fun _ => none) (an_l6Find l u q) (fun _ => []) (bodyOf Try.f155) (entry (encs c_l6Find.aks (l, u, q, ())) (rdOf false k)) (retOk tab c_l6Find Try.f155.results.toList (l, u, q, ()) k) := by kernel_rfl
theorem ok_l6Find : FnOk Try.prog E 155 c_l6Find :=
  fn_okQ (l := L_l6Find) (lp := P_l6Find) (hp := fun _ => false) (gcs := fun _ => none) (perm := fun _ => []) tabOk mix trivial trivial Try.func155 rfl (by kernel_rfl) (by decide) (by kernel_rfl) (anns := fun x _ => an_l6Find x.1 x.2.1 x.2.2.1) (fun ⟨l, u, q, _⟩ k hp _ => (vce_l6Find l u q k).mp (vcn_l6Find l u q k hp)) tot_fn
end Go.Proofs.Ytfoioficiffgkaa

namespace Go.Proofs.Ytfoioficiffgkaa
open Go.SE Go.RowKit
set_option linter.unusedSimpArgs false
set_option linter.unusedVariables false
set_option maxHeartbeats 1000000
set_option maxRecDepth 100000
/-! l5Begins -/
abbrev c_l5Begins : Con := ⟨[.sl .atom, .int], [.bool], fun (l, c, _) => l.length ≤ 1048576, .inl fun (l, c, _) => (bgn l c, ()), fun _ => 0⟩
abbrev L_l5Begins : List (FuncId × Con) := []
abbrev P_l5Begins : List (FuncId × PT) := []
def an_l5Begins (l : List GAtom) (c : Int) : Nat → St → Option Ann
  | 2, se => some { α := Nat, ok := fun i => i ≤ l.length ∧ bgn (l.take i) c = false, mu := fun i => l.length - i, i0 := fun _ => 0, nx := fun a _ => (fun i => i + 1) a, live := [0, 1], sets := fun i => [(5, sv (.int .i64 i))], mids := [], blks := fun i => [], owns := fun i => [], rd := fun r _ => r, base := 100000 }
  | _, _ => none
def VC_l5Begins (l : List GAtom) (c : Int) (k : Nat) : Prop := True ∧ True ∧ ((0 ≤ l.length ∧ bgn (l.take 0) c = false) ∧ TT ∧ (RL [.s (.c (.d (.arr .atom l))), .s (.c (.d (.val (.int .i64 c))))]) ∧ (([.s (.c (.d (.val (.int .i64 (0 : Int)))))] : List S) = [.s (.c (.d (.val (.int .i64 ((0 : Nat) : Int)))))]) ∧ (RM []) ∧ (RM []) ∧ True ∧ TT) ∧ (∀ i1 : Nat, (i1 ≤ l.length ∧ bgn (l.take i1) c = false) → True ∧ True ∧ True ∧ True ∧ (vcIf (decide (((i1 : Nat) : Int) < ((l.length : Nat) : Int))) (True ∧ True ∧ (0 ≤ ((i1 : Nat) : Int) ∧ ((i1 : Nat) : Int) < ((l.length : Nat) : Int)) ∧ True ∧ True ∧ True ∧ True ∧ (vcIf (((l.getD i1 (⟨0, 0, 0⟩ : GAtom)).a) == c) (True ∧ (((true, ()) : Bool × Unit) = (bgn l c, ())) ∧ True ∧ True ∧ True ∧ True ∧ TF) (True ∧ (inK .i64 (((i1 : Nat) : Int) + (1 : Int))) ∧ True ∧ ((i1 + 1) ≤ l.length ∧ bgn (l.take (i1 + 1)) c = false) ∧ (l.length - (i1 + 1) < l.length - i1) ∧ TT ∧ (RL [.s (.c (.d (.arr .atom l))), .s (.c (.d (.val (.int .i64 c))))]) ∧ (([.s (.c (.d (.val (.int .i64 (((i1 : Nat) : Int) + (1 : Int))))))] : List S) = [.s (.c (.d (.val (.int .i64 (((i1 + 1) : Nat) : Int)))))]) ∧ (RM []) ∧ (RM []) ∧ True ∧ TT))) (True ∧ (((false, ()) : Bool × Unit) = (bgn l c, ())) ∧ True ∧ True ∧ True ∧ True ∧ TF)))
theorem vcn_l5Begins (l : List GAtom) (c : Int) (k : Nat) (hp : l.length ≤ 1048576) : VC_l5Begins l c k := by
  unfold VC_l5Begins
  simp only [cln, Nat.reduceEqDiff, Nat.reduceLeDiff, Nat.reduceAdd]
  all_goals (try simp only [opn])
  all_goals (repeat' (first | apply And.intro | intro _))
  all_goals (repeat (cases ‹_ ∧ _›))
  all_goals (first | omega | rfl | assumption | (simp_all; done) | skip)
  all_goals (first
   | exact (bgn_yes (by assumption) (by assumption)).symm
   | exact bgn_step (by assumption) (by assumption) (by assumption)
   | exact (bgn_end (by assumption) (by assumption)).symm
   | skip)
theorem vce_l5Begins (l : List GAtom) (c : Int) (k : Nat) : VC_l5Begins l c k = vcQ tab (lookF L_l5Begins) (lookP P_l5Begins) (fun _ => false) (fun _ => none) (an_l5Begins l c) (fun _ => []) (bodyOf Try.f159) (entry (encs c_l5Begins.aks (l, c, ())) (rdOf false k)) (retOk tab c_l5Begins Try.f159.results.toList (l, c, ()) k) := by kernel_rfl
theorem ok_l5Begins : FnOk Try.prog E 159 c_l5Begins :=
  fn_okQ (l := L_l5Begins) (lp := P_l5Begins) (hp := fun _ => false) (gcs := fun _ => none) (perm := fun _ => []) tabOk mix trivial trivial Try.func159 rfl (by kernel_rfl) (by decide) (by kernel_rfl) (anns := fun x _ => an_l5Begins x.1 x.2.1) (fun ⟨l, c, _⟩ k hp _ => (vce_l5Begins l c k).mp (vcn_l5Begins l c k hp)) tot_fn
end Go.Proofs.Ytfoioficiffgkaa

namespace Go.Proofs.Ytfoioficiffgkaa
open Go.SE Go.RowKit
set_option linter.unusedSimpArgs false
set_option linter.unusedVariables false
set_option maxHeartbeats 1000000
set_option maxRecDepth 100000
/-! l6Chain -/
abbrev m_l6Chain : MCon := ⟨[.sl .atom], .bool, [.int, .int], fun (l, _) u (q, y, _) => l.length ≤ 6 ∧ u.length = l.length, fun (l, _) u (q, y, _) => .bool (rchB l u q y), fun (l, _) u (q, y, _) => rchU l u q y⟩
abbrev pt_l6Chain : PT := ptM m_l6Chain
abbrev L_l6Chain : List (FuncId × Con) := [(155, c_l6Find), (159, c_l5Begins)]
abbrev P_l6Chain : List (FuncId × PT) := []
def an_l6Chain (l : List GAtom) (u : List Bool) (q : Int) (y : Int) : Nat → St → Option Ann
  | 1, se => some { α := Nat × List Bool × Int, ok := fun p => rcI l u q y p.1 p.2.1 p.2.2, mu := fun p => 7 - p.1, i0 := fun st => (0, slAt .bool st (.slot 1), intAt st 2), nx := fun p st => (p.1 + 1, slAt .bool st (.slot 1), intAt st 2), live := [0, 3], sets := fun p => [(2, sv (.int .i64 p.2.2))], mids := [], blks := fun p => [], owns := fun p => [⟨7, .slot 1, .bool, p.2.1⟩], rd := fun r _ => r, base := 100000 }
  | _, _ => none
def VC_l6Chain_1 (l : List GAtom) (u : List Bool) (q : Int) (y : Int) (k : Nat) (p1 : Nat × List Bool × Int) : Prop := (True ∧ (vcIf (y != (0 : Int)) (True ∧ True ∧ ((l.length ≤ 1048576) ∧ True ∧ True) ∧ True ∧ True ∧ (vcIf (!(bgn l y)) (True ∧ ((some [.c (.d (.val (.bool false)))] : Option (List S0)) = some [.c (.d (.val (.bool (rchB l u q y))))]) ∧ ((some p1.2.1 : Option (List Bool)) = some (rchU l u q y))) (True ∧ True ∧ (0 ≤ (fdI l p1.2.1 (p1.2.2 : Int)) ∧ (fdI l p1.2.1 (p1.2.2 : Int)) < ((p1.2.1.length : Nat) : Int)) ∧ (TF ∧ TF ∧ True ∧ ((7 : Nat) ∉ ([] : List Nat))) ∧ True ∧ True ∧ (0 ≤ (fdI l p1.2.1 (p1.2.2 : Int)) ∧ (fdI l p1.2.1 (p1.2.2 : Int)) < ((l.length : Nat) : Int)) ∧ True ∧ True ∧ True ∧ (rcI l u q y (p1.1 + 1, (p1.2.1.set (fdI l p1.2.1 (p1.2.2 : Int)).toNat true), ((l.getD (fdI l p1.2.1 (p1.2.2 : Int)).toNat (⟨0, 0, 0⟩ : GAtom)).b)).1 (p1.1 + 1, (p1.2.1.set (fdI l p1.2.1 (p1.2.2 : Int)).toNat true), ((l.getD (fdI l p1.2.1 (p1.2.2 : Int)).toNat (⟨0, 0, 0⟩ : GAtom)).b)).2.1 (p1.1 + 1, (p1.2.1.set (fdI l p1.2.1 (p1.2.2 : Int)).toNat true), ((l.getD (fdI l p1.2.1 (p1.2.2 : Int)).toNat (⟨0, 0, 0⟩ : GAtom)).b)).2.2) ∧ (7 - (p1.1 + 1, (p1.2.1.set (fdI l p1.2.1 (p1.2.2 : Int)).toNat true), ((l.getD (fdI l p1.2.1 (p1.2.2 : Int)).toNat (⟨0, 0, 0⟩ : GAtom)).b)).1 < 7 - p1.1) ∧ TT ∧ (RL [.s (.c (.d (.arr .atom l))), .s (.c (.d (.val (.int .i64 y))))]) ∧ (([.s (.c (.d (.val (.int .i64 ((l.getD (fdI l p1.2.1 (p1.2.2 : Int)).toNat (⟨0, 0, 0⟩ : GAtom)).b)))))] : List S) = [.s (.c (.d (.val (.int .i64 ((p1.1 + 1, (p1.2.1.set (fdI l p1.2.1 (p1.2.2 : Int)).toNat true), ((l.getD (fdI l p1.2.1 (p1.2.2 : Int)).toNat (⟨0, 0, 0⟩ : GAtom)).b)).2.2 : Int)))))]) ∧ (RM []) ∧ (RM []) ∧ (((some (p1.2.1.set (fdI l p1.2.1 (p1.2.2 : Int)).toNat true) : Option (List Bool)) = some ((p1.1 + 1, (p1.2.1.set (fdI l p1.2.1 (p1.2.2 : Int)).toNat true), ((l.getD (fdI l p1.2.1 (p1.2.2 : Int)).toNat (⟨0, 0, 0⟩ : GAtom)).b)).2.1)) ∧ True) ∧ TT))) (True ∧ True ∧ True ∧ (0 ≤ (fdI l p1.2.1 (p1.2.2 : Int)) ∧ (fdI l p1.2.1 (p1.2.2 : Int)) < ((p1.2.1.length : Nat) : Int)) ∧ (TF ∧ TF ∧ True ∧ ((7 : Nat) ∉ ([] : List Nat))) ∧ True ∧ True ∧ (0 ≤ (fdI l p1.2.1 (p1.2.2 : Int)) ∧ (fdI l p1.2.1 (p1.2.2 : Int)) < ((l.length : Nat) : Int)) ∧ True ∧ True ∧ True ∧ (rcI l u q y (p1.1 + 1, (p1.2.1.set (fdI l p1.2.1 (p1.2.2 : Int)).toNat true), ((l.getD (fdI l p1.2.1 (p1.2.2 : Int)).toNat (⟨0, 0, 0⟩ : GAtom)).b)).1 (p1.1 + 1, (p1.2.1.set (fdI l p1.2.1 (p1.2.2 : Int)).toNat true), ((l.getD (fdI l p1.2.1 (p1.2.2 : Int)).toNat (⟨0, 0, 0⟩ : GAtom)).b)).2.1 (p1.1 + 1, (p1.2.1.set (fdI l p1.2.1 (p1.2.2 : Int)).toNat true), ((l.getD (fdI l p1.2.1 (p1.2.2 : Int)).toNat (⟨0, 0, 0⟩ : GAtom)).b)).2.2) ∧ (7 - (p1.1 + 1, (p1.2.1.set (fdI l p1.2.1 (p1.2.2 : Int)).toNat true), ((l.getD (fdI l p1.2.1 (p1.2.2 : Int)).toNat (⟨0, 0, 0⟩ : GAtom)).b)).1 < 7 - p1.1) ∧ TT ∧ (RL [.s (.c (.d (.arr .atom l))), .s (.c (.d (.val (.int .i64 y))))]) ∧ (([.s (.c (.d (.val (.int .i64 ((l.getD (fdI l p1.2.1 (p1.2.2 : Int)).toNat (⟨0, 0, 0⟩ : GAtom)).b)))))] : List S) = [.s (.c (.d (.val (.int .i64 ((p1.1 + 1, (p1.2.1.set (fdI l p1.2.1 (p1.2.2 : Int)).toNat true), ((l.getD (fdI l p1.2.1 (p1.2.2 : Int)).toNat (⟨0, 0, 0⟩ : GAtom)).b)).2.2 : Int)))))]) ∧ (RM []) ∧ (RM []) ∧ (((some (p1.2.1.set (fdI l p1.2.1 (p1.2.2 : Int)).toNat true) : Option (List Bool)) = some ((p1.1 + 1, (p1.2.1.set (fdI l p1.2.1 (p1.2.2 : Int)).toNat true), ((l.getD (fdI l p1.2.1 (p1.2.2 : Int)).toNat (⟨0, 0, 0⟩ : GAtom)).b)).2.1)) ∧ True) ∧ TT)))
def VC_l6Chain_2 (l : List GAtom) (u : List Bool) (q : Int) (y : Int) (k : Nat) (p1 : Nat × List Bool × Int) : Prop := (True ∧ (vcIf (((l.getD (fdI l p1.2.1 (p1.2.2 : Int)).toNat (⟨0, 0, 0⟩ : GAtom)).kind) == (2 : Int)) (True ∧ True ∧ (0 ≤ (fdI l p1.2.1 (p1.2.2 : Int)) ∧ (fdI l p1.2.1 (p1.2.2 : Int)) < ((l.length : Nat) : Int)) ∧ True ∧ True ∧ True ∧ True ∧ True ∧ True ∧ (vcIf (((l.getD (fdI l p1.2.1 (p1.2.2 : Int)).toNat (⟨0, 0, 0⟩ : GAtom)).b) != y) (True ∧ True ∧ True ∧ (VC_l6Chain_1 l u q y k p1)) (True ∧ True ∧ True ∧ True ∧ True ∧ (0 ≤ (fdI l p1.2.1 (p1.2.2 : Int)) ∧ (fdI l p1.2.1 (p1.2.2 : Int)) < ((p1.2.1.length : Nat) : Int)) ∧ (TF ∧ TF ∧ True ∧ ((7 : Nat) ∉ ([] : List Nat))) ∧ True ∧ True ∧ (0 ≤ (fdI l p1.2.1 (p1.2.2 : Int)) ∧ (fdI l p1.2.1 (p1.2.2 : Int)) < ((l.length : Nat) : Int)) ∧ True ∧ True ∧ True ∧ (rcI l u q y (p1.1 + 1, (p1.2.1.set (fdI l p1.2.1 (p1.2.2 : Int)).toNat true), ((l.getD (fdI l p1.2.1 (p1.2.2 : Int)).toNat (⟨0, 0, 0⟩ : GAtom)).b)).1 (p1.1 + 1, (p1.2.1.set (fdI l p1.2.1 (p1.2.2 : Int)).toNat true), ((l.getD (fdI l p1.2.1 (p1.2.2 : Int)).toNat (⟨0, 0, 0⟩ : GAtom)).b)).2.1 (p1.1 + 1, (p1.2.1.set (fdI l p1.2.1 (p1.2.2 : Int)).toNat true), ((l.getD (fdI l p1.2.1 (p1.2.2 : Int)).toNat (⟨0, 0, 0⟩ : GAtom)).b)).2.2) ∧ (7 - (p1.1 + 1, (p1.2.1.set (fdI l p1.2.1 (p1.2.2 : Int)).toNat true), ((l.getD (fdI l p1.2.1 (p1.2.2 : Int)).toNat (⟨0, 0, 0⟩ : GAtom)).b)).1 < 7 - p1.1) ∧ TT ∧ (RL [.s (.c (.d (.arr .atom l))), .s (.c (.d (.val (.int .i64 y))))]) ∧ (([.s (.c (.d (.val (.int .i64 ((l.getD (fdI l p1.2.1 (p1.2.2 : Int)).toNat (⟨0, 0, 0⟩ : GAtom)).b)))))] : List S) = [.s (.c (.d (.val (.int .i64 ((p1.1 + 1, (p1.2.1.set (fdI l p1.2.1 (p1.2.2 : Int)).toNat true), ((l.getD (fdI l p1.2.1 (p1.2.2 : Int)).toNat (⟨0, 0, 0⟩ : GAtom)).b)).2.2 : Int)))))]) ∧ (RM []) ∧ (RM []) ∧ (((some (p1.2.1.set (fdI l p1.2.1 (p1.2.2 : Int)).toNat true) : Option (List Bool)) = some ((p1.1 + 1, (p1.2.1.set (fdI l p1.2.1 (p1.2.2 : Int)).toNat true), ((l.getD (fdI l p1.2.1 (p1.2.2 : Int)).toNat (⟨0, 0, 0⟩ : GAtom)).b)).2.1)) ∧ True) ∧ TT))) (True ∧ True ∧ True ∧ True ∧ True ∧ True ∧ True ∧ (0 ≤ (fdI l p1.2.1 (p1.2.2 : Int)) ∧ (fdI l p1.2.1 (p1.2.2 : Int)) < ((p1.2.1.length : Nat) : Int)) ∧ (TF ∧ TF ∧ True ∧ ((7 : Nat) ∉ ([] : List Nat))) ∧ True ∧ True ∧ (0 ≤ (fdI l p1.2.1 (p1.2.2 : Int)) ∧ (fdI l p1.2.1 (p1.2.2 : Int)) < ((l.length : Nat) : Int)) ∧ True ∧ True ∧ True ∧ (rcI l u q y (p1.1 + 1, (p1.2.1.set (fdI l p1.2.1 (p1.2.2 : Int)).toNat true), ((l.getD (fdI l p1.2.1 (p1.2.2 : Int)).toNat (⟨0, 0, 0⟩ : GAtom)).b)).1 (p1.1 + 1, (p1.2.1.set (fdI l p1.2.1 (p1.2.2 : Int)).toNat true), ((l.getD (fdI l p1.2.1 (p1.2.2 : Int)).toNat (⟨0, 0, 0⟩ : GAtom)).b)).2.1 (p1.1 + 1, (p1.2.1.set (fdI l p1.2.1 (p1.2.2 : Int)).toNat true), ((l.getD (fdI l p1.2.1 (p1.2.2 : Int)).toNat (⟨0, 0, 0⟩ : GAtom)).b)).2.2) ∧ (7 - (p1.1 + 1, (p1.2.1.set (fdI l p1.2.1 (p1.2.2 : Int)).toNat true), ((l.getD (fdI l p1.2.1 (p1.2.2 : Int)).toNat (⟨0, 0, 0⟩ : GAtom)).b)).1 < 7 - p1.1) ∧ TT ∧ (RL [.s (.c (.d (.arr .atom l))), .s (.c (.d (.val (.int .i64 y))))]) ∧ (([.s (.c (.d (.val (.int .i64 ((l.getD (fdI l p1.2.1 (p1.2.2 : Int)).toNat (⟨0, 0, 0⟩ : GAtom)).b)))))] : List S) = [.s (.c (.d (.val (.int .i64 ((p1.1 + 1, (p1.2.1.set (fdI l p1.2.1 (p1.2.2 : Int)).toNat true), ((l.getD (fdI l p1.2.1 (p1.2.2 : Int)).toNat (⟨0, 0, 0⟩ : GAtom)).b)).2.2 : Int)))))]) ∧ (RM []) ∧ (RM []) ∧ (((some (p1.2.1.set (fdI l p1.2.1 (p1.2.2 : Int)).toNat true) : Option (List Bool)) = some ((p1.1 + 1, (p1.2.1.set (fdI l p1.2.1 (p1.2.2 : Int)).toNat true), ((l.getD (fdI l p1.2.1 (p1.2.2 : Int)).toNat (⟨0, 0, 0⟩ : GAtom)).b)).2.1)) ∧ True) ∧ TT)))
def VC_l6Chain (l : List GAtom) (u : List Bool) (q : Int) (y : Int) (k : Nat) : Prop := True ∧ ((rcI l u q y (0, u, q).1 (0, u, q).2.1 (0, u, q).2.2) ∧ TT ∧ (RL [.s (.c (.d (.arr .atom l))), .s (.c (.d (.val (.int .i64 y))))]) ∧ (([.s (.c (.d (.val (.int .i64 q))))] : List S) = [.s (.c (.d (.val (.int .i64 ((0, u, q).2.2 : Int)))))]) ∧ (RM []) ∧ (RM []) ∧ (((some u : Option (List Bool)) = some ((0, u, q).2.1)) ∧ True) ∧ TT) ∧ (∀ p1 : Nat × List Bool × Int, (rcI l u q y p1.1 p1.2.1 p1.2.2) → True ∧ True ∧ True ∧ (vcIf ((p1.2.2 : Int) != y) (True ∧ True ∧ True ∧ ((l.length ≤ 1048576 ∧ p1.2.1.length = l.length) ∧ True ∧ True) ∧ True ∧ True ∧ True ∧ (vcIf (decide ((fdI l p1.2.1 (p1.2.2 : Int)) < (0 : Int))) (True ∧ ((some [.c (.d (.val (.bool false)))] : Option (List S0)) = some [.c (.d (.val (.bool (rchB l u q y))))]) ∧ ((some p1.2.1 : Option (List Bool)) = some (rchU l u q y))) (True ∧ True ∧ (0 ≤ (fdI l p1.2.1 (p1.2.2 : Int)) ∧ (fdI l p1.2.1 (p1.2.2 : Int)) < ((l.length : Nat) : Int)) ∧ True ∧ True ∧ True ∧ (VC_l6Chain_2 l u q y k p1)))) (True ∧ ((some [.c (.d (.val (.bool true)))] : Option (List S0)) = some [.c (.d (.val (.bool (rchB l u q y))))]) ∧ ((some p1.2.1 : Option (List Bool)) = some (rchU l u q y)))))
theorem vcn_l6Chain (l : List GAtom) (u : List Bool) (q : Int) (y : Int) (k : Nat) (hp : l.length ≤ 6 ∧ u.length = l.length) : VC_l6Chain l u q y k := by
  unfold VC_l6Chain VC_l6Chain_2 VC_l6Chain_1
  simp only [cln, Nat.reduceEqDiff, Nat.reduceLeDiff, Nat.reduceAdd]
  have hl := hp.1
  all_goals (try simp only [opn])
  all_goals (repeat' (first | apply And.intro | intro _))
  all_goals (try (have h7 := ‹rcI _ _ _ _ _ _ _›))
  all_goals (first | omega | rfl | assumption | exact rcI_zero hp.2 | exact h7.len | (simp_all; done) | skip)
  all_goals (first
   | exact (rc_end h7 hl (by assumption)).1.symm | exact (rc_end h7 hl (by assumption)).2.symm
   | exact (rc_no h7 hl (by assumption) (by assumption)).1.symm | exact (rc_no h7 hl (by assumption) (by assumption)).2.symm
   | exact (rc_open h7 hl (by assumption) (by assumption) (by assumption) (by assumption) (cl3 (by assumption) (by assumption))).1.symm
   | exact (rc_open h7 hl (by assumption) (by assumption) (by assumption) (by assumption) (cl3 (by assumption) (by assumption))).2.symm
   | exact (rc_go h7 hl (by assumption) (by assumption) (.inr (.inl (by assumption)))).1
   | exact (rc_go h7 hl (by assumption) (by assumption) (.inl (by assumption))).1
   | exact (rc_go h7 hl (by assumption) (by assumption) (.inr (.inr (cl1 (by assumption))))).1
   | exact (rc_go h7 hl (by assumption) (by assumption) (.inr (.inr (cl2 (by assumption))))).1
   | (have h := (rc_go h7 hl (by assumption) (by assumption) (.inr (.inl (by assumption)))).2; omega)
   | (have h := (rc_go h7 hl (by assumption) (by assumption) (.inl (by assumption))).2; omega)
   | (have h := (rc_go h7 hl (by assumption) (by assumption) (.inr (.inr (cl1 (by assumption))))).2; omega)
   | (have h := (rc_go h7 hl (by assumption) (by assumption) (.inr (.inr (cl2 (by assumption))))).2; omega)
   | (have h9 := fd_bd ‹¬ fdI _ _ _ < 0›; have h10 := h7.len; omega)
   | skip)
theorem vce_l6Chain (l : List GAtom) (u : List Bool) (q : Int) (y : Int) (k : Nat) : VC_l6Chain l u q y k = vcR tab (lookF L_l6Chain) (lookP P_l6Chain) (fun _ => false) (an_l6Chain l u q y) (fun _ => []) [7] (bodyOf Try.f154) (isoSt m_l6Chain (l, ()) u (q, y, ())) (isoQ tab m_l6Chain Try.f154.results.toList (l, ()) u (q, y, ())) := by kernel_rfl
theorem ptok_l6Chain : PTOk Try.prog E 154 pt_l6Chain :=
  mut_ok (l := L_l6Chain) (lp := P_l6Chain) (hp := fun _ => false) (perm := fun _ => []) tabOk mix ⟨ok_l6Find, ok_l5Begins, trivial⟩ trivial Try.func154 rfl (by kernel_rfl) rfl (by decide) (by kernel_rfl) (anns := fun x l y => an_l6Chain x.1 l y.1 y.2.1) (fun ⟨l, _⟩ u ⟨q, y, _⟩ hp => (vce_l6Chain l u q y 0).mp (vcn_l6Chain l u q y 0 hp))
end Go.Proofs.Ytfoioficiffgkaa

namespace Go.Proofs.Ytfoioficiffgkaa
open Go.SE Go.RowKit
set_option linter.unusedSimpArgs false
set_option linter.unusedVariables false
set_option maxHeartbeats 1000000
set_option maxRecDepth 100000
/-! l6Match -/
abbrev c_l6Match : Con := ⟨[.sl .atom, .sl .atom], [.bool], fun (l, g, _) => l.length ≤ 6 ∧ g.length ≤ 6, .inl fun (l, g, _) => (rmM l g, ()), fun _ => 0⟩
abbrev L_l6Match : List (FuncId × Con) := [(155, c_l6Find)]
abbrev P_l6Match : List (FuncId × PT) := [(154, pt_l6Chain)]
def hp_l6Match : Nat → Bool
  | 6 => true
  | _ => false
def VC_l6Match_1 (l : List GAtom) (g : List GAtom) (k : Nat) (p1 : Nat × List Bool) : Prop := (True ∧ (vcIf (((g.getD (p1.1 : Int).toNat (⟨0, 0, 0⟩ : GAtom)).kind) == (2 : Int)) (TT ∧ True ∧ True ∧ True ∧ True ∧ (0 ≤ (p1.1 : Int) ∧ (p1.1 : Int) < ((g.length : Nat) : Int)) ∧ True ∧ True ∧ True ∧ True ∧ (0 ≤ (p1.1 : Int) ∧ (p1.1 : Int) < ((g.length : Nat) : Int)) ∧ True ∧ True ∧ TF ∧ TF ∧ True ∧ True ∧ (l.length ≤ 6 ∧ p1.2.length = l.length) ∧ True ∧ (vcIf (!(rchB l p1.2 ((g.getD (p1.1 : Int).toNat (⟨0, 0, 0⟩ : GAtom)).a) ((g.getD (p1.1 : Int).toNat (⟨0, 0, 0⟩ : GAtom)).b))) (TT ∧ True ∧ ((none : Option Nat) = none) ∧ (((false, ()) : Bool × Unit) = (rmM l g, ())) ∧ True ∧ True ∧ True ∧ True ∧ TF) (TT ∧ True ∧ (inK .i64 ((p1.1 : Int) + (1 : Int))) ∧ True ∧ ((p1.1 + 1, (rchU l p1.2 ((g.getD (p1.1 : Int).toNat (⟨0, 0, 0⟩ : GAtom)).a) ((g.getD (p1.1 : Int).toNat (⟨0, 0, 0⟩ : GAtom)).b))).1 ≤ g.length ∧ rmI l g (p1.1 + 1, (rchU l p1.2 ((g.getD (p1.1 : Int).toNat (⟨0, 0, 0⟩ : GAtom)).a) ((g.getD (p1.1 : Int).toNat (⟨0, 0, 0⟩ : GAtom)).b))).1 (p1.1 + 1, (rchU l p1.2 ((g.getD (p1.1 : Int).toNat (⟨0, 0, 0⟩ : GAtom)).a) ((g.getD (p1.1 : Int).toNat (⟨0, 0, 0⟩ : GAtom)).b))).2) ∧ ((false : Bool) = false) ∧ (g.length - (p1.1 + 1, (rchU l p1.2 ((g.getD (p1.1 : Int).toNat (⟨0, 0, 0⟩ : GAtom)).a) ((g.getD (p1.1 : Int).toNat (⟨0, 0, 0⟩ : GAtom)).b))).1 < g.length - p1.1) ∧ TT ∧ (RL [.s (.c (.d (.arr .atom l))), .s (.c (.d (.arr .atom g)))]) ∧ (([.s (.c (.d (.val (.int .i64 ((p1.1 : Int) + (1 : Int))))))] : List S) = [.s (.c (.d (.val (.int .i64 ((p1.1 + 1, (rchU l p1.2 ((g.getD (p1.1 : Int).toNat (⟨0, 0, 0⟩ : GAtom)).a) ((g.getD (p1.1 : Int).toNat (⟨0, 0, 0⟩ : GAtom)).b))).1 : Int)))))]) ∧ (RM []) ∧ (RM []) ∧ (((some (rchU l p1.2 ((g.getD (p1.1 : Int).toNat (⟨0, 0, 0⟩ : GAtom)).a) ((g.getD (p1.1 : Int).toNat (⟨0, 0, 0⟩ : GAtom)).b)) : Option (List Bool)) = some ((p1.1 + 1, (rchU l p1.2 ((g.getD (p1.1 : Int).toNat (⟨0, 0, 0⟩ : GAtom)).a) ((g.getD (p1.1 : Int).toNat (⟨0, 0, 0⟩ : GAtom)).b))).2)) ∧ True) ∧ TT))) (TT ∧ True ∧ True ∧ True ∧ True ∧ (0 ≤ (p1.1 : Int) ∧ (p1.1 : Int) < ((g.length : Nat) : Int)) ∧ True ∧ True ∧ ((l.length ≤ 1048576 ∧ p1.2.length = l.length) ∧ True ∧ True) ∧ True ∧ TT ∧ True ∧ True ∧ True ∧ (vcIf (decide ((fdI l p1.2 ((g.getD (p1.1 : Int).toNat (⟨0, 0, 0⟩ : GAtom)).a)) < (0 : Int))) (True ∧ TT ∧ True ∧ ((none : Option Nat) = none) ∧ (((false, ()) : Bool × Unit) = (rmM l g, ())) ∧ True ∧ True ∧ True ∧ True ∧ TF) (True ∧ True ∧ (0 ≤ (fdI l p1.2 ((g.getD (p1.1 : Int).toNat (⟨0, 0, 0⟩ : GAtom)).a)) ∧ (fdI l p1.2 ((g.getD (p1.1 : Int).toNat (⟨0, 0, 0⟩ : GAtom)).a)) < ((l.length : Nat) : Int)) ∧ True ∧ True ∧ True ∧ (0 ≤ (p1.1 : Int) ∧ (p1.1 : Int) < ((g.length : Nat) : Int)) ∧ True ∧ True ∧ True ∧ (vcIf (!((((l.getD (fdI l p1.2 ((g.getD (p1.1 : Int).toNat (⟨0, 0, 0⟩ : GAtom)).a)).toNat (⟨0, 0, 0⟩ : GAtom)).kind) == ((g.getD (p1.1 : Int).toNat (⟨0, 0, 0⟩ : GAtom)).kind)) && ((((l.getD (fdI l p1.2 ((g.getD (p1.1 : Int).toNat (⟨0, 0, 0⟩ : GAtom)).a)).toNat (⟨0, 0, 0⟩ : GAtom)).a) == ((g.getD (p1.1 : Int).toNat (⟨0, 0, 0⟩ : GAtom)).a)) && ((((l.getD (fdI l p1.2 ((g.getD (p1.1 : Int).toNat (⟨0, 0, 0⟩ : GAtom)).a)).toNat (⟨0, 0, 0⟩ : GAtom)).b) == ((g.getD (p1.1 : Int).toNat (⟨0, 0, 0⟩ : GAtom)).b)) && true)))) (TT ∧ True ∧ ((none : Option Nat) = none) ∧ (((false, ()) : Bool × Unit) = (rmM l g, ())) ∧ True ∧ True ∧ True ∧ True ∧ TF) (TT ∧ True ∧ True ∧ (0 ≤ (fdI l p1.2 ((g.getD (p1.1 : Int).toNat (⟨0, 0, 0⟩ : GAtom)).a)) ∧ (fdI l p1.2 ((g.getD (p1.1 : Int).toNat (⟨0, 0, 0⟩ : GAtom)).a)) < ((p1.2.length : Nat) : Int)) ∧ (TF ∧ TF ∧ True ∧ ((7 : Nat) ∉ ([] : List Nat))) ∧ TT ∧ True ∧ (inK .i64 ((p1.1 : Int) + (1 : Int))) ∧ True ∧ ((p1.1 + 1, (p1.2.set (fdI l p1.2 ((g.getD (p1.1 : Int).toNat (⟨0, 0, 0⟩ : GAtom)).a)).toNat true)).1 ≤ g.length ∧ rmI l g (p1.1 + 1, (p1.2.set (fdI l p1.2 ((g.getD (p1.1 : Int).toNat (⟨0, 0, 0⟩ : GAtom)).a)).toNat true)).1 (p1.1 + 1, (p1.2.set (fdI l p1.2 ((g.getD (p1.1 : Int).toNat (⟨0, 0, 0⟩ : GAtom)).a)).toNat true)).2) ∧ ((false : Bool) = false) ∧ (g.length - (p1.1 + 1, (p1.2.set (fdI l p1.2 ((g.getD (p1.1 : Int).toNat (⟨0, 0, 0⟩ : GAtom)).a)).toNat true)).1 < g.length - p1.1) ∧ TT ∧ (RL [.s (.c (.d (.arr .atom l))), .s (.c (.d (.arr .atom g)))]) ∧ (([.s (.c (.d (.val (.int .i64 ((p1.1 : Int) + (1 : Int))))))] : List S) = [.s (.c (.d (.val (.int .i64 ((p1.1 + 1, (p1.2.set (fdI l p1.2 ((g.getD (p1.1 : Int).toNat (⟨0, 0, 0⟩ : GAtom)).a)).toNat true)).1 : Int)))))]) ∧ (RM []) ∧ (RM []) ∧ (((some (p1.2.set (fdI l p1.2 ((g.getD (p1.1 : Int).toNat (⟨0, 0, 0⟩ : GAtom)).a)).toNat true) : Option (List Bool)) = some ((p1.1 + 1, (p1.2.set (fdI l p1.2 ((g.getD (p1.1 : Int).toNat (⟨0, 0, 0⟩ : GAtom)).a)).toNat true)).2)) ∧ True) ∧ TT)))))))
def VC_l6Match (l : List GAtom) (g : List GAtom) (k : Nat) : Prop := TT ∧ True ∧ TT ∧ True ∧ True ∧ (TN ∧ (0 ≤ ((l.length : Nat) : Int) ∧ ((l.length : Nat) : Int) ≤ ((l.length : Nat) : Int) ∧ ((l.length : Nat) : Int) ≤ 4294967296)) ∧ True ∧ TT ∧ True ∧ (((0, (List.replicate l.length false)).1 ≤ g.length ∧ rmI l g (0, (List.replicate l.length false)).1 (0, (List.replicate l.length false)).2) ∧ ((false : Bool) = false) ∧ TT ∧ (RL [.s (.c (.d (.arr .atom l))), .s (.c (.d (.arr .atom g)))]) ∧ (([.s (.c (.d (.val (.int .i64 (0 : Int)))))] : List S) = [.s (.c (.d (.val (.int .i64 ((0, (List.replicate l.length false)).1 : Int)))))]) ∧ (RM []) ∧ (RM []) ∧ (((some (List.replicate l.length false) : Option (List Bool)) = some ((0, (List.replicate l.length false)).2)) ∧ True) ∧ TT) ∧ (∀ p1 : Nat × List Bool, (p1.1 ≤ g.length ∧ rmI l g p1.1 p1.2) → TT ∧ True ∧ True ∧ True ∧ True ∧ (vcIf (decide ((p1.1 : Int) < ((g.length : Nat) : Int))) (TT ∧ True ∧ True ∧ (0 ≤ (p1.1 : Int) ∧ (p1.1 : Int) < ((g.length : Nat) : Int)) ∧ True ∧ True ∧ (VC_l6Match_1 l g k p1)) (TT ∧ True ∧ ((0 ≤ (p1.2).length ∧ (List.take 0 (p1.2)).all id = true) ∧ ((false : Bool) = false) ∧ TT ∧ (RL [.s (.c (.own 7))]) ∧ (([.s (.c (.d (.val (.int .i64 (0 : Int)))))] : List S) = [.s (.c (.d (.val (.int .i64 ((0 : Nat) : Int)))))]) ∧ (RM [some (.sl 7 .bool p1.2)]) ∧ (RM []) ∧ True ∧ TT) ∧ (∀ j2 : Nat, (j2 ≤ (p1.2).length ∧ (List.take j2 (p1.2)).all id = true) → TT ∧ True ∧ True ∧ True ∧ True ∧ (vcIf (decide (((j2 : Nat) : Int) < ((p1.2.length : Nat) : Int))) (TT ∧ True ∧ True ∧ (0 ≤ ((j2 : Nat) : Int) ∧ ((j2 : Nat) : Int) < ((p1.2.length : Nat) : Int)) ∧ True ∧ True ∧ (vcIf (!(p1.2.getD j2 false)) (TT ∧ True ∧ ((none : Option Nat) = none) ∧ (((false, ()) : Bool × Unit) = (rmM l g, ())) ∧ True ∧ True ∧ True ∧ True ∧ TF) (TT ∧ True ∧ (inK .i64 (((j2 : Nat) : Int) + (1 : Int))) ∧ True ∧ ((j2 + 1) ≤ (p1.2).length ∧ (List.take (j2 + 1) (p1.2)).all id = true) ∧ ((false : Bool) = false) ∧ ((p1.2).length - (j2 + 1) < (p1.2).length - j2) ∧ TT ∧ (RL [.s (.c (.own 7))]) ∧ (([.s (.c (.d (.val (.int .i64 (((j2 : Nat) : Int) + (1 : Int))))))] : List S) = [.s (.c (.d (.val (.int .i64 (((j2 + 1) : Nat) : Int)))))]) ∧ (RM [some (.sl 7 .bool p1.2)]) ∧ (RM []) ∧ True ∧ TT))) (TT ∧ True ∧ ((none : Option Nat) = none) ∧ (((true, ()) : Bool × Unit) = (rmM l g, ())) ∧ True ∧ True ∧ True ∧ True ∧ TF))))))
theorem vcn_l6Match (l : List GAtom) (g : List GAtom) (k : Nat) (hp : l.length ≤ 6 ∧ g.length ≤ 6) : VC_l6Match l g k := by
  unfold VC_l6Match VC_l6Match_1
  simp only [cln, Nat.reduceEqDiff, Nat.reduceLeDiff, Nat.reduceAdd]
  have hl := hp.1
  simp only [atom_beq]
  all_goals (try simp only [opn])
  all_goals (repeat' (first | apply And.intro | intro _))
  all_goals (repeat (cases ‹_ ∧ _›))
  all_goals (try (have h7 := ‹rmI _ _ _ _›))
  all_goals (first | omega | rfl | assumption | exact rmI_zero | exact h7.len | (simp_all; done) | skip)
  all_goals (first
   | exact rm_bad1 h7 (by assumption) (by assumption) (by assumption)
   | exact rm_go1 h7 (by assumption) (by assumption) (by assumption)
   | exact rm_bad2 h7 (by assumption) (by assumption) (by assumption)
   | exact rm_bad3 h7 (by assumption) (by assumption) (by assumption) (by assumption)
   | exact rm_go2 h7 (by assumption) (by assumption) (by assumption) (by assumption)
   | (have h9 := fd_bd ‹¬ fdI _ _ _ < 0›; have h10 := h7.len; omega)
   | exact rm_all h7 (by assumption) (by assumption) (by assumption)
   | exact rm_yes h7 (by assumption) (by assumption) (by assumption)
   | (have h10 := h7.len; omega)
   | exact id_step (by assumption) (by assumption) (by assumption)
   | skip)
def an_l6Match (l : List GAtom) (g : List GAtom) : Nat → St → Bool → Option (AnnY Bool)
  | 3, se, _ => some ⟨{ α := Nat × List Bool, ok := fun p => p.1 ≤ g.length ∧ rmI l g p.1 p.2, mu := fun p => g.length - p.1, i0 := fun st => (0, slAt .bool st (.slot 5)), nx := fun p st => (p.1 + 1, slAt .bool st (.slot 5)), live := [0, 1], sets := fun p => [(6, sv (.int .i64 p.1))], mids := [], blks := fun p => [], owns := fun p => [⟨7, .slot 5, .bool, p.2⟩], rd := fun r _ => r, base := 100000 }, fun _ => false⟩
  | 13, se, _ => some ⟨{ α := Nat, ok := fun j => j ≤ (slAt .bool se (.slot 5)).length ∧ (List.take j (slAt .bool se (.slot 5))).all id = true, mu := fun j => (slAt .bool se (.slot 5)).length - j, i0 := fun _ => 0, nx := fun a _ => (fun j => j + 1) a, live := [5], sets := fun j => [(8, sv (.int .i64 j))], mids := [7], blks := fun j => [], owns := fun j => [], rd := fun r _ => r, base := 200000 }, fun _ => false⟩
  | _, _, _ => none
theorem vce_l6Match (l : List GAtom) (g : List GAtom) (k : Nat) : VC_l6Match l g k = vcY tab (lookF L_l6Match) (lookP P_l6Match) noSpB ((fun _ _ _ _ _ _ => none)) (fun b => !b) hp_l6Match (fun _ => none) (an_l6Match l g) (fun _ => []) (bodyOf Try.f125) (entry (encs c_l6Match.aks (l, g, ())) none) false (retR tab c_l6Match Try.f125.results.toList (l, g, ())) := by kernel_rfl
abbrev spc_l6Match (l : List GAtom) (g : List GAtom) : SpCode Bool := (fun _ _ _ _ _ _ => none)
theorem spcok_l6Match (l : List GAtom) (g : List GAtom) (wE : World) (ro0 : Nat → Option (Array Value)) (ρ : Nat) : SpcOk Fence.wide 0 Try.prog E (AC wE ro0 ρ) Try.f125.ntmps (spc_l6Match l g) :=
  fun _ _ _ _ _ _ _ h => by cases h
theorem vcr_l6Match : ∀ x : Args c_l6Match.aks, c_l6Match.pre x → vcY tab (lookF L_l6Match) (lookP P_l6Match) noSpB (spc_l6Match x.1 x.2.1) (fun b => !b) hp_l6Match (fun _ => none) (an_l6Match x.1 x.2.1) (fun _ => []) (bodyOf Try.f125) (entry (encs c_l6Match.aks x) none) false (retR tab c_l6Match Try.f125.results.toList x) :=
  fun ⟨l, g, _⟩ hp => (vce_l6Match l g 0).mp (vcn_l6Match l g 0 hp)
theorem ok_l6Match : FnOk Try.prog E 125 c_l6Match :=
  fnR_ok (con := c_l6Match) (fn := Try.f125) (l := L_l6Match) (lp := P_l6Match) (hp := hp_l6Match) (gcs := fun _ => none) (perm := fun _ => []) (spc := fun x => spc_l6Match x.1 x.2.1) (anns := fun x => (an_l6Match x.1 x.2.1)) tabOk mix ⟨ok_l6Find, trivial⟩ ⟨ptok_l6Chain, trivial⟩ rfl Try.func125 rfl (by kernel_rfl) (by decide) (by kernel_rfl) (fun x _ => spcok_l6Match x.1 x.2.1) vcr_l6Match tot_fn
end Go.Proofs.Ytfoioficiffgkaa

namespace Go.Proofs.Ytfoioficiffgkaa
open Go.SE Go.RowKit
set_option linter.unusedSimpArgs false
set_option linter.unusedVariables false
set_option maxHeartbeats 1000000
set_option maxRecDepth 100000
/-! l6Case -/
abbrev c_l6Case : Con := ⟨[.asn, .asn, .sl .int], [.bool], fun (a, b, c, _) => asV a = true ∧ asV b = true ∧ c.length = 9, .inl fun (a, b, c, _) => (EC a b c, ()), fun _ => 0⟩
abbrev L_l6Case : List (FuncId × Con) := [(122, c_l5Fits), (124, c_l5Filled), (125, c_l6Match)]
abbrev P_l6Case : List (FuncId × PT) := []
def VC_l6Case (a : GAsn) (b : GAsn) (c : List Int) (k : Nat) : Prop := TN ∧ TN ∧ True ∧ True ∧ True ∧ True ∧ ((b.facts.length ≤ 1048576 ∧ b.facts.all fV = true ∧ c.length = 9) ∧ True ∧ True) ∧ True ∧ (vcIf (sFit b.facts c) (True ∧ True ∧ True ∧ ((a.atoms.length ≤ 1048576 ∧ a.atoms.all atV = true ∧ c.length = 9) ∧ True ∧ TN ∧ True) ∧ True ∧ True ∧ True ∧ ((b.atoms.length ≤ 1048576 ∧ b.atoms.all atV = true ∧ c.length = 9) ∧ True ∧ TN ∧ True) ∧ (((fL c a.atoms).length ≤ 6 ∧ (fL c b.atoms).length ≤ 6) ∧ True ∧ True) ∧ True ∧ True ∧ ((((rmM (fL c a.atoms) (fL c b.atoms)), ()) : Bool × Unit) = (EC a b c, ())) ∧ True ∧ True ∧ True ∧ True ∧ TF) (True ∧ True ∧ (((false, ()) : Bool × Unit) = (EC a b c, ())) ∧ True ∧ True ∧ True ∧ True ∧ TF))
theorem vcn_l6Case (a : GAsn) (b : GAsn) (c : List Int) (k : Nat) (hp : asV a = true ∧ asV b = true ∧ c.length = 9) : VC_l6Case a b c k := by
  unfold VC_l6Case
  simp only [cln, Nat.reduceEqDiff, Nat.reduceLeDiff, Nat.reduceAdd]
  have hA := asV_facts hp.1
  have hB := asV_facts hp.2.1
  have hLa := Nat.le_trans (fL_len c a.atoms) hA.2.2.2
  have hLb := Nat.le_trans (fL_len c b.atoms) hB.2.2.2
  all_goals (try simp only [opn])
  all_goals (repeat' (first | apply And.intro | intro _))
  all_goals (first | omega | rfl | assumption | exact hA.2.2.1 | exact hB.2.2.1 | exact hB.1 | exact hp.2.2 | (unfold EC; simp_all; done) | skip)
theorem vce_l6Case (a : GAsn) (b : GAsn) (c : List Int) (k : Nat) : VC_l6Case a b c k = vcQ tab (lookF L_l6Case) (lookP P_l6Case) (fun _ => false) (fun _ => none) (fun _ _ => none) (fun _ => []) (bodyOf Try.f68) (entry (encs c_l6Case.aks (a, b, c, ())) (rdOf false k)) (retOk tab c_l6Case Try.f68.results.toList (a, b, c, ()) k) := by kernel_rfl
theorem ok_l6Case : FnOk Try.prog E 68 c_l6Case :=
  fn_okQ (l := L_l6Case) (lp := P_l6Case) (hp := fun _ => false) (gcs := fun _ => none) (perm := fun _ => []) tabOk mix ⟨ok_l5Fits, ok_l5Filled, ok_l6Match, trivial⟩ trivial Try.func68 rfl (by kernel_rfl) (by decide) (by kernel_rfl) (anns := fun x _ => fun _ _ => none) (fun ⟨a, b, c, _⟩ k hp _ => (vce_l6Case a b c k).mp (vcn_l6Case a b c k hp)) tot_fn
end Go.Proofs.Ytfoioficiffgkaa

namespace Go.Proofs.Ytfoioficiffgkaa
open Go.SE Go.RowKit
set_option linter.unusedSimpArgs false
set_option linter.unusedVariables false
set_option maxHeartbeats 1000000
set_option maxRecDepth 100000
/-! sEntailsCase -/
abbrev c_sEntailsCase : Con := ⟨[.asn, .asn, .sl .int], [.bool], fun (a, b, c, _) => a.facts.length ≤ 281474976710656 ∧ a.atoms.length ≤ 281474976710656 ∧ b.facts.length ≤ 281474976710656 ∧ b.atoms.length ≤ 281474976710656 ∧ c.length ≤ 281474976710656, .inl fun (a, b, c, _) => (ECs a b c, ()), fun _ => 0⟩
abbrev L_sEntailsCase : List (FuncId × Con) := [(56, c_sAssertionValid), (66, c_l6IsCase), (67, c_l6Both), (68, c_l6Case)]
abbrev P_sEntailsCase : List (FuncId × PT) := []
def VC_sEntailsCase (a : GAsn) (b : GAsn) (c : List Int) (k : Nat) : Prop := TN ∧ TN ∧ True ∧ True ∧ ((a.facts.length ≤ 281474976710656 ∧ a.atoms.length ≤ 281474976710656) ∧ True ∧ True) ∧ True ∧ (vcIf (asV a) (True ∧ ((b.facts.length ≤ 281474976710656 ∧ b.atoms.length ≤ 281474976710656) ∧ True ∧ True) ∧ True ∧ True ∧ (vcIf (asV b) (True ∧ True ∧ True ∧ ((asV a = true ∧ asV b = true) ∧ True ∧ TN ∧ True) ∧ True ∧ ((asV a = true ∧ (fl9 (fun t => occ a t || occ b t)).length = 9 ∧ c.length ≤ 281474976710656) ∧ True ∧ True) ∧ True ∧ True ∧ (vcIf (isC a (fl9 (fun t => occ a t || occ b t)) c) (True ∧ True ∧ True ∧ ((asV a = true ∧ asV b = true ∧ c.length = 9) ∧ True ∧ True) ∧ True ∧ True ∧ ((((EC a b c), ()) : Bool × Unit) = (ECs a b c, ())) ∧ True ∧ True ∧ True ∧ True ∧ TF) (True ∧ True ∧ (((false, ()) : Bool × Unit) = (ECs a b c, ())) ∧ True ∧ True ∧ True ∧ True ∧ TF))) (True ∧ True ∧ True ∧ True ∧ (((false, ()) : Bool × Unit) = (ECs a b c, ())) ∧ True ∧ True ∧ True ∧ True ∧ TF))) (True ∧ True ∧ True ∧ True ∧ True ∧ True ∧ (((false, ()) : Bool × Unit) = (ECs a b c, ())) ∧ True ∧ True ∧ True ∧ True ∧ TF))
theorem vcn_sEntailsCase (a : GAsn) (b : GAsn) (c : List Int) (k : Nat) (hp : a.facts.length ≤ 281474976710656 ∧ a.atoms.length ≤ 281474976710656 ∧ b.facts.length ≤ 281474976710656 ∧ b.atoms.length ≤ 281474976710656 ∧ c.length ≤ 281474976710656) : VC_sEntailsCase a b c k := by
  unfold VC_sEntailsCase
  simp only [cln, Nat.reduceEqDiff, Nat.reduceLeDiff, Nat.reduceAdd]
  all_goals (try simp only [opn])
  all_goals (repeat' (first | apply And.intro | intro _))
  all_goals (repeat (cases ‹_ ∧ _›))
  all_goals (first | (exfalso; contradiction) | omega | with_reducible assumption | skip)
  all_goals (first
   | with_reducible exact es_n1 (by assumption) | with_reducible exact es_n2 (by assumption) | with_reducible exact es_n3 (by assumption) (by assumption)
   | with_reducible exact es_s (by assumption) (by assumption) (by assumption) | with_reducible exact es_s0 (by assumption) (by assumption) (by assumption)
   | with_reducible exact isC_len (by assumption) | with_reducible exact fl9_len _
   | with_reducible exact es_y (by assumption) (by assumption) (by assumption) (by assumption) (by assumption) (by assumption)
   | with_reducible exact (tsA_bd _).1 | with_reducible exact (tsA_bd _).2
   | (simp_all; done)
   | skip)
theorem vce_sEntailsCase (a : GAsn) (b : GAsn) (c : List Int) (k : Nat) : VC_sEntailsCase a b c k = vcQ tab (lookF L_sEntailsCase) (lookP P_sEntailsCase) (fun _ => false) (fun _ => none) (fun _ _ => none) (fun _ => []) (bodyOf Try.f24) (entry (encs c_sEntailsCase.aks (a, b, c, ())) (rdOf false k)) (retOk tab c_sEntailsCase Try.f24.results.toList (a, b, c, ()) k) := by kernel_rfl
theorem ok_sEntailsCase : FnOk Try.prog E 24 c_sEntailsCase :=
  fn_okQ (l := L_sEntailsCase) (lp := P_sEntailsCase) (hp := fun _ => false) (gcs := fun _ => none) (perm := fun _ => []) tabOk mix ⟨ok_sAssertionValid, ok_l6IsCase, ok_l6Both, ok_l6Case, trivial⟩ trivial Try.func24 rfl (by kernel_rfl) (by decide) (by kernel_rfl) (anns := fun x _ => fun _ _ => none) (fun ⟨a, b, c, _⟩ k hp _ => (vce_sEntailsCase a b c k).mp (vcn_sEntailsCase a b c k hp)) tot_fn
end Go.Proofs.Ytfoioficiffgkaa

namespace Go.Proofs.Ytfoioficiffgkaa
open Go.SE Go.RowKit
set_option linter.unusedSimpArgs false
set_option linter.unusedVariables false
set_option maxHeartbeats 1000000
set_option maxRecDepth 100000
/-! toFact -/
abbrev c_toFact : Con := ⟨[.fact], [.fact], fun _ => True, .inl fun (f, _) => (f, ()), fun _ => 0⟩
abbrev L_toFact : List (FuncId × Con) := []
abbrev P_toFact : List (FuncId × PT) := []
def VC_toFact (f : GFact) (k : Nat) : Prop := TN ∧ (TN ∧ True) ∧ (TN ∧ True) ∧ True ∧ True ∧ True ∧ (TF ∧ TF) ∧ True ∧ True ∧ True ∧ (TF ∧ TF) ∧ True ∧ True ∧ True ∧ (TF ∧ TF) ∧ True ∧ (TF ∧ TF) ∧ (((f, ()) : GFact × Unit) = (f, ())) ∧ True ∧ True ∧ True ∧ True ∧ TF
theorem vcn_toFact (f : GFact) (k : Nat) : VC_toFact f k := by
  unfold VC_toFact
  simp only [cln, Nat.reduceEqDiff, Nat.reduceLeDiff, Nat.reduceAdd]
  all_goals (try simp only [opn])
  all_goals (repeat' (first | apply And.intro | intro _))
  all_goals (first | omega | (simp_all; done) | grind [])
theorem vce_toFact (f : GFact) (k : Nat) : VC_toFact f k = vcQ tab (lookF L_toFact) (lookP P_toFact) (fun _ => false) (fun _ => none) (fun _ _ => none) (fun _ => []) (bodyOf Try.f126) (entry (encs c_toFact.aks (f, ())) (rdOf false k)) (retOk tab c_toFact Try.f126.results.toList (f, ()) k) := by kernel_rfl
theorem ok_toFact : FnOk Try.prog E 126 c_toFact :=
  fn_okQ (l := L_toFact) (lp := P_toFact) (hp := fun _ => false) (gcs := fun _ => none) (perm := fun _ => []) tabOk mix trivial trivial Try.func126 rfl (by kernel_rfl) (by decide) (by kernel_rfl) (anns := fun x _ => fun _ _ => none) (fun ⟨f, _⟩ k _ _ => (vce_toFact f k).mp (vcn_toFact f k)) tot_fn
end Go.Proofs.Ytfoioficiffgkaa

namespace Go.Proofs.Ytfoioficiffgkaa
open Go.SE Go.RowKit
set_option linter.unusedSimpArgs false
set_option linter.unusedVariables false
set_option maxHeartbeats 1000000
set_option maxRecDepth 100000
/-! toFactS -/
abbrev c_toFactS : Con := ⟨[.sl .fact], [.sl .fact], fun (l, _) => l.length ≤ 1048576, .inl fun (l, _) => (l, ()), fun _ => 0⟩
abbrev L_toFactS : List (FuncId × Con) := [(126, c_toFact)]
abbrev P_toFactS : List (FuncId × PT) := []
def an_toFactS (l : List GFact) : Nat → St → Option Ann
  | 3, se => some { α := Nat, ok := fun i => i ≤ l.length, mu := fun i => l.length - i, i0 := fun _ => 0, nx := fun a _ => (fun i => i + 1) a, live := [0, 2], sets := fun i => [(4, sv (.int .i64 i))], mids := [32], blks := fun i => [], owns := fun i => [⟨7, .slot 3, .fact, l.take i ++ List.replicate (l.length - i) (⟨false, 0, 0⟩ : GFact)⟩], rd := fun r _ => r, base := 100000 }
  | _, _ => none
def VC_toFactS (l : List GFact) (k : Nat) : Prop := TN ∧ True ∧ True ∧ (TN ∧ (0 ≤ ((l.length : Nat) : Int) ∧ ((l.length : Nat) : Int) ≤ ((l.length : Nat) : Int) ∧ ((l.length : Nat) : Int) ≤ 4294967296)) ∧ True ∧ True ∧ ((0 ≤ l.length) ∧ TT ∧ (RL [.s (.c (.d (.arr .fact l))), .s (.c (.own 32))]) ∧ (([.s (.c (.d (.val (.int .i64 (0 : Int)))))] : List S) = [.s (.c (.d (.val (.int .i64 ((0 : Nat) : Int)))))]) ∧ (RM [some (.sl 32 .fact ([] : List GFact))]) ∧ (RM []) ∧ (((some (List.replicate l.length (⟨false, 0, 0⟩ : GFact)) : Option (List GFact)) = some (l.take 0 ++ List.replicate (l.length - 0) (⟨false, 0, 0⟩ : GFact))) ∧ True) ∧ TT) ∧ (∀ i1 : Nat, (i1 ≤ l.length) → True ∧ True ∧ True ∧ True ∧ (vcIf (decide (((i1 : Nat) : Int) < ((l.length : Nat) : Int))) (True ∧ True ∧ True ∧ True ∧ (0 ≤ ((i1 : Nat) : Int) ∧ ((i1 : Nat) : Int) < ((l.length : Nat) : Int)) ∧ True ∧ (True ∧ True ∧ True) ∧ (0 ≤ ((i1 : Nat) : Int) ∧ ((i1 : Nat) : Int) < (((l.take i1 ++ List.replicate (l.length - i1) (⟨false, 0, 0⟩ : GFact)).length : Nat) : Int)) ∧ (TF ∧ TF ∧ True ∧ ((7 : Nat) ∉ ([] : List Nat))) ∧ True ∧ (inK .i64 (((i1 : Nat) : Int) + (1 : Int))) ∧ True ∧ ((i1 + 1) ≤ l.length) ∧ (l.length - (i1 + 1) < l.length - i1) ∧ TT ∧ (RL [.s (.c (.d (.arr .fact l))), .s (.c (.own 32))]) ∧ (([.s (.c (.d (.val (.int .i64 (((i1 : Nat) : Int) + (1 : Int))))))] : List S) = [.s (.c (.d (.val (.int .i64 (((i1 + 1) : Nat) : Int)))))]) ∧ (RM [some (.sl 32 .fact ([] : List GFact))]) ∧ (RM []) ∧ (((some ((l.take i1 ++ List.replicate (l.length - i1) (⟨false, 0, 0⟩ : GFact)).set i1 (l.getD i1 (⟨false, 0, 0⟩ : GFact))) : Option (List GFact)) = some (l.take (i1 + 1) ++ List.replicate (l.length - (i1 + 1)) (⟨false, 0, 0⟩ : GFact))) ∧ True) ∧ TT) (True ∧ True ∧ (((l.take i1 ++ List.replicate (l.length - i1) (⟨false, 0, 0⟩ : GFact), ()) : (List GFact) × Unit) = (l, ())) ∧ (True ∧ True) ∧ ((TF ∧ TF) ∧ True) ∧ True ∧ (True ∧ True) ∧ TF)))
theorem vcn_toFactS (l : List GFact) (k : Nat) (hp : l.length ≤ 1048576) : VC_toFactS l k := by
  unfold VC_toFactS
  simp only [cln, Nat.reduceEqDiff, Nat.reduceLeDiff, Nat.reduceAdd]
  all_goals (try simp only [opn])
  all_goals (repeat' (first | apply And.intro | intro _))
  all_goals (first | omega | (simp_all; done) | grind [copy_step, take_full])
theorem vce_toFactS (l : List GFact) (k : Nat) : VC_toFactS l k = vcQ tab (lookF L_toFactS) (lookP P_toFactS) (fun _ => false) (fun _ => none) (an_toFactS l) (fun _ => []) (bodyOf Try.f69) (entry (encs c_toFactS.aks (l, ())) (rdOf false k)) (retOk tab c_toFactS Try.f69.results.toList (l, ()) k) := by kernel_rfl
theorem ok_toFactS : FnOk Try.prog E 69 c_toFactS :=
  fn_okQ (l := L_toFactS) (lp := P_toFactS) (hp := fun _ => false) (gcs := fun _ => none) (perm := fun _ => []) tabOk mix ⟨ok_toFact, trivial⟩ trivial Try.func69 rfl (by kernel_rfl) (by decide) (by kernel_rfl) (anns := fun x _ => an_toFactS x.1) (fun ⟨l, _⟩ k hp _ => (vce_toFactS l k).mp (vcn_toFactS l k hp)) tot_fn
end Go.Proofs.Ytfoioficiffgkaa

namespace Go.Proofs.Ytfoioficiffgkaa
open Go.SE Go.RowKit
set_option linter.unusedSimpArgs false
set_option linter.unusedVariables false
set_option maxHeartbeats 1000000
set_option maxRecDepth 100000
/-! toAtom -/
abbrev c_toAtom : Con := ⟨[.atom], [.atom], fun _ => True, .inl fun (f, _) => (f, ()), fun _ => 0⟩
abbrev L_toAtom : List (FuncId × Con) := []
abbrev P_toAtom : List (FuncId × PT) := []
def VC_toAtom (f : GAtom) (k : Nat) : Prop := TN ∧ (TN ∧ True) ∧ (TN ∧ True) ∧ True ∧ True ∧ True ∧ (TF ∧ TF) ∧ True ∧ True ∧ True ∧ (TF ∧ TF) ∧ True ∧ True ∧ True ∧ (TF ∧ TF) ∧ True ∧ (TF ∧ TF) ∧ (((f, ()) : GAtom × Unit) = (f, ())) ∧ True ∧ True ∧ True ∧ True ∧ TF
theorem vcn_toAtom (f : GAtom) (k : Nat) : VC_toAtom f k := by
  unfold VC_toAtom
  simp only [cln, Nat.reduceEqDiff, Nat.reduceLeDiff, Nat.reduceAdd]
  all_goals (try simp only [opn])
  all_goals (repeat' (first | apply And.intro | intro _))
  all_goals (first | omega | (simp_all; done) | grind [])
theorem vce_toAtom (f : GAtom) (k : Nat) : VC_toAtom f k = vcQ tab (lookF L_toAtom) (lookP P_toAtom) (fun _ => false) (fun _ => none) (fun _ _ => none) (fun _ => []) (bodyOf Try.f127) (entry (encs c_toAtom.aks (f, ())) (rdOf false k)) (retOk tab c_toAtom Try.f127.results.toList (f, ()) k) := by kernel_rfl
theorem ok_toAtom : FnOk Try.prog E 127 c_toAtom :=
  fn_okQ (l := L_toAtom) (lp := P_toAtom) (hp := fun _ => false) (gcs := fun _ => none) (perm := fun _ => []) tabOk mix trivial trivial Try.func127 rfl (by kernel_rfl) (by decide) (by kernel_rfl) (anns := fun x _ => fun _ _ => none) (fun ⟨f, _⟩ k _ _ => (vce_toAtom f k).mp (vcn_toAtom f k)) tot_fn
end Go.Proofs.Ytfoioficiffgkaa
