/-
  Contracts of single functions of the program, each shown by the engine: what a call returns for arguments within the contract's bounds.
-/
import Derived.Test.YtcnjahaoecngbaaFFnExactPickAtomsa
import Derived.Test.YtcnjahaoecngbaaEe
import Derived.Test.YtcnjahaoecngbaaEf
import Derived.Test.YtcnjahaoecngbaaFFnExactPickAtomsb
set_option linter.unusedSimpArgs false
set_option linter.unusedVariables false
set_option linter.unusedSectionVars false

namespace Go.Proofs.Ytcnjahaoecngbaa
open Go.SE Go.RowKit
set_option linter.unusedSimpArgs false
set_option linter.unusedVariables false
set_option maxHeartbeats 1000000
set_option maxRecDepth 100000
/-! pickAtoms -/
abbrev c_pickAtoms : Con := ⟨[.asn, .int], [.asn], fun (a, mask, _) => a.facts.length ≤ 1048576 ∧ a.atoms.length ≤ 1048576, .inl fun (a, mask, _) => (⟨[], pkA mask a.atoms⟩, ()), fun _ => 0⟩
abbrev L_pickAtoms : List (FuncId × Con) := []
abbrev P_pickAtoms : List (FuncId × PT) := []
def an_pickAtoms (a : GAsn) (mask : Int) : Nat → St → Option Ann
  | 3, se => some { α := Nat, ok := fun i => i ≤ a.atoms.length, mu := fun i => a.atoms.length - i, i0 := fun _ => 0, nx := fun a _ => (fun i => i + 1) a, live := [1, 4, 5, 9, 10], sets := fun i => [(11, sv (.int .i64 i))], mids := [64, 65, 79], blks := fun i => [(95, .blk [.own 7, .own 8])], owns := fun i => [⟨7, .cell 95 0, .fact, []⟩, ⟨8, .cell 95 1, .atom, pk mask a.atoms i⟩], rd := fun r _ => r, base := 100000 }
  | _, _ => none
def VC_pickAtoms_1 (a : GAsn) (mask : Int) (k : Nat) : Prop := (((0 ≤ a.atoms.length) ∧ TT ∧ (RL [.s (.c (.d (.val (.int .i64 mask)))), .s (.c (.ptr 79 0)), .s (.c (.ptr 95 0)), .s (.c (.d (.arr .atom a.atoms))), .s (.c (.d (.val (.int .i64 ((a.atoms.length : Nat) : Int)))))]) ∧ (([.s (.c (.d (.val (.int .i64 (0 : Int)))))] : List S) = [.s (.c (.d (.val (.int .i64 ((0 : Nat) : Int)))))]) ∧ (RM [some (.sl 64 .fact ([] : List GFact)), some (.sl 65 .atom ([] : List GAtom)), some (.blk [.own 64, .own 65])]) ∧ (RM [some (.blk [.own 80, .own 81])]) ∧ (((some ([] : List GFact) : Option (List GFact)) = some []) ∧ ((some ([] : List GAtom) : Option (List GAtom)) = some (pk mask a.atoms 0)) ∧ True) ∧ TT) ∧ (∀ i1 : Nat, (i1 ≤ a.atoms.length) → True ∧ (vcIf (decide (((i1 : Nat) : Int) < ((a.atoms.length : Nat) : Int))) (True ∧ (0 ≤ ((i1 : Nat) : Int) ∧ ((i1 : Nat) : Int) < ((a.atoms.length : Nat) : Int)) ∧ True ∧ (TN ∧ True) ∧ True ∧ (TF ∧ TF) ∧ True ∧ True ∧ (0 ≤ ((i1 : Nat) : Int)) ∧ True ∧ True ∧ (vcIf ((bits .and .i64 (Int.fdiv mask (2 ^ (min i1 (IntKind.bits .i64)))) (1 : Int)) == (1 : Int)) (True ∧ True ∧ True ∧ (TN ∧ True) ∧ (TN ∧ TF ∧ TF ∧ ((pk mask a.atoms i1).length + ([(a.atoms.getD i1 (⟨0, 0, 0⟩ : GAtom))] : List GAtom).length ≤ 4294967296)) ∧ True ∧ (TF ∧ TF) ∧ (inK .i64 (((i1 : Nat) : Int) + (1 : Int))) ∧ True ∧ ((i1 + 1) ≤ a.atoms.length) ∧ (a.atoms.length - (i1 + 1) < a.atoms.length - i1) ∧ TT ∧ (RL [.s (.c (.d (.val (.int .i64 mask)))), .s (.c (.ptr 79 0)), .s (.c (.ptr 95 0)), .s (.c (.d (.arr .atom a.atoms))), .s (.c (.d (.val (.int .i64 ((a.atoms.length : Nat) : Int)))))]) ∧ (([.s (.c (.d (.val (.int .i64 (((i1 : Nat) : Int) + (1 : Int))))))] : List S) = [.s (.c (.d (.val (.int .i64 (((i1 + 1) : Nat) : Int)))))]) ∧ (RM [some (.sl 64 .fact ([] : List GFact)), some (.sl 65 .atom ([] : List GAtom)), some (.blk [.own 64, .own 65])]) ∧ (RM [some (.blk [.own 7, .own 100400])]) ∧ (((some [] : Option (List GFact)) = some []) ∧ ((some ((pk mask a.atoms i1) ++ ([(a.atoms.getD i1 (⟨0, 0, 0⟩ : GAtom))] : List GAtom)) : Option (List GAtom)) = some (pk mask a.atoms (i1 + 1))) ∧ True) ∧ TT) ((inK .i64 (((i1 : Nat) : Int) + (1 : Int))) ∧ True ∧ ((i1 + 1) ≤ a.atoms.length) ∧ (a.atoms.length - (i1 + 1) < a.atoms.length - i1) ∧ TT ∧ (RL [.s (.c (.d (.val (.int .i64 mask)))), .s (.c (.ptr 79 0)), .s (.c (.ptr 95 0)), .s (.c (.d (.arr .atom a.atoms))), .s (.c (.d (.val (.int .i64 ((a.atoms.length : Nat) : Int)))))]) ∧ (([.s (.c (.d (.val (.int .i64 (((i1 : Nat) : Int) + (1 : Int))))))] : List S) = [.s (.c (.d (.val (.int .i64 (((i1 + 1) : Nat) : Int)))))]) ∧ (RM [some (.sl 64 .fact ([] : List GFact)), some (.sl 65 .atom ([] : List GAtom)), some (.blk [.own 64, .own 65])]) ∧ (RM [some (.blk [.own 7, .own 8])]) ∧ (((some [] : Option (List GFact)) = some []) ∧ ((some (pk mask a.atoms i1) : Option (List GAtom)) = some (pk mask a.atoms (i1 + 1))) ∧ True) ∧ TT))) (True ∧ (TF ∧ TF) ∧ ((((⟨[], pk mask a.atoms i1⟩ : GAsn), ()) : GAsn × Unit) = (⟨[], pkA mask a.atoms⟩, ())) ∧ ((((7 : Nat) ≠ 8) ∧ True) ∧ True ∧ True) ∧ ((TF ∧ TF) ∧ (TF ∧ TF) ∧ True) ∧ True ∧ (True ∧ True ∧ True) ∧ TF))))
def VC_pickAtoms (a : GAsn) (mask : Int) (k : Nat) : Prop := TN ∧ (TN ∧ TN ∧ TN ∧ True) ∧ (TN ∧ TN ∧ TN ∧ True) ∧ True ∧ True ∧ True ∧ True ∧ (VC_pickAtoms_1 a mask k)
theorem vcn_pickAtoms (a : GAsn) (mask : Int) (k : Nat) (hp : a.facts.length ≤ 1048576 ∧ a.atoms.length ≤ 1048576) : VC_pickAtoms a mask k := by
  unfold VC_pickAtoms VC_pickAtoms_1
  simp only [TT, TF, TN, RL, RM, true_and, and_true, eq_self, implies_true, forall_const, List.cons.injEq, S.s.injEq, S0.c.injEq, S0.agg.injEq, CV.d.injEq, CV.own.injEq, CV.ptr.injEq, DC.val.injEq, Value.int.injEq, Value.bool.injEq, Option.some.injEq, Res.blk.injEq, Prod.mk.injEq, inK, min_i64, max_i64, min_u16, max_u16, min_u8, max_u8, min_u64, max_u64, vcIf_true, vcIf_false, List.mem_nil_iff, List.not_mem_nil, not_false_eq_true, Nat.reduceEqDiff, Nat.reduceLeDiff, ne_eq, Bool.and_true, Nat.add_zero, List.append_nil, List.nil_append, List.length_nil, List.length_cons, Nat.zero_add, Nat.reduceAdd, Int.toNat_natCast, Nat.sub_zero, List.drop_zero, List.map_nil, List.take_zero, forall_eq]
  have hs := pk_step mask a.atoms
  have hl := pk_len mask a.atoms
  all_goals (try simp only [vcIf_iff, decide_eq_true_eq, decide_eq_false_iff_not, bne_iff_ne, ne_eq, beq_iff_eq, beq_eq_false_iff_ne, bne_eq_false_iff_eq, Bool.not_eq_true', Bool.not_eq_false', Int.ofNat_lt, Int.natCast_inj])
  all_goals (repeat' (first | apply And.intro | intro _))
  all_goals (first | omega | (simp_all; done) | grind [pkA, mbit, pk])
theorem vce_pickAtoms (a : GAsn) (mask : Int) (k : Nat) : VC_pickAtoms a mask k = vcQ tab (lookF L_pickAtoms) (lookP P_pickAtoms) (fun _ => false) (fun _ => none) (an_pickAtoms a mask) (fun _ => []) (bodyOf Try.f101) (entry (encs c_pickAtoms.aks (a, mask, ())) (rdOf false k)) (retOk tab c_pickAtoms Try.f101.results.toList (a, mask, ()) k) := by kernel_rfl
theorem vc_pickAtoms (a : GAsn) (mask : Int) (k : Nat) (hp : a.facts.length ≤ 1048576 ∧ a.atoms.length ≤ 1048576) : vcQ tab (lookF L_pickAtoms) (lookP P_pickAtoms) (fun _ => false) (fun _ => none) (an_pickAtoms a mask) (fun _ => []) (bodyOf Try.f101) (entry (encs c_pickAtoms.aks (a, mask, ())) (rdOf false k)) (retOk tab c_pickAtoms Try.f101.results.toList (a, mask, ()) k) := (vce_pickAtoms a mask k).mp (vcn_pickAtoms a mask k hp)
theorem ok_pickAtoms : FnOk Try.prog E 101 c_pickAtoms :=
  fn_okQ (l := L_pickAtoms) (lp := P_pickAtoms) (hp := fun _ => false) (gcs := fun _ => none) (perm := fun _ => []) tabOk mix trivial trivial Try.func101 rfl (by kernel_rfl) (by decide) (by kernel_rfl) (anns := fun x _ => an_pickAtoms x.1 x.2.1) (fun ⟨a, mask, _⟩ k hp _ => vc_pickAtoms a mask k hp) tot_fn
end Go.Proofs.Ytcnjahaoecngbaa

namespace Go.Proofs.Ytcnjahaoecngbaa
open Go.SE Go.RowKit
set_option linter.unusedSimpArgs false
set_option linter.unusedVariables false
set_option maxHeartbeats 1000000
set_option maxRecDepth 100000
/-! iPickAtoms -/
abbrev c_iPickAtoms : Con := ⟨[.asn, .int], [.asn, .bool], fun (a, mask, _) => a.facts.length ≤ 281474976710656 ∧ a.atoms.length ≤ 281474976710656, .inl fun (a, mask, _) => (pkL a mask, pkOk a mask, ()), fun _ => 0⟩
abbrev L_iPickAtoms : List (FuncId × Con) := [(33, c_iAssertionValid), (101, c_pickAtoms)]
abbrev P_iPickAtoms : List (FuncId × PT) := []
def VC_iPickAtoms (a : GAsn) (mask : Int) (k : Nat) : Prop := TN ∧ (TN ∧ TN ∧ TN ∧ True) ∧ True ∧ True ∧ ((a.facts.length ≤ 281474976710656 ∧ a.atoms.length ≤ 281474976710656) ∧ True ∧ True) ∧ True ∧ True ∧ (vcIf (!(asV a)) (True ∧ True ∧ True ∧ (TN ∧ TN ∧ True) ∧ (TF ∧ TF) ∧ True ∧ ((((⟨([] : List GFact), ([] : List GAtom)⟩ : GAsn), false, ()) : GAsn × Bool × Unit) = (pkL a mask, pkOk a mask, ())) ∧ ((((336 : Nat) ≠ 337) ∧ True) ∧ True ∧ True) ∧ ((TF ∧ TF) ∧ (TF ∧ TF) ∧ True) ∧ True ∧ (True ∧ True ∧ True) ∧ TF) (True ∧ True ∧ True ∧ True ∧ (vcIf (decide (mask < (0 : Int))) (True ∧ (TN ∧ TN ∧ True) ∧ (TF ∧ TF) ∧ True ∧ ((((⟨([] : List GFact), ([] : List GAtom)⟩ : GAsn), false, ()) : GAsn × Bool × Unit) = (pkL a mask, pkOk a mask, ())) ∧ ((((336 : Nat) ≠ 337) ∧ True) ∧ True ∧ True) ∧ ((TF ∧ TF) ∧ (TF ∧ TF) ∧ True) ∧ True ∧ (True ∧ True ∧ True) ∧ TF) (True ∧ True ∧ True ∧ True ∧ (0 ≤ ((a.atoms.length : Nat) : Int)) ∧ True ∧ True ∧ (vcIf (decide ((IntKind.wrap .i64 ((1 : Int) * 2 ^ (min a.atoms.length (IntKind.bits .i64)))) ≤ mask)) ((TN ∧ TN ∧ True) ∧ (TF ∧ TF) ∧ True ∧ ((((⟨([] : List GFact), ([] : List GAtom)⟩ : GAsn), false, ()) : GAsn × Bool × Unit) = (pkL a mask, pkOk a mask, ())) ∧ ((((336 : Nat) ≠ 337) ∧ True) ∧ True ∧ True) ∧ ((TF ∧ TF) ∧ (TF ∧ TF) ∧ True) ∧ True ∧ (True ∧ True ∧ True) ∧ TF) (True ∧ True ∧ ((a.facts.length ≤ 1048576 ∧ a.atoms.length ≤ 1048576) ∧ True ∧ TN ∧ TN ∧ True) ∧ (TF ∧ TF) ∧ True ∧ ((((⟨[], (pkA mask a.atoms)⟩ : GAsn), true, ()) : GAsn × Bool × Unit) = (pkL a mask, pkOk a mask, ())) ∧ ((((384 : Nat) ≠ 385) ∧ True) ∧ True ∧ True) ∧ ((TF ∧ TF) ∧ (TF ∧ TF) ∧ True) ∧ True ∧ (True ∧ True ∧ True) ∧ TF))))))
theorem vcn_iPickAtoms (a : GAsn) (mask : Int) (k : Nat) (hp : a.facts.length ≤ 281474976710656 ∧ a.atoms.length ≤ 281474976710656) : VC_iPickAtoms a mask k := by
  unfold VC_iPickAtoms
  simp only [TT, TF, TN, RL, RM, true_and, and_true, eq_self, implies_true, forall_const, List.cons.injEq, S.s.injEq, S0.c.injEq, S0.agg.injEq, CV.d.injEq, CV.own.injEq, CV.ptr.injEq, DC.val.injEq, Value.int.injEq, Value.bool.injEq, Option.some.injEq, Res.blk.injEq, Prod.mk.injEq, inK, min_i64, max_i64, min_u16, max_u16, min_u8, max_u8, min_u64, max_u64, vcIf_true, vcIf_false, List.mem_nil_iff, List.not_mem_nil, not_false_eq_true, Nat.reduceEqDiff, Nat.reduceLeDiff, ne_eq, Bool.and_true, Nat.add_zero, List.append_nil, List.nil_append, List.length_nil, List.length_cons, Nat.zero_add, Nat.reduceAdd, Int.toNat_natCast, Nat.sub_zero, List.drop_zero, List.map_nil, List.take_zero, forall_eq]
  have hV := @asV_facts a
  all_goals (try simp only [vcIf_iff, decide_eq_true_eq, decide_eq_false_iff_not, bne_iff_ne, ne_eq, beq_iff_eq, beq_eq_false_iff_ne, bne_eq_false_iff_eq, Bool.not_eq_true', Bool.not_eq_false', Int.ofNat_lt, Int.natCast_inj])
  all_goals (repeat' (first | apply And.intro | intro _))
  all_goals (first | omega | (simp_all; done) | grind [pkL, pkOk, pkTop])
theorem vce_iPickAtoms (a : GAsn) (mask : Int) (k : Nat) : VC_iPickAtoms a mask k = vcQ tab (lookF L_iPickAtoms) (lookP P_iPickAtoms) (fun _ => false) (fun _ => none) (fun _ _ => none) (fun _ => []) (bodyOf Try.f40) (entry (encs c_iPickAtoms.aks (a, mask, ())) (rdOf false k)) (retOk tab c_iPickAtoms Try.f40.results.toList (a, mask, ()) k) := by kernel_rfl
theorem vc_iPickAtoms (a : GAsn) (mask : Int) (k : Nat) (hp : a.facts.length ≤ 281474976710656 ∧ a.atoms.length ≤ 281474976710656) : vcQ tab (lookF L_iPickAtoms) (lookP P_iPickAtoms) (fun _ => false) (fun _ => none) (fun _ _ => none) (fun _ => []) (bodyOf Try.f40) (entry (encs c_iPickAtoms.aks (a, mask, ())) (rdOf false k)) (retOk tab c_iPickAtoms Try.f40.results.toList (a, mask, ()) k) := (vce_iPickAtoms a mask k).mp (vcn_iPickAtoms a mask k hp)
theorem ok_iPickAtoms : FnOk Try.prog E 40 c_iPickAtoms :=
  fn_okQ (l := L_iPickAtoms) (lp := P_iPickAtoms) (hp := fun _ => false) (gcs := fun _ => none) (perm := fun _ => []) tabOk mix ⟨ok_iAssertionValid, ok_pickAtoms, trivial⟩ trivial Try.func40 rfl (by kernel_rfl) (by decide) (by kernel_rfl) (anns := fun x _ => fun _ _ => none) (fun ⟨a, mask, _⟩ k hp _ => vc_iPickAtoms a mask k hp) tot_fn
end Go.Proofs.Ytcnjahaoecngbaa

namespace Go.Proofs.Ytcnjahaoecngbaa
open Go.SE Go.RowKit
set_option linter.unusedSimpArgs false
set_option linter.unusedVariables false
set_option maxHeartbeats 1000000
set_option maxRecDepth 100000
/-! eqFact -/
abbrev c_eqFact : Con := ⟨[.fact, .fact], [.bool], fun _ => True, .inl fun (f, g, _) => (decide (f = g), ()), fun _ => 0⟩
abbrev L_eqFact : List (FuncId × Con) := []
abbrev P_eqFact : List (FuncId × PT) := []
def VC_eqFact (f : GFact) (g : GFact) (k : Nat) : Prop := TN ∧ TN ∧ True ∧ True ∧ True ∧ True ∧ True ∧ True ∧ (vcIf (f.eq != g.eq) (True ∧ (((false, ()) : Bool × Unit) = (decide (f = g), ())) ∧ True ∧ True ∧ True ∧ True ∧ TF) (True ∧ True ∧ True ∧ True ∧ True ∧ (vcIf (f.a != g.a) (True ∧ (((false, ()) : Bool × Unit) = (decide (f = g), ())) ∧ True ∧ True ∧ True ∧ True ∧ TF) (True ∧ True ∧ True ∧ True ∧ True ∧ (vcIf (f.b != g.b) (True ∧ (((false, ()) : Bool × Unit) = (decide (f = g), ())) ∧ True ∧ True ∧ True ∧ True ∧ TF) (True ∧ (((true, ()) : Bool × Unit) = (decide (f = g), ())) ∧ True ∧ True ∧ True ∧ True ∧ TF))))))
theorem vcn_eqFact (f : GFact) (g : GFact) (k : Nat) : VC_eqFact f g k := by
  unfold VC_eqFact
  simp only [TT, TF, TN, RL, RM, true_and, and_true, eq_self, implies_true, forall_const, List.cons.injEq, S.s.injEq, S0.c.injEq, S0.agg.injEq, CV.d.injEq, CV.own.injEq, CV.ptr.injEq, DC.val.injEq, Value.int.injEq, Value.bool.injEq, Option.some.injEq, Res.blk.injEq, Prod.mk.injEq, inK, min_i64, max_i64, min_u16, max_u16, min_u8, max_u8, min_u64, max_u64, vcIf_true, vcIf_false, List.mem_nil_iff, List.not_mem_nil, not_false_eq_true, Nat.reduceEqDiff, Nat.reduceLeDiff, ne_eq, Bool.and_true, Nat.add_zero, List.append_nil, List.nil_append, List.length_nil, List.length_cons, Nat.zero_add, Nat.reduceAdd, Int.toNat_natCast, Nat.sub_zero, List.drop_zero, List.map_nil, List.take_zero, forall_eq]
  obtain ⟨f1, f2, f3⟩ := f; obtain ⟨g1, g2, g3⟩ := g
  all_goals (try simp only [vcIf_iff, decide_eq_true_eq, decide_eq_false_iff_not, bne_iff_ne, ne_eq, beq_iff_eq, beq_eq_false_iff_ne, bne_eq_false_iff_eq, Bool.not_eq_true', Bool.not_eq_false', Int.ofNat_lt, Int.natCast_inj])
  all_goals (repeat' (first | apply And.intro | intro _))
  all_goals (first | omega | (simp_all; done) | grind [])
theorem vce_eqFact (f : GFact) (g : GFact) (k : Nat) : VC_eqFact f g k = vcQ tab (lookF L_eqFact) (lookP P_eqFact) (fun _ => false) (fun _ => none) (fun _ _ => none) (fun _ => []) (bodyOf Try.f146) (entry (encs c_eqFact.aks (f, g, ())) (rdOf false k)) (retOk tab c_eqFact Try.f146.results.toList (f, g, ()) k) := by kernel_rfl
theorem vc_eqFact (f : GFact) (g : GFact) (k : Nat) : vcQ tab (lookF L_eqFact) (lookP P_eqFact) (fun _ => false) (fun _ => none) (fun _ _ => none) (fun _ => []) (bodyOf Try.f146) (entry (encs c_eqFact.aks (f, g, ())) (rdOf false k)) (retOk tab c_eqFact Try.f146.results.toList (f, g, ()) k) := (vce_eqFact f g k).mp (vcn_eqFact f g k)
theorem ok_eqFact : FnOk Try.prog E 146 c_eqFact :=
  fn_okQ (l := L_eqFact) (lp := P_eqFact) (hp := fun _ => false) (gcs := fun _ => none) (perm := fun _ => []) tabOk mix trivial trivial Try.func146 rfl (by kernel_rfl) (by decide) (by kernel_rfl) (anns := fun x _ => fun _ _ => none) (fun ⟨f, g, _⟩ k _ _ => vc_eqFact f g k) tot_fn
end Go.Proofs.Ytcnjahaoecngbaa

namespace Go.Proofs.Ytcnjahaoecngbaa
open Go.SE Go.RowKit
set_option linter.unusedSimpArgs false
set_option linter.unusedVariables false
set_option maxHeartbeats 1000000
set_option maxRecDepth 100000
/-! eqFactS -/
abbrev c_eqFactS : Con := ⟨[.sl .fact, .sl .fact], [.bool], fun (a, b, _) => a.length ≤ 281474976710656 ∧ b.length ≤ 281474976710656, .inl fun (a, b, _) => (decide (a = b), ()), fun _ => 0⟩
abbrev L_eqFactS : List (FuncId × Con) := [(146, c_eqFact)]
abbrev P_eqFactS : List (FuncId × PT) := []
def an_eqFactS (a : List GFact) (b : List GFact) : Nat → St → Option Ann
  | 4, se => some { α := Nat, ok := fun i => i ≤ a.length ∧ a.length = b.length ∧ a.take i = b.take i, mu := fun i => a.length - i, i0 := fun _ => 0, nx := fun a _ => (fun i => i + 1) a, live := [0, 1], sets := fun i => [(5, sv (.int .i64 i))], mids := [], blks := fun i => [], owns := fun i => [], rd := fun r _ => r, base := 100000 }
  | _, _ => none
def VC_eqFactS (a : List GFact) (b : List GFact) (k : Nat) : Prop := True ∧ True ∧ True ∧ True ∧ True ∧ True ∧ (vcIf (((a.length : Nat) : Int) != ((b.length : Nat) : Int)) (True ∧ (((false, ()) : Bool × Unit) = (decide (a = b), ())) ∧ True ∧ True ∧ True ∧ True ∧ TF) (True ∧ ((0 ≤ a.length ∧ a.length = b.length ∧ a.take 0 = b.take 0) ∧ TT ∧ (RL [.s (.c (.d (.arr .fact a))), .s (.c (.d (.arr .fact b)))]) ∧ (([.s (.c (.d (.val (.int .i64 (0 : Int)))))] : List S) = [.s (.c (.d (.val (.int .i64 ((0 : Nat) : Int)))))]) ∧ (RM []) ∧ (RM []) ∧ True ∧ TT) ∧ (∀ i1 : Nat, (i1 ≤ a.length ∧ a.length = b.length ∧ a.take i1 = b.take i1) → True ∧ True ∧ True ∧ True ∧ (vcIf (decide (((i1 : Nat) : Int) < ((a.length : Nat) : Int))) (True ∧ True ∧ (0 ≤ ((i1 : Nat) : Int) ∧ ((i1 : Nat) : Int) < ((a.length : Nat) : Int)) ∧ True ∧ True ∧ True ∧ (0 ≤ ((i1 : Nat) : Int) ∧ ((i1 : Nat) : Int) < ((b.length : Nat) : Int)) ∧ True ∧ (True ∧ True ∧ True) ∧ True ∧ (vcIf (!(decide ((a.getD i1 (⟨false, 0, 0⟩ : GFact)) = (b.getD i1 (⟨false, 0, 0⟩ : GFact))))) (True ∧ (((false, ()) : Bool × Unit) = (decide (a = b), ())) ∧ True ∧ True ∧ True ∧ True ∧ TF) (True ∧ (inK .i64 (((i1 : Nat) : Int) + (1 : Int))) ∧ True ∧ ((i1 + 1) ≤ a.length ∧ a.length = b.length ∧ a.take (i1 + 1) = b.take (i1 + 1)) ∧ (a.length - (i1 + 1) < a.length - i1) ∧ TT ∧ (RL [.s (.c (.d (.arr .fact a))), .s (.c (.d (.arr .fact b)))]) ∧ (([.s (.c (.d (.val (.int .i64 (((i1 : Nat) : Int) + (1 : Int))))))] : List S) = [.s (.c (.d (.val (.int .i64 (((i1 + 1) : Nat) : Int)))))]) ∧ (RM []) ∧ (RM []) ∧ True ∧ TT))) (True ∧ (((true, ()) : Bool × Unit) = (decide (a = b), ())) ∧ True ∧ True ∧ True ∧ True ∧ TF)))))
theorem vcn_eqFactS (a : List GFact) (b : List GFact) (k : Nat) (hp : a.length ≤ 281474976710656 ∧ b.length ≤ 281474976710656) : VC_eqFactS a b k := by
  unfold VC_eqFactS
  simp only [TT, TF, TN, RL, RM, true_and, and_true, eq_self, implies_true, forall_const, List.cons.injEq, S.s.injEq, S0.c.injEq, S0.agg.injEq, CV.d.injEq, CV.own.injEq, CV.ptr.injEq, DC.val.injEq, Value.int.injEq, Value.bool.injEq, Option.some.injEq, Res.blk.injEq, Prod.mk.injEq, inK, min_i64, max_i64, min_u16, max_u16, min_u8, max_u8, min_u64, max_u64, vcIf_true, vcIf_false, List.mem_nil_iff, List.not_mem_nil, not_false_eq_true, Nat.reduceEqDiff, Nat.reduceLeDiff, ne_eq, Bool.and_true, Nat.add_zero, List.append_nil, List.nil_append, List.length_nil, List.length_cons, Nat.zero_add, Nat.reduceAdd, Int.toNat_natCast, Nat.sub_zero, List.drop_zero, List.map_nil, List.take_zero, forall_eq]
  all_goals (try simp only [vcIf_iff, decide_eq_true_eq, decide_eq_false_iff_not, bne_iff_ne, ne_eq, beq_iff_eq, beq_eq_false_iff_ne, bne_eq_false_iff_eq, Bool.not_eq_true', Bool.not_eq_false', Int.ofNat_lt, Int.natCast_inj])
  all_goals (repeat' (first | apply And.intro | intro _))
  all_goals (first | omega | (simp_all; done) | grind [same_step, same_not, take_full])
theorem vce_eqFactS (a : List GFact) (b : List GFact) (k : Nat) : VC_eqFactS a b k = vcQ tab (lookF L_eqFactS) (lookP P_eqFactS) (fun _ => false) (fun _ => none) (an_eqFactS a b) (fun _ => []) (bodyOf Try.f102) (entry (encs c_eqFactS.aks (a, b, ())) (rdOf false k)) (retOk tab c_eqFactS Try.f102.results.toList (a, b, ()) k) := by kernel_rfl
theorem vc_eqFactS (a : List GFact) (b : List GFact) (k : Nat) (hp : a.length ≤ 281474976710656 ∧ b.length ≤ 281474976710656) : vcQ tab (lookF L_eqFactS) (lookP P_eqFactS) (fun _ => false) (fun _ => none) (an_eqFactS a b) (fun _ => []) (bodyOf Try.f102) (entry (encs c_eqFactS.aks (a, b, ())) (rdOf false k)) (retOk tab c_eqFactS Try.f102.results.toList (a, b, ()) k) := (vce_eqFactS a b k).mp (vcn_eqFactS a b k hp)
theorem ok_eqFactS : FnOk Try.prog E 102 c_eqFactS :=
  fn_okQ (l := L_eqFactS) (lp := P_eqFactS) (hp := fun _ => false) (gcs := fun _ => none) (perm := fun _ => []) tabOk mix ⟨ok_eqFact, trivial⟩ trivial Try.func102 rfl (by kernel_rfl) (by decide) (by kernel_rfl) (anns := fun x _ => an_eqFactS x.1 x.2.1) (fun ⟨a, b, _⟩ k hp _ => vc_eqFactS a b k hp) tot_fn
end Go.Proofs.Ytcnjahaoecngbaa

namespace Go.Proofs.Ytcnjahaoecngbaa
open Go.SE Go.RowKit
set_option linter.unusedSimpArgs false
set_option linter.unusedVariables false
set_option maxHeartbeats 1000000
set_option maxRecDepth 100000
/-! eqAtom -/
abbrev c_eqAtom : Con := ⟨[.atom, .atom], [.bool], fun _ => True, .inl fun (f, g, _) => (decide (f = g), ()), fun _ => 0⟩
abbrev L_eqAtom : List (FuncId × Con) := []
abbrev P_eqAtom : List (FuncId × PT) := []
def VC_eqAtom (f : GAtom) (g : GAtom) (k : Nat) : Prop := TN ∧ TN ∧ True ∧ True ∧ True ∧ True ∧ True ∧ True ∧ (vcIf (f.kind != g.kind) (True ∧ (((false, ()) : Bool × Unit) = (decide (f = g), ())) ∧ True ∧ True ∧ True ∧ True ∧ TF) (True ∧ True ∧ True ∧ True ∧ True ∧ (vcIf (f.a != g.a) (True ∧ (((false, ()) : Bool × Unit) = (decide (f = g), ())) ∧ True ∧ True ∧ True ∧ True ∧ TF) (True ∧ True ∧ True ∧ True ∧ True ∧ (vcIf (f.b != g.b) (True ∧ (((false, ()) : Bool × Unit) = (decide (f = g), ())) ∧ True ∧ True ∧ True ∧ True ∧ TF) (True ∧ (((true, ()) : Bool × Unit) = (decide (f = g), ())) ∧ True ∧ True ∧ True ∧ True ∧ TF))))))
theorem vcn_eqAtom (f : GAtom) (g : GAtom) (k : Nat) : VC_eqAtom f g k := by
  unfold VC_eqAtom
  simp only [TT, TF, TN, RL, RM, true_and, and_true, eq_self, implies_true, forall_const, List.cons.injEq, S.s.injEq, S0.c.injEq, S0.agg.injEq, CV.d.injEq, CV.own.injEq, CV.ptr.injEq, DC.val.injEq, Value.int.injEq, Value.bool.injEq, Option.some.injEq, Res.blk.injEq, Prod.mk.injEq, inK, min_i64, max_i64, min_u16, max_u16, min_u8, max_u8, min_u64, max_u64, vcIf_true, vcIf_false, List.mem_nil_iff, List.not_mem_nil, not_false_eq_true, Nat.reduceEqDiff, Nat.reduceLeDiff, ne_eq, Bool.and_true, Nat.add_zero, List.append_nil, List.nil_append, List.length_nil, List.length_cons, Nat.zero_add, Nat.reduceAdd, Int.toNat_natCast, Nat.sub_zero, List.drop_zero, List.map_nil, List.take_zero, forall_eq]
  obtain ⟨f1, f2, f3⟩ := f; obtain ⟨g1, g2, g3⟩ := g
  all_goals (try simp only [vcIf_iff, decide_eq_true_eq, decide_eq_false_iff_not, bne_iff_ne, ne_eq, beq_iff_eq, beq_eq_false_iff_ne, bne_eq_false_iff_eq, Bool.not_eq_true', Bool.not_eq_false', Int.ofNat_lt, Int.natCast_inj])
  all_goals (repeat' (first | apply And.intro | intro _))
  all_goals (first | omega | (simp_all; done) | grind [])
theorem vce_eqAtom (f : GAtom) (g : GAtom) (k : Nat) : VC_eqAtom f g k = vcQ tab (lookF L_eqAtom) (lookP P_eqAtom) (fun _ => false) (fun _ => none) (fun _ _ => none) (fun _ => []) (bodyOf Try.f147) (entry (encs c_eqAtom.aks (f, g, ())) (rdOf false k)) (retOk tab c_eqAtom Try.f147.results.toList (f, g, ()) k) := by kernel_rfl
theorem vc_eqAtom (f : GAtom) (g : GAtom) (k : Nat) : vcQ tab (lookF L_eqAtom) (lookP P_eqAtom) (fun _ => false) (fun _ => none) (fun _ _ => none) (fun _ => []) (bodyOf Try.f147) (entry (encs c_eqAtom.aks (f, g, ())) (rdOf false k)) (retOk tab c_eqAtom Try.f147.results.toList (f, g, ()) k) := (vce_eqAtom f g k).mp (vcn_eqAtom f g k)
theorem ok_eqAtom : FnOk Try.prog E 147 c_eqAtom :=
  fn_okQ (l := L_eqAtom) (lp := P_eqAtom) (hp := fun _ => false) (gcs := fun _ => none) (perm := fun _ => []) tabOk mix trivial trivial Try.func147 rfl (by kernel_rfl) (by decide) (by kernel_rfl) (anns := fun x _ => fun _ _ => none) (fun ⟨f, g, _⟩ k _ _ => vc_eqAtom f g k) tot_fn
end Go.Proofs.Ytcnjahaoecngbaa

namespace Go.Proofs.Ytcnjahaoecngbaa
open Go.SE Go.RowKit
set_option linter.unusedSimpArgs false
set_option linter.unusedVariables false
set_option maxHeartbeats 1000000
set_option maxRecDepth 100000
/-! eqAtomS -/
abbrev c_eqAtomS : Con := ⟨[.sl .atom, .sl .atom], [.bool], fun (a, b, _) => a.length ≤ 281474976710656 ∧ b.length ≤ 281474976710656, .inl fun (a, b, _) => (decide (a = b), ()), fun _ => 0⟩
abbrev L_eqAtomS : List (FuncId × Con) := [(147, c_eqAtom)]
abbrev P_eqAtomS : List (FuncId × PT) := []
def an_eqAtomS (a : List GAtom) (b : List GAtom) : Nat → St → Option Ann
  | 4, se => some { α := Nat, ok := fun i => i ≤ a.length ∧ a.length = b.length ∧ a.take i = b.take i, mu := fun i => a.length - i, i0 := fun _ => 0, nx := fun a _ => (fun i => i + 1) a, live := [0, 1], sets := fun i => [(5, sv (.int .i64 i))], mids := [], blks := fun i => [], owns := fun i => [], rd := fun r _ => r, base := 100000 }
  | _, _ => none
def VC_eqAtomS (a : List GAtom) (b : List GAtom) (k : Nat) : Prop := True ∧ True ∧ True ∧ True ∧ True ∧ True ∧ (vcIf (((a.length : Nat) : Int) != ((b.length : Nat) : Int)) (True ∧ (((false, ()) : Bool × Unit) = (decide (a = b), ())) ∧ True ∧ True ∧ True ∧ True ∧ TF) (True ∧ ((0 ≤ a.length ∧ a.length = b.length ∧ a.take 0 = b.take 0) ∧ TT ∧ (RL [.s (.c (.d (.arr .atom a))), .s (.c (.d (.arr .atom b)))]) ∧ (([.s (.c (.d (.val (.int .i64 (0 : Int)))))] : List S) = [.s (.c (.d (.val (.int .i64 ((0 : Nat) : Int)))))]) ∧ (RM []) ∧ (RM []) ∧ True ∧ TT) ∧ (∀ i1 : Nat, (i1 ≤ a.length ∧ a.length = b.length ∧ a.take i1 = b.take i1) → True ∧ True ∧ True ∧ True ∧ (vcIf (decide (((i1 : Nat) : Int) < ((a.length : Nat) : Int))) (True ∧ True ∧ (0 ≤ ((i1 : Nat) : Int) ∧ ((i1 : Nat) : Int) < ((a.length : Nat) : Int)) ∧ True ∧ True ∧ True ∧ (0 ≤ ((i1 : Nat) : Int) ∧ ((i1 : Nat) : Int) < ((b.length : Nat) : Int)) ∧ True ∧ (True ∧ True ∧ True) ∧ True ∧ (vcIf (!(decide ((a.getD i1 (⟨0, 0, 0⟩ : GAtom)) = (b.getD i1 (⟨0, 0, 0⟩ : GAtom))))) (True ∧ (((false, ()) : Bool × Unit) = (decide (a = b), ())) ∧ True ∧ True ∧ True ∧ True ∧ TF) (True ∧ (inK .i64 (((i1 : Nat) : Int) + (1 : Int))) ∧ True ∧ ((i1 + 1) ≤ a.length ∧ a.length = b.length ∧ a.take (i1 + 1) = b.take (i1 + 1)) ∧ (a.length - (i1 + 1) < a.length - i1) ∧ TT ∧ (RL [.s (.c (.d (.arr .atom a))), .s (.c (.d (.arr .atom b)))]) ∧ (([.s (.c (.d (.val (.int .i64 (((i1 : Nat) : Int) + (1 : Int))))))] : List S) = [.s (.c (.d (.val (.int .i64 (((i1 + 1) : Nat) : Int)))))]) ∧ (RM []) ∧ (RM []) ∧ True ∧ TT))) (True ∧ (((true, ()) : Bool × Unit) = (decide (a = b), ())) ∧ True ∧ True ∧ True ∧ True ∧ TF)))))
theorem vcn_eqAtomS (a : List GAtom) (b : List GAtom) (k : Nat) (hp : a.length ≤ 281474976710656 ∧ b.length ≤ 281474976710656) : VC_eqAtomS a b k := by
  unfold VC_eqAtomS
  simp only [TT, TF, TN, RL, RM, true_and, and_true, eq_self, implies_true, forall_const, List.cons.injEq, S.s.injEq, S0.c.injEq, S0.agg.injEq, CV.d.injEq, CV.own.injEq, CV.ptr.injEq, DC.val.injEq, Value.int.injEq, Value.bool.injEq, Option.some.injEq, Res.blk.injEq, Prod.mk.injEq, inK, min_i64, max_i64, min_u16, max_u16, min_u8, max_u8, min_u64, max_u64, vcIf_true, vcIf_false, List.mem_nil_iff, List.not_mem_nil, not_false_eq_true, Nat.reduceEqDiff, Nat.reduceLeDiff, ne_eq, Bool.and_true, Nat.add_zero, List.append_nil, List.nil_append, List.length_nil, List.length_cons, Nat.zero_add, Nat.reduceAdd, Int.toNat_natCast, Nat.sub_zero, List.drop_zero, List.map_nil, List.take_zero, forall_eq]
  all_goals (try simp only [vcIf_iff, decide_eq_true_eq, decide_eq_false_iff_not, bne_iff_ne, ne_eq, beq_iff_eq, beq_eq_false_iff_ne, bne_eq_false_iff_eq, Bool.not_eq_true', Bool.not_eq_false', Int.ofNat_lt, Int.natCast_inj])
  all_goals (repeat' (first | apply And.intro | intro _))
  all_goals (first | omega | (simp_all; done) | grind [same_step, same_not, take_full])
theorem vce_eqAtomS (a : List GAtom) (b : List GAtom) (k : Nat) : VC_eqAtomS a b k = vcQ tab (lookF L_eqAtomS) (lookP P_eqAtomS) (fun _ => false) (fun _ => none) (an_eqAtomS a b) (fun _ => []) (bodyOf Try.f103) (entry (encs c_eqAtomS.aks (a, b, ())) (rdOf false k)) (retOk tab c_eqAtomS Try.f103.results.toList (a, b, ()) k) := by kernel_rfl
theorem vc_eqAtomS (a : List GAtom) (b : List GAtom) (k : Nat) (hp : a.length ≤ 281474976710656 ∧ b.length ≤ 281474976710656) : vcQ tab (lookF L_eqAtomS) (lookP P_eqAtomS) (fun _ => false) (fun _ => none) (an_eqAtomS a b) (fun _ => []) (bodyOf Try.f103) (entry (encs c_eqAtomS.aks (a, b, ())) (rdOf false k)) (retOk tab c_eqAtomS Try.f103.results.toList (a, b, ()) k) := (vce_eqAtomS a b k).mp (vcn_eqAtomS a b k hp)
theorem ok_eqAtomS : FnOk Try.prog E 103 c_eqAtomS :=
  fn_okQ (l := L_eqAtomS) (lp := P_eqAtomS) (hp := fun _ => false) (gcs := fun _ => none) (perm := fun _ => []) tabOk mix ⟨ok_eqAtom, trivial⟩ trivial Try.func103 rfl (by kernel_rfl) (by decide) (by kernel_rfl) (anns := fun x _ => an_eqAtomS x.1 x.2.1) (fun ⟨a, b, _⟩ k hp _ => vc_eqAtomS a b k hp) tot_fn
end Go.Proofs.Ytcnjahaoecngbaa

namespace Go.Proofs.Ytcnjahaoecngbaa
open Go.SE Go.RowKit
set_option linter.unusedSimpArgs false
set_option linter.unusedVariables false
set_option maxHeartbeats 1000000
set_option maxRecDepth 100000
/-! eqAssertion -/
abbrev c_eqAssertion : Con := ⟨[.asn, .asn], [.bool], fun (a, b, _) => a.facts.length ≤ 281474976710656 ∧ a.atoms.length ≤ 281474976710656 ∧ b.facts.length ≤ 281474976710656 ∧ b.atoms.length ≤ 281474976710656, .inl fun (a, b, _) => (decide (a = b), ()), fun _ => 0⟩
abbrev L_eqAssertion : List (FuncId × Con) := [(102, c_eqFactS), (103, c_eqAtomS)]
abbrev P_eqAssertion : List (FuncId × PT) := []
def VC_eqAssertion (a : GAsn) (b : GAsn) (k : Nat) : Prop := TN ∧ TN ∧ True ∧ True ∧ True ∧ True ∧ True ∧ ((a.facts.length ≤ 281474976710656 ∧ b.facts.length ≤ 281474976710656) ∧ True ∧ True) ∧ True ∧ (vcIf (!(decide (a.facts = b.facts))) (True ∧ (((false, ()) : Bool × Unit) = (decide (a = b), ())) ∧ True ∧ True ∧ True ∧ True ∧ TF) (True ∧ True ∧ True ∧ True ∧ ((a.atoms.length ≤ 281474976710656 ∧ b.atoms.length ≤ 281474976710656) ∧ True ∧ True) ∧ True ∧ (vcIf (!(decide (a.atoms = b.atoms))) (True ∧ (((false, ()) : Bool × Unit) = (decide (a = b), ())) ∧ True ∧ True ∧ True ∧ True ∧ TF) (True ∧ (((true, ()) : Bool × Unit) = (decide (a = b), ())) ∧ True ∧ True ∧ True ∧ True ∧ TF))))
theorem vcn_eqAssertion (a : GAsn) (b : GAsn) (k : Nat) (hp : a.facts.length ≤ 281474976710656 ∧ a.atoms.length ≤ 281474976710656 ∧ b.facts.length ≤ 281474976710656 ∧ b.atoms.length ≤ 281474976710656) : VC_eqAssertion a b k := by
  unfold VC_eqAssertion
  simp only [TT, TF, TN, RL, RM, true_and, and_true, eq_self, implies_true, forall_const, List.cons.injEq, S.s.injEq, S0.c.injEq, S0.agg.injEq, CV.d.injEq, CV.own.injEq, CV.ptr.injEq, DC.val.injEq, Value.int.injEq, Value.bool.injEq, Option.some.injEq, Res.blk.injEq, Prod.mk.injEq, inK, min_i64, max_i64, min_u16, max_u16, min_u8, max_u8, min_u64, max_u64, vcIf_true, vcIf_false, List.mem_nil_iff, List.not_mem_nil, not_false_eq_true, Nat.reduceEqDiff, Nat.reduceLeDiff, ne_eq, Bool.and_true, Nat.add_zero, List.append_nil, List.nil_append, List.length_nil, List.length_cons, Nat.zero_add, Nat.reduceAdd, Int.toNat_natCast, Nat.sub_zero, List.drop_zero, List.map_nil, List.take_zero, forall_eq]
  obtain ⟨a1, a2⟩ := a; obtain ⟨b1, b2⟩ := b
  all_goals (try simp only [vcIf_iff, decide_eq_true_eq, decide_eq_false_iff_not, bne_iff_ne, ne_eq, beq_iff_eq, beq_eq_false_iff_ne, bne_eq_false_iff_eq, Bool.not_eq_true', Bool.not_eq_false', Int.ofNat_lt, Int.natCast_inj])
  all_goals (repeat' (first | apply And.intro | intro _))
  all_goals (first | omega | (simp_all; done) | grind [])
theorem vce_eqAssertion (a : GAsn) (b : GAsn) (k : Nat) : VC_eqAssertion a b k = vcQ tab (lookF L_eqAssertion) (lookP P_eqAssertion) (fun _ => false) (fun _ => none) (fun _ _ => none) (fun _ => []) (bodyOf Try.f41) (entry (encs c_eqAssertion.aks (a, b, ())) (rdOf false k)) (retOk tab c_eqAssertion Try.f41.results.toList (a, b, ()) k) := by kernel_rfl
theorem vc_eqAssertion (a : GAsn) (b : GAsn) (k : Nat) (hp : a.facts.length ≤ 281474976710656 ∧ a.atoms.length ≤ 281474976710656 ∧ b.facts.length ≤ 281474976710656 ∧ b.atoms.length ≤ 281474976710656) : vcQ tab (lookF L_eqAssertion) (lookP P_eqAssertion) (fun _ => false) (fun _ => none) (fun _ _ => none) (fun _ => []) (bodyOf Try.f41) (entry (encs c_eqAssertion.aks (a, b, ())) (rdOf false k)) (retOk tab c_eqAssertion Try.f41.results.toList (a, b, ()) k) := (vce_eqAssertion a b k).mp (vcn_eqAssertion a b k hp)
theorem ok_eqAssertion : FnOk Try.prog E 41 c_eqAssertion :=
  fn_okQ (l := L_eqAssertion) (lp := P_eqAssertion) (hp := fun _ => false) (gcs := fun _ => none) (perm := fun _ => []) tabOk mix ⟨ok_eqFactS, ok_eqAtomS, trivial⟩ trivial Try.func41 rfl (by kernel_rfl) (by decide) (by kernel_rfl) (anns := fun x _ => fun _ _ => none) (fun ⟨a, b, _⟩ k hp _ => vc_eqAssertion a b k hp) tot_fn
end Go.Proofs.Ytcnjahaoecngbaa

namespace Go.Proofs.Ytcnjahaoecngbaa
open Go.SE Go.RowKit
set_option linter.unusedSimpArgs false
set_option linter.unusedVariables false
set_option maxHeartbeats 1000000
set_option maxRecDepth 100000
/-! markFactS -/
abbrev m_markFactS : MCon := ⟨[], .fact, [.int], fun _ l (n, _) => 0 ≤ n ∧ n ≤ 4611686018427387904 ∧ l.length ≤ 281474976710656, fun _ l (n, _) => .int .i64 (n + 3 * (l.length : Int)), fun _ l (n, _) => mkF l n⟩
abbrev pt_markFactS : PT := ptM m_markFactS
abbrev L_markFactS : List (FuncId × Con) := []
abbrev P_markFactS : List (FuncId × PT) := []
def an_markFactS (l : List GFact) (n : Int) : Nat → St → Option Ann
  | 2, se => some { α := Nat, ok := fun i => i ≤ l.length, mu := fun i => l.length - i, i0 := fun _ => 0, nx := fun a _ => (fun i => i + 1) a, live := [4], sets := fun i => [(5, sv (.int .i64 i)), (1, sv (.int .i64 (n + 3 * (i : Int))))], mids := [], blks := fun i => [], owns := fun i => [⟨7, .slot 0, .fact, mkU (fF n) l i⟩], rd := fun r _ => r, base := 100000 }
  | _, _ => none
def VC_markFactS_1 (l : List GFact) (n : Int) (k : Nat) (i1 : Nat) : Prop := ((inK .i64 (((i1 : Nat) : Int) + (1 : Int))) ∧ True ∧ ((i1 + 1) ≤ l.length) ∧ (l.length - (i1 + 1) < l.length - i1) ∧ TT ∧ (RL [.s (.c (.d (.val (.int .i64 (0 : Int)))))]) ∧ (([.s (.c (.d (.val (.int .i64 (((i1 : Nat) : Int) + (1 : Int)))))), .s (.c (.d (.val (.int .i64 ((((n + 3 * (i1 : Int) : Int) + (1 : Int)) + (1 : Int)) + (1 : Int))))))] : List S) = [.s (.c (.d (.val (.int .i64 (((i1 + 1) : Nat) : Int))))), .s (.c (.d (.val (.int .i64 (n + 3 * ((i1 + 1) : Int) : Int)))))]) ∧ (RM []) ∧ (RM []) ∧ (((some ((((mkU (fF n) l i1).set i1 (⟨(Int.tmod (n + 3 * (i1 : Int) : Int) (3 : Int)) == (0 : Int), ((mkU (fF n) l i1).getD i1 (⟨false, 0, 0⟩ : GFact)).a, ((mkU (fF n) l i1).getD i1 (⟨false, 0, 0⟩ : GFact)).b⟩ : GFact)).set i1 (⟨(((mkU (fF n) l i1).set i1 (⟨(Int.tmod (n + 3 * (i1 : Int) : Int) (3 : Int)) == (0 : Int), ((mkU (fF n) l i1).getD i1 (⟨false, 0, 0⟩ : GFact)).a, ((mkU (fF n) l i1).getD i1 (⟨false, 0, 0⟩ : GFact)).b⟩ : GFact)).getD i1 (⟨false, 0, 0⟩ : GFact)).eq, (n + 3 * (i1 : Int) : Int) + (1 : Int), (((mkU (fF n) l i1).set i1 (⟨(Int.tmod (n + 3 * (i1 : Int) : Int) (3 : Int)) == (0 : Int), ((mkU (fF n) l i1).getD i1 (⟨false, 0, 0⟩ : GFact)).a, ((mkU (fF n) l i1).getD i1 (⟨false, 0, 0⟩ : GFact)).b⟩ : GFact)).getD i1 (⟨false, 0, 0⟩ : GFact)).b⟩ : GFact)).set i1 (⟨((((mkU (fF n) l i1).set i1 (⟨(Int.tmod (n + 3 * (i1 : Int) : Int) (3 : Int)) == (0 : Int), ((mkU (fF n) l i1).getD i1 (⟨false, 0, 0⟩ : GFact)).a, ((mkU (fF n) l i1).getD i1 (⟨false, 0, 0⟩ : GFact)).b⟩ : GFact)).set i1 (⟨(((mkU (fF n) l i1).set i1 (⟨(Int.tmod (n + 3 * (i1 : Int) : Int) (3 : Int)) == (0 : Int), ((mkU (fF n) l i1).getD i1 (⟨false, 0, 0⟩ : GFact)).a, ((mkU (fF n) l i1).getD i1 (⟨false, 0, 0⟩ : GFact)).b⟩ : GFact)).getD i1 (⟨false, 0, 0⟩ : GFact)).eq, (n + 3 * (i1 : Int) : Int) + (1 : Int), (((mkU (fF n) l i1).set i1 (⟨(Int.tmod (n + 3 * (i1 : Int) : Int) (3 : Int)) == (0 : Int), ((mkU (fF n) l i1).getD i1 (⟨false, 0, 0⟩ : GFact)).a, ((mkU (fF n) l i1).getD i1 (⟨false, 0, 0⟩ : GFact)).b⟩ : GFact)).getD i1 (⟨false, 0, 0⟩ : GFact)).b⟩ : GFact)).getD i1 (⟨false, 0, 0⟩ : GFact)).eq, ((((mkU (fF n) l i1).set i1 (⟨(Int.tmod (n + 3 * (i1 : Int) : Int) (3 : Int)) == (0 : Int), ((mkU (fF n) l i1).getD i1 (⟨false, 0, 0⟩ : GFact)).a, ((mkU (fF n) l i1).getD i1 (⟨false, 0, 0⟩ : GFact)).b⟩ : GFact)).set i1 (⟨(((mkU (fF n) l i1).set i1 (⟨(Int.tmod (n + 3 * (i1 : Int) : Int) (3 : Int)) == (0 : Int), ((mkU (fF n) l i1).getD i1 (⟨false, 0, 0⟩ : GFact)).a, ((mkU (fF n) l i1).getD i1 (⟨false, 0, 0⟩ : GFact)).b⟩ : GFact)).getD i1 (⟨false, 0, 0⟩ : GFact)).eq, (n + 3 * (i1 : Int) : Int) + (1 : Int), (((mkU (fF n) l i1).set i1 (⟨(Int.tmod (n + 3 * (i1 : Int) : Int) (3 : Int)) == (0 : Int), ((mkU (fF n) l i1).getD i1 (⟨false, 0, 0⟩ : GFact)).a, ((mkU (fF n) l i1).getD i1 (⟨false, 0, 0⟩ : GFact)).b⟩ : GFact)).getD i1 (⟨false, 0, 0⟩ : GFact)).b⟩ : GFact)).getD i1 (⟨false, 0, 0⟩ : GFact)).a, ((n + 3 * (i1 : Int) : Int) + (1 : Int)) + (1 : Int)⟩ : GFact)) : Option (List GFact)) = some (mkU (fF n) l (i1 + 1))) ∧ True) ∧ TT)
def VC_markFactS (l : List GFact) (n : Int) (k : Nat) : Prop := True ∧ True ∧ ((0 ≤ l.length) ∧ TT ∧ (RL [.s (.c (.d (.val (.int .i64 (0 : Int)))))]) ∧ (([.s (.c (.d (.val (.int .i64 (0 : Int))))), .s (.c (.d (.val (.int .i64 n))))] : List S) = [.s (.c (.d (.val (.int .i64 ((0 : Nat) : Int))))), .s (.c (.d (.val (.int .i64 (n + 3 * (0 : Int) : Int)))))]) ∧ (RM []) ∧ (RM []) ∧ (((some l : Option (List GFact)) = some (mkU (fF n) l 0)) ∧ True) ∧ TT) ∧ (∀ i1 : Nat, (i1 ≤ l.length) → True ∧ True ∧ True ∧ True ∧ (vcIf (decide (((i1 : Nat) : Int) < (((mkU (fF n) l i1).length : Nat) : Int))) (True ∧ True ∧ True ∧ ((3 : Int) ≠ 0) ∧ True ∧ (0 ≤ ((i1 : Nat) : Int) ∧ ((i1 : Nat) : Int) < (((mkU (fF n) l i1).length : Nat) : Int)) ∧ True ∧ (TF ∧ TF ∧ True ∧ ((7 : Nat) ∉ ([] : List Nat))) ∧ True ∧ (inK .i64 ((n + 3 * (i1 : Int) : Int) + (1 : Int))) ∧ True ∧ True ∧ True ∧ True ∧ (0 ≤ ((i1 : Nat) : Int) ∧ ((i1 : Nat) : Int) < ((((mkU (fF n) l i1).set i1 (⟨(Int.tmod (n + 3 * (i1 : Int) : Int) (3 : Int)) == (0 : Int), ((mkU (fF n) l i1).getD i1 (⟨false, 0, 0⟩ : GFact)).a, ((mkU (fF n) l i1).getD i1 (⟨false, 0, 0⟩ : GFact)).b⟩ : GFact)).length : Nat) : Int)) ∧ True ∧ (TF ∧ TF ∧ True ∧ ((7 : Nat) ∉ ([] : List Nat))) ∧ True ∧ (inK .i64 (((n + 3 * (i1 : Int) : Int) + (1 : Int)) + (1 : Int))) ∧ True ∧ True ∧ True ∧ True ∧ (0 ≤ ((i1 : Nat) : Int) ∧ ((i1 : Nat) : Int) < (((((mkU (fF n) l i1).set i1 (⟨(Int.tmod (n + 3 * (i1 : Int) : Int) (3 : Int)) == (0 : Int), ((mkU (fF n) l i1).getD i1 (⟨false, 0, 0⟩ : GFact)).a, ((mkU (fF n) l i1).getD i1 (⟨false, 0, 0⟩ : GFact)).b⟩ : GFact)).set i1 (⟨(((mkU (fF n) l i1).set i1 (⟨(Int.tmod (n + 3 * (i1 : Int) : Int) (3 : Int)) == (0 : Int), ((mkU (fF n) l i1).getD i1 (⟨false, 0, 0⟩ : GFact)).a, ((mkU (fF n) l i1).getD i1 (⟨false, 0, 0⟩ : GFact)).b⟩ : GFact)).getD i1 (⟨false, 0, 0⟩ : GFact)).eq, (n + 3 * (i1 : Int) : Int) + (1 : Int), (((mkU (fF n) l i1).set i1 (⟨(Int.tmod (n + 3 * (i1 : Int) : Int) (3 : Int)) == (0 : Int), ((mkU (fF n) l i1).getD i1 (⟨false, 0, 0⟩ : GFact)).a, ((mkU (fF n) l i1).getD i1 (⟨false, 0, 0⟩ : GFact)).b⟩ : GFact)).getD i1 (⟨false, 0, 0⟩ : GFact)).b⟩ : GFact)).length : Nat) : Int)) ∧ True ∧ (TF ∧ TF ∧ True ∧ ((7 : Nat) ∉ ([] : List Nat))) ∧ True ∧ (inK .i64 ((((n + 3 * (i1 : Int) : Int) + (1 : Int)) + (1 : Int)) + (1 : Int))) ∧ True ∧ True ∧ (VC_markFactS_1 l n k i1)) (True ∧ True ∧ ((some [.c (.d (.val (.int .i64 (n + 3 * (i1 : Int) : Int))))] : Option (List S0)) = some [.c (.d (.val (.int .i64 (n + 3 * (l.length : Int)))))]) ∧ ((some (mkU (fF n) l i1) : Option (List GFact)) = some (mkF l n)))))
theorem vcn_markFactS (l : List GFact) (n : Int) (k : Nat) (hp : 0 ≤ n ∧ n ≤ 4611686018427387904 ∧ l.length ≤ 281474976710656) : VC_markFactS l n k := by
  unfold VC_markFactS VC_markFactS_1
  simp only [TT, TF, TN, RL, RM, true_and, and_true, eq_self, implies_true, forall_const, List.cons.injEq, S.s.injEq, S0.c.injEq, S0.agg.injEq, CV.d.injEq, CV.own.injEq, CV.ptr.injEq, DC.val.injEq, Value.int.injEq, Value.bool.injEq, Option.some.injEq, Res.blk.injEq, Prod.mk.injEq, inK, min_i64, max_i64, min_u16, max_u16, min_u8, max_u8, min_u64, max_u64, vcIf_true, vcIf_false, List.mem_nil_iff, List.not_mem_nil, not_false_eq_true, Nat.reduceEqDiff, Nat.reduceLeDiff, ne_eq, Bool.and_true, Nat.add_zero, List.append_nil, List.nil_append, List.length_nil, List.length_cons, Nat.zero_add, Nat.reduceAdd, Int.toNat_natCast, Nat.sub_zero, List.drop_zero, List.map_nil, List.take_zero, forall_eq]
  all_goals (try simp only [vcIf_iff, decide_eq_true_eq, decide_eq_false_iff_not, bne_iff_ne, ne_eq, beq_iff_eq, beq_eq_false_iff_ne, bne_eq_false_iff_eq, Bool.not_eq_true', Bool.not_eq_false', Int.ofNat_lt, Int.natCast_inj])
  all_goals (repeat' (first | apply And.intro | intro _))
  all_goals (try simp (disch := assumption) only [set3_len, mkU_sl, mkU_len] at *)
  all_goals (first | omega | (simp_all; done) | exact mkU_zero.symm | exact mkU_full (by assumption) (by assumption) | (rw [← mkU_set (by assumption)]; (try simp (disch := assumption) only [set_twice, mkU_gs, fF]); first | done | rfl | (congr 2 <;> omega) | (congr 3 <;> omega)) | grind [mkU_zero, mkU_full])
theorem vce_markFactS (l : List GFact) (n : Int) (k : Nat) : VC_markFactS l n k = vcR tab (lookF L_markFactS) (lookP P_markFactS) (fun _ => false) (an_markFactS l n) (fun _ => []) [7] (bodyOf Try.f104) (isoSt m_markFactS () l (n, ())) (isoQ tab m_markFactS Try.f104.results.toList () l (n, ())) := by kernel_rfl
theorem ptok_markFactS : PTOk Try.prog E 104 pt_markFactS :=
  mut_ok (l := L_markFactS) (lp := P_markFactS) (hp := fun _ => false) (perm := fun _ => []) tabOk mix trivial trivial Try.func104 rfl (by kernel_rfl) rfl (by decide) (by kernel_rfl) (anns := fun x l y => an_markFactS l y.1) (fun _ l ⟨n, _⟩ hp => (vce_markFactS l n 0).mp (vcn_markFactS l n 0 hp))
end Go.Proofs.Ytcnjahaoecngbaa

namespace Go.Proofs.Ytcnjahaoecngbaa
open Go.SE Go.RowKit
set_option linter.unusedSimpArgs false
set_option linter.unusedVariables false
set_option maxHeartbeats 1000000
set_option maxRecDepth 100000
/-! markAtomS -/
abbrev m_markAtomS : MCon := ⟨[], .atom, [.int], fun _ l (n, _) => 0 ≤ n ∧ n ≤ 4611686018427387904 ∧ l.length ≤ 281474976710656, fun _ l (n, _) => .int .i64 (n + 3 * (l.length : Int)), fun _ l (n, _) => mkG l n⟩
abbrev pt_markAtomS : PT := ptM m_markAtomS
abbrev L_markAtomS : List (FuncId × Con) := []
abbrev P_markAtomS : List (FuncId × PT) := []
def an_markAtomS (l : List GAtom) (n : Int) : Nat → St → Option Ann
  | 2, se => some { α := Nat, ok := fun i => i ≤ l.length, mu := fun i => l.length - i, i0 := fun _ => 0, nx := fun a _ => (fun i => i + 1) a, live := [4], sets := fun i => [(5, sv (.int .i64 i)), (1, sv (.int .i64 (n + 3 * (i : Int))))], mids := [], blks := fun i => [], owns := fun i => [⟨7, .slot 0, .atom, mkU (fG n) l i⟩], rd := fun r _ => r, base := 100000 }
  | _, _ => none
def VC_markAtomS_1 (l : List GAtom) (n : Int) (k : Nat) (i1 : Nat) : Prop := ((0 ≤ ((i1 : Nat) : Int) ∧ ((i1 : Nat) : Int) < (((((mkU (fG n) l i1).set i1 (⟨(n + 3 * (i1 : Int) : Int), ((mkU (fG n) l i1).getD i1 (⟨0, 0, 0⟩ : GAtom)).a, ((mkU (fG n) l i1).getD i1 (⟨0, 0, 0⟩ : GAtom)).b⟩ : GAtom)).set i1 (⟨(((mkU (fG n) l i1).set i1 (⟨(n + 3 * (i1 : Int) : Int), ((mkU (fG n) l i1).getD i1 (⟨0, 0, 0⟩ : GAtom)).a, ((mkU (fG n) l i1).getD i1 (⟨0, 0, 0⟩ : GAtom)).b⟩ : GAtom)).getD i1 (⟨0, 0, 0⟩ : GAtom)).kind, (n + 3 * (i1 : Int) : Int) + (1 : Int), (((mkU (fG n) l i1).set i1 (⟨(n + 3 * (i1 : Int) : Int), ((mkU (fG n) l i1).getD i1 (⟨0, 0, 0⟩ : GAtom)).a, ((mkU (fG n) l i1).getD i1 (⟨0, 0, 0⟩ : GAtom)).b⟩ : GAtom)).getD i1 (⟨0, 0, 0⟩ : GAtom)).b⟩ : GAtom)).length : Nat) : Int)) ∧ True ∧ (TF ∧ TF ∧ True ∧ ((7 : Nat) ∉ ([] : List Nat))) ∧ True ∧ (inK .i64 ((((n + 3 * (i1 : Int) : Int) + (1 : Int)) + (1 : Int)) + (1 : Int))) ∧ True ∧ True ∧ (inK .i64 (((i1 : Nat) : Int) + (1 : Int))) ∧ True ∧ ((i1 + 1) ≤ l.length) ∧ (l.length - (i1 + 1) < l.length - i1) ∧ TT ∧ (RL [.s (.c (.d (.val (.int .i64 (0 : Int)))))]) ∧ (([.s (.c (.d (.val (.int .i64 (((i1 : Nat) : Int) + (1 : Int)))))), .s (.c (.d (.val (.int .i64 ((((n + 3 * (i1 : Int) : Int) + (1 : Int)) + (1 : Int)) + (1 : Int))))))] : List S) = [.s (.c (.d (.val (.int .i64 (((i1 + 1) : Nat) : Int))))), .s (.c (.d (.val (.int .i64 (n + 3 * ((i1 + 1) : Int) : Int)))))]) ∧ (RM []) ∧ (RM []) ∧ (((some ((((mkU (fG n) l i1).set i1 (⟨(n + 3 * (i1 : Int) : Int), ((mkU (fG n) l i1).getD i1 (⟨0, 0, 0⟩ : GAtom)).a, ((mkU (fG n) l i1).getD i1 (⟨0, 0, 0⟩ : GAtom)).b⟩ : GAtom)).set i1 (⟨(((mkU (fG n) l i1).set i1 (⟨(n + 3 * (i1 : Int) : Int), ((mkU (fG n) l i1).getD i1 (⟨0, 0, 0⟩ : GAtom)).a, ((mkU (fG n) l i1).getD i1 (⟨0, 0, 0⟩ : GAtom)).b⟩ : GAtom)).getD i1 (⟨0, 0, 0⟩ : GAtom)).kind, (n + 3 * (i1 : Int) : Int) + (1 : Int), (((mkU (fG n) l i1).set i1 (⟨(n + 3 * (i1 : Int) : Int), ((mkU (fG n) l i1).getD i1 (⟨0, 0, 0⟩ : GAtom)).a, ((mkU (fG n) l i1).getD i1 (⟨0, 0, 0⟩ : GAtom)).b⟩ : GAtom)).getD i1 (⟨0, 0, 0⟩ : GAtom)).b⟩ : GAtom)).set i1 (⟨((((mkU (fG n) l i1).set i1 (⟨(n + 3 * (i1 : Int) : Int), ((mkU (fG n) l i1).getD i1 (⟨0, 0, 0⟩ : GAtom)).a, ((mkU (fG n) l i1).getD i1 (⟨0, 0, 0⟩ : GAtom)).b⟩ : GAtom)).set i1 (⟨(((mkU (fG n) l i1).set i1 (⟨(n + 3 * (i1 : Int) : Int), ((mkU (fG n) l i1).getD i1 (⟨0, 0, 0⟩ : GAtom)).a, ((mkU (fG n) l i1).getD i1 (⟨0, 0, 0⟩ : GAtom)).b⟩ : GAtom)).getD i1 (⟨0, 0, 0⟩ : GAtom)).kind, (n + 3 * (i1 : Int) : Int) + (1 : Int), (((mkU (fG n) l i1).set i1 (⟨(n + 3 * (i1 : Int) : Int), ((mkU (fG n) l i1).getD i1 (⟨0, 0, 0⟩ : GAtom)).a, ((mkU (fG n) l i1).getD i1 (⟨0, 0, 0⟩ : GAtom)).b⟩ : GAtom)).getD i1 (⟨0, 0, 0⟩ : GAtom)).b⟩ : GAtom)).getD i1 (⟨0, 0, 0⟩ : GAtom)).kind, ((((mkU (fG n) l i1).set i1 (⟨(n + 3 * (i1 : Int) : Int), ((mkU (fG n) l i1).getD i1 (⟨0, 0, 0⟩ : GAtom)).a, ((mkU (fG n) l i1).getD i1 (⟨0, 0, 0⟩ : GAtom)).b⟩ : GAtom)).set i1 (⟨(((mkU (fG n) l i1).set i1 (⟨(n + 3 * (i1 : Int) : Int), ((mkU (fG n) l i1).getD i1 (⟨0, 0, 0⟩ : GAtom)).a, ((mkU (fG n) l i1).getD i1 (⟨0, 0, 0⟩ : GAtom)).b⟩ : GAtom)).getD i1 (⟨0, 0, 0⟩ : GAtom)).kind, (n + 3 * (i1 : Int) : Int) + (1 : Int), (((mkU (fG n) l i1).set i1 (⟨(n + 3 * (i1 : Int) : Int), ((mkU (fG n) l i1).getD i1 (⟨0, 0, 0⟩ : GAtom)).a, ((mkU (fG n) l i1).getD i1 (⟨0, 0, 0⟩ : GAtom)).b⟩ : GAtom)).getD i1 (⟨0, 0, 0⟩ : GAtom)).b⟩ : GAtom)).getD i1 (⟨0, 0, 0⟩ : GAtom)).a, ((n + 3 * (i1 : Int) : Int) + (1 : Int)) + (1 : Int)⟩ : GAtom)) : Option (List GAtom)) = some (mkU (fG n) l (i1 + 1))) ∧ True) ∧ TT)
def VC_markAtomS (l : List GAtom) (n : Int) (k : Nat) : Prop := True ∧ True ∧ ((0 ≤ l.length) ∧ TT ∧ (RL [.s (.c (.d (.val (.int .i64 (0 : Int)))))]) ∧ (([.s (.c (.d (.val (.int .i64 (0 : Int))))), .s (.c (.d (.val (.int .i64 n))))] : List S) = [.s (.c (.d (.val (.int .i64 ((0 : Nat) : Int))))), .s (.c (.d (.val (.int .i64 (n + 3 * (0 : Int) : Int)))))]) ∧ (RM []) ∧ (RM []) ∧ (((some l : Option (List GAtom)) = some (mkU (fG n) l 0)) ∧ True) ∧ TT) ∧ (∀ i1 : Nat, (i1 ≤ l.length) → True ∧ True ∧ True ∧ True ∧ (vcIf (decide (((i1 : Nat) : Int) < (((mkU (fG n) l i1).length : Nat) : Int))) (True ∧ True ∧ True ∧ (0 ≤ ((i1 : Nat) : Int) ∧ ((i1 : Nat) : Int) < (((mkU (fG n) l i1).length : Nat) : Int)) ∧ True ∧ (TF ∧ TF ∧ True ∧ ((7 : Nat) ∉ ([] : List Nat))) ∧ True ∧ (inK .i64 ((n + 3 * (i1 : Int) : Int) + (1 : Int))) ∧ True ∧ True ∧ True ∧ True ∧ (0 ≤ ((i1 : Nat) : Int) ∧ ((i1 : Nat) : Int) < ((((mkU (fG n) l i1).set i1 (⟨(n + 3 * (i1 : Int) : Int), ((mkU (fG n) l i1).getD i1 (⟨0, 0, 0⟩ : GAtom)).a, ((mkU (fG n) l i1).getD i1 (⟨0, 0, 0⟩ : GAtom)).b⟩ : GAtom)).length : Nat) : Int)) ∧ True ∧ (TF ∧ TF ∧ True ∧ ((7 : Nat) ∉ ([] : List Nat))) ∧ True ∧ (inK .i64 (((n + 3 * (i1 : Int) : Int) + (1 : Int)) + (1 : Int))) ∧ True ∧ True ∧ True ∧ True ∧ (VC_markAtomS_1 l n k i1)) (True ∧ True ∧ ((some [.c (.d (.val (.int .i64 (n + 3 * (i1 : Int) : Int))))] : Option (List S0)) = some [.c (.d (.val (.int .i64 (n + 3 * (l.length : Int)))))]) ∧ ((some (mkU (fG n) l i1) : Option (List GAtom)) = some (mkG l n)))))
theorem vcn_markAtomS (l : List GAtom) (n : Int) (k : Nat) (hp : 0 ≤ n ∧ n ≤ 4611686018427387904 ∧ l.length ≤ 281474976710656) : VC_markAtomS l n k := by
  unfold VC_markAtomS VC_markAtomS_1
  simp only [TT, TF, TN, RL, RM, true_and, and_true, eq_self, implies_true, forall_const, List.cons.injEq, S.s.injEq, S0.c.injEq, S0.agg.injEq, CV.d.injEq, CV.own.injEq, CV.ptr.injEq, DC.val.injEq, Value.int.injEq, Value.bool.injEq, Option.some.injEq, Res.blk.injEq, Prod.mk.injEq, inK, min_i64, max_i64, min_u16, max_u16, min_u8, max_u8, min_u64, max_u64, vcIf_true, vcIf_false, List.mem_nil_iff, List.not_mem_nil, not_false_eq_true, Nat.reduceEqDiff, Nat.reduceLeDiff, ne_eq, Bool.and_true, Nat.add_zero, List.append_nil, List.nil_append, List.length_nil, List.length_cons, Nat.zero_add, Nat.reduceAdd, Int.toNat_natCast, Nat.sub_zero, List.drop_zero, List.map_nil, List.take_zero, forall_eq]
  all_goals (try simp only [vcIf_iff, decide_eq_true_eq, decide_eq_false_iff_not, bne_iff_ne, ne_eq, beq_iff_eq, beq_eq_false_iff_ne, bne_eq_false_iff_eq, Bool.not_eq_true', Bool.not_eq_false', Int.ofNat_lt, Int.natCast_inj])
  all_goals (repeat' (first | apply And.intro | intro _))
  all_goals (try simp (disch := assumption) only [set3_len, mkU_sl, mkU_len] at *)
  all_goals (first | omega | (simp_all; done) | exact mkU_zero.symm | exact mkU_full (by assumption) (by assumption) | (rw [← mkU_set (by assumption)]; (try simp (disch := assumption) only [set_twice, mkU_gs, fG]); first | done | rfl | (congr 2 <;> omega) | (congr 3 <;> omega)) | grind [mkU_zero, mkU_full])
theorem vce_markAtomS (l : List GAtom) (n : Int) (k : Nat) : VC_markAtomS l n k = vcR tab (lookF L_markAtomS) (lookP P_markAtomS) (fun _ => false) (an_markAtomS l n) (fun _ => []) [7] (bodyOf Try.f105) (isoSt m_markAtomS () l (n, ())) (isoQ tab m_markAtomS Try.f105.results.toList () l (n, ())) := by kernel_rfl
theorem ptok_markAtomS : PTOk Try.prog E 105 pt_markAtomS :=
  mut_ok (l := L_markAtomS) (lp := P_markAtomS) (hp := fun _ => false) (perm := fun _ => []) tabOk mix trivial trivial Try.func105 rfl (by kernel_rfl) rfl (by decide) (by kernel_rfl) (anns := fun x l y => an_markAtomS l y.1) (fun _ l ⟨n, _⟩ hp => (vce_markAtomS l n 0).mp (vcn_markAtomS l n 0 hp))
end Go.Proofs.Ytcnjahaoecngbaa

namespace Go.Proofs.Ytcnjahaoecngbaa
open Go.SE Go.RowKit
set_option linter.unusedSimpArgs false
set_option linter.unusedVariables false
set_option maxHeartbeats 1000000
set_option maxRecDepth 100000

/-! markAssertion -/
abbrev L_markAssertion : List (FuncId × Con) := []
abbrev P_markAssertion : List (FuncId × PT) := [(104, pt_markFactS), (105, pt_markAtomS)]
def hp_markAssertion : Nat → Bool
  | 1 => true
  | 2 => true
  | _ => false
abbrev pt_markAssertion : PT := inl tab (lookF L_markAssertion) (lookP P_markAssertion) (hp_markAssertion) (fun _ _ => none) (fun _ _ _ _ => none) (fun _ => []) Try.f42.ntmps (bodyOf Try.f42) Try.f42.results.toList
theorem ptok_markAssertion : PTOk Try.prog E 42 pt_markAssertion :=
  pt_ok (l := L_markAssertion) (lp := P_markAssertion) tabOk mix trivial ⟨ptok_markFactS, ptok_markAtomS, trivial⟩ Try.func42 rfl (by kernel_rfl) (by kernel_rfl)
end Go.Proofs.Ytcnjahaoecngbaa

namespace Go.Proofs.Ytcnjahaoecngbaa
open Go.SE Go.RowKit
set_option linter.unusedSimpArgs false
set_option linter.unusedVariables false
set_option maxHeartbeats 1000000
set_option maxRecDepth 100000
/-! heldFactS -/
abbrev c_heldFactS : Con := ⟨[.sl .fact, .int], [.int], fun (l, n, _) => 0 ≤ n ∧ n ≤ 4611686018427387904 ∧ l.length ≤ 281474976710656, .inl fun (l, n, _) => (hdF l n, ()), fun _ => 0⟩
abbrev L_heldFactS : List (FuncId × Con) := []
abbrev P_heldFactS : List (FuncId × PT) := []
def an_heldFactS (l : List GFact) (n : Int) : Nat → St → Option Ann
  | 2, se => some { α := Nat, ok := fun i => i ≤ l.length ∧ hdI' (fF n) l i, mu := fun i => l.length - i, i0 := fun _ => 0, nx := fun a _ => (fun i => i + 1) a, live := [0], sets := fun i => [(5, sv (.int .i64 i)), (1, sv (.int .i64 (n + 3 * (i : Int))))], mids := [], blks := fun i => [], owns := fun i => [], rd := fun r _ => r, base := 100000 }
  | _, _ => none
def VC_heldFactS (l : List GFact) (n : Int) (k : Nat) : Prop := True ∧ True ∧ ((0 ≤ l.length ∧ hdI' (fF n) l 0) ∧ TT ∧ (RL [.s (.c (.d (.arr .fact l)))]) ∧ (([.s (.c (.d (.val (.int .i64 (0 : Int))))), .s (.c (.d (.val (.int .i64 n))))] : List S) = [.s (.c (.d (.val (.int .i64 ((0 : Nat) : Int))))), .s (.c (.d (.val (.int .i64 (n + 3 * (0 : Int) : Int)))))]) ∧ (RM []) ∧ (RM []) ∧ True ∧ TT) ∧ (∀ i1 : Nat, (i1 ≤ l.length ∧ hdI' (fF n) l i1) → True ∧ True ∧ True ∧ True ∧ (vcIf (decide (((i1 : Nat) : Int) < ((l.length : Nat) : Int))) (True ∧ True ∧ (0 ≤ ((i1 : Nat) : Int) ∧ ((i1 : Nat) : Int) < ((l.length : Nat) : Int)) ∧ True ∧ True ∧ True ∧ ((3 : Int) ≠ 0) ∧ True ∧ True ∧ (vcIf (((l.getD i1 (⟨false, 0, 0⟩ : GFact)).eq) != ((Int.tmod (n + 3 * (i1 : Int) : Int) (3 : Int)) == (0 : Int))) (True ∧ ((((-1 : Int), ()) : Int × Unit) = (hdF l n, ())) ∧ True ∧ True ∧ True ∧ True ∧ TF) (True ∧ (inK .i64 ((n + 3 * (i1 : Int) : Int) + (1 : Int))) ∧ True ∧ True ∧ True ∧ (0 ≤ ((i1 : Nat) : Int) ∧ ((i1 : Nat) : Int) < ((l.length : Nat) : Int)) ∧ True ∧ True ∧ True ∧ True ∧ (vcIf (((l.getD i1 (⟨false, 0, 0⟩ : GFact)).a) != ((n + 3 * (i1 : Int) : Int) + (1 : Int))) (True ∧ ((((-1 : Int), ()) : Int × Unit) = (hdF l n, ())) ∧ True ∧ True ∧ True ∧ True ∧ TF) (True ∧ (inK .i64 (((n + 3 * (i1 : Int) : Int) + (1 : Int)) + (1 : Int))) ∧ True ∧ True ∧ True ∧ (0 ≤ ((i1 : Nat) : Int) ∧ ((i1 : Nat) : Int) < ((l.length : Nat) : Int)) ∧ True ∧ True ∧ True ∧ True ∧ (vcIf (((l.getD i1 (⟨false, 0, 0⟩ : GFact)).b) != (((n + 3 * (i1 : Int) : Int) + (1 : Int)) + (1 : Int))) (True ∧ ((((-1 : Int), ()) : Int × Unit) = (hdF l n, ())) ∧ True ∧ True ∧ True ∧ True ∧ TF) (True ∧ (inK .i64 ((((n + 3 * (i1 : Int) : Int) + (1 : Int)) + (1 : Int)) + (1 : Int))) ∧ True ∧ True ∧ (inK .i64 (((i1 : Nat) : Int) + (1 : Int))) ∧ True ∧ ((i1 + 1) ≤ l.length ∧ hdI' (fF n) l (i1 + 1)) ∧ (l.length - (i1 + 1) < l.length - i1) ∧ TT ∧ (RL [.s (.c (.d (.arr .fact l)))]) ∧ (([.s (.c (.d (.val (.int .i64 (((i1 : Nat) : Int) + (1 : Int)))))), .s (.c (.d (.val (.int .i64 ((((n + 3 * (i1 : Int) : Int) + (1 : Int)) + (1 : Int)) + (1 : Int))))))] : List S) = [.s (.c (.d (.val (.int .i64 (((i1 + 1) : Nat) : Int))))), .s (.c (.d (.val (.int .i64 (n + 3 * ((i1 + 1) : Int) : Int)))))]) ∧ (RM []) ∧ (RM []) ∧ True ∧ TT))))))) (True ∧ True ∧ ((((n + 3 * (i1 : Int) : Int), ()) : Int × Unit) = (hdF l n, ())) ∧ True ∧ True ∧ True ∧ True ∧ TF)))
theorem vcn_heldFactS (l : List GFact) (n : Int) (k : Nat) (hp : 0 ≤ n ∧ n ≤ 4611686018427387904 ∧ l.length ≤ 281474976710656) : VC_heldFactS l n k := by
  unfold VC_heldFactS
  simp only [TT, TF, TN, RL, RM, true_and, and_true, eq_self, implies_true, forall_const, List.cons.injEq, S.s.injEq, S0.c.injEq, S0.agg.injEq, CV.d.injEq, CV.own.injEq, CV.ptr.injEq, DC.val.injEq, Value.int.injEq, Value.bool.injEq, Option.some.injEq, Res.blk.injEq, Prod.mk.injEq, inK, min_i64, max_i64, min_u16, max_u16, min_u8, max_u8, min_u64, max_u64, vcIf_true, vcIf_false, List.mem_nil_iff, List.not_mem_nil, not_false_eq_true, Nat.reduceEqDiff, Nat.reduceLeDiff, ne_eq, Bool.and_true, Nat.add_zero, List.append_nil, List.nil_append, List.length_nil, List.length_cons, Nat.zero_add, Nat.reduceAdd, Int.toNat_natCast, Nat.sub_zero, List.drop_zero, List.map_nil, List.take_zero, forall_eq]
  all_goals (try simp only [vcIf_iff, decide_eq_true_eq, decide_eq_false_iff_not, bne_iff_ne, ne_eq, beq_iff_eq, beq_eq_false_iff_ne, bne_eq_false_iff_eq, Bool.not_eq_true', Bool.not_eq_false', Int.ofNat_lt, Int.natCast_inj])
  all_goals (repeat' (first | apply And.intro | intro _))
  all_goals (repeat (cases ‹_ ∧ _›))
  all_goals (first | omega | exact hd_zero _ _ | (simp_all; done) | skip)
  all_goals (first | (refine hd_step (d := Ty.zero .fact) (by assumption) (by assumption) ?_; simp only [Ty.zero, fF] at *; first | assumption | (cases h : l.getD _ _; simp_all; omega) | grind) | (have h5 := hd_full (by assumption) (by assumption) (by assumption); unfold hdF mkF; rw [decide_eq_true h5, cond_true]; omega) | (have h5 : l ≠ mkF l n := hd_not (d := Ty.zero .fact) (by assumption) (fun e => by simp only [Ty.zero, fF] at *; first | (simp_all; done) | (simp_all; omega)); unfold hdF; rw [decide_eq_false h5]; rfl) | grind)
theorem vce_heldFactS (l : List GFact) (n : Int) (k : Nat) : VC_heldFactS l n k = vcQ tab (lookF L_heldFactS) (lookP P_heldFactS) (fun _ => false) (fun _ => none) (an_heldFactS l n) (fun _ => []) (bodyOf Try.f106) (entry (encs c_heldFactS.aks (l, n, ())) (rdOf false k)) (retOk tab c_heldFactS Try.f106.results.toList (l, n, ()) k) := by kernel_rfl
theorem vc_heldFactS (l : List GFact) (n : Int) (k : Nat) (hp : 0 ≤ n ∧ n ≤ 4611686018427387904 ∧ l.length ≤ 281474976710656) : vcQ tab (lookF L_heldFactS) (lookP P_heldFactS) (fun _ => false) (fun _ => none) (an_heldFactS l n) (fun _ => []) (bodyOf Try.f106) (entry (encs c_heldFactS.aks (l, n, ())) (rdOf false k)) (retOk tab c_heldFactS Try.f106.results.toList (l, n, ()) k) := (vce_heldFactS l n k).mp (vcn_heldFactS l n k hp)
theorem ok_heldFactS : FnOk Try.prog E 106 c_heldFactS :=
  fn_okQ (l := L_heldFactS) (lp := P_heldFactS) (hp := fun _ => false) (gcs := fun _ => none) (perm := fun _ => []) tabOk mix trivial trivial Try.func106 rfl (by kernel_rfl) (by decide) (by kernel_rfl) (anns := fun x _ => an_heldFactS x.1 x.2.1) (fun ⟨l, n, _⟩ k hp _ => vc_heldFactS l n k hp) tot_fn
end Go.Proofs.Ytcnjahaoecngbaa
