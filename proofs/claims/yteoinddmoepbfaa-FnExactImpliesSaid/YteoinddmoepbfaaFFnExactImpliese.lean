/-
  Contracts of single functions of the program, each shown by the engine: what a call returns for arguments within the contract's bounds.
-/
import Derived.Test.YteoinddmoepbfaaFFnExactImpliesa
import Derived.Test.YteoinddmoepbfaaEe
import Derived.Test.YteoinddmoepbfaaFFnExactImpliesb
import Derived.Test.YteoinddmoepbfaaFFnExactImpliesd
import Derived.Test.YteoinddmoepbfaaEf
import Derived.Test.YteoinddmoepbfaaEg
set_option linter.unusedSimpArgs false
set_option linter.unusedVariables false
set_option linter.unusedSectionVars false

namespace Go.Proofs.Yteoinddmoepbfaa
open Go.SE Go.RowKit
set_option linter.unusedSimpArgs false
set_option linter.unusedVariables false
set_option maxHeartbeats 1000000
set_option maxRecDepth 100000
/-! eqFact -/
abbrev c_eqFact : Con := ⟨[.fact, .fact], [.bool], fun _ => True, .inl fun (f, g, _) => (decide (f = g), ()), fun _ => 0⟩
abbrev L_eqFact : List (FuncId × Con) := []
abbrev P_eqFact : List (FuncId × PT) := []
def VC_eqFact (f : GFact) (g : GFact) (k : Nat) : Prop := TN ∧ TN ∧ True ∧ True ∧ True ∧ True ∧ True ∧ True ∧ (vcIf (f.eq != g.eq) (True ∧ (((false, ()) : Bool × Unit) = (decide (f = g), ())) ∧ True ∧ True ∧ True ∧ True ∧ TF) (True ∧ True ∧ True ∧ True ∧ True ∧ (vcIf (f.a != g.a) (True ∧ (((false, ()) : Bool × Unit) = (decide (f = g), ())) ∧ True ∧ True ∧ True ∧ True ∧ TF) (True ∧ True ∧ True ∧ True ∧ True ∧ (vcIf (f.b != g.b) (True ∧ (((false, ()) : Bool × Unit) = (decide (f = g), ())) ∧ True ∧ True ∧ True ∧ True ∧ TF) (True ∧ (((true, ()) : Bool × Unit) = (decide (f = g), ())) ∧ True ∧ True ∧ True ∧ True ∧ TF))))))
theorem vcn_eqFact (f : GFact) (g : GFact) (k : Nat) : VC_eqFact f g k := by
  unfold VC_eqFact
  simp only [TT, TF, TN, RL, RM, true_and, and_true, eq_self, implies_true, forall_const, List.cons.injEq, S.s.injEq, S0.c.injEq, S0.agg.injEq, CV.d.injEq, CV.own.injEq, CV.ptr.injEq, DC.val.injEq, Value.int.injEq, Value.bool.injEq, Option.some.injEq, Res.blk.injEq, Prod.mk.injEq, inK, min_i64, max_i64, min_u16, max_u16, min_u8, max_u8, min_u64, max_u64, vcIf_true, vcIf_false, List.mem_nil_iff, List.not_mem_nil, not_false_eq_true, Nat.reduceEqDiff, Nat.reduceLeDiff, ne_eq, Bool.and_true, Nat.add_zero, List.append_nil, List.nil_append, List.length_nil, List.length_cons, Nat.zero_add, Nat.reduceAdd, Int.toNat_natCast, Nat.sub_zero, List.drop_zero, List.map_nil, List.take_zero, forall_eq]
  obtain ⟨f1, f2, f3⟩ := f; obtain ⟨g1, g2, g3⟩ := g
  all_goals (try simp only [vcIf_iff, decide_eq_true_eq, decide_eq_false_iff_not, bne_iff_ne, ne_eq, beq_iff_eq, beq_eq_false_iff_ne, bne_eq_false_iff_eq, Bool.not_eq_true', Bool.not_eq_false', Int.ofNat_lt, Int.natCast_inj])
  all_goals (repeat' (first | apply And.intro | intro _))
  all_goals (first | omega | (simp_all; done) | grind [])
theorem vce_eqFact (f : GFact) (g : GFact) (k : Nat) : VC_eqFact f g k = vcQ tab (lookF L_eqFact) (lookP P_eqFact) (fun _ => false) (fun _ => none) (fun _ _ => none) (fun _ => []) (bodyOf Try.f122) (entry (encs c_eqFact.aks (f, g, ())) (rdOf false k)) (retOk tab c_eqFact Try.f122.results.toList (f, g, ()) k) := by kernel_rfl
theorem vc_eqFact (f : GFact) (g : GFact) (k : Nat) : vcQ tab (lookF L_eqFact) (lookP P_eqFact) (fun _ => false) (fun _ => none) (fun _ _ => none) (fun _ => []) (bodyOf Try.f122) (entry (encs c_eqFact.aks (f, g, ())) (rdOf false k)) (retOk tab c_eqFact Try.f122.results.toList (f, g, ()) k) := (vce_eqFact f g k).mp (vcn_eqFact f g k)
theorem ok_eqFact : FnOk Try.prog E 122 c_eqFact :=
  fn_okQ (l := L_eqFact) (lp := P_eqFact) (hp := fun _ => false) (gcs := fun _ => none) (perm := fun _ => []) tabOk mix trivial trivial Try.func122 rfl (by kernel_rfl) (by decide) (by kernel_rfl) (anns := fun x _ => fun _ _ => none) (fun ⟨f, g, _⟩ k _ _ => vc_eqFact f g k) tot_fn
end Go.Proofs.Yteoinddmoepbfaa

namespace Go.Proofs.Yteoinddmoepbfaa
open Go.SE Go.RowKit
set_option linter.unusedSimpArgs false
set_option linter.unusedVariables false
set_option maxHeartbeats 1000000
set_option maxRecDepth 100000
/-! eqFactS -/
abbrev c_eqFactS : Con := ⟨[.sl .fact, .sl .fact], [.bool], fun (a, b, _) => a.length ≤ 281474976710656 ∧ b.length ≤ 281474976710656, .inl fun (a, b, _) => (decide (a = b), ()), fun _ => 0⟩
abbrev L_eqFactS : List (FuncId × Con) := [(122, c_eqFact)]
abbrev P_eqFactS : List (FuncId × PT) := []
def an_eqFactS (a : List GFact) (b : List GFact) : Nat → St → Option Ann
  | 4, se => some { α := Nat, ok := fun i => i ≤ a.length ∧ a.length = b.length ∧ a.take i = b.take i, mu := fun i => a.length - i, i0 := fun _ => 0, nx := fun a _ => (fun i => i + 1) a, live := [0, 1], sets := fun i => [(5, sv (.int .i64 i))], mids := [], blks := fun i => [], owns := fun i => [], rd := fun r _ => r, base := 100000 }
  | _, _ => none
def VC_eqFactS (a : List GFact) (b : List GFact) (k : Nat) : Prop := True ∧ True ∧ True ∧ True ∧ True ∧ True ∧ (vcIf (((a.length : Nat) : Int) != ((b.length : Nat) : Int)) (True ∧ (((false, ()) : Bool × Unit) = (decide (a = b), ())) ∧ True ∧ True ∧ True ∧ True ∧ TF) (True ∧ ((0 ≤ a.length ∧ a.length = b.length ∧ a.take 0 = b.take 0) ∧ TT ∧ (RL [.s (.c (.d (.arr .fact a))), .s (.c (.d (.arr .fact b)))]) ∧ (([.s (.c (.d (.val (.int .i64 (0 : Int)))))] : List S) = [.s (.c (.d (.val (.int .i64 ((0 : Nat) : Int)))))]) ∧ (RM []) ∧ (RM []) ∧ True ∧ TT) ∧ (∀ i1 : Nat, (i1 ≤ a.length ∧ a.length = b.length ∧ a.take i1 = b.take i1) → True ∧ True ∧ True ∧ True ∧ (vcIf (decide (((i1 : Nat) : Int) < ((a.length : Nat) : Int))) (True ∧ True ∧ (0 ≤ ((i1 : Nat) : Int) ∧ ((i1 : Nat) : Int) < ((a.length : Nat) : Int)) ∧ True ∧ True ∧ True ∧ (0 ≤ ((i1 : Nat) : Int) ∧ ((i1 : Nat) : Int) < ((b.length : Nat) : Int)) ∧ True ∧ (True ∧ True ∧ True) ∧ True ∧ (vcIf (!(decide ((a.getD i1 (⟨false, 0, 0⟩ : GFact)) = (b.getD i1 (⟨false, 0, 0⟩ : GFact))))) (True ∧ (((false, ()) : Bool × Unit) = (decide (a = b), ())) ∧ True ∧ True ∧ True ∧ True ∧ TF) (True ∧ (inK .i64 (((i1 : Nat) : Int) + (1 : Int))) ∧ True ∧ ((i1 + 1) ≤ a.length ∧ a.length = b.length ∧ a.take (i1 + 1) = b.take (i1 + 1)) ∧ (a.length - (i1 + 1) < a.length - i1) ∧ TT ∧ (RL [.s (.c (.d (.arr .fact a))), .s (.c (.d (.arr .fact b)))]) ∧ (([.s (.c (.d (.val (.int .i64 (((i1 : Nat) : Int) + (1 : Int))))))] : List S) = [.s (.c (.d (.val (.int .i64 (((i1 + 1) : Nat) : Int)))))]) ∧ (RM []) ∧ (RM []) ∧ True ∧ TT))) (True ∧ (((true, ()) : Bool × Unit) = (decide (a = b), ())) ∧ True ∧ True ∧ True ∧ True ∧ TF)))))
theorem vcn_eqFactS (a : List GFact) (b : List GFact) (k : Nat) (hp : a.length ≤ 281474976710656 ∧ b.length ≤ 281474976710656) : VC_eqFactS a b k := by
  unfold VC_eqFactS
  simp only [TT, TF, TN, RL, RM, true_and, and_true, eq_self, implies_true, forall_const, List.cons.injEq, S.s.injEq, S0.c.injEq, S0.agg.injEq, CV.d.injEq, CV.own.injEq, CV.ptr.injEq, DC.val.injEq, Value.int.injEq, Value.bool.injEq, Option.some.injEq, Res.blk.injEq, Prod.mk.injEq, inK, min_i64, max_i64, min_u16, max_u16, min_u8, max_u8, min_u64, max_u64, vcIf_true, vcIf_false, List.mem_nil_iff, List.not_mem_nil, not_false_eq_true, Nat.reduceEqDiff, Nat.reduceLeDiff, ne_eq, Bool.and_true, Nat.add_zero, List.append_nil, List.nil_append, List.length_nil, List.length_cons, Nat.zero_add, Nat.reduceAdd, Int.toNat_natCast, Nat.sub_zero, List.drop_zero, List.map_nil, List.take_zero, forall_eq]
  all_goals (try simp only [vcIf_iff, decide_eq_true_eq, decide_eq_false_iff_not, bne_iff_ne, ne_eq, beq_iff_eq, beq_eq_false_iff_ne, bne_eq_false_iff_eq, Bool.not_eq_true', Bool.not_eq_false', Int.ofNat_lt, Int.natCast_inj])
  all_goals (repeat' (first | apply And.intro | intro _))
  all_goals (first | omega | (simp_all; done) | grind [same_step, same_not, take_full])
theorem vce_eqFactS (a : List GFact) (b : List GFact) (k : Nat) : VC_eqFactS a b k = vcQ tab (lookF L_eqFactS) (lookP P_eqFactS) (fun _ => false) (fun _ => none) (an_eqFactS a b) (fun _ => []) (bodyOf Try.f74) (entry (encs c_eqFactS.aks (a, b, ())) (rdOf false k)) (retOk tab c_eqFactS Try.f74.results.toList (a, b, ()) k) := by kernel_rfl
theorem vc_eqFactS (a : List GFact) (b : List GFact) (k : Nat) (hp : a.length ≤ 281474976710656 ∧ b.length ≤ 281474976710656) : vcQ tab (lookF L_eqFactS) (lookP P_eqFactS) (fun _ => false) (fun _ => none) (an_eqFactS a b) (fun _ => []) (bodyOf Try.f74) (entry (encs c_eqFactS.aks (a, b, ())) (rdOf false k)) (retOk tab c_eqFactS Try.f74.results.toList (a, b, ()) k) := (vce_eqFactS a b k).mp (vcn_eqFactS a b k hp)
theorem ok_eqFactS : FnOk Try.prog E 74 c_eqFactS :=
  fn_okQ (l := L_eqFactS) (lp := P_eqFactS) (hp := fun _ => false) (gcs := fun _ => none) (perm := fun _ => []) tabOk mix ⟨ok_eqFact, trivial⟩ trivial Try.func74 rfl (by kernel_rfl) (by decide) (by kernel_rfl) (anns := fun x _ => an_eqFactS x.1 x.2.1) (fun ⟨a, b, _⟩ k hp _ => vc_eqFactS a b k hp) tot_fn
end Go.Proofs.Yteoinddmoepbfaa

namespace Go.Proofs.Yteoinddmoepbfaa
open Go.SE Go.RowKit
set_option linter.unusedSimpArgs false
set_option linter.unusedVariables false
set_option maxHeartbeats 1000000
set_option maxRecDepth 100000
/-! eqAtom -/
abbrev c_eqAtom : Con := ⟨[.atom, .atom], [.bool], fun _ => True, .inl fun (f, g, _) => (decide (f = g), ()), fun _ => 0⟩
abbrev L_eqAtom : List (FuncId × Con) := []
abbrev P_eqAtom : List (FuncId × PT) := []
def VC_eqAtom (f : GAtom) (g : GAtom) (k : Nat) : Prop := TN ∧ TN ∧ True ∧ True ∧ True ∧ True ∧ True ∧ True ∧ (vcIf (f.kind != g.kind) (True ∧ (((false, ()) : Bool × Unit) = (decide (f = g), ())) ∧ True ∧ True ∧ True ∧ True ∧ TF) (True ∧ True ∧ True ∧ True ∧ True ∧ (vcIf (f.a != g.a) (True ∧ (((false, ()) : Bool × Unit) = (decide (f = g), ())) ∧ True ∧ True ∧ True ∧ True ∧ TF) (True ∧ True ∧ True ∧ True ∧ True ∧ (vcIf (f.b != g.b) (True ∧ (((false, ()) : Bool × Unit) = (decide (f = g), ())) ∧ True ∧ True ∧ True ∧ True ∧ TF) (True ∧ (((true, ()) : Bool × Unit) = (decide (f = g), ())) ∧ True ∧ True ∧ True ∧ True ∧ TF))))))
theorem vcn_eqAtom (f : GAtom) (g : GAtom) (k : Nat) : VC_eqAtom f g k := by
  unfold VC_eqAtom
  simp only [TT, TF, TN, RL, RM, true_and, and_true, eq_self, implies_true, forall_const, List.cons.injEq, S.s.injEq, S0.c.injEq, S0.agg.injEq, CV.d.injEq, CV.own.injEq, CV.ptr.injEq, DC.val.injEq, Value.int.injEq, Value.bool.injEq, Option.some.injEq, Res.blk.injEq, Prod.mk.injEq, inK, min_i64, max_i64, min_u16, max_u16, min_u8, max_u8, min_u64, max_u64, vcIf_true, vcIf_false, List.mem_nil_iff, List.not_mem_nil, not_false_eq_true, Nat.reduceEqDiff, Nat.reduceLeDiff, ne_eq, Bool.and_true, Nat.add_zero, List.append_nil, List.nil_append, List.length_nil, List.length_cons, Nat.zero_add, Nat.reduceAdd, Int.toNat_natCast, Nat.sub_zero, List.drop_zero, List.map_nil, List.take_zero, forall_eq]
  obtain ⟨f1, f2, f3⟩ := f; obtain ⟨g1, g2, g3⟩ := g
  all_goals (try simp only [vcIf_iff, decide_eq_true_eq, decide_eq_false_iff_not, bne_iff_ne, ne_eq, beq_iff_eq, beq_eq_false_iff_ne, bne_eq_false_iff_eq, Bool.not_eq_true', Bool.not_eq_false', Int.ofNat_lt, Int.natCast_inj])
  all_goals (repeat' (first | apply And.intro | intro _))
  all_goals (first | omega | (simp_all; done) | grind [])
theorem vce_eqAtom (f : GAtom) (g : GAtom) (k : Nat) : VC_eqAtom f g k = vcQ tab (lookF L_eqAtom) (lookP P_eqAtom) (fun _ => false) (fun _ => none) (fun _ _ => none) (fun _ => []) (bodyOf Try.f123) (entry (encs c_eqAtom.aks (f, g, ())) (rdOf false k)) (retOk tab c_eqAtom Try.f123.results.toList (f, g, ()) k) := by kernel_rfl
theorem vc_eqAtom (f : GAtom) (g : GAtom) (k : Nat) : vcQ tab (lookF L_eqAtom) (lookP P_eqAtom) (fun _ => false) (fun _ => none) (fun _ _ => none) (fun _ => []) (bodyOf Try.f123) (entry (encs c_eqAtom.aks (f, g, ())) (rdOf false k)) (retOk tab c_eqAtom Try.f123.results.toList (f, g, ()) k) := (vce_eqAtom f g k).mp (vcn_eqAtom f g k)
theorem ok_eqAtom : FnOk Try.prog E 123 c_eqAtom :=
  fn_okQ (l := L_eqAtom) (lp := P_eqAtom) (hp := fun _ => false) (gcs := fun _ => none) (perm := fun _ => []) tabOk mix trivial trivial Try.func123 rfl (by kernel_rfl) (by decide) (by kernel_rfl) (anns := fun x _ => fun _ _ => none) (fun ⟨f, g, _⟩ k _ _ => vc_eqAtom f g k) tot_fn
end Go.Proofs.Yteoinddmoepbfaa

namespace Go.Proofs.Yteoinddmoepbfaa
open Go.SE Go.RowKit
set_option linter.unusedSimpArgs false
set_option linter.unusedVariables false
set_option maxHeartbeats 1000000
set_option maxRecDepth 100000
/-! eqAtomS -/
abbrev c_eqAtomS : Con := ⟨[.sl .atom, .sl .atom], [.bool], fun (a, b, _) => a.length ≤ 281474976710656 ∧ b.length ≤ 281474976710656, .inl fun (a, b, _) => (decide (a = b), ()), fun _ => 0⟩
abbrev L_eqAtomS : List (FuncId × Con) := [(123, c_eqAtom)]
abbrev P_eqAtomS : List (FuncId × PT) := []
def an_eqAtomS (a : List GAtom) (b : List GAtom) : Nat → St → Option Ann
  | 4, se => some { α := Nat, ok := fun i => i ≤ a.length ∧ a.length = b.length ∧ a.take i = b.take i, mu := fun i => a.length - i, i0 := fun _ => 0, nx := fun a _ => (fun i => i + 1) a, live := [0, 1], sets := fun i => [(5, sv (.int .i64 i))], mids := [], blks := fun i => [], owns := fun i => [], rd := fun r _ => r, base := 100000 }
  | _, _ => none
def VC_eqAtomS (a : List GAtom) (b : List GAtom) (k : Nat) : Prop := True ∧ True ∧ True ∧ True ∧ True ∧ True ∧ (vcIf (((a.length : Nat) : Int) != ((b.length : Nat) : Int)) (True ∧ (((false, ()) : Bool × Unit) = (decide (a = b), ())) ∧ True ∧ True ∧ True ∧ True ∧ TF) (True ∧ ((0 ≤ a.length ∧ a.length = b.length ∧ a.take 0 = b.take 0) ∧ TT ∧ (RL [.s (.c (.d (.arr .atom a))), .s (.c (.d (.arr .atom b)))]) ∧ (([.s (.c (.d (.val (.int .i64 (0 : Int)))))] : List S) = [.s (.c (.d (.val (.int .i64 ((0 : Nat) : Int)))))]) ∧ (RM []) ∧ (RM []) ∧ True ∧ TT) ∧ (∀ i1 : Nat, (i1 ≤ a.length ∧ a.length = b.length ∧ a.take i1 = b.take i1) → True ∧ True ∧ True ∧ True ∧ (vcIf (decide (((i1 : Nat) : Int) < ((a.length : Nat) : Int))) (True ∧ True ∧ (0 ≤ ((i1 : Nat) : Int) ∧ ((i1 : Nat) : Int) < ((a.length : Nat) : Int)) ∧ True ∧ True ∧ True ∧ (0 ≤ ((i1 : Nat) : Int) ∧ ((i1 : Nat) : Int) < ((b.length : Nat) : Int)) ∧ True ∧ (True ∧ True ∧ True) ∧ True ∧ (vcIf (!(decide ((a.getD i1 (⟨0, 0, 0⟩ : GAtom)) = (b.getD i1 (⟨0, 0, 0⟩ : GAtom))))) (True ∧ (((false, ()) : Bool × Unit) = (decide (a = b), ())) ∧ True ∧ True ∧ True ∧ True ∧ TF) (True ∧ (inK .i64 (((i1 : Nat) : Int) + (1 : Int))) ∧ True ∧ ((i1 + 1) ≤ a.length ∧ a.length = b.length ∧ a.take (i1 + 1) = b.take (i1 + 1)) ∧ (a.length - (i1 + 1) < a.length - i1) ∧ TT ∧ (RL [.s (.c (.d (.arr .atom a))), .s (.c (.d (.arr .atom b)))]) ∧ (([.s (.c (.d (.val (.int .i64 (((i1 : Nat) : Int) + (1 : Int))))))] : List S) = [.s (.c (.d (.val (.int .i64 (((i1 + 1) : Nat) : Int)))))]) ∧ (RM []) ∧ (RM []) ∧ True ∧ TT))) (True ∧ (((true, ()) : Bool × Unit) = (decide (a = b), ())) ∧ True ∧ True ∧ True ∧ True ∧ TF)))))
theorem vcn_eqAtomS (a : List GAtom) (b : List GAtom) (k : Nat) (hp : a.length ≤ 281474976710656 ∧ b.length ≤ 281474976710656) : VC_eqAtomS a b k := by
  unfold VC_eqAtomS
  simp only [TT, TF, TN, RL, RM, true_and, and_true, eq_self, implies_true, forall_const, List.cons.injEq, S.s.injEq, S0.c.injEq, S0.agg.injEq, CV.d.injEq, CV.own.injEq, CV.ptr.injEq, DC.val.injEq, Value.int.injEq, Value.bool.injEq, Option.some.injEq, Res.blk.injEq, Prod.mk.injEq, inK, min_i64, max_i64, min_u16, max_u16, min_u8, max_u8, min_u64, max_u64, vcIf_true, vcIf_false, List.mem_nil_iff, List.not_mem_nil, not_false_eq_true, Nat.reduceEqDiff, Nat.reduceLeDiff, ne_eq, Bool.and_true, Nat.add_zero, List.append_nil, List.nil_append, List.length_nil, List.length_cons, Nat.zero_add, Nat.reduceAdd, Int.toNat_natCast, Nat.sub_zero, List.drop_zero, List.map_nil, List.take_zero, forall_eq]
  all_goals (try simp only [vcIf_iff, decide_eq_true_eq, decide_eq_false_iff_not, bne_iff_ne, ne_eq, beq_iff_eq, beq_eq_false_iff_ne, bne_eq_false_iff_eq, Bool.not_eq_true', Bool.not_eq_false', Int.ofNat_lt, Int.natCast_inj])
  all_goals (repeat' (first | apply And.intro | intro _))
  all_goals (first | omega | (simp_all; done) | grind [same_step, same_not, take_full])
theorem vce_eqAtomS (a : List GAtom) (b : List GAtom) (k : Nat) : VC_eqAtomS a b k = vcQ tab (lookF L_eqAtomS) (lookP P_eqAtomS) (fun _ => false) (fun _ => none) (an_eqAtomS a b) (fun _ => []) (bodyOf Try.f75) (entry (encs c_eqAtomS.aks (a, b, ())) (rdOf false k)) (retOk tab c_eqAtomS Try.f75.results.toList (a, b, ()) k) := by kernel_rfl
theorem vc_eqAtomS (a : List GAtom) (b : List GAtom) (k : Nat) (hp : a.length ≤ 281474976710656 ∧ b.length ≤ 281474976710656) : vcQ tab (lookF L_eqAtomS) (lookP P_eqAtomS) (fun _ => false) (fun _ => none) (an_eqAtomS a b) (fun _ => []) (bodyOf Try.f75) (entry (encs c_eqAtomS.aks (a, b, ())) (rdOf false k)) (retOk tab c_eqAtomS Try.f75.results.toList (a, b, ()) k) := (vce_eqAtomS a b k).mp (vcn_eqAtomS a b k hp)
theorem ok_eqAtomS : FnOk Try.prog E 75 c_eqAtomS :=
  fn_okQ (l := L_eqAtomS) (lp := P_eqAtomS) (hp := fun _ => false) (gcs := fun _ => none) (perm := fun _ => []) tabOk mix ⟨ok_eqAtom, trivial⟩ trivial Try.func75 rfl (by kernel_rfl) (by decide) (by kernel_rfl) (anns := fun x _ => an_eqAtomS x.1 x.2.1) (fun ⟨a, b, _⟩ k hp _ => vc_eqAtomS a b k hp) tot_fn
end Go.Proofs.Yteoinddmoepbfaa

namespace Go.Proofs.Yteoinddmoepbfaa
open Go.SE Go.RowKit
set_option linter.unusedSimpArgs false
set_option linter.unusedVariables false
set_option maxHeartbeats 1000000
set_option maxRecDepth 100000
/-! eqAssertion -/
abbrev c_eqAssertion : Con := ⟨[.asn, .asn], [.bool], fun (a, b, _) => a.facts.length ≤ 281474976710656 ∧ a.atoms.length ≤ 281474976710656 ∧ b.facts.length ≤ 281474976710656 ∧ b.atoms.length ≤ 281474976710656, .inl fun (a, b, _) => (decide (a = b), ()), fun _ => 0⟩
abbrev L_eqAssertion : List (FuncId × Con) := [(74, c_eqFactS), (75, c_eqAtomS)]
abbrev P_eqAssertion : List (FuncId × PT) := []
def VC_eqAssertion (a : GAsn) (b : GAsn) (k : Nat) : Prop := TN ∧ TN ∧ True ∧ True ∧ True ∧ True ∧ True ∧ ((a.facts.length ≤ 281474976710656 ∧ b.facts.length ≤ 281474976710656) ∧ True ∧ True) ∧ True ∧ (vcIf (!(decide (a.facts = b.facts))) (True ∧ (((false, ()) : Bool × Unit) = (decide (a = b), ())) ∧ True ∧ True ∧ True ∧ True ∧ TF) (True ∧ True ∧ True ∧ True ∧ ((a.atoms.length ≤ 281474976710656 ∧ b.atoms.length ≤ 281474976710656) ∧ True ∧ True) ∧ True ∧ (vcIf (!(decide (a.atoms = b.atoms))) (True ∧ (((false, ()) : Bool × Unit) = (decide (a = b), ())) ∧ True ∧ True ∧ True ∧ True ∧ TF) (True ∧ (((true, ()) : Bool × Unit) = (decide (a = b), ())) ∧ True ∧ True ∧ True ∧ True ∧ TF))))
theorem vcn_eqAssertion (a : GAsn) (b : GAsn) (k : Nat) (hp : a.facts.length ≤ 281474976710656 ∧ a.atoms.length ≤ 281474976710656 ∧ b.facts.length ≤ 281474976710656 ∧ b.atoms.length ≤ 281474976710656) : VC_eqAssertion a b k := by
  unfold VC_eqAssertion
  simp only [TT, TF, TN, RL, RM, true_and, and_true, eq_self, implies_true, forall_const, List.cons.injEq, S.s.injEq, S0.c.injEq, S0.agg.injEq, CV.d.injEq, CV.own.injEq, CV.ptr.injEq, DC.val.injEq, Value.int.injEq, Value.bool.injEq, Option.some.injEq, Res.blk.injEq, Prod.mk.injEq, inK, min_i64, max_i64, min_u16, max_u16, min_u8, max_u8, min_u64, max_u64, vcIf_true, vcIf_false, List.mem_nil_iff, List.not_mem_nil, not_false_eq_true, Nat.reduceEqDiff, Nat.reduceLeDiff, ne_eq, Bool.and_true, Nat.add_zero, List.append_nil, List.nil_append, List.length_nil, List.length_cons, Nat.zero_add, Nat.reduceAdd, Int.toNat_natCast, Nat.sub_zero, List.drop_zero, List.map_nil, List.take_zero, forall_eq]
  obtain ⟨a1, a2⟩ := a; obtain ⟨b1, b2⟩ := b
  all_goals (try simp only [vcIf_iff, decide_eq_true_eq, decide_eq_false_iff_not, bne_iff_ne, ne_eq, beq_iff_eq, beq_eq_false_iff_ne, bne_eq_false_iff_eq, Bool.not_eq_true', Bool.not_eq_false', Int.ofNat_lt, Int.natCast_inj])
  all_goals (repeat' (first | apply And.intro | intro _))
  all_goals (first | omega | (simp_all; done) | grind [])
theorem vce_eqAssertion (a : GAsn) (b : GAsn) (k : Nat) : VC_eqAssertion a b k = vcQ tab (lookF L_eqAssertion) (lookP P_eqAssertion) (fun _ => false) (fun _ => none) (fun _ _ => none) (fun _ => []) (bodyOf Try.f24) (entry (encs c_eqAssertion.aks (a, b, ())) (rdOf false k)) (retOk tab c_eqAssertion Try.f24.results.toList (a, b, ()) k) := by kernel_rfl
theorem vc_eqAssertion (a : GAsn) (b : GAsn) (k : Nat) (hp : a.facts.length ≤ 281474976710656 ∧ a.atoms.length ≤ 281474976710656 ∧ b.facts.length ≤ 281474976710656 ∧ b.atoms.length ≤ 281474976710656) : vcQ tab (lookF L_eqAssertion) (lookP P_eqAssertion) (fun _ => false) (fun _ => none) (fun _ _ => none) (fun _ => []) (bodyOf Try.f24) (entry (encs c_eqAssertion.aks (a, b, ())) (rdOf false k)) (retOk tab c_eqAssertion Try.f24.results.toList (a, b, ()) k) := (vce_eqAssertion a b k).mp (vcn_eqAssertion a b k hp)
theorem ok_eqAssertion : FnOk Try.prog E 24 c_eqAssertion :=
  fn_okQ (l := L_eqAssertion) (lp := P_eqAssertion) (hp := fun _ => false) (gcs := fun _ => none) (perm := fun _ => []) tabOk mix ⟨ok_eqFactS, ok_eqAtomS, trivial⟩ trivial Try.func24 rfl (by kernel_rfl) (by decide) (by kernel_rfl) (anns := fun x _ => fun _ _ => none) (fun ⟨a, b, _⟩ k hp _ => vc_eqAssertion a b k hp) tot_fn
end Go.Proofs.Yteoinddmoepbfaa

namespace Go.Proofs.Yteoinddmoepbfaa
open Go.SE Go.RowKit
set_option linter.unusedSimpArgs false
set_option linter.unusedVariables false
set_option maxHeartbeats 1000000
set_option maxRecDepth 100000
/-! FnExactImplies -/
abbrev c_FnExactImplies : Con := ⟨[.asn, .fact], [.bool], fun (a, f, _) => a.facts.length ≤ 281474976710656 ∧ a.atoms.length ≤ 281474976710656, .inl fun (a, f, _) => (true, ()), fun _ => 0⟩
abbrev L_FnExactImplies : List (FuncId × Con) := [(16, c_iImplies), (17, c_sImplies), (20, c_szAssertion), (22, c_toAssertion), (24, c_eqAssertion), (25, c_toFact)]
abbrev P_FnExactImplies : List (FuncId × PT) := []
def VC_FnExactImplies (a : GAsn) (f : GFact) (k : Nat) : Prop := TN ∧ TN ∧ True ∧ True ∧ True ∧ True ∧ ((a.facts.length ≤ 281474976710656 ∧ a.atoms.length ≤ 281474976710656 ∧ 0 ≤ (1048576 : Int) ∧ (1048576 : Int) ≤ 1048576) ∧ True ∧ True) ∧ True ∧ True ∧ True ∧ (vcIf (decide ((szA a (1048576 : Int)) < (0 : Int))) (True ∧ (((true, ()) : Bool × Unit) = (true, ())) ∧ True ∧ True ∧ True ∧ True ∧ TF) (True ∧ ((a.facts.length ≤ 1048576 ∧ a.atoms.length ≤ 1048576) ∧ True ∧ TN ∧ TN ∧ True) ∧ True ∧ (True ∧ True ∧ True) ∧ ((a.facts.length ≤ 281474976710656 ∧ a.atoms.length ≤ 281474976710656) ∧ True ∧ True) ∧ True ∧ True ∧ ((a.facts.length ≤ 1048576 ∧ a.atoms.length ≤ 1048576) ∧ True ∧ TN ∧ TN ∧ True) ∧ (TN ∧ TN ∧ TN ∧ True) ∧ (TF ∧ TF) ∧ True ∧ True ∧ (True ∧ True ∧ True) ∧ ((a.facts.length ≤ 281474976710656 ∧ a.atoms.length ≤ 281474976710656) ∧ True ∧ True) ∧ True ∧ True ∧ True ∧ True ∧ (vcIf ((asV a && (fV f && (casesB a (hz a (fun t => f.a == t || f.b == t))).all (fun c => fh c f))) != (asV a && (fV f && (casesB a (hz a (fun t => f.a == t || f.b == t))).all (fun c => fh c f)))) (True ∧ (((false, ()) : Bool × Unit) = (true, ())) ∧ True ∧ True ∧ True ∧ True ∧ TF) (True ∧ True ∧ ((a.facts.length ≤ 1048576 ∧ a.atoms.length ≤ 1048576) ∧ True ∧ TN ∧ TN ∧ True) ∧ ((a.facts.length ≤ 281474976710656 ∧ a.atoms.length ≤ 281474976710656 ∧ a.facts.length ≤ 281474976710656 ∧ a.atoms.length ≤ 281474976710656) ∧ True ∧ True) ∧ True ∧ (vcIf (!(decide (a = a))) (True ∧ (((false, ()) : Bool × Unit) = (true, ())) ∧ True ∧ True ∧ True ∧ True ∧ TF) (True ∧ (((true, ()) : Bool × Unit) = (true, ())) ∧ True ∧ True ∧ True ∧ True ∧ TF))))))
theorem vcn_FnExactImplies (a : GAsn) (f : GFact) (k : Nat) (hp : a.facts.length ≤ 281474976710656 ∧ a.atoms.length ≤ 281474976710656) : VC_FnExactImplies a f k := by
  unfold VC_FnExactImplies
  simp only [TT, TF, TN, RL, RM, true_and, and_true, eq_self, implies_true, forall_const, List.cons.injEq, S.s.injEq, S0.c.injEq, S0.agg.injEq, CV.d.injEq, CV.own.injEq, CV.ptr.injEq, DC.val.injEq, Value.int.injEq, Value.bool.injEq, Option.some.injEq, Res.blk.injEq, Prod.mk.injEq, inK, min_i64, max_i64, min_u16, max_u16, min_u8, max_u8, min_u64, max_u64, vcIf_true, vcIf_false, List.mem_nil_iff, List.not_mem_nil, not_false_eq_true, Nat.reduceEqDiff, Nat.reduceLeDiff, ne_eq, Bool.and_true, Nat.add_zero, List.append_nil, List.nil_append, List.length_nil, List.length_cons, Nat.zero_add, Nat.reduceAdd, Int.toNat_natCast, Nat.sub_zero, List.drop_zero, List.map_nil, List.take_zero, forall_eq, bne_self_eq_false, beq_self_eq_true, decide_true, eq_self, Bool.not_true, Bool.not_false, vcIf_true, vcIf_false, Bool.false_and, Bool.true_and, Bool.or_false, Bool.or_true]
  all_goals (try simp only [vcIf_iff, decide_eq_true_eq, decide_eq_false_iff_not, bne_iff_ne, ne_eq, beq_iff_eq, beq_eq_false_iff_ne, bne_eq_false_iff_eq, Bool.not_eq_true', Bool.not_eq_false', Int.ofNat_lt, Int.natCast_inj])
  all_goals (repeat' (first | apply And.intro | intro _))
  all_goals (first | omega | (simp_all; done) | grind [szA, sz1])
theorem vce_FnExactImplies (a : GAsn) (f : GFact) (k : Nat) : VC_FnExactImplies a f k = vcQ tab (lookF L_FnExactImplies) (lookP P_FnExactImplies) (fun _ => false) (fun _ => none) (fun _ _ => none) (fun _ => []) (bodyOf Try.f5) (entry (encs c_FnExactImplies.aks (a, f, ())) (rdOf false k)) (retOk tab c_FnExactImplies Try.f5.results.toList (a, f, ()) k) := by kernel_rfl
theorem vc_FnExactImplies (a : GAsn) (f : GFact) (k : Nat) (hp : a.facts.length ≤ 281474976710656 ∧ a.atoms.length ≤ 281474976710656) : vcQ tab (lookF L_FnExactImplies) (lookP P_FnExactImplies) (fun _ => false) (fun _ => none) (fun _ _ => none) (fun _ => []) (bodyOf Try.f5) (entry (encs c_FnExactImplies.aks (a, f, ())) (rdOf false k)) (retOk tab c_FnExactImplies Try.f5.results.toList (a, f, ()) k) := (vce_FnExactImplies a f k).mp (vcn_FnExactImplies a f k hp)
theorem ok_FnExactImplies : FnOk Try.prog E 5 c_FnExactImplies :=
  fn_okQ (l := L_FnExactImplies) (lp := P_FnExactImplies) (hp := fun _ => false) (gcs := fun _ => none) (perm := fun _ => []) tabOk mix ⟨ok_iImplies, ok_sImplies, ok_szAssertion, ok_toAssertion, ok_eqAssertion, ok_toFact, trivial⟩ trivial Try.func5 rfl (by kernel_rfl) (by decide) (by kernel_rfl) (anns := fun x _ => fun _ _ => none) (fun ⟨a, f, _⟩ k hp _ => vc_FnExactImplies a f k hp) tot_fn
end Go.Proofs.Yteoinddmoepbfaa
