/-
  Contracts of single functions of the program, each shown by the engine: what a call returns for arguments within the contract's bounds.
-/
import Derived.Test.YtejcmcbpfnmlaaaFFnHoldsSubsta
import Derived.Test.YtejcmcbpfnmlaaaFFnHoldsSubstf
import Derived.Test.YtejcmcbpfnmlaaaEe
import Derived.Test.YtejcmcbpfnmlaaaEf
import Derived.Test.YtejcmcbpfnmlaaaFFnHoldsSubstd
import Derived.Test.YtejcmcbpfnmlaaaEd
set_option linter.unusedSimpArgs false
set_option linter.unusedVariables false
set_option linter.unusedSectionVars false

namespace Go.Proofs.Ytejcmcbpfnmlaaa
open Go.SE Go.RowKit
set_option linter.unusedSimpArgs false
set_option linter.unusedVariables false
set_option maxHeartbeats 1000000
set_option maxRecDepth 100000
/-! l4Part -/
abbrev c_l4Part : Con := ⟨[.state, .asn], [.sl .bool, .bool], fun (s, a, _) => stV s = true ∧ asV a = true, .inr fun (s, a, _) r => r.2.1 = poB s a ∧ (r.2.1 = true → r.1 = fl9 (fun t => (poL s a).contains t)) ∧ r.1.length = 9, fun _ => 0⟩
abbrev L_l4Part : List (FuncId × Con) := [(164, c_l1Hold), (165, c_l4Cells)]
abbrev P_l4Part : List (FuncId × PT) := []
def an_l4Part (s : GState) (a : GAsn) : Nat → St → Option Ann
  | 5, se => some { α := Nat, ok := fun i => fctB s a.facts = true ∧ ptI s a.atoms i, mu := fun i => a.atoms.length - i, i0 := fun _ => 0, nx := fun a _ => (fun i => i + 1) a, live := [2, 3], sets := fun i => [(7, sv (.int .i64 i))], mids := [47, 63], blks := fun i => [], owns := fun i => [⟨7, .slot 6, .bool, fl9 (fun t => (ptL s a.atoms i).contains t)⟩], rd := fun r _ => r, base := 100000 }
  | 11, se => some { α := Nat, ok := fun j => j ≤ (slAt .int se (.slot 8)).length ∧ nw (ptL s a.atoms (intAt se 7).toNat) (slAt .int se (.slot 8)) j, mu := fun j => (slAt .int se (.slot 8)).length - j, i0 := fun _ => 0, nx := fun a _ => (fun j => j + 1) a, live := [2, 3, 7, 8], sets := fun j => [(10, sv (.int .i64 j))], mids := [47, 63, 100528], blks := fun j => [], owns := fun j => [⟨7, .slot 6, .bool, fl9 (fun t => (ptL s a.atoms (intAt se 7).toNat ++ (slAt .int se (.slot 8)).take j).contains t)⟩], rd := fun r _ => r, base := 200000 }
  | _, _ => none
def VC_l4Part_1 (s : GState) (a : GAsn) (k : Nat) (i1 : Nat) (j2 : Nat) : Prop := (True ∧ (vcIf (decide (((j2 : Nat) : Int) < (((acL s (a.atoms.getD i1 (⟨0, 0, 0⟩ : GAtom))).length : Nat) : Int))) (True ∧ True ∧ True ∧ (0 ≤ ((j2 : Nat) : Int) ∧ ((j2 : Nat) : Int) < (((acL s (a.atoms.getD i1 (⟨0, 0, 0⟩ : GAtom))).length : Nat) : Int)) ∧ True ∧ (0 ≤ ((acL s (a.atoms.getD i1 (⟨0, 0, 0⟩ : GAtom))).getD j2 (0 : Int)) ∧ ((acL s (a.atoms.getD i1 (⟨0, 0, 0⟩ : GAtom))).getD j2 (0 : Int)) < (((fl9 (fun t => (ptL s a.atoms (((i1 : Nat) : Int)).toNat ++ ((acL s (a.atoms.getD i1 (⟨0, 0, 0⟩ : GAtom)))).take j2).contains t)).length : Nat) : Int)) ∧ True ∧ (vcIf ((fl9 (fun t => (ptL s a.atoms (((i1 : Nat) : Int)).toNat ++ ((acL s (a.atoms.getD i1 (⟨0, 0, 0⟩ : GAtom)))).take j2).contains t)).getD ((acL s (a.atoms.getD i1 (⟨0, 0, 0⟩ : GAtom))).getD j2 (0 : Int)).toNat false) (True ∧ True ∧ True ∧ (false = poB s a ∧ (false = true → (fl9 (fun t => (ptL s a.atoms (((i1 : Nat) : Int)).toNat ++ ((acL s (a.atoms.getD i1 (⟨0, 0, 0⟩ : GAtom)))).take j2).contains t)) = fl9 (fun t => (poL s a).contains t)) ∧ (fl9 (fun t => (ptL s a.atoms (((i1 : Nat) : Int)).toNat ++ ((acL s (a.atoms.getD i1 (⟨0, 0, 0⟩ : GAtom)))).take j2).contains t)).length = 9) ∧ (True ∧ True) ∧ ((TF ∧ TF) ∧ True) ∧ True ∧ (True ∧ True) ∧ TF) (True ∧ True ∧ True ∧ (0 ≤ ((j2 : Nat) : Int) ∧ ((j2 : Nat) : Int) < (((acL s (a.atoms.getD i1 (⟨0, 0, 0⟩ : GAtom))).length : Nat) : Int)) ∧ True ∧ (0 ≤ ((acL s (a.atoms.getD i1 (⟨0, 0, 0⟩ : GAtom))).getD j2 (0 : Int)) ∧ ((acL s (a.atoms.getD i1 (⟨0, 0, 0⟩ : GAtom))).getD j2 (0 : Int)) < (((fl9 (fun t => (ptL s a.atoms (((i1 : Nat) : Int)).toNat ++ ((acL s (a.atoms.getD i1 (⟨0, 0, 0⟩ : GAtom)))).take j2).contains t)).length : Nat) : Int)) ∧ (TF ∧ TF ∧ True ∧ ((7 : Nat) ∉ ([] : List Nat))) ∧ True ∧ (inK .i64 (((j2 : Nat) : Int) + (1 : Int))) ∧ True ∧ ((j2 + 1) ≤ ((acL s (a.atoms.getD i1 (⟨0, 0, 0⟩ : GAtom)))).length ∧ nw (ptL s a.atoms (((i1 : Nat) : Int)).toNat) ((acL s (a.atoms.getD i1 (⟨0, 0, 0⟩ : GAtom)))) (j2 + 1)) ∧ (((acL s (a.atoms.getD i1 (⟨0, 0, 0⟩ : GAtom)))).length - (j2 + 1) < ((acL s (a.atoms.getD i1 (⟨0, 0, 0⟩ : GAtom)))).length - j2) ∧ TT ∧ (RL [.s (.c (.ptr 47 0)), .s (.c (.ptr 63 0)), .s (.c (.d (.val (.int .i64 ((i1 : Nat) : Int))))), .s (.c (.own 100528))]) ∧ (([.s (.c (.d (.val (.int .i64 (((j2 : Nat) : Int) + (1 : Int))))))] : List S) = [.s (.c (.d (.val (.int .i64 (((j2 + 1) : Nat) : Int)))))]) ∧ (RM [some (.blk [.d (.arr .int s.vals), .d (.arr .int s.heap)]), some (.blk [.d (.arr .fact a.facts), .d (.arr .atom a.atoms)]), some (.sl 100528 .int (acL s (a.atoms.getD i1 (⟨0, 0, 0⟩ : GAtom))))]) ∧ (RM []) ∧ (((some ((fl9 (fun t => (ptL s a.atoms (((i1 : Nat) : Int)).toNat ++ ((acL s (a.atoms.getD i1 (⟨0, 0, 0⟩ : GAtom)))).take j2).contains t)).set ((acL s (a.atoms.getD i1 (⟨0, 0, 0⟩ : GAtom))).getD j2 (0 : Int)).toNat true) : Option (List Bool)) = some (fl9 (fun t => (ptL s a.atoms (((i1 : Nat) : Int)).toNat ++ ((acL s (a.atoms.getD i1 (⟨0, 0, 0⟩ : GAtom)))).take (j2 + 1)).contains t))) ∧ True) ∧ TT))) (True ∧ (inK .i64 (((i1 : Nat) : Int) + (1 : Int))) ∧ True ∧ (fctB s a.facts = true ∧ ptI s a.atoms (i1 + 1)) ∧ (a.atoms.length - (i1 + 1) < a.atoms.length - i1) ∧ TT ∧ (RL [.s (.c (.ptr 47 0)), .s (.c (.ptr 63 0))]) ∧ (([.s (.c (.d (.val (.int .i64 (((i1 : Nat) : Int) + (1 : Int))))))] : List S) = [.s (.c (.d (.val (.int .i64 (((i1 + 1) : Nat) : Int)))))]) ∧ (RM [some (.blk [.d (.arr .int s.vals), .d (.arr .int s.heap)]), some (.blk [.d (.arr .fact a.facts), .d (.arr .atom a.atoms)])]) ∧ (RM []) ∧ (((some (fl9 (fun t => (ptL s a.atoms (((i1 : Nat) : Int)).toNat ++ ((acL s (a.atoms.getD i1 (⟨0, 0, 0⟩ : GAtom)))).take j2).contains t)) : Option (List Bool)) = some (fl9 (fun t => (ptL s a.atoms (i1 + 1)).contains t))) ∧ True) ∧ TT)))
def VC_l4Part_2 (s : GState) (a : GAsn) (k : Nat) : Prop := ((TN ∧ (0 ≤ (9 : Int) ∧ (9 : Int) ≤ (9 : Int) ∧ (9 : Int) ≤ 4294967296)) ∧ True ∧ True ∧ True ∧ True ∧ True ∧ ((a.facts.length ≤ 1048576 ∧ s.vals.length = 8 ∧ a.facts.all fV = true) ∧ True ∧ True) ∧ True ∧ (vcIf (!(a.facts.all (holdF s.vals))) (True ∧ True ∧ True ∧ (false = poB s a ∧ (false = true → (List.replicate 9 false) = fl9 (fun t => (poL s a).contains t)) ∧ (List.replicate 9 false).length = 9) ∧ (True ∧ True) ∧ ((TF ∧ TF) ∧ True) ∧ True ∧ (True ∧ True) ∧ TF) (True ∧ ((fctB s a.facts = true ∧ ptI s a.atoms 0) ∧ TT ∧ (RL [.s (.c (.ptr 47 0)), .s (.c (.ptr 63 0))]) ∧ (([.s (.c (.d (.val (.int .i64 (0 : Int)))))] : List S) = [.s (.c (.d (.val (.int .i64 ((0 : Nat) : Int)))))]) ∧ (RM [some (.blk [.d (.arr .int s.vals), .d (.arr .int s.heap)]), some (.blk [.d (.arr .fact a.facts), .d (.arr .atom a.atoms)])]) ∧ (RM []) ∧ (((some (List.replicate 9 false) : Option (List Bool)) = some (fl9 (fun t => (ptL s a.atoms 0).contains t))) ∧ True) ∧ TT) ∧ (∀ i1 : Nat, (fctB s a.facts = true ∧ ptI s a.atoms i1) → True ∧ True ∧ True ∧ True ∧ True ∧ (vcIf (decide (((i1 : Nat) : Int) < ((a.atoms.length : Nat) : Int))) (True ∧ True ∧ True ∧ True ∧ (0 ≤ ((i1 : Nat) : Int) ∧ ((i1 : Nat) : Int) < ((a.atoms.length : Nat) : Int)) ∧ True ∧ ((stV s = true ∧ atV (a.atoms.getD i1 (⟨0, 0, 0⟩ : GAtom)) = true) ∧ True ∧ TN ∧ True) ∧ True ∧ True ∧ True ∧ True ∧ True ∧ True ∧ True ∧ (vcIf (!(acB s (a.atoms.getD i1 (⟨0, 0, 0⟩ : GAtom)))) (True ∧ True ∧ True ∧ (false = poB s a ∧ (false = true → (fl9 (fun t => (ptL s a.atoms i1).contains t)) = fl9 (fun t => (poL s a).contains t)) ∧ (fl9 (fun t => (ptL s a.atoms i1).contains t)).length = 9) ∧ (True ∧ True) ∧ ((TF ∧ TF) ∧ True) ∧ True ∧ (True ∧ True) ∧ TF) (True ∧ ((0 ≤ ((acL s (a.atoms.getD i1 (⟨0, 0, 0⟩ : GAtom)))).length ∧ nw (ptL s a.atoms (((i1 : Nat) : Int)).toNat) ((acL s (a.atoms.getD i1 (⟨0, 0, 0⟩ : GAtom)))) 0) ∧ TT ∧ (RL [.s (.c (.ptr 47 0)), .s (.c (.ptr 63 0)), .s (.c (.d (.val (.int .i64 ((i1 : Nat) : Int))))), .s (.c (.own 100528))]) ∧ (([.s (.c (.d (.val (.int .i64 (0 : Int)))))] : List S) = [.s (.c (.d (.val (.int .i64 ((0 : Nat) : Int)))))]) ∧ (RM [some (.blk [.d (.arr .int s.vals), .d (.arr .int s.heap)]), some (.blk [.d (.arr .fact a.facts), .d (.arr .atom a.atoms)]), some (.sl 100528 .int (acL s (a.atoms.getD i1 (⟨0, 0, 0⟩ : GAtom))))]) ∧ (RM []) ∧ (((some (fl9 (fun t => (ptL s a.atoms i1).contains t)) : Option (List Bool)) = some (fl9 (fun t => (ptL s a.atoms (((i1 : Nat) : Int)).toNat ++ ((acL s (a.atoms.getD i1 (⟨0, 0, 0⟩ : GAtom)))).take 0).contains t))) ∧ True) ∧ TT) ∧ (∀ j2 : Nat, (j2 ≤ ((acL s (a.atoms.getD i1 (⟨0, 0, 0⟩ : GAtom)))).length ∧ nw (ptL s a.atoms (((i1 : Nat) : Int)).toNat) ((acL s (a.atoms.getD i1 (⟨0, 0, 0⟩ : GAtom)))) j2) → True ∧ True ∧ True ∧ (VC_l4Part_1 s a k i1 j2))))) (True ∧ True ∧ True ∧ (true = poB s a ∧ (true = true → (fl9 (fun t => (ptL s a.atoms i1).contains t)) = fl9 (fun t => (poL s a).contains t)) ∧ (fl9 (fun t => (ptL s a.atoms i1).contains t)).length = 9) ∧ (True ∧ True) ∧ ((TF ∧ TF) ∧ True) ∧ True ∧ (True ∧ True) ∧ TF))))))
def VC_l4Part (s : GState) (a : GAsn) (k : Nat) : Prop := TN ∧ TN ∧ TN ∧ True ∧ (VC_l4Part_2 s a k)
theorem vcn_l4Part (s : GState) (a : GAsn) (k : Nat) (hp : stV s = true ∧ asV a = true) : VC_l4Part s a k := by
  unfold VC_l4Part VC_l4Part_2 VC_l4Part_1
  simp only [TT, TF, TN, RL, RM, true_and, and_true, eq_self, implies_true, forall_const, List.cons.injEq, S.s.injEq, S0.c.injEq, S0.agg.injEq, CV.d.injEq, CV.own.injEq, CV.ptr.injEq, DC.val.injEq, Value.int.injEq, Value.bool.injEq, Option.some.injEq, Res.blk.injEq, Prod.mk.injEq, inK, min_i64, max_i64, min_u16, max_u16, min_u8, max_u8, min_u64, max_u64, vcIf_true, vcIf_false, List.mem_nil_iff, List.not_mem_nil, not_false_eq_true, Nat.reduceEqDiff, Nat.reduceLeDiff, ne_eq, Bool.and_true, Nat.add_zero, List.append_nil, List.nil_append, List.length_nil, List.length_cons, Nat.zero_add, Nat.reduceAdd, Int.toNat_natCast, Nat.sub_zero, List.drop_zero, List.map_nil, List.take_zero, forall_eq]
  all_goals (try simp only [vcIf_iff, decide_eq_true_eq, decide_eq_false_iff_not, bne_iff_ne, ne_eq, beq_iff_eq, beq_eq_false_iff_ne, bne_eq_false_iff_eq, Bool.not_eq_true', Bool.not_eq_false', Int.ofNat_lt, Int.natCast_inj])
  all_goals (repeat' (first | apply And.intro | intro _))
  all_goals (repeat (cases ‹_ ∧ _›))
  all_goals (try have h7 := ‹ptI _ _ _›)
  all_goals (first | (exfalso; contradiction) | omega | assumption | skip)
  all_goals (first
   | with_reducible exact (pa_fac (by assumption)).1
   | with_reducible exact (pa_fac (by assumption)).2
   | with_reducible exact (stV_all (by assumption)).1
   | with_reducible exact pa_no (by assumption) (by assumption) (by assumption)
   | with_reducible exact pa_at (by assumption) (by assumption)
   | with_reducible exact pa_bad (by assumption) (by assumption) (by assumption) h7 (by assumption) (by assumption)
   | with_reducible exact (pa_idx2 (by assumption) (by assumption)).1
   | with_reducible exact (pa_idx2 (by assumption) (by assumption)).2
   | with_reducible exact pa_dup (by assumption) (by assumption) (by assumption) h7 (by assumption) (by assumption) (by assumption) (by assumption)
   | with_reducible exact pa_g (by assumption) (by assumption)
   | with_reducible exact pa_go (by assumption) (by assumption) (by assumption) (by assumption) _ (by assumption)
   | with_reducible exact pa_go (by assumption) (by assumption) (by assumption) (by assumption)
   | with_reducible exact pa_j (by assumption)
   | with_reducible exact (pa_n (by assumption) (by assumption) h7 (by assumption) (by assumption) (by assumption) (by assumption) (by assumption)).1
   | with_reducible exact (pa_n (by assumption) (by assumption) h7 (by assumption) (by assumption) (by assumption) (by assumption) (by assumption)).2
   | with_reducible exact (pa_e (by assumption) (by assumption) (by assumption) h7 (by assumption)).1
   | with_reducible exact (pa_e (by assumption) (by assumption) (by assumption) h7 (by assumption)).2
   | with_reducible exact fk_zero
   | with_reducible exact fl9_len _
   | (rw [List.take_zero, List.append_nil]; done)
   | with_reducible rfl
   | skip)
  all_goals (try have h9 := isAd_iff.1 (ac_get ‹acB s _ = true› ‹_ < (acL s _).length›))
  all_goals (try have h10 := pa_i ‹asV a = true› ‹_ < a.atoms.length›)
  all_goals (try have h11 := jb ‹_ < (acL s _).length›)
  all_goals (first | omega | exact List.length_replicate | exact ptI_zero | exact pa_go (by assumption) (by assumption) (by assumption) (by assumption) _ (by assumption) | skip)
theorem vce_l4Part (s : GState) (a : GAsn) (k : Nat) : VC_l4Part s a k = vcQ tab (lookF L_l4Part) (lookP P_l4Part) (fun _ => false) (fun _ => none) (an_l4Part s a) (fun _ => []) (bodyOf Try.f140) (entry (encs c_l4Part.aks (s, a, ())) (rdOf false k)) (retOk tab c_l4Part Try.f140.results.toList (s, a, ()) k) := by kernel_rfl
theorem vc_l4Part (s : GState) (a : GAsn) (k : Nat) (hp : stV s = true ∧ asV a = true) : vcQ tab (lookF L_l4Part) (lookP P_l4Part) (fun _ => false) (fun _ => none) (an_l4Part s a) (fun _ => []) (bodyOf Try.f140) (entry (encs c_l4Part.aks (s, a, ())) (rdOf false k)) (retOk tab c_l4Part Try.f140.results.toList (s, a, ()) k) := (vce_l4Part s a k).mp (vcn_l4Part s a k hp)
theorem ok_l4Part : FnOk Try.prog E 140 c_l4Part :=
  fn_okQ (l := L_l4Part) (lp := P_l4Part) (hp := fun _ => false) (gcs := fun _ => none) (perm := fun _ => []) tabOk mix ⟨ok_l1Hold, ok_l4Cells, trivial⟩ trivial Try.func140 rfl (by kernel_rfl) (by decide) (by kernel_rfl) (anns := fun x _ => an_l4Part x.1 x.2.1) (fun ⟨s, a, _⟩ k hp _ => vc_l4Part s a k hp) (fun ⟨s, a, _⟩ _ => ⟨(fl9 (fun t => (poL s a).contains t), poB s a, ()), rfl, fun _ => rfl, fl9_len _⟩)
end Go.Proofs.Ytejcmcbpfnmlaaa

namespace Go.Proofs.Ytejcmcbpfnmlaaa
open Go.SE Go.RowKit
set_option linter.unusedSimpArgs false
set_option linter.unusedVariables false
set_option maxHeartbeats 1000000
set_option maxRecDepth 100000
/-! l3List -/
abbrev c_l3List : Con := ⟨[.sl .bool], [.sl .int], fun (l, _) => l.length ≤ 1048576, .inl fun (l, _) => (flL l, ()), fun _ => 0⟩
abbrev L_l3List : List (FuncId × Con) := []
abbrev P_l3List : List (FuncId × PT) := []
def an_l3List (l : List Bool) : Nat → St → Option Ann
  | 3, se => some { α := Nat, ok := fun i => i ≤ l.length, mu := fun i => l.length - i, i0 := fun _ => 0, nx := fun a _ => (fun i => i + 1) a, live := [0, 2], sets := fun i => [(4, sv (.int .i64 i))], mids := [32], blks := fun i => [], owns := fun i => [⟨7, .slot 3, .int, flU l i⟩], rd := fun r _ => r, base := 100000 }
  | _, _ => none
def VC_l3List (l : List Bool) (k : Nat) : Prop := TN ∧ (TN ∧ True) ∧ True ∧ True ∧ ((0 ≤ l.length) ∧ TT ∧ (RL [.s (.c (.d (.arr .bool l))), .s (.c (.own 32))]) ∧ (([.s (.c (.d (.val (.int .i64 (0 : Int)))))] : List S) = [.s (.c (.d (.val (.int .i64 ((0 : Nat) : Int)))))]) ∧ (RM [some (.sl 32 .int ([] : List Int))]) ∧ (RM []) ∧ (((some ([] : List Int) : Option (List Int)) = some (flU l 0)) ∧ True) ∧ TT) ∧ (∀ i1 : Nat, (i1 ≤ l.length) → True ∧ True ∧ True ∧ True ∧ (vcIf (decide (((i1 : Nat) : Int) < ((l.length : Nat) : Int))) (True ∧ True ∧ (0 ≤ ((i1 : Nat) : Int) ∧ ((i1 : Nat) : Int) < ((l.length : Nat) : Int)) ∧ True ∧ (vcIf (l.getD i1 false) (True ∧ True ∧ (TN ∧ True) ∧ (TN ∧ TF ∧ TF ∧ ((flU l i1).length + ([((i1 : Nat) : Int)] : List Int).length ≤ 4294967296)) ∧ True ∧ True ∧ (inK .i64 (((i1 : Nat) : Int) + (1 : Int))) ∧ True ∧ ((i1 + 1) ≤ l.length) ∧ (l.length - (i1 + 1) < l.length - i1) ∧ TT ∧ (RL [.s (.c (.d (.arr .bool l))), .s (.c (.own 32))]) ∧ (([.s (.c (.d (.val (.int .i64 (((i1 : Nat) : Int) + (1 : Int))))))] : List S) = [.s (.c (.d (.val (.int .i64 (((i1 + 1) : Nat) : Int)))))]) ∧ (RM [some (.sl 32 .int ([] : List Int))]) ∧ (RM []) ∧ (((some ((flU l i1) ++ ([((i1 : Nat) : Int)] : List Int)) : Option (List Int)) = some (flU l (i1 + 1))) ∧ True) ∧ TT) (True ∧ (inK .i64 (((i1 : Nat) : Int) + (1 : Int))) ∧ True ∧ ((i1 + 1) ≤ l.length) ∧ (l.length - (i1 + 1) < l.length - i1) ∧ TT ∧ (RL [.s (.c (.d (.arr .bool l))), .s (.c (.own 32))]) ∧ (([.s (.c (.d (.val (.int .i64 (((i1 : Nat) : Int) + (1 : Int))))))] : List S) = [.s (.c (.d (.val (.int .i64 (((i1 + 1) : Nat) : Int)))))]) ∧ (RM [some (.sl 32 .int ([] : List Int))]) ∧ (RM []) ∧ (((some (flU l i1) : Option (List Int)) = some (flU l (i1 + 1))) ∧ True) ∧ TT))) (True ∧ True ∧ (((flU l i1, ()) : (List Int) × Unit) = (flL l, ())) ∧ (True ∧ True) ∧ ((TF ∧ TF) ∧ True) ∧ True ∧ (True ∧ True) ∧ TF)))
theorem vcn_l3List (l : List Bool) (k : Nat) (hp : l.length ≤ 1048576) : VC_l3List l k := by
  unfold VC_l3List
  simp only [TT, TF, TN, RL, RM, true_and, and_true, eq_self, implies_true, forall_const, List.cons.injEq, S.s.injEq, S0.c.injEq, S0.agg.injEq, CV.d.injEq, CV.own.injEq, CV.ptr.injEq, DC.val.injEq, Value.int.injEq, Value.bool.injEq, Option.some.injEq, Res.blk.injEq, Prod.mk.injEq, inK, min_i64, max_i64, min_u16, max_u16, min_u8, max_u8, min_u64, max_u64, vcIf_true, vcIf_false, List.mem_nil_iff, List.not_mem_nil, not_false_eq_true, Nat.reduceEqDiff, Nat.reduceLeDiff, ne_eq, Bool.and_true, Nat.add_zero, List.append_nil, List.nil_append, List.length_nil, List.length_cons, Nat.zero_add, Nat.reduceAdd, Int.toNat_natCast, Nat.sub_zero, List.drop_zero, List.map_nil, List.take_zero, forall_eq]
  have hs := flU_step l
  have hl := flU_len l
  all_goals (try simp only [vcIf_iff, decide_eq_true_eq, decide_eq_false_iff_not, bne_iff_ne, ne_eq, beq_iff_eq, beq_eq_false_iff_ne, bne_eq_false_iff_eq, Bool.not_eq_true', Bool.not_eq_false', Int.ofNat_lt, Int.natCast_inj])
  all_goals (repeat' (first | apply And.intro | intro _))
  all_goals (first | omega | (simp_all; done) | grind [flL, flU])
theorem vce_l3List (l : List Bool) (k : Nat) : VC_l3List l k = vcQ tab (lookF L_l3List) (lookP P_l3List) (fun _ => false) (fun _ => none) (an_l3List l) (fun _ => []) (bodyOf Try.f141) (entry (encs c_l3List.aks (l, ())) (rdOf false k)) (retOk tab c_l3List Try.f141.results.toList (l, ()) k) := by kernel_rfl
theorem vc_l3List (l : List Bool) (k : Nat) (hp : l.length ≤ 1048576) : vcQ tab (lookF L_l3List) (lookP P_l3List) (fun _ => false) (fun _ => none) (an_l3List l) (fun _ => []) (bodyOf Try.f141) (entry (encs c_l3List.aks (l, ())) (rdOf false k)) (retOk tab c_l3List Try.f141.results.toList (l, ()) k) := (vce_l3List l k).mp (vcn_l3List l k hp)
theorem ok_l3List : FnOk Try.prog E 141 c_l3List :=
  fn_okQ (l := L_l3List) (lp := P_l3List) (hp := fun _ => false) (gcs := fun _ => none) (perm := fun _ => []) tabOk mix trivial trivial Try.func141 rfl (by kernel_rfl) (by decide) (by kernel_rfl) (anns := fun x _ => an_l3List x.1) (fun ⟨l, _⟩ k hp _ => vc_l3List l k hp) tot_fn
end Go.Proofs.Ytejcmcbpfnmlaaa

namespace Go.Proofs.Ytejcmcbpfnmlaaa
open Go.SE Go.RowKit
set_option linter.unusedSimpArgs false
set_option linter.unusedVariables false
set_option maxHeartbeats 1000000
set_option maxRecDepth 100000
/-! sUsedCells -/
abbrev c_sUsedCells : Con := ⟨[.state], [.sl .int], fun (s, _) => s.vals.length ≤ 281474976710656 ∧ s.heap.length ≤ 281474976710656, .inl fun (s, _) => (cond (stV s) (usL s 8) [], ()), fun _ => 0⟩
abbrev L_sUsedCells : List (FuncId × Con) := [(92, c_sStateValid), (166, c_l2Has)]
abbrev P_sUsedCells : List (FuncId × PT) := []
def an_sUsedCells (s : GState) : Nat → St → Option Ann
  | 3, se => some { α := Nat, ok := fun i => i ≤ 8 ∧ (stV s = true ∨ i = 0), mu := fun i => 8 - i, i0 := fun _ => 0, nx := fun a _ => (fun i => i + 1) a, live := [1, 2], sets := fun i => [(4, sv (.int .i64 ((i : Int) + 1)))], mids := [31, 32], blks := fun i => [], owns := fun i => [⟨7, .slot 3, .int, usL s i⟩], rd := fun r _ => r, base := 100000 }
  | _, _ => none
def VC_sUsedCells (s : GState) (k : Nat) : Prop := TN ∧ TN ∧ (TN ∧ True) ∧ True ∧ True ∧ ((0 ≤ 8 ∧ (stV s = true ∨ 0 = 0)) ∧ TT ∧ (RL [.s (.c (.ptr 31 0)), .s (.c (.own 32))]) ∧ (([.s (.c (.d (.val (.int .i64 (1 : Int)))))] : List S) = [.s (.c (.d (.val (.int .i64 ((0 : Int) + 1 : Int)))))]) ∧ (RM [some (.blk [.d (.arr .int s.vals), .d (.arr .int s.heap)]), some (.sl 32 .int ([] : List Int))]) ∧ (RM []) ∧ (((some ([] : List Int) : Option (List Int)) = some (usL s 0)) ∧ True) ∧ TT) ∧ (∀ i1 : Nat, (i1 ≤ 8 ∧ (stV s = true ∨ i1 = 0)) → True ∧ True ∧ True ∧ (vcIf (decide (((i1 : Int) + 1 : Int) ≤ (8 : Int))) (True ∧ ((s.vals.length ≤ 281474976710656 ∧ s.heap.length ≤ 281474976710656) ∧ True ∧ True) ∧ True ∧ (vcIf (stV s) (True ∧ True ∧ ((stV s = true) ∧ True ∧ True) ∧ (vcIf (al s ((i1 : Int) + 1 : Int)) (True ∧ True ∧ (TN ∧ True) ∧ (TN ∧ TF ∧ TF ∧ ((usL s i1).length + ([((i1 : Int) + 1 : Int)] : List Int).length ≤ 4294967296)) ∧ True ∧ True ∧ (inK .i64 (((i1 : Int) + 1 : Int) + (1 : Int))) ∧ True ∧ ((i1 + 1) ≤ 8 ∧ (stV s = true ∨ (i1 + 1) = 0)) ∧ (8 - (i1 + 1) < 8 - i1) ∧ TT ∧ (RL [.s (.c (.ptr 31 0)), .s (.c (.own 32))]) ∧ (([.s (.c (.d (.val (.int .i64 (((i1 : Int) + 1 : Int) + (1 : Int))))))] : List S) = [.s (.c (.d (.val (.int .i64 (((i1 + 1) : Int) + 1 : Int)))))]) ∧ (RM [some (.blk [.d (.arr .int s.vals), .d (.arr .int s.heap)]), some (.sl 32 .int ([] : List Int))]) ∧ (RM []) ∧ (((some ((usL s i1) ++ ([((i1 : Int) + 1 : Int)] : List Int)) : Option (List Int)) = some (usL s (i1 + 1))) ∧ True) ∧ TT) (True ∧ (inK .i64 (((i1 : Int) + 1 : Int) + (1 : Int))) ∧ True ∧ ((i1 + 1) ≤ 8 ∧ (stV s = true ∨ (i1 + 1) = 0)) ∧ (8 - (i1 + 1) < 8 - i1) ∧ TT ∧ (RL [.s (.c (.ptr 31 0)), .s (.c (.own 32))]) ∧ (([.s (.c (.d (.val (.int .i64 (((i1 : Int) + 1 : Int) + (1 : Int))))))] : List S) = [.s (.c (.d (.val (.int .i64 (((i1 + 1) : Int) + 1 : Int)))))]) ∧ (RM [some (.blk [.d (.arr .int s.vals), .d (.arr .int s.heap)]), some (.sl 32 .int ([] : List Int))]) ∧ (RM []) ∧ (((some (usL s i1) : Option (List Int)) = some (usL s (i1 + 1))) ∧ True) ∧ TT))) (True ∧ True ∧ (((usL s i1, ()) : (List Int) × Unit) = (cond (stV s) (usL s 8) [], ())) ∧ (True ∧ True) ∧ ((TF ∧ TF) ∧ True) ∧ True ∧ (True ∧ True) ∧ TF))) (True ∧ True ∧ True ∧ (((usL s i1, ()) : (List Int) × Unit) = (cond (stV s) (usL s 8) [], ())) ∧ (True ∧ True) ∧ ((TF ∧ TF) ∧ True) ∧ True ∧ (True ∧ True) ∧ TF)))
theorem vcn_sUsedCells (s : GState) (k : Nat) (hp : s.vals.length ≤ 281474976710656 ∧ s.heap.length ≤ 281474976710656) : VC_sUsedCells s k := by
  unfold VC_sUsedCells
  simp only [TT, TF, TN, RL, RM, true_and, and_true, eq_self, implies_true, forall_const, List.cons.injEq, S.s.injEq, S0.c.injEq, S0.agg.injEq, CV.d.injEq, CV.own.injEq, CV.ptr.injEq, DC.val.injEq, Value.int.injEq, Value.bool.injEq, Option.some.injEq, Res.blk.injEq, Prod.mk.injEq, inK, min_i64, max_i64, min_u16, max_u16, min_u8, max_u8, min_u64, max_u64, vcIf_true, vcIf_false, List.mem_nil_iff, List.not_mem_nil, not_false_eq_true, Nat.reduceEqDiff, Nat.reduceLeDiff, ne_eq, Bool.and_true, Nat.add_zero, List.append_nil, List.nil_append, List.length_nil, List.length_cons, Nat.zero_add, Nat.reduceAdd, Int.toNat_natCast, Nat.sub_zero, List.drop_zero, List.map_nil, List.take_zero, forall_eq]
  all_goals (try simp only [vcIf_iff, decide_eq_true_eq, decide_eq_false_iff_not, bne_iff_ne, ne_eq, beq_iff_eq, beq_eq_false_iff_ne, bne_eq_false_iff_eq, Bool.not_eq_true', Bool.not_eq_false', Int.ofNat_lt, Int.natCast_inj])
  all_goals (repeat' (first | apply And.intro | intro _))
  all_goals (repeat (cases ‹_ ∧ _›))
  all_goals (first | omega | rfl | assumption | (simp_all; done) | skip)
  all_goals (first | exact us_c1 (by assumption) (by assumption) | exact us_c2 (by assumption) (by assumption) | exact us_c3 (by assumption) (by assumption) | exact us_c4 (by assumption) (by assumption) (by assumption) | exact Nat.le_trans (us_len _ (by assumption)) (by decide) | skip)
theorem vce_sUsedCells (s : GState) (k : Nat) : VC_sUsedCells s k = vcQ tab (lookF L_sUsedCells) (lookP P_sUsedCells) (fun _ => false) (fun _ => none) (an_sUsedCells s) (fun _ => []) (bodyOf Try.f142) (entry (encs c_sUsedCells.aks (s, ())) (rdOf false k)) (retOk tab c_sUsedCells Try.f142.results.toList (s, ()) k) := by kernel_rfl
theorem vc_sUsedCells (s : GState) (k : Nat) (hp : s.vals.length ≤ 281474976710656 ∧ s.heap.length ≤ 281474976710656) : vcQ tab (lookF L_sUsedCells) (lookP P_sUsedCells) (fun _ => false) (fun _ => none) (an_sUsedCells s) (fun _ => []) (bodyOf Try.f142) (entry (encs c_sUsedCells.aks (s, ())) (rdOf false k)) (retOk tab c_sUsedCells Try.f142.results.toList (s, ()) k) := (vce_sUsedCells s k).mp (vcn_sUsedCells s k hp)
theorem ok_sUsedCells : FnOk Try.prog E 142 c_sUsedCells :=
  fn_okQ (l := L_sUsedCells) (lp := P_sUsedCells) (hp := fun _ => false) (gcs := fun _ => none) (perm := fun _ => []) tabOk mix ⟨ok_sStateValid, ok_l2Has, trivial⟩ trivial Try.func142 rfl (by kernel_rfl) (by decide) (by kernel_rfl) (anns := fun x _ => an_sUsedCells x.1) (fun ⟨s, _⟩ k hp _ => vc_sUsedCells s k hp) tot_fn
end Go.Proofs.Ytejcmcbpfnmlaaa

namespace Go.Proofs.Ytejcmcbpfnmlaaa
open Go.SE Go.RowKit
set_option linter.unusedSimpArgs false
set_option linter.unusedVariables false
set_option maxHeartbeats 1000000
set_option maxRecDepth 100000
/-! l4Holds -/
abbrev c_l4Holds : Con := ⟨[.state, .asn], [.bool], fun (s, a, _) => stV s = true ∧ asV a = true, .inl fun (s, a, _) => (HOL s a, ()), fun _ => 0⟩
abbrev L_l4Holds : List (FuncId × Con) := [(140, c_l4Part), (141, c_l3List), (142, c_sUsedCells)]
abbrev P_l4Holds : List (FuncId × PT) := []
def VC_l4Holds (s : GState) (a : GAsn) (k : Nat) : Prop := TN ∧ TN ∧ True ∧ True ∧ True ∧ ((stV s = true ∧ asV a = true) ∧ True ∧ TN ∧ True) ∧ (∀ r1 : (List Bool) × Bool × Unit, (r1.2.1 = poB s a ∧ (r1.2.1 = true → r1.1 = fl9 (fun t => (poL s a).contains t)) ∧ r1.1.length = 9) → True ∧ True ∧ True ∧ True ∧ True ∧ True ∧ True ∧ (vcIf r1.2.1 (True ∧ ((r1.1.length ≤ 1048576) ∧ True ∧ TN ∧ True) ∧ True ∧ True ∧ ((s.vals.length ≤ 281474976710656 ∧ s.heap.length ≤ 281474976710656) ∧ True ∧ TN ∧ True) ∧ True ∧ True ∧ True ∧ True ∧ ((((((flL r1.1).length : Nat) : Int) == (((cond (stV s) (usL s 8) []).length : Nat) : Int), ()) : Bool × Unit) = (HOL s a, ())) ∧ True ∧ True ∧ True ∧ True ∧ TF) (True ∧ True ∧ (((false, ()) : Bool × Unit) = (HOL s a, ())) ∧ True ∧ True ∧ True ∧ True ∧ TF)))
theorem vcn_l4Holds (s : GState) (a : GAsn) (k : Nat) (hp : stV s = true ∧ asV a = true) : VC_l4Holds s a k := by
  unfold VC_l4Holds
  simp only [TT, TF, TN, RL, RM, true_and, and_true, eq_self, implies_true, forall_const, List.cons.injEq, S.s.injEq, S0.c.injEq, S0.agg.injEq, CV.d.injEq, CV.own.injEq, CV.ptr.injEq, DC.val.injEq, Value.int.injEq, Value.bool.injEq, Option.some.injEq, Res.blk.injEq, Prod.mk.injEq, inK, min_i64, max_i64, min_u16, max_u16, min_u8, max_u8, min_u64, max_u64, vcIf_true, vcIf_false, List.mem_nil_iff, List.not_mem_nil, not_false_eq_true, Nat.reduceEqDiff, Nat.reduceLeDiff, ne_eq, Bool.and_true, Nat.add_zero, List.append_nil, List.nil_append, List.length_nil, List.length_cons, Nat.zero_add, Nat.reduceAdd, Int.toNat_natCast, Nat.sub_zero, List.drop_zero, List.map_nil, List.take_zero, forall_eq]
  have hb := stV_big hp.1
  have hs := hp.1
  all_goals (try simp only [vcIf_iff, decide_eq_true_eq, decide_eq_false_iff_not, bne_iff_ne, ne_eq, beq_iff_eq, beq_eq_false_iff_ne, bne_eq_false_iff_eq, Bool.not_eq_true', Bool.not_eq_false', Int.ofNat_lt, Int.natCast_inj])
  all_goals (repeat' (first | apply And.intro | intro _))
  all_goals (repeat (cases ‹_ ∧ _›))
  all_goals (first | omega | assumption | skip)
  all_goals (first
   | exact hol_q hs (by assumption) (by assumption) (by assumption)
   | exact (hol_poF ((‹_ = poB s a›).symm.trans (by assumption))).symm
   | skip)
theorem vce_l4Holds (s : GState) (a : GAsn) (k : Nat) : VC_l4Holds s a k = vcQ tab (lookF L_l4Holds) (lookP P_l4Holds) (fun _ => false) (fun _ => none) (fun _ _ => none) (fun _ => []) (bodyOf Try.f93) (entry (encs c_l4Holds.aks (s, a, ())) (rdOf false k)) (retOk tab c_l4Holds Try.f93.results.toList (s, a, ()) k) := by kernel_rfl
theorem vc_l4Holds (s : GState) (a : GAsn) (k : Nat) (hp : stV s = true ∧ asV a = true) : vcQ tab (lookF L_l4Holds) (lookP P_l4Holds) (fun _ => false) (fun _ => none) (fun _ _ => none) (fun _ => []) (bodyOf Try.f93) (entry (encs c_l4Holds.aks (s, a, ())) (rdOf false k)) (retOk tab c_l4Holds Try.f93.results.toList (s, a, ()) k) := (vce_l4Holds s a k).mp (vcn_l4Holds s a k hp)
theorem ok_l4Holds : FnOk Try.prog E 93 c_l4Holds :=
  fn_okQ (l := L_l4Holds) (lp := P_l4Holds) (hp := fun _ => false) (gcs := fun _ => none) (perm := fun _ => []) tabOk mix ⟨ok_l4Part, ok_l3List, ok_sUsedCells, trivial⟩ trivial Try.func93 rfl (by kernel_rfl) (by decide) (by kernel_rfl) (anns := fun x _ => fun _ _ => none) (fun ⟨s, a, _⟩ k hp _ => vc_l4Holds s a k hp) tot_fn
end Go.Proofs.Ytejcmcbpfnmlaaa

namespace Go.Proofs.Ytejcmcbpfnmlaaa
open Go.SE Go.RowKit
set_option linter.unusedSimpArgs false
set_option linter.unusedVariables false
set_option maxHeartbeats 1000000
set_option maxRecDepth 100000
/-! sHolds -/
abbrev c_sHolds : Con := ⟨[.state, .asn], [.bool], fun (s, a, _) => s.vals.length ≤ 281474976710656 ∧ s.heap.length ≤ 281474976710656 ∧ a.facts.length ≤ 281474976710656 ∧ a.atoms.length ≤ 281474976710656, .inl fun (s, a, _) => (HOL s a, ()), fun _ => 0⟩
abbrev L_sHolds : List (FuncId × Con) := [(73, c_sAssertionValid), (92, c_sStateValid), (93, c_l4Holds)]
abbrev P_sHolds : List (FuncId × PT) := []
def VC_sHolds (s : GState) (a : GAsn) (k : Nat) : Prop := TN ∧ TN ∧ True ∧ True ∧ ((s.vals.length ≤ 281474976710656 ∧ s.heap.length ≤ 281474976710656) ∧ True ∧ True) ∧ True ∧ (vcIf (stV s) (True ∧ ((a.facts.length ≤ 281474976710656 ∧ a.atoms.length ≤ 281474976710656) ∧ True ∧ True) ∧ True ∧ True ∧ (vcIf (asV a) (True ∧ True ∧ ((stV s = true ∧ asV a = true) ∧ True ∧ True) ∧ True ∧ True ∧ ((((HOL s a), ()) : Bool × Unit) = (HOL s a, ())) ∧ True ∧ True ∧ True ∧ True ∧ TF) (True ∧ True ∧ (((false, ()) : Bool × Unit) = (HOL s a, ())) ∧ True ∧ True ∧ True ∧ True ∧ TF))) (True ∧ True ∧ True ∧ True ∧ (((false, ()) : Bool × Unit) = (HOL s a, ())) ∧ True ∧ True ∧ True ∧ True ∧ TF))
theorem vcn_sHolds (s : GState) (a : GAsn) (k : Nat) (hp : s.vals.length ≤ 281474976710656 ∧ s.heap.length ≤ 281474976710656 ∧ a.facts.length ≤ 281474976710656 ∧ a.atoms.length ≤ 281474976710656) : VC_sHolds s a k := by
  unfold VC_sHolds
  simp only [TT, TF, TN, RL, RM, true_and, and_true, eq_self, implies_true, forall_const, List.cons.injEq, S.s.injEq, S0.c.injEq, S0.agg.injEq, CV.d.injEq, CV.own.injEq, CV.ptr.injEq, DC.val.injEq, Value.int.injEq, Value.bool.injEq, Option.some.injEq, Res.blk.injEq, Prod.mk.injEq, inK, min_i64, max_i64, min_u16, max_u16, min_u8, max_u8, min_u64, max_u64, vcIf_true, vcIf_false, List.mem_nil_iff, List.not_mem_nil, not_false_eq_true, Nat.reduceEqDiff, Nat.reduceLeDiff, ne_eq, Bool.and_true, Nat.add_zero, List.append_nil, List.nil_append, List.length_nil, List.length_cons, Nat.zero_add, Nat.reduceAdd, Int.toNat_natCast, Nat.sub_zero, List.drop_zero, List.map_nil, List.take_zero, forall_eq]
  all_goals (try simp only [vcIf_iff, decide_eq_true_eq, decide_eq_false_iff_not, bne_iff_ne, ne_eq, beq_iff_eq, beq_eq_false_iff_ne, bne_eq_false_iff_eq, Bool.not_eq_true', Bool.not_eq_false', Int.ofNat_lt, Int.natCast_inj])
  all_goals (repeat' (first | apply And.intro | intro _))
  all_goals (repeat (cases ‹_ ∧ _›))
  all_goals (first | omega | rfl | assumption | (simp_all; done) | skip)
  all_goals (first | exact (hol_no1 (by assumption)).symm | exact (hol_no2 (by assumption)).symm | skip)
theorem vce_sHolds (s : GState) (a : GAsn) (k : Nat) : VC_sHolds s a k = vcQ tab (lookF L_sHolds) (lookP P_sHolds) (fun _ => false) (fun _ => none) (fun _ _ => none) (fun _ => []) (bodyOf Try.f34) (entry (encs c_sHolds.aks (s, a, ())) (rdOf false k)) (retOk tab c_sHolds Try.f34.results.toList (s, a, ()) k) := by kernel_rfl
theorem vc_sHolds (s : GState) (a : GAsn) (k : Nat) (hp : s.vals.length ≤ 281474976710656 ∧ s.heap.length ≤ 281474976710656 ∧ a.facts.length ≤ 281474976710656 ∧ a.atoms.length ≤ 281474976710656) : vcQ tab (lookF L_sHolds) (lookP P_sHolds) (fun _ => false) (fun _ => none) (fun _ _ => none) (fun _ => []) (bodyOf Try.f34) (entry (encs c_sHolds.aks (s, a, ())) (rdOf false k)) (retOk tab c_sHolds Try.f34.results.toList (s, a, ()) k) := (vce_sHolds s a k).mp (vcn_sHolds s a k hp)
theorem ok_sHolds : FnOk Try.prog E 34 c_sHolds :=
  fn_okQ (l := L_sHolds) (lp := P_sHolds) (hp := fun _ => false) (gcs := fun _ => none) (perm := fun _ => []) tabOk mix ⟨ok_sAssertionValid, ok_sStateValid, ok_l4Holds, trivial⟩ trivial Try.func34 rfl (by kernel_rfl) (by decide) (by kernel_rfl) (anns := fun x _ => fun _ _ => none) (fun ⟨s, a, _⟩ k hp _ => vc_sHolds s a k hp) tot_fn
end Go.Proofs.Ytejcmcbpfnmlaaa

namespace Go.Proofs.Ytejcmcbpfnmlaaa
open Go.SE Go.RowKit
set_option linter.unusedSimpArgs false
set_option linter.unusedVariables false
set_option maxHeartbeats 1000000
set_option maxRecDepth 100000
/-! iValueOf -/
abbrev c_iValueOf : Con := ⟨[.state, .int], [.int, .bool], fun (s, t, _) => s.vals.length ≤ 281474976710656 ∧ s.heap.length ≤ 281474976710656, .inl fun (s, t, _) => (cond (stV s && isT t) (tv s.vals t) 0, stV s && isT t, ()), fun _ => 0⟩
abbrev L_iValueOf : List (FuncId × Con) := [(35, c_iStateValid), (66, c_isTerm), (95, c_termValue)]
abbrev P_iValueOf : List (FuncId × PT) := []
def VC_iValueOf (s : GState) (t : Int) (k : Nat) : Prop := TN ∧ True ∧ True ∧ True ∧ ((s.vals.length ≤ 281474976710656 ∧ s.heap.length ≤ 281474976710656) ∧ True ∧ True) ∧ True ∧ True ∧ (vcIf (!(stV s)) (True ∧ True ∧ True ∧ ((((0 : Int), false, ()) : Int × Bool × Unit) = (cond (stV s && isT t) (tv s.vals t) 0, stV s && isT t, ())) ∧ True ∧ True ∧ True ∧ True ∧ TF) (True ∧ (True ∧ True ∧ True) ∧ True ∧ True ∧ (vcIf (!(isT t)) (True ∧ True ∧ ((((0 : Int), false, ()) : Int × Bool × Unit) = (cond (stV s && isT t) (tv s.vals t) 0, stV s && isT t, ())) ∧ True ∧ True ∧ True ∧ True ∧ TF) (True ∧ True ∧ True ∧ ((s.vals.length = 8 ∧ isT t = true) ∧ True ∧ True) ∧ True ∧ True ∧ ((((tv s.vals t), true, ()) : Int × Bool × Unit) = (cond (stV s && isT t) (tv s.vals t) 0, stV s && isT t, ())) ∧ True ∧ True ∧ True ∧ True ∧ TF))))
theorem vcn_iValueOf (s : GState) (t : Int) (k : Nat) (hp : s.vals.length ≤ 281474976710656 ∧ s.heap.length ≤ 281474976710656) : VC_iValueOf s t k := by
  unfold VC_iValueOf
  simp only [TT, TF, TN, RL, RM, true_and, and_true, eq_self, implies_true, forall_const, List.cons.injEq, S.s.injEq, S0.c.injEq, S0.agg.injEq, CV.d.injEq, CV.own.injEq, CV.ptr.injEq, DC.val.injEq, Value.int.injEq, Value.bool.injEq, Option.some.injEq, Res.blk.injEq, Prod.mk.injEq, inK, min_i64, max_i64, min_u16, max_u16, min_u8, max_u8, min_u64, max_u64, vcIf_true, vcIf_false, List.mem_nil_iff, List.not_mem_nil, not_false_eq_true, Nat.reduceEqDiff, Nat.reduceLeDiff, ne_eq, Bool.and_true, Nat.add_zero, List.append_nil, List.nil_append, List.length_nil, List.length_cons, Nat.zero_add, Nat.reduceAdd, Int.toNat_natCast, Nat.sub_zero, List.drop_zero, List.map_nil, List.take_zero, forall_eq]
  all_goals (try simp only [vcIf_iff, decide_eq_true_eq, decide_eq_false_iff_not, bne_iff_ne, ne_eq, beq_iff_eq, beq_eq_false_iff_ne, bne_eq_false_iff_eq, Bool.not_eq_true', Bool.not_eq_false', Int.ofNat_lt, Int.natCast_inj])
  all_goals (repeat' (first | apply And.intro | intro _))
  all_goals (repeat (cases ‹_ ∧ _›))
  all_goals (first | omega | assumption | exact (stV_all (by assumption)).1 | (simp_all; done) | skip)
theorem vce_iValueOf (s : GState) (t : Int) (k : Nat) : VC_iValueOf s t k = vcQ tab (lookF L_iValueOf) (lookP P_iValueOf) (fun _ => false) (fun _ => none) (fun _ _ => none) (fun _ => []) (bodyOf Try.f37) (entry (encs c_iValueOf.aks (s, t, ())) (rdOf false k)) (retOk tab c_iValueOf Try.f37.results.toList (s, t, ()) k) := by kernel_rfl
theorem vc_iValueOf (s : GState) (t : Int) (k : Nat) (hp : s.vals.length ≤ 281474976710656 ∧ s.heap.length ≤ 281474976710656) : vcQ tab (lookF L_iValueOf) (lookP P_iValueOf) (fun _ => false) (fun _ => none) (fun _ _ => none) (fun _ => []) (bodyOf Try.f37) (entry (encs c_iValueOf.aks (s, t, ())) (rdOf false k)) (retOk tab c_iValueOf Try.f37.results.toList (s, t, ()) k) := (vce_iValueOf s t k).mp (vcn_iValueOf s t k hp)
theorem ok_iValueOf : FnOk Try.prog E 37 c_iValueOf :=
  fn_okQ (l := L_iValueOf) (lp := P_iValueOf) (hp := fun _ => false) (gcs := fun _ => none) (perm := fun _ => []) tabOk mix ⟨ok_iStateValid, ok_isTerm, ok_termValue, trivial⟩ trivial Try.func37 rfl (by kernel_rfl) (by decide) (by kernel_rfl) (anns := fun x _ => fun _ _ => none) (fun ⟨s, t, _⟩ k hp _ => vc_iValueOf s t k hp) tot_fn
end Go.Proofs.Ytejcmcbpfnmlaaa

namespace Go.Proofs.Ytejcmcbpfnmlaaa
open Go.SE Go.RowKit
set_option linter.unusedSimpArgs false
set_option linter.unusedVariables false
set_option maxHeartbeats 1000000
set_option maxRecDepth 100000
/-! joinListsF -/
abbrev c_joinListsF : Con := ⟨[.sl .fact, .sl .fact], [.sl .fact], fun (a, b, _) => a.length ≤ 1048576 ∧ b.length ≤ 1048576, .inl fun (a, b, _) => (a ++ b, ()), fun _ => 0⟩
abbrev L_joinListsF : List (FuncId × Con) := []
theorem vc_joinListsF (a : List GFact) (b : List GFact) (k : Nat) (hp : a.length ≤ 1048576 ∧ b.length ≤ 1048576) : vc tab (lookF L_joinListsF) (fun _ => none) (fun _ => []) (bodyOf Try.f84) (entry (encs c_joinListsF.aks (a, b, ())) (rdOf false k)) (retOk tab c_joinListsF Try.f84.results.toList (a, b, ()) k) := by
  dsimp only [bodyOf, Try.f84, rdOf]
  simp (maxSteps := 10000000) only [c_joinListsF, L_joinListsF, SE.lookF, tab2, tab3, tab4, tab5, tab7, tab9, tab12, tab13, tab21, tab22, tab23, tab24, tab25, tab26, tab27, tab28, tab39, tab42, tab46, tab47, tab65, tab66, tab67, tab68, tab79, tab80, tab84, tab85, tab90, tab91, tab94, tab111, tab140, tab141, tab157, tab159, tab160, tab161, tab162, tab182, tab194, SE.entry, SE.envOf, SE.rdOf, Option.get_some, SE.vc, SE.vcReg, SE.vcLoop, SE.condK, SE.seqK, SE.blockK, SE.vcOps, SE.vcStep, SE.vcOp, SE.vcTr, SE.vcDet_some, SE.vcDet_none, SE.vcIf_true, SE.vcIf_false, SE.vcEach, SE.pickOps, SE.gslot, SE.trOp, SE.moveId, SE.trMove, SE.trPick, SE.trAlloc, SE.trBox, SE.trBuild, SE.trBuildSlice, SE.trLoad, SE.trStore, SE.trNilCheck, SE.trBin, SE.trUn, SE.trConvert, SE.trFieldAddr, SE.trField, SE.trIndexAddr, SE.trIndex, SE.trSlice, SE.trMakeSlice, SE.trExtract, SE.trLen, SE.trAppend, SE.trCopy, SE.trFn, SE.trCall, SE.argsS, SE.ev, SE.constS, SE.junk, SE.sv, SE.upd_app, SE.adds, SE.sets, SE.nid, SE.St.app, SE.St.put, SE.free, SE.freeL, SE.allFree, SE.rids, SE.AK.rids, SE.castL, SE.rdl, SE.AK.dec, SE.decs, SE.AK.enc, SE.encs, SE.AK.res, SE.ress, SE.pack1, SE.zcells, SE.zeroOf, SE.partCells, SE.putc, SE.fills, SE.datas, SE.elemOf, SE.elemsOf, SE.notSpent, SE.cellsAt, SE.weak, SE.dcellsAt, SE.slAt, SE.rdPlus, SE.intAt, SE.updElem, SE.kill, SE.noJunk, SE.inK, SE.binI, SE.shf, SE.isShift, SE.eqCells, SE.aggS, SE.intOp, SE.nested, SE.hasRdr, SE.refsC, SE.refsCs, SE.ownsC, SE.refsAr, SE.rdFits, SE.costIf, SE.Con.post, SE.Con.det, SE.Ty.cells, SE.Ty.sz, SE.Ty.zero, SE.Ty.flat, SE.Ty.dec, SE.retOk, SE.loadsS, SE.loadS, SE.decRs, SE.decR, SE.outC, SE.rdC, SE.allDiff, SE.notIn, SE.notFrozen, SE.apartL, SE.rdEnd, SE.firstReg, SE.headC, SE.fitsC, SE.idsC, SE.keepE, SE.keepM, SE.keepB, SE.inL, SE.puts, SE.ownRes, SE.ownEnv, SE.renL, SE.srcId, SE.lookR, SE.envSame, SE.envSets, SE.memSame, SE.memBlks, SE.memOwns, SE.famsOf, SE.allIn, SE.closedE, SE.closedV, SE.closedM, SE.closedR, SE.rdLe, SE.S.refs, SE.S0.refs, SE.CV.refs, SE.refsL, SE.refsT, SE.S.ren, SE.S0.ren, SE.CV.ren, SE.Res.refs, SE.Res.ren, min_i64, max_i64, min_u16, max_u16, min_u8, max_u8, min_u64, max_u64, S.s.injEq, S0.c.injEq, CV.d.injEq, DC.val.injEq, Value.int.injEq, Value.bool.injEq, Value.string.injEq, eta_fact, eta_atom, eta_asn, eta_state, List.mem_cons, List.mem_nil_iff, or_false, false_or, or_true, true_or, Option.map_some, Option.map_none, Option.bind_some, Option.getD_some, Option.getD_none, Nat.reduceEqDiff, Nat.reduceAdd, Nat.reduceMul, Nat.reduceLeDiff, ↓reduceIte, reduceCtorEq, true_and, and_true, and_self, forall_const, implies_true, true_implies, List.getElem?_toArray, List.getElem?_cons_succ, List.getElem?_cons_zero, List.append_nil, List.nil_append, List.cons_append, List.length_cons, List.length_nil, List.take_succ_cons, List.take_zero, List.drop_succ_cons, List.drop_zero, List.set_cons_zero, List.set_cons_succ, List.map_cons, List.map_nil, Nat.add_zero, Nat.zero_add, forall_eq, Prod.forall, Bool.not_true, Bool.not_false, Nat.lt_irrefl, Nat.zero_lt_succ, List.singleton_append, Prod.mk.injEq, Nat.zero_mul, Nat.one_mul, Nat.reducePow, Option.some.injEq, not_false_eq_true, Int.toNat_natCast, Nat.sub_zero, Nat.le_refl, Bool.or_false, Bool.false_or, Bool.or_true, Bool.true_or, Bool.and_true, Bool.true_and, Bool.and_false, Bool.false_and, Bool.or_self, Bool.and_self, List.append_eq, and_false, false_and]
  all_goals (try simp only [vcIf_iff, decide_eq_true_eq, decide_eq_false_iff_not, bne_iff_ne, ne_eq, beq_iff_eq, beq_eq_false_iff_ne, bne_eq_false_iff_eq, Bool.not_eq_true', Bool.not_eq_false', Int.ofNat_lt, Int.natCast_inj])
  all_goals (repeat' (first | apply And.intro | intro _))
  all_goals (first | omega | (simp_all; done) | grind [])
theorem ok_joinListsF : FnOk Try.prog E 84 c_joinListsF :=
  fn_ok (l := L_joinListsF) (perm := fun _ => []) tabOk mix trivial Try.func84 rfl (by kernel_rfl) (by decide) (by kernel_rfl) (anns := fun x _ => fun _ => none) (fun ⟨a, b, _⟩ k hp _ => vc_joinListsF a b k hp) tot_fn
end Go.Proofs.Ytejcmcbpfnmlaaa

namespace Go.Proofs.Ytejcmcbpfnmlaaa
open Go.SE Go.RowKit
set_option linter.unusedSimpArgs false
set_option linter.unusedVariables false
set_option maxHeartbeats 1000000
set_option maxRecDepth 100000
/-! joinListsA -/
abbrev c_joinListsA : Con := ⟨[.sl .atom, .sl .atom], [.sl .atom], fun (a, b, _) => a.length ≤ 1048576 ∧ b.length ≤ 1048576, .inl fun (a, b, _) => (a ++ b, ()), fun _ => 0⟩
abbrev L_joinListsA : List (FuncId × Con) := []
theorem vc_joinListsA (a : List GAtom) (b : List GAtom) (k : Nat) (hp : a.length ≤ 1048576 ∧ b.length ≤ 1048576) : vc tab (lookF L_joinListsA) (fun _ => none) (fun _ => []) (bodyOf Try.f85) (entry (encs c_joinListsA.aks (a, b, ())) (rdOf false k)) (retOk tab c_joinListsA Try.f85.results.toList (a, b, ()) k) := by
  dsimp only [bodyOf, Try.f85, rdOf]
  simp (maxSteps := 10000000) only [c_joinListsA, L_joinListsA, SE.lookF, tab2, tab3, tab4, tab5, tab7, tab9, tab12, tab13, tab21, tab22, tab23, tab24, tab25, tab26, tab27, tab28, tab39, tab42, tab46, tab47, tab65, tab66, tab67, tab68, tab79, tab80, tab84, tab85, tab90, tab91, tab94, tab111, tab140, tab141, tab157, tab159, tab160, tab161, tab162, tab182, tab194, SE.entry, SE.envOf, SE.rdOf, Option.get_some, SE.vc, SE.vcReg, SE.vcLoop, SE.condK, SE.seqK, SE.blockK, SE.vcOps, SE.vcStep, SE.vcOp, SE.vcTr, SE.vcDet_some, SE.vcDet_none, SE.vcIf_true, SE.vcIf_false, SE.vcEach, SE.pickOps, SE.gslot, SE.trOp, SE.moveId, SE.trMove, SE.trPick, SE.trAlloc, SE.trBox, SE.trBuild, SE.trBuildSlice, SE.trLoad, SE.trStore, SE.trNilCheck, SE.trBin, SE.trUn, SE.trConvert, SE.trFieldAddr, SE.trField, SE.trIndexAddr, SE.trIndex, SE.trSlice, SE.trMakeSlice, SE.trExtract, SE.trLen, SE.trAppend, SE.trCopy, SE.trFn, SE.trCall, SE.argsS, SE.ev, SE.constS, SE.junk, SE.sv, SE.upd_app, SE.adds, SE.sets, SE.nid, SE.St.app, SE.St.put, SE.free, SE.freeL, SE.allFree, SE.rids, SE.AK.rids, SE.castL, SE.rdl, SE.AK.dec, SE.decs, SE.AK.enc, SE.encs, SE.AK.res, SE.ress, SE.pack1, SE.zcells, SE.zeroOf, SE.partCells, SE.putc, SE.fills, SE.datas, SE.elemOf, SE.elemsOf, SE.notSpent, SE.cellsAt, SE.weak, SE.dcellsAt, SE.slAt, SE.rdPlus, SE.intAt, SE.updElem, SE.kill, SE.noJunk, SE.inK, SE.binI, SE.shf, SE.isShift, SE.eqCells, SE.aggS, SE.intOp, SE.nested, SE.hasRdr, SE.refsC, SE.refsCs, SE.ownsC, SE.refsAr, SE.rdFits, SE.costIf, SE.Con.post, SE.Con.det, SE.Ty.cells, SE.Ty.sz, SE.Ty.zero, SE.Ty.flat, SE.Ty.dec, SE.retOk, SE.loadsS, SE.loadS, SE.decRs, SE.decR, SE.outC, SE.rdC, SE.allDiff, SE.notIn, SE.notFrozen, SE.apartL, SE.rdEnd, SE.firstReg, SE.headC, SE.fitsC, SE.idsC, SE.keepE, SE.keepM, SE.keepB, SE.inL, SE.puts, SE.ownRes, SE.ownEnv, SE.renL, SE.srcId, SE.lookR, SE.envSame, SE.envSets, SE.memSame, SE.memBlks, SE.memOwns, SE.famsOf, SE.allIn, SE.closedE, SE.closedV, SE.closedM, SE.closedR, SE.rdLe, SE.S.refs, SE.S0.refs, SE.CV.refs, SE.refsL, SE.refsT, SE.S.ren, SE.S0.ren, SE.CV.ren, SE.Res.refs, SE.Res.ren, min_i64, max_i64, min_u16, max_u16, min_u8, max_u8, min_u64, max_u64, S.s.injEq, S0.c.injEq, CV.d.injEq, DC.val.injEq, Value.int.injEq, Value.bool.injEq, Value.string.injEq, eta_fact, eta_atom, eta_asn, eta_state, List.mem_cons, List.mem_nil_iff, or_false, false_or, or_true, true_or, Option.map_some, Option.map_none, Option.bind_some, Option.getD_some, Option.getD_none, Nat.reduceEqDiff, Nat.reduceAdd, Nat.reduceMul, Nat.reduceLeDiff, ↓reduceIte, reduceCtorEq, true_and, and_true, and_self, forall_const, implies_true, true_implies, List.getElem?_toArray, List.getElem?_cons_succ, List.getElem?_cons_zero, List.append_nil, List.nil_append, List.cons_append, List.length_cons, List.length_nil, List.take_succ_cons, List.take_zero, List.drop_succ_cons, List.drop_zero, List.set_cons_zero, List.set_cons_succ, List.map_cons, List.map_nil, Nat.add_zero, Nat.zero_add, forall_eq, Prod.forall, Bool.not_true, Bool.not_false, Nat.lt_irrefl, Nat.zero_lt_succ, List.singleton_append, Prod.mk.injEq, Nat.zero_mul, Nat.one_mul, Nat.reducePow, Option.some.injEq, not_false_eq_true, Int.toNat_natCast, Nat.sub_zero, Nat.le_refl, Bool.or_false, Bool.false_or, Bool.or_true, Bool.true_or, Bool.and_true, Bool.true_and, Bool.and_false, Bool.false_and, Bool.or_self, Bool.and_self, List.append_eq, and_false, false_and]
  all_goals (try simp only [vcIf_iff, decide_eq_true_eq, decide_eq_false_iff_not, bne_iff_ne, ne_eq, beq_iff_eq, beq_eq_false_iff_ne, bne_eq_false_iff_eq, Bool.not_eq_true', Bool.not_eq_false', Int.ofNat_lt, Int.natCast_inj])
  all_goals (repeat' (first | apply And.intro | intro _))
  all_goals (first | omega | (simp_all; done) | grind [])
theorem ok_joinListsA : FnOk Try.prog E 85 c_joinListsA :=
  fn_ok (l := L_joinListsA) (perm := fun _ => []) tabOk mix trivial Try.func85 rfl (by kernel_rfl) (by decide) (by kernel_rfl) (anns := fun x _ => fun _ => none) (fun ⟨a, b, _⟩ k hp _ => vc_joinListsA a b k hp) tot_fn
end Go.Proofs.Ytejcmcbpfnmlaaa

namespace Go.Proofs.Ytejcmcbpfnmlaaa
open Go.SE Go.RowKit
set_option linter.unusedSimpArgs false
set_option linter.unusedVariables false
set_option maxHeartbeats 1000000
set_option maxRecDepth 100000
/-! copyAssertion -/
abbrev c_copyAssertion : Con := ⟨[.asn], [.asn], fun (a, _) => a.facts.length ≤ 1048576 ∧ a.atoms.length ≤ 1048576, .inl fun (a, _) => (a, ()), fun _ => 0⟩
abbrev L_copyAssertion : List (FuncId × Con) := [(84, c_joinListsF), (85, c_joinListsA)]
theorem vc_copyAssertion (a : GAsn) (k : Nat) (hp : a.facts.length ≤ 1048576 ∧ a.atoms.length ≤ 1048576) : vc tab (lookF L_copyAssertion) (fun _ => none) (fun _ => []) (bodyOf Try.f143) (entry (encs c_copyAssertion.aks (a, ())) (rdOf false k)) (retOk tab c_copyAssertion Try.f143.results.toList (a, ()) k) := by
  dsimp only [bodyOf, Try.f143, rdOf]
  simp (maxSteps := 10000000) only [c_copyAssertion, L_copyAssertion, SE.lookF, c_joinListsF, c_joinListsA, tab2, tab3, tab4, tab5, tab7, tab9, tab12, tab13, tab21, tab22, tab23, tab24, tab25, tab26, tab27, tab28, tab39, tab42, tab46, tab47, tab65, tab66, tab67, tab68, tab79, tab80, tab84, tab85, tab90, tab91, tab94, tab111, tab140, tab141, tab157, tab159, tab160, tab161, tab162, tab182, tab194, SE.entry, SE.envOf, SE.rdOf, Option.get_some, SE.vc, SE.vcReg, SE.vcLoop, SE.condK, SE.seqK, SE.blockK, SE.vcOps, SE.vcStep, SE.vcOp, SE.vcTr, SE.vcDet_some, SE.vcDet_none, SE.vcIf_true, SE.vcIf_false, SE.vcEach, SE.pickOps, SE.gslot, SE.trOp, SE.moveId, SE.trMove, SE.trPick, SE.trAlloc, SE.trBox, SE.trBuild, SE.trBuildSlice, SE.trLoad, SE.trStore, SE.trNilCheck, SE.trBin, SE.trUn, SE.trConvert, SE.trFieldAddr, SE.trField, SE.trIndexAddr, SE.trIndex, SE.trSlice, SE.trMakeSlice, SE.trExtract, SE.trLen, SE.trAppend, SE.trCopy, SE.trFn, SE.trCall, SE.argsS, SE.ev, SE.constS, SE.junk, SE.sv, SE.upd_app, SE.adds, SE.sets, SE.nid, SE.St.app, SE.St.put, SE.free, SE.freeL, SE.allFree, SE.rids, SE.AK.rids, SE.castL, SE.rdl, SE.AK.dec, SE.decs, SE.AK.enc, SE.encs, SE.AK.res, SE.ress, SE.pack1, SE.zcells, SE.zeroOf, SE.partCells, SE.putc, SE.fills, SE.datas, SE.elemOf, SE.elemsOf, SE.notSpent, SE.cellsAt, SE.weak, SE.dcellsAt, SE.slAt, SE.rdPlus, SE.intAt, SE.updElem, SE.kill, SE.noJunk, SE.inK, SE.binI, SE.shf, SE.isShift, SE.eqCells, SE.aggS, SE.intOp, SE.nested, SE.hasRdr, SE.refsC, SE.refsCs, SE.ownsC, SE.refsAr, SE.rdFits, SE.costIf, SE.Con.post, SE.Con.det, SE.Ty.cells, SE.Ty.sz, SE.Ty.zero, SE.Ty.flat, SE.Ty.dec, SE.retOk, SE.loadsS, SE.loadS, SE.decRs, SE.decR, SE.outC, SE.rdC, SE.allDiff, SE.notIn, SE.notFrozen, SE.apartL, SE.rdEnd, SE.firstReg, SE.headC, SE.fitsC, SE.idsC, SE.keepE, SE.keepM, SE.keepB, SE.inL, SE.puts, SE.ownRes, SE.ownEnv, SE.renL, SE.srcId, SE.lookR, SE.envSame, SE.envSets, SE.memSame, SE.memBlks, SE.memOwns, SE.famsOf, SE.allIn, SE.closedE, SE.closedV, SE.closedM, SE.closedR, SE.rdLe, SE.S.refs, SE.S0.refs, SE.CV.refs, SE.refsL, SE.refsT, SE.S.ren, SE.S0.ren, SE.CV.ren, SE.Res.refs, SE.Res.ren, min_i64, max_i64, min_u16, max_u16, min_u8, max_u8, min_u64, max_u64, S.s.injEq, S0.c.injEq, CV.d.injEq, DC.val.injEq, Value.int.injEq, Value.bool.injEq, Value.string.injEq, eta_fact, eta_atom, eta_asn, eta_state, List.mem_cons, List.mem_nil_iff, or_false, false_or, or_true, true_or, Option.map_some, Option.map_none, Option.bind_some, Option.getD_some, Option.getD_none, Nat.reduceEqDiff, Nat.reduceAdd, Nat.reduceMul, Nat.reduceLeDiff, ↓reduceIte, reduceCtorEq, true_and, and_true, and_self, forall_const, implies_true, true_implies, List.getElem?_toArray, List.getElem?_cons_succ, List.getElem?_cons_zero, List.append_nil, List.nil_append, List.cons_append, List.length_cons, List.length_nil, List.take_succ_cons, List.take_zero, List.drop_succ_cons, List.drop_zero, List.set_cons_zero, List.set_cons_succ, List.map_cons, List.map_nil, Nat.add_zero, Nat.zero_add, forall_eq, Prod.forall, Bool.not_true, Bool.not_false, Nat.lt_irrefl, Nat.zero_lt_succ, List.singleton_append, Prod.mk.injEq, Nat.zero_mul, Nat.one_mul, Nat.reducePow, Option.some.injEq, not_false_eq_true, Int.toNat_natCast, Nat.sub_zero, Nat.le_refl, Bool.or_false, Bool.false_or, Bool.or_true, Bool.true_or, Bool.and_true, Bool.true_and, Bool.and_false, Bool.false_and, Bool.or_self, Bool.and_self, List.append_eq, and_false, false_and]
  all_goals (try simp only [vcIf_iff, decide_eq_true_eq, decide_eq_false_iff_not, bne_iff_ne, ne_eq, beq_iff_eq, beq_eq_false_iff_ne, bne_eq_false_iff_eq, Bool.not_eq_true', Bool.not_eq_false', Int.ofNat_lt, Int.natCast_inj])
  all_goals (repeat' (first | apply And.intro | intro _))
  all_goals (first | omega | (simp_all; done) | grind [])
theorem ok_copyAssertion : FnOk Try.prog E 143 c_copyAssertion :=
  fn_ok (l := L_copyAssertion) (perm := fun _ => []) tabOk mix ⟨ok_joinListsF, ok_joinListsA, trivial⟩ Try.func143 rfl (by kernel_rfl) (by decide) (by kernel_rfl) (anns := fun x _ => fun _ => none) (fun ⟨a, _⟩ k hp _ => vc_copyAssertion a k hp) tot_fn
end Go.Proofs.Ytejcmcbpfnmlaaa

namespace Go.Proofs.Ytejcmcbpfnmlaaa
open Go.SE Go.RowKit
set_option linter.unusedSimpArgs false
set_option linter.unusedVariables false
set_option maxHeartbeats 1000000
set_option maxRecDepth 100000
/-! replaceTerm -/
abbrev c_replaceTerm : Con := ⟨[.int, .int, .int], [.int], fun _ => True, .inl fun (t, x, y, _) => (rT t x y, ()), fun _ => 0⟩
abbrev L_replaceTerm : List (FuncId × Con) := []
theorem vc_replaceTerm (t : Int) (x : Int) (y : Int) (k : Nat) : vc tab (lookF L_replaceTerm) (fun _ => none) (fun _ => []) (bodyOf Try.f144) (entry (encs c_replaceTerm.aks (t, x, y, ())) (rdOf false k)) (retOk tab c_replaceTerm Try.f144.results.toList (t, x, y, ()) k) := by
  dsimp only [bodyOf, Try.f144, rdOf]
  simp (maxSteps := 10000000) only [c_replaceTerm, L_replaceTerm, SE.lookF, tab2, tab3, tab4, tab5, tab7, tab9, tab12, tab13, tab21, tab22, tab23, tab24, tab25, tab26, tab27, tab28, tab39, tab42, tab46, tab47, tab65, tab66, tab67, tab68, tab79, tab80, tab84, tab85, tab90, tab91, tab94, tab111, tab140, tab141, tab157, tab159, tab160, tab161, tab162, tab182, tab194, SE.entry, SE.envOf, SE.rdOf, Option.get_some, SE.vc, SE.vcReg, SE.vcLoop, SE.condK, SE.seqK, SE.blockK, SE.vcOps, SE.vcStep, SE.vcOp, SE.vcTr, SE.vcDet_some, SE.vcDet_none, SE.vcIf_true, SE.vcIf_false, SE.vcEach, SE.pickOps, SE.gslot, SE.trOp, SE.moveId, SE.trMove, SE.trPick, SE.trAlloc, SE.trBox, SE.trBuild, SE.trBuildSlice, SE.trLoad, SE.trStore, SE.trNilCheck, SE.trBin, SE.trUn, SE.trConvert, SE.trFieldAddr, SE.trField, SE.trIndexAddr, SE.trIndex, SE.trSlice, SE.trMakeSlice, SE.trExtract, SE.trLen, SE.trAppend, SE.trCopy, SE.trFn, SE.trCall, SE.argsS, SE.ev, SE.constS, SE.junk, SE.sv, SE.upd_app, SE.adds, SE.sets, SE.nid, SE.St.app, SE.St.put, SE.free, SE.freeL, SE.allFree, SE.rids, SE.AK.rids, SE.castL, SE.rdl, SE.AK.dec, SE.decs, SE.AK.enc, SE.encs, SE.AK.res, SE.ress, SE.pack1, SE.zcells, SE.zeroOf, SE.partCells, SE.putc, SE.fills, SE.datas, SE.elemOf, SE.elemsOf, SE.notSpent, SE.cellsAt, SE.weak, SE.dcellsAt, SE.slAt, SE.rdPlus, SE.intAt, SE.updElem, SE.kill, SE.noJunk, SE.inK, SE.binI, SE.shf, SE.isShift, SE.eqCells, SE.aggS, SE.intOp, SE.nested, SE.hasRdr, SE.refsC, SE.refsCs, SE.ownsC, SE.refsAr, SE.rdFits, SE.costIf, SE.Con.post, SE.Con.det, SE.Ty.cells, SE.Ty.sz, SE.Ty.zero, SE.Ty.flat, SE.Ty.dec, SE.retOk, SE.loadsS, SE.loadS, SE.decRs, SE.decR, SE.outC, SE.rdC, SE.allDiff, SE.notIn, SE.notFrozen, SE.apartL, SE.rdEnd, SE.firstReg, SE.headC, SE.fitsC, SE.idsC, SE.keepE, SE.keepM, SE.keepB, SE.inL, SE.puts, SE.ownRes, SE.ownEnv, SE.renL, SE.srcId, SE.lookR, SE.envSame, SE.envSets, SE.memSame, SE.memBlks, SE.memOwns, SE.famsOf, SE.allIn, SE.closedE, SE.closedV, SE.closedM, SE.closedR, SE.rdLe, SE.S.refs, SE.S0.refs, SE.CV.refs, SE.refsL, SE.refsT, SE.S.ren, SE.S0.ren, SE.CV.ren, SE.Res.refs, SE.Res.ren, min_i64, max_i64, min_u16, max_u16, min_u8, max_u8, min_u64, max_u64, S.s.injEq, S0.c.injEq, CV.d.injEq, DC.val.injEq, Value.int.injEq, Value.bool.injEq, Value.string.injEq, eta_fact, eta_atom, eta_asn, eta_state, List.mem_cons, List.mem_nil_iff, or_false, false_or, or_true, true_or, Option.map_some, Option.map_none, Option.bind_some, Option.getD_some, Option.getD_none, Nat.reduceEqDiff, Nat.reduceAdd, Nat.reduceMul, Nat.reduceLeDiff, ↓reduceIte, reduceCtorEq, true_and, and_true, and_self, forall_const, implies_true, true_implies, List.getElem?_toArray, List.getElem?_cons_succ, List.getElem?_cons_zero, List.append_nil, List.nil_append, List.cons_append, List.length_cons, List.length_nil, List.take_succ_cons, List.take_zero, List.drop_succ_cons, List.drop_zero, List.set_cons_zero, List.set_cons_succ, List.map_cons, List.map_nil, Nat.add_zero, Nat.zero_add, forall_eq, Prod.forall, Bool.not_true, Bool.not_false, Nat.lt_irrefl, Nat.zero_lt_succ, List.singleton_append, Prod.mk.injEq, Nat.zero_mul, Nat.one_mul, Nat.reducePow, Option.some.injEq, not_false_eq_true, Int.toNat_natCast, Nat.sub_zero, Nat.le_refl, Bool.or_false, Bool.false_or, Bool.or_true, Bool.true_or, Bool.and_true, Bool.true_and, Bool.and_false, Bool.false_and, Bool.or_self, Bool.and_self, List.append_eq, and_false, false_and]
  all_goals (try simp only [vcIf_iff, decide_eq_true_eq, decide_eq_false_iff_not, bne_iff_ne, ne_eq, beq_iff_eq, beq_eq_false_iff_ne, bne_eq_false_iff_eq, Bool.not_eq_true', Bool.not_eq_false', Int.ofNat_lt, Int.natCast_inj])
  all_goals (repeat' (first | apply And.intro | intro _))
  all_goals (first | omega | (simp_all; done) | grind [rT])
theorem ok_replaceTerm : FnOk Try.prog E 144 c_replaceTerm :=
  fn_ok (l := L_replaceTerm) (perm := fun _ => []) tabOk mix trivial Try.func144 rfl (by kernel_rfl) (by decide) (by kernel_rfl) (anns := fun x _ => fun _ => none) (fun ⟨t, x, y, _⟩ k _ _ => vc_replaceTerm t x y k) tot_fn
end Go.Proofs.Ytejcmcbpfnmlaaa
