/-
  Contracts of single functions of the program, each shown by the engine: what a call returns for arguments within the contract's bounds.
-/
import Derived.Test.YtejcmcbpfnmlaaaFFnAllocateda
import Derived.Test.YtejcmcbpfnmlaaaFFnAllocatedd
import Derived.Test.YtejcmcbpfnmlaaaEe
import Derived.Test.YtejcmcbpfnmlaaaEf
import Derived.Test.YtejcmcbpfnmlaaaEg
set_option linter.unusedSimpArgs false
set_option linter.unusedVariables false
set_option linter.unusedSectionVars false

namespace Go.Proofs.Ytejcmcbpfnmlaaa
open Go.SE Go.RowKit
set_option linter.unusedSimpArgs false
set_option linter.unusedVariables false
set_option maxHeartbeats 1000000
set_option maxRecDepth 100000
/-! partOf -/
abbrev c_partOf : Con := ⟨[.state, .asn], [.u16, .bool], fun (s, a, _) => s.vals.length ≤ 281474976710656 ∧ s.heap.length ≤ 281474976710656 ∧ a.facts.length ≤ 281474976710656 ∧ a.atoms.length ≤ 281474976710656, .inl fun (s, a, _) => (maskS (poL s a), poB s a, ()), fun _ => 0⟩
abbrev L_partOf : List (FuncId × Con) := [(19, c_iAssertionValid), (35, c_iStateValid), (36, c_iFactsHold), (137, c_iAtomCells), (138, c_csHas)]
abbrev P_partOf : List (FuncId × PT) := []
def an_partOf (s : GState) (a : GAsn) : Nat → St → Option Ann
  | 5, se => some { α := Nat, ok := fun i => stV s = true ∧ asV a = true ∧ fctB s a.facts = true ∧ ptI s a.atoms i, mu := fun i => a.atoms.length - i, i0 := fun _ => 0, nx := fun a _ => (fun i => i + 1) a, live := [2, 30, 31], sets := fun i => [(32, sv (.int .i64 i)), (6, sv (.int .u16 (maskS (ptL s a.atoms i))))], mids := [47], blks := fun i => [], owns := fun i => [], rd := fun r _ => r, base := 100000 }
  | 11, se => some { α := Nat, ok := fun j => j ≤ (slAt .int se (.slot 44)).length ∧ nw (ptL s a.atoms (intAt se 32).toNat) (slAt .int se (.slot 44)) j, mu := fun j => (slAt .int se (.slot 44)).length - j, i0 := fun _ => 0, nx := fun a _ => (fun j => j + 1) a, live := [2, 30, 31, 32, 44, 45], sets := fun j => [(46, sv (.int .i64 j)), (6, sv (.int .u16 (maskS (ptL s a.atoms (intAt se 32).toNat ++ (slAt .int se (.slot 44)).take j))))], mids := [47, 100624], blks := fun j => [], owns := fun j => [], rd := fun r _ => r, base := 200000 }
  | _, _ => none
def VC_partOf_1 (s : GState) (a : GAsn) (k : Nat) (i1 : Nat) (j2 : Nat) : Prop := (True ∧ (vcIf (decide (((j2 : Nat) : Int) < (((acL s (a.atoms.getD i1 (⟨0, 0, 0⟩ : GAtom))).length : Nat) : Int))) ((0 ≤ ((j2 : Nat) : Int) ∧ ((j2 : Nat) : Int) < (((acL s (a.atoms.getD i1 (⟨0, 0, 0⟩ : GAtom))).length : Nat) : Int)) ∧ True ∧ True ∧ True ∧ True ∧ ((0 ≤ (maskS (ptL s a.atoms (((i1 : Nat) : Int)).toNat ++ ((acL s (a.atoms.getD i1 (⟨0, 0, 0⟩ : GAtom)))).take j2) : Int) ∧ (maskS (ptL s a.atoms (((i1 : Nat) : Int)).toNat ++ ((acL s (a.atoms.getD i1 (⟨0, 0, 0⟩ : GAtom)))).take j2) : Int) < 512) ∧ True ∧ True) ∧ (vcIf (csHas (maskS (ptL s a.atoms (((i1 : Nat) : Int)).toNat ++ ((acL s (a.atoms.getD i1 (⟨0, 0, 0⟩ : GAtom)))).take j2) : Int) ((acL s (a.atoms.getD i1 (⟨0, 0, 0⟩ : GAtom))).getD j2 (0 : Int))) (True ∧ True ∧ ((((0 : Int), false, ()) : Int × Bool × Unit) = (maskS (poL s a), poB s a, ())) ∧ True ∧ True ∧ True ∧ True ∧ TF) (True ∧ True ∧ (0 ≤ ((acL s (a.atoms.getD i1 (⟨0, 0, 0⟩ : GAtom))).getD j2 (0 : Int))) ∧ True ∧ True ∧ (inK .i64 (((j2 : Nat) : Int) + (1 : Int))) ∧ True ∧ ((j2 + 1) ≤ ((acL s (a.atoms.getD i1 (⟨0, 0, 0⟩ : GAtom)))).length ∧ nw (ptL s a.atoms (((i1 : Nat) : Int)).toNat) ((acL s (a.atoms.getD i1 (⟨0, 0, 0⟩ : GAtom)))) (j2 + 1)) ∧ (((acL s (a.atoms.getD i1 (⟨0, 0, 0⟩ : GAtom)))).length - (j2 + 1) < ((acL s (a.atoms.getD i1 (⟨0, 0, 0⟩ : GAtom)))).length - j2) ∧ TT ∧ (RL [.s (.c (.ptr 47 0)), .s (.c (.d (.arr .atom a.atoms))), .s (.c (.d (.val (.int .i64 ((a.atoms.length : Nat) : Int))))), .s (.c (.d (.val (.int .i64 ((i1 : Nat) : Int))))), .s (.c (.own 100624)), .s (.c (.d (.val (.int .i64 (((acL s (a.atoms.getD i1 (⟨0, 0, 0⟩ : GAtom))).length : Nat) : Int)))))]) ∧ (([.s (.c (.d (.val (.int .i64 (((j2 : Nat) : Int) + (1 : Int)))))), .s (.c (.d (.val (.int .u16 (bits .or .u16 (maskS (ptL s a.atoms (((i1 : Nat) : Int)).toNat ++ ((acL s (a.atoms.getD i1 (⟨0, 0, 0⟩ : GAtom)))).take j2) : Int) (IntKind.wrap .u16 ((1 : Int) * 2 ^ (min ((acL s (a.atoms.getD i1 (⟨0, 0, 0⟩ : GAtom))).getD j2 (0 : Int)).toNat (IntKind.bits .u16)))))))))] : List S) = [.s (.c (.d (.val (.int .i64 (((j2 + 1) : Nat) : Int))))), .s (.c (.d (.val (.int .u16 (maskS (ptL s a.atoms (((i1 : Nat) : Int)).toNat ++ ((acL s (a.atoms.getD i1 (⟨0, 0, 0⟩ : GAtom)))).take (j2 + 1)) : Int)))))]) ∧ (RM [some (.blk [.d (.arr .int s.vals), .d (.arr .int s.heap)]), some (.sl 100624 .int (acL s (a.atoms.getD i1 (⟨0, 0, 0⟩ : GAtom))))]) ∧ (RM []) ∧ True ∧ TT))) ((inK .i64 (((i1 : Nat) : Int) + (1 : Int))) ∧ True ∧ (stV s = true ∧ asV a = true ∧ fctB s a.facts = true ∧ ptI s a.atoms (i1 + 1)) ∧ (a.atoms.length - (i1 + 1) < a.atoms.length - i1) ∧ TT ∧ (RL [.s (.c (.ptr 47 0)), .s (.c (.d (.arr .atom a.atoms))), .s (.c (.d (.val (.int .i64 ((a.atoms.length : Nat) : Int)))))]) ∧ (([.s (.c (.d (.val (.int .i64 (((i1 : Nat) : Int) + (1 : Int)))))), .s (.c (.d (.val (.int .u16 (maskS (ptL s a.atoms (((i1 : Nat) : Int)).toNat ++ ((acL s (a.atoms.getD i1 (⟨0, 0, 0⟩ : GAtom)))).take j2) : Int)))))] : List S) = [.s (.c (.d (.val (.int .i64 (((i1 + 1) : Nat) : Int))))), .s (.c (.d (.val (.int .u16 (maskS (ptL s a.atoms (i1 + 1)) : Int)))))]) ∧ (RM [some (.blk [.d (.arr .int s.vals), .d (.arr .int s.heap)])]) ∧ (RM []) ∧ True ∧ TT)))
def VC_partOf_2 (s : GState) (a : GAsn) (k : Nat) : Prop := (True ∧ (vcIf (!(asV a)) (True ∧ True ∧ True ∧ ((((0 : Int), false, ()) : Int × Bool × Unit) = (maskS (poL s a), poB s a, ())) ∧ True ∧ True ∧ True ∧ True ∧ TF) (True ∧ True ∧ True ∧ True ∧ ((a.facts.length ≤ 281474976710656 ∧ s.vals.length ≤ 281474976710656) ∧ True ∧ True) ∧ True ∧ True ∧ (vcIf (!(fsV a.facts && (s.vals.length == 8 && a.facts.all (holdF s.vals)))) (True ∧ True ∧ ((((0 : Int), false, ()) : Int × Bool × Unit) = (maskS (poL s a), poB s a, ())) ∧ True ∧ True ∧ True ∧ True ∧ TF) (True ∧ True ∧ True ∧ True ∧ True ∧ ((stV s = true ∧ asV a = true ∧ fctB s a.facts = true ∧ ptI s a.atoms 0) ∧ TT ∧ (RL [.s (.c (.ptr 47 0)), .s (.c (.d (.arr .atom a.atoms))), .s (.c (.d (.val (.int .i64 ((a.atoms.length : Nat) : Int)))))]) ∧ (([.s (.c (.d (.val (.int .i64 (0 : Int))))), .s (.c (.d (.val (.int .u16 (0 : Int)))))] : List S) = [.s (.c (.d (.val (.int .i64 ((0 : Nat) : Int))))), .s (.c (.d (.val (.int .u16 (maskS (ptL s a.atoms 0) : Int)))))]) ∧ (RM [some (.blk [.d (.arr .int s.vals), .d (.arr .int s.heap)])]) ∧ (RM []) ∧ True ∧ TT) ∧ (∀ i1 : Nat, (stV s = true ∧ asV a = true ∧ fctB s a.facts = true ∧ ptI s a.atoms i1) → True ∧ (vcIf (decide (((i1 : Nat) : Int) < ((a.atoms.length : Nat) : Int))) ((0 ≤ ((i1 : Nat) : Int) ∧ ((i1 : Nat) : Int) < ((a.atoms.length : Nat) : Int)) ∧ True ∧ (TN ∧ True) ∧ (TF ∧ TF) ∧ True ∧ True ∧ ((s.vals.length ≤ 281474976710656 ∧ s.heap.length ≤ 281474976710656) ∧ True ∧ TN ∧ True) ∧ True ∧ True ∧ True ∧ True ∧ True ∧ True ∧ True ∧ (vcIf (!(acB s (a.atoms.getD i1 (⟨0, 0, 0⟩ : GAtom)))) (True ∧ True ∧ ((((0 : Int), false, ()) : Int × Bool × Unit) = (maskS (poL s a), poB s a, ())) ∧ True ∧ True ∧ True ∧ True ∧ TF) (True ∧ True ∧ True ∧ ((0 ≤ ((acL s (a.atoms.getD i1 (⟨0, 0, 0⟩ : GAtom)))).length ∧ nw (ptL s a.atoms (((i1 : Nat) : Int)).toNat) ((acL s (a.atoms.getD i1 (⟨0, 0, 0⟩ : GAtom)))) 0) ∧ TT ∧ (RL [.s (.c (.ptr 47 0)), .s (.c (.d (.arr .atom a.atoms))), .s (.c (.d (.val (.int .i64 ((a.atoms.length : Nat) : Int))))), .s (.c (.d (.val (.int .i64 ((i1 : Nat) : Int))))), .s (.c (.own 100624)), .s (.c (.d (.val (.int .i64 (((acL s (a.atoms.getD i1 (⟨0, 0, 0⟩ : GAtom))).length : Nat) : Int)))))]) ∧ (([.s (.c (.d (.val (.int .i64 (0 : Int))))), .s (.c (.d (.val (.int .u16 (maskS (ptL s a.atoms i1) : Int)))))] : List S) = [.s (.c (.d (.val (.int .i64 ((0 : Nat) : Int))))), .s (.c (.d (.val (.int .u16 (maskS (ptL s a.atoms (((i1 : Nat) : Int)).toNat ++ ((acL s (a.atoms.getD i1 (⟨0, 0, 0⟩ : GAtom)))).take 0) : Int)))))]) ∧ (RM [some (.blk [.d (.arr .int s.vals), .d (.arr .int s.heap)]), some (.sl 100624 .int (acL s (a.atoms.getD i1 (⟨0, 0, 0⟩ : GAtom))))]) ∧ (RM []) ∧ True ∧ TT) ∧ (∀ j2 : Nat, (j2 ≤ ((acL s (a.atoms.getD i1 (⟨0, 0, 0⟩ : GAtom)))).length ∧ nw (ptL s a.atoms (((i1 : Nat) : Int)).toNat) ((acL s (a.atoms.getD i1 (⟨0, 0, 0⟩ : GAtom)))) j2) → (VC_partOf_1 s a k i1 j2))))) (True ∧ True ∧ True ∧ ((((maskS (ptL s a.atoms i1) : Int), true, ()) : Int × Bool × Unit) = (maskS (poL s a), poB s a, ())) ∧ True ∧ True ∧ True ∧ True ∧ TF))))))))
def VC_partOf (s : GState) (a : GAsn) (k : Nat) : Prop := TN ∧ TN ∧ True ∧ True ∧ True ∧ ((s.vals.length ≤ 281474976710656 ∧ s.heap.length ≤ 281474976710656) ∧ True ∧ True) ∧ True ∧ True ∧ (vcIf (!(stV s)) (True ∧ True ∧ True ∧ True ∧ True ∧ ((((0 : Int), false, ()) : Int × Bool × Unit) = (maskS (poL s a), poB s a, ())) ∧ True ∧ True ∧ True ∧ True ∧ TF) (True ∧ ((a.facts.length ≤ 281474976710656 ∧ a.atoms.length ≤ 281474976710656) ∧ True ∧ True) ∧ True ∧ True ∧ (VC_partOf_2 s a k)))
theorem vcn_partOf (s : GState) (a : GAsn) (k : Nat) (hp : s.vals.length ≤ 281474976710656 ∧ s.heap.length ≤ 281474976710656 ∧ a.facts.length ≤ 281474976710656 ∧ a.atoms.length ≤ 281474976710656) : VC_partOf s a k := by
  unfold VC_partOf VC_partOf_2 VC_partOf_1
  simp only [cln, Nat.reduceEqDiff, Nat.reduceLeDiff, Nat.reduceAdd]
  all_goals (try simp only [opn])
  all_goals (repeat' (first | apply And.intro | intro _))
  all_goals (repeat (cases ‹_ ∧ _›))
  all_goals (try have h7 := ‹ptI _ _ _›)
  all_goals (first | omega | assumption | skip)
  all_goals (first
   | exact (po_q1 (by assumption)).1 | exact (po_q1 (by assumption)).2
   | exact (po_q2 (by assumption)).1 | exact (po_q2 (by assumption)).2
   | exact (po_q3 (by assumption) (by assumption) (by assumption)).1 | exact (po_q3 (by assumption) (by assumption) (by assumption)).2
   | exact ptI_zero | exact nw_zero | (rw [← fct_iff (by assumption) (by assumption)]; assumption)
   | exact (po_q4 (by assumption) (by assumption) (by assumption) h7 (by assumption) (by assumption)).1 | exact (po_q4 (by assumption) (by assumption) (by assumption) h7 (by assumption) (by assumption)).2
   | exact (po_q5 (by assumption) (by assumption) (by assumption) h7 (by assumption) (by assumption) (by assumption)).1 | exact (po_q5 (by assumption) (by assumption) (by assumption) h7 (by assumption) (by assumption) (by assumption)).2
   | with_reducible exact (maskS_bd _).1 | with_reducible exact (maskS_bd _).2
   | exact po_g1 (by assumption) (by assumption) (by assumption) (by assumption)
   | exact po_g2 (by assumption) (by assumption)
   | exact (po_n (by assumption) (by assumption) h7 (by assumption) (by assumption) (by assumption) (by assumption) (by assumption)).1
   | exact (po_n (by assumption) (by assumption) h7 (by assumption) (by assumption) (by assumption) (by assumption) (by assumption)).2
   | exact (po_e (by assumption) (by assumption) (by assumption) h7 (by assumption)).1 | exact (po_e (by assumption) (by assumption) (by assumption) h7 (by assumption)).2
   | (have h := isAd_iff.1 (ac_get (by assumption) (by assumption)); omega)
   | exact jb (by assumption) | exact po_g1 (by assumption) (by assumption) (by assumption) (by assumption) _ (by assumption)
   | (rw [List.take_zero, List.append_nil]; done)
   | exact maskS_zero | exact maskS_zero.symm | rfl
   | skip)
theorem vce_partOf (s : GState) (a : GAsn) (k : Nat) : VC_partOf s a k = vcQ tab (lookF L_partOf) (lookP P_partOf) (fun _ => false) (fun _ => none) (an_partOf s a) (fun _ => []) (bodyOf Try.f90) (entry (encs c_partOf.aks (s, a, ())) (rdOf false k)) (retOk tab c_partOf Try.f90.results.toList (s, a, ()) k) := by kernel_rfl
theorem ok_partOf : FnOk Try.prog E 90 c_partOf :=
  fn_okQ (l := L_partOf) (lp := P_partOf) (hp := fun _ => false) (gcs := fun _ => none) (perm := fun _ => []) tabOk mix ⟨ok_iAssertionValid, ok_iStateValid, ok_iFactsHold, ok_iAtomCells, ok_csHas, trivial⟩ trivial Try.func90 rfl (by kernel_rfl) (by decide) (by kernel_rfl) (anns := fun x _ => an_partOf x.1 x.2.1) (fun ⟨s, a, _⟩ k hp _ => (vce_partOf s a k).mp (vcn_partOf s a k hp)) tot_fn
end Go.Proofs.Ytejcmcbpfnmlaaa

namespace Go.Proofs.Ytejcmcbpfnmlaaa
open Go.SE Go.RowKit
set_option linter.unusedSimpArgs false
set_option linter.unusedVariables false
set_option maxHeartbeats 1000000
set_option maxRecDepth 100000
/-! usedIn -/
abbrev c_usedIn : Con := ⟨[.state], [.u16], fun (s, _) => stV s = true, .inl fun (s, _) => (maskS (usL s 8), ()), fun _ => 0⟩
abbrev L_usedIn : List (FuncId × Con) := [(107, c_allocated)]
abbrev P_usedIn : List (FuncId × PT) := []
def an_usedIn (s : GState) : Nat → St → Option Ann
  | 3, se => some { α := Nat, ok := fun i => i ≤ 8, mu := fun i => 8 - i, i0 := fun _ => 0, nx := fun a _ => (fun i => i + 1) a, live := [1, 2], sets := fun i => [(4, sv (.int .i64 ((i : Int) + 1))), (3, sv (.int .u16 (maskS (usL s i))))], mids := [31], blks := fun i => [], owns := fun i => [], rd := fun r _ => r, base := 100000 }
  | _, _ => none
def VC_usedIn (s : GState) (k : Nat) : Prop := TN ∧ True ∧ True ∧ True ∧ ((0 ≤ 8) ∧ TT ∧ (RL [.s (.c (.ptr 31 0)), .s (.c (.d (.val (.int .u16 (0 : Int)))))]) ∧ (([.s (.c (.d (.val (.int .i64 (1 : Int))))), .s (.c (.d (.val (.int .u16 (0 : Int)))))] : List S) = [.s (.c (.d (.val (.int .i64 ((0 : Int) + 1 : Int))))), .s (.c (.d (.val (.int .u16 (maskS (usL s 0) : Int)))))]) ∧ (RM [some (.blk [.d (.arr .int s.vals), .d (.arr .int s.heap)])]) ∧ (RM []) ∧ True ∧ TT) ∧ (∀ i1 : Nat, (i1 ≤ 8) → True ∧ True ∧ (vcIf (decide (((i1 : Int) + 1 : Int) ≤ (8 : Int))) (True ∧ True ∧ ((stV s = true) ∧ True ∧ True) ∧ (vcIf (al s ((i1 : Int) + 1 : Int)) (True ∧ True ∧ (0 ≤ ((i1 : Int) + 1 : Int)) ∧ True ∧ True ∧ True ∧ (inK .i64 (((i1 : Int) + 1 : Int) + (1 : Int))) ∧ True ∧ ((i1 + 1) ≤ 8) ∧ (8 - (i1 + 1) < 8 - i1) ∧ TT ∧ (RL [.s (.c (.ptr 31 0)), .s (.c (.d (.val (.int .u16 (0 : Int)))))]) ∧ (([.s (.c (.d (.val (.int .i64 (((i1 : Int) + 1 : Int) + (1 : Int)))))), .s (.c (.d (.val (.int .u16 (bits .or .u16 (maskS (usL s i1) : Int) (IntKind.wrap .u16 ((1 : Int) * 2 ^ (min ((i1 : Int) + 1 : Int).toNat (IntKind.bits .u16)))))))))] : List S) = [.s (.c (.d (.val (.int .i64 (((i1 + 1) : Int) + 1 : Int))))), .s (.c (.d (.val (.int .u16 (maskS (usL s (i1 + 1)) : Int)))))]) ∧ (RM [some (.blk [.d (.arr .int s.vals), .d (.arr .int s.heap)])]) ∧ (RM []) ∧ True ∧ TT) (True ∧ (inK .i64 (((i1 : Int) + 1 : Int) + (1 : Int))) ∧ True ∧ ((i1 + 1) ≤ 8) ∧ (8 - (i1 + 1) < 8 - i1) ∧ TT ∧ (RL [.s (.c (.ptr 31 0)), .s (.c (.d (.val (.int .u16 (0 : Int)))))]) ∧ (([.s (.c (.d (.val (.int .i64 (((i1 : Int) + 1 : Int) + (1 : Int)))))), .s (.c (.d (.val (.int .u16 (maskS (usL s i1) : Int)))))] : List S) = [.s (.c (.d (.val (.int .i64 (((i1 + 1) : Int) + 1 : Int))))), .s (.c (.d (.val (.int .u16 (maskS (usL s (i1 + 1)) : Int)))))]) ∧ (RM [some (.blk [.d (.arr .int s.vals), .d (.arr .int s.heap)])]) ∧ (RM []) ∧ True ∧ TT))) (True ∧ True ∧ ((((maskS (usL s i1) : Int), ()) : Int × Unit) = (maskS (usL s 8), ())) ∧ True ∧ True ∧ True ∧ True ∧ TF)))
theorem vcn_usedIn (s : GState) (k : Nat) (hp : stV s = true) : VC_usedIn s k := by
  unfold VC_usedIn
  simp only [cln, Nat.reduceEqDiff, Nat.reduceLeDiff, Nat.reduceAdd]
  all_goals (try simp only [opn])
  all_goals (repeat' (first | apply And.intro | intro _))
  all_goals (repeat (cases ‹_ ∧ _›))
  all_goals (first | omega | rfl | assumption | (simp_all; done) | skip)
  all_goals (first | exact us1 (by assumption) (by assumption) | exact us2 (by assumption) (by assumption) | exact us3 (by assumption) (by assumption) | skip)
theorem vce_usedIn (s : GState) (k : Nat) : VC_usedIn s k = vcQ tab (lookF L_usedIn) (lookP P_usedIn) (fun _ => false) (fun _ => none) (an_usedIn s) (fun _ => []) (bodyOf Try.f91) (entry (encs c_usedIn.aks (s, ())) (rdOf false k)) (retOk tab c_usedIn Try.f91.results.toList (s, ()) k) := by kernel_rfl
theorem ok_usedIn : FnOk Try.prog E 91 c_usedIn :=
  fn_okQ (l := L_usedIn) (lp := P_usedIn) (hp := fun _ => false) (gcs := fun _ => none) (perm := fun _ => []) tabOk mix ⟨ok_allocated, trivial⟩ trivial Try.func91 rfl (by kernel_rfl) (by decide) (by kernel_rfl) (anns := fun x _ => an_usedIn x.1) (fun ⟨s, _⟩ k hp _ => (vce_usedIn s k).mp (vcn_usedIn s k hp)) tot_fn
end Go.Proofs.Ytejcmcbpfnmlaaa

namespace Go.Proofs.Ytejcmcbpfnmlaaa
open Go.SE Go.RowKit
set_option linter.unusedSimpArgs false
set_option linter.unusedVariables false
set_option maxHeartbeats 1000000
set_option maxRecDepth 100000
/-! iHolds -/
abbrev c_iHolds : Con := ⟨[.state, .asn], [.bool], fun (s, a, _) => s.vals.length ≤ 281474976710656 ∧ s.heap.length ≤ 281474976710656 ∧ a.facts.length ≤ 281474976710656 ∧ a.atoms.length ≤ 281474976710656, .inl fun (s, a, _) => (HOL s a, ()), fun _ => 0⟩
abbrev L_iHolds : List (FuncId × Con) := [(90, c_partOf), (91, c_usedIn)]
abbrev P_iHolds : List (FuncId × PT) := []
def VC_iHolds (s : GState) (a : GAsn) (k : Nat) : Prop := TN ∧ TN ∧ True ∧ True ∧ True ∧ ((s.vals.length ≤ 281474976710656 ∧ s.heap.length ≤ 281474976710656 ∧ a.facts.length ≤ 281474976710656 ∧ a.atoms.length ≤ 281474976710656) ∧ True ∧ True) ∧ True ∧ True ∧ True ∧ True ∧ True ∧ True ∧ True ∧ (vcIf (poB s a) (True ∧ True ∧ ((stV s = true) ∧ True ∧ True) ∧ True ∧ True ∧ True ∧ ((((maskS (poL s a)) == (maskS (usL s 8)), ()) : Bool × Unit) = (HOL s a, ())) ∧ True ∧ True ∧ True ∧ True ∧ TF) (True ∧ True ∧ (((false, ()) : Bool × Unit) = (HOL s a, ())) ∧ True ∧ True ∧ True ∧ True ∧ TF))
theorem vcn_iHolds (s : GState) (a : GAsn) (k : Nat) (hp : s.vals.length ≤ 281474976710656 ∧ s.heap.length ≤ 281474976710656 ∧ a.facts.length ≤ 281474976710656 ∧ a.atoms.length ≤ 281474976710656) : VC_iHolds s a k := by
  unfold VC_iHolds
  simp only [cln, Nat.reduceEqDiff, Nat.reduceLeDiff, Nat.reduceAdd]
  all_goals (try simp only [opn])
  all_goals (repeat' (first | apply And.intro | intro _))
  all_goals (repeat (cases ‹_ ∧ _›))
  all_goals (first | omega | rfl | assumption | (simp_all; done) | skip)
  all_goals (first | exact (po_v (by assumption)).1 | exact hol_mask (by assumption) | exact (hol_poF (by assumption)).symm | skip)
theorem vce_iHolds (s : GState) (a : GAsn) (k : Nat) : VC_iHolds s a k = vcQ tab (lookF L_iHolds) (lookP P_iHolds) (fun _ => false) (fun _ => none) (fun _ _ => none) (fun _ => []) (bodyOf Try.f33) (entry (encs c_iHolds.aks (s, a, ())) (rdOf false k)) (retOk tab c_iHolds Try.f33.results.toList (s, a, ()) k) := by kernel_rfl
theorem ok_iHolds : FnOk Try.prog E 33 c_iHolds :=
  fn_okQ (l := L_iHolds) (lp := P_iHolds) (hp := fun _ => false) (gcs := fun _ => none) (perm := fun _ => []) tabOk mix ⟨ok_partOf, ok_usedIn, trivial⟩ trivial Try.func33 rfl (by kernel_rfl) (by decide) (by kernel_rfl) (anns := fun x _ => fun _ _ => none) (fun ⟨s, a, _⟩ k hp _ => (vce_iHolds s a k).mp (vcn_iHolds s a k hp)) tot_fn
end Go.Proofs.Ytejcmcbpfnmlaaa

namespace Go.Proofs.Ytejcmcbpfnmlaaa
open Go.SE Go.RowKit
set_option linter.unusedSimpArgs false
set_option linter.unusedVariables false
set_option maxHeartbeats 1000000
set_option maxRecDepth 100000
/-! iValueOf -/
abbrev c_iValueOf : Con := ⟨[.state, .int], [.int, .bool], fun (s, t, _) => s.vals.length ≤ 281474976710656 ∧ s.heap.length ≤ 281474976710656, .inl fun (s, t, _) => (cond (stV s && isT t) (tv s.vals t) 0, stV s && isT t, ()), fun _ => 0⟩
abbrev L_iValueOf : List (FuncId × Con) := [(35, c_iStateValid), (66, c_isTerm), (95, c_termValue)]
abbrev P_iValueOf : List (FuncId × PT) := []
def VC_iValueOf (s : GState) (t : Int) (k : Nat) : Prop := TN ∧ True ∧ True ∧ True ∧ ((s.vals.length ≤ 281474976710656 ∧ s.heap.length ≤ 281474976710656) ∧ True ∧ True) ∧ True ∧ True ∧ (vcIf (!(stV s)) (True ∧ True ∧ True ∧ ((((0 : Int), false, ()) : Int × Bool × Unit) = (cond (stV s && isT t) (tv s.vals t) 0, stV s && isT t, ())) ∧ True ∧ True ∧ True ∧ True ∧ TF) (True ∧ (True ∧ True ∧ True) ∧ True ∧ True ∧ (vcIf (!(isT t)) (True ∧ True ∧ ((((0 : Int), false, ()) : Int × Bool × Unit) = (cond (stV s && isT t) (tv s.vals t) 0, stV s && isT t, ())) ∧ True ∧ True ∧ True ∧ True ∧ TF) (True ∧ True ∧ True ∧ ((s.vals.length = 8 ∧ isT t = true) ∧ True ∧ True) ∧ True ∧ True ∧ ((((tv s.vals t), true, ()) : Int × Bool × Unit) = (cond (stV s && isT t) (tv s.vals t) 0, stV s && isT t, ())) ∧ True ∧ True ∧ True ∧ True ∧ TF))))
theorem vcn_iValueOf (s : GState) (t : Int) (k : Nat) (hp : s.vals.length ≤ 281474976710656 ∧ s.heap.length ≤ 281474976710656) : VC_iValueOf s t k := by
  unfold VC_iValueOf
  simp only [cln, Nat.reduceEqDiff, Nat.reduceLeDiff, Nat.reduceAdd]
  all_goals (try simp only [opn])
  all_goals (repeat' (first | apply And.intro | intro _))
  all_goals (repeat (cases ‹_ ∧ _›))
  all_goals (first | omega | assumption | exact (stV_all (by assumption)).1 | (simp_all; done) | skip)
theorem vce_iValueOf (s : GState) (t : Int) (k : Nat) : VC_iValueOf s t k = vcQ tab (lookF L_iValueOf) (lookP P_iValueOf) (fun _ => false) (fun _ => none) (fun _ _ => none) (fun _ => []) (bodyOf Try.f37) (entry (encs c_iValueOf.aks (s, t, ())) (rdOf false k)) (retOk tab c_iValueOf Try.f37.results.toList (s, t, ()) k) := by kernel_rfl
theorem ok_iValueOf : FnOk Try.prog E 37 c_iValueOf :=
  fn_okQ (l := L_iValueOf) (lp := P_iValueOf) (hp := fun _ => false) (gcs := fun _ => none) (perm := fun _ => []) tabOk mix ⟨ok_iStateValid, ok_isTerm, ok_termValue, trivial⟩ trivial Try.func37 rfl (by kernel_rfl) (by decide) (by kernel_rfl) (anns := fun x _ => fun _ _ => none) (fun ⟨s, t, _⟩ k hp _ => (vce_iValueOf s t k).mp (vcn_iValueOf s t k hp)) tot_fn
end Go.Proofs.Ytejcmcbpfnmlaaa

namespace Go.Proofs.Ytejcmcbpfnmlaaa
open Go.SE Go.RowKit
set_option linter.unusedSimpArgs false
set_option linter.unusedVariables false
set_option maxHeartbeats 1000000
set_option maxRecDepth 100000
/-! DrawImplies -/
abbrev c_DrawImplies : Con := ⟨[.sl .u8], [.asn, .fact], fun _ => True, .inr fun (code, _) r => r.1.facts.length ≤ 40 ∧ r.1.atoms.length ≤ 40, fun (code, _) => 27⟩
abbrev L_DrawImplies : List (FuncId × Con) := [(80, c_l3Mutate), (81, c_l3Draw), (82, c_pick), (83, c_num)]
abbrev P_DrawImplies : List (FuncId × PT) := []
def perm_DrawImplies : Nat → List (List Nat)
  | 4 => [[0, 1, 2, 3], [0, 2, 1, 3], [1, 0, 2, 3]]
  | _ => []
def VC_DrawImplies (code : List UInt8) (k : Nat) : Prop := (TN ∧ TN ∧ TN ∧ True) ∧ (TN ∧ True) ∧ (((7 : Nat) < 25) ∧ ((8 : Nat) < 25) ∧ ((4 : Nat) < 25) ∧ ((7 : Nat) ≠ 0)) ∧ ((none : Option Nat) = none) ∧ TT ∧ TT ∧ True ∧ True ∧ True ∧ (True ∧ (0 + 20 ≤ 1099511627776) ∧ TN ∧ TN ∧ True) ∧ (∀ r1 : GAsn × Unit, (asV r1.1 = true) → ((r1.1.facts.length ≤ 100000 ∧ r1.1.atoms.length ≤ 100000) ∧ (0 + 20 + 4 ≤ 1099511627776) ∧ TN ∧ TN ∧ True) ∧ (∀ r2 : GAsn × Unit, (r2.1.facts.length ≤ r1.1.facts.length + 14 ∧ r2.1.atoms.length ≤ r1.1.atoms.length + 7) → (TN ∧ TN ∧ TN ∧ True) ∧ (TF ∧ TF) ∧ True ∧ (True ∧ (0 + 20 + 4 + 1 ≤ 1099511627776) ∧ True) ∧ (∀ r3 : Int × Unit, (pickP (3 : Int) r3.1) → True ∧ True ∧ (TN ∧ True) ∧ ((0 < ([(1 : Int), (2 : Int), (3 : Int), (5 : Int), (7 : Int), (9 : Int)] : List Int).length ∧ ([(1 : Int), (2 : Int), (3 : Int), (5 : Int), (7 : Int), (9 : Int)] : List Int).length ≤ 1000) ∧ (0 + 20 + 4 + 1 + 1 ≤ 1099511627776) ∧ True) ∧ (∀ r4 : Int × Unit, (r4.1 ∈ ([(1 : Int), (2 : Int), (3 : Int), (5 : Int), (7 : Int), (9 : Int)] : List Int)) → True ∧ (TN ∧ True) ∧ ((0 < ([(0 : Int), (2 : Int), (1 : Int), (6 : Int), (3 : Int)] : List Int).length ∧ ([(0 : Int), (2 : Int), (1 : Int), (6 : Int), (3 : Int)] : List Int).length ≤ 1000) ∧ (0 + 20 + 4 + 1 + 1 + 1 ≤ 1099511627776) ∧ True) ∧ (∀ r5 : Int × Unit, (r5.1 ∈ ([(0 : Int), (2 : Int), (1 : Int), (6 : Int), (3 : Int)] : List Int)) → True ∧ (TN ∧ True) ∧ (TF ∧ TF) ∧ (True ∧ True ∧ (TF ∧ TF) ∧ (TF ∧ TF) ∧ (r2.1.facts.length ≤ 40 ∧ r2.1.atoms.length ≤ 40) ∧ ((((192 : Nat) ≠ 193) ∧ True) ∧ True ∧ True) ∧ ((TF ∧ TF) ∧ (TF ∧ TF) ∧ True) ∧ True ∧ (True ∧ True ∧ True) ∧ (0 + 20 + 4 + 1 + 1 + 1 ≤ 0 + 27)) ∧ (True ∧ (TF ∧ TF) ∧ True ∧ (TF ∧ TF) ∧ (r2.1.facts.length ≤ 40 ∧ r2.1.atoms.length ≤ 40) ∧ ((((192 : Nat) ≠ 193) ∧ True) ∧ True ∧ True) ∧ ((TF ∧ TF) ∧ (TF ∧ TF) ∧ True) ∧ True ∧ (True ∧ True ∧ True) ∧ (0 + 20 + 4 + 1 + 1 + 1 ≤ 0 + 27)) ∧ (True ∧ True ∧ (TF ∧ TF) ∧ (TF ∧ TF) ∧ (r2.1.facts.length ≤ 40 ∧ r2.1.atoms.length ≤ 40) ∧ ((((192 : Nat) ≠ 193) ∧ True) ∧ True ∧ True) ∧ ((TF ∧ TF) ∧ (TF ∧ TF) ∧ True) ∧ True ∧ (True ∧ True ∧ True) ∧ (0 + 20 + 4 + 1 + 1 + 1 ≤ 0 + 27)) ∧ True)))))
theorem vcn_DrawImplies (code : List UInt8) (k : Nat) : VC_DrawImplies code k := by
  unfold VC_DrawImplies
  simp only [cln, Nat.reduceEqDiff, Nat.reduceLeDiff, Nat.reduceAdd]
  all_goals (try simp only [opn])
  all_goals (repeat' (first | apply And.intro | intro _))
  all_goals (first | omega | ((simp only [upd]; (repeat' split) <;> rfl); done) | (rename_i h; simp only [upd] at h; (repeat' split at h) <;> (first | (injection h with h; subst h; rfl) | (cases h))) | (simp_all; done) | grind [asV, fsV, pickP])
theorem vce_DrawImplies (code : List UInt8) (k : Nat) : VC_DrawImplies code k = vcOpenQ tab (lookF L_DrawImplies) (lookP P_DrawImplies) (fun _ => false) (fun _ _ => none) (perm_DrawImplies) ([0, 2, 3], [32, 33, 47, 63]) 79 Try.f29.ntmps (bodyOf Try.f29) (entry (encs c_DrawImplies.aks (code, ())) none) (retOk tab c_DrawImplies Try.f29.results.toList (code, ()) 0) := by kernel_rfl
theorem ok_DrawImplies : FnOk Try.prog E 29 c_DrawImplies :=
  draw_fnQ (hp := fun _ => false) (perm := perm_DrawImplies) (gl := ([0, 2, 3], [32, 33, 47, 63])) tabOk mix (kall_of (l := L_DrawImplies) ⟨ok_l3Mutate, ok_l3Draw, ok_pick, ok_num, trivial⟩) (pall_of (l := P_DrawImplies) trivial) open_l18Open fn_l18Open Try.func29 rfl (by kernel_rfl) (by decide) (by kernel_rfl) rfl rfl (anns := fun x => fun _ _ => none) (fun ⟨code, _⟩ _ => (vce_DrawImplies code 0).mp (vcn_DrawImplies code 0)) (fun _ _ => ⟨((⟨[], []⟩ : GAsn), (⟨true, 0, 0⟩ : GFact), ()), ⟨Nat.zero_le _, Nat.zero_le _⟩⟩)
end Go.Proofs.Ytejcmcbpfnmlaaa

namespace Go.Proofs.Ytejcmcbpfnmlaaa
open Go.SE Go.RowKit
set_option linter.unusedSimpArgs false
set_option linter.unusedVariables false
set_option maxHeartbeats 1000000
set_option maxRecDepth 100000
/-! DrawAllocated -/
abbrev c_DrawAllocated : Con := ⟨[.sl .u8], [.asn, .int], fun _ => True, .inr fun (code, _) r => r.1.facts.length ≤ 40 ∧ r.1.atoms.length ≤ 40, fun _ => 0⟩
abbrev L_DrawAllocated : List (FuncId × Con) := [(29, c_DrawImplies)]
abbrev P_DrawAllocated : List (FuncId × PT) := []
def perm_DrawAllocated : Nat → List (List Nat)
  | 2 => [[0, 1, 2, 3, 4], [0, 1, 3, 2, 4], [0, 3, 1, 2, 4], [1, 0, 2, 3, 4], [1, 0, 3, 2, 4], [1, 2, 0, 3, 4]]
  | _ => []
def VC_DrawAllocated (code : List UInt8) (k : Nat) : Prop := (TN ∧ TN ∧ TN ∧ True) ∧ True ∧ True ∧ (True ∧ True ∧ TN ∧ TN ∧ True) ∧ (∀ r1 : GAsn × GFact × Unit, (r1.1.facts.length ≤ 40 ∧ r1.1.atoms.length ≤ 40) → True ∧ True ∧ True ∧ (TN ∧ TN ∧ TN ∧ True) ∧ (TN ∧ True) ∧ (TF ∧ TF) ∧ (TF ∧ TF) ∧ (True ∧ True ∧ True ∧ (TF ∧ TF) ∧ True ∧ (r1.1.facts.length ≤ 40 ∧ r1.1.atoms.length ≤ 40) ∧ ((((128 : Nat) ≠ 129) ∧ True) ∧ True ∧ True) ∧ ((TF ∧ TF) ∧ (TF ∧ TF) ∧ True) ∧ True ∧ (True ∧ True ∧ True) ∧ TF) ∧ (True ∧ True ∧ (TF ∧ TF) ∧ True ∧ True ∧ (r1.1.facts.length ≤ 40 ∧ r1.1.atoms.length ≤ 40) ∧ ((((128 : Nat) ≠ 129) ∧ True) ∧ True ∧ True) ∧ ((TF ∧ TF) ∧ (TF ∧ TF) ∧ True) ∧ True ∧ (True ∧ True ∧ True) ∧ TF) ∧ (True ∧ (TF ∧ TF) ∧ True ∧ True ∧ True ∧ (r1.1.facts.length ≤ 40 ∧ r1.1.atoms.length ≤ 40) ∧ ((((128 : Nat) ≠ 129) ∧ True) ∧ True ∧ True) ∧ ((TF ∧ TF) ∧ (TF ∧ TF) ∧ True) ∧ True ∧ (True ∧ True ∧ True) ∧ TF) ∧ (True ∧ True ∧ True ∧ (TF ∧ TF) ∧ True ∧ (r1.1.facts.length ≤ 40 ∧ r1.1.atoms.length ≤ 40) ∧ ((((128 : Nat) ≠ 129) ∧ True) ∧ True ∧ True) ∧ ((TF ∧ TF) ∧ (TF ∧ TF) ∧ True) ∧ True ∧ (True ∧ True ∧ True) ∧ TF) ∧ (True ∧ True ∧ (TF ∧ TF) ∧ True ∧ True ∧ (r1.1.facts.length ≤ 40 ∧ r1.1.atoms.length ≤ 40) ∧ ((((128 : Nat) ≠ 129) ∧ True) ∧ True ∧ True) ∧ ((TF ∧ TF) ∧ (TF ∧ TF) ∧ True) ∧ True ∧ (True ∧ True ∧ True) ∧ TF) ∧ (True ∧ True ∧ True ∧ (TF ∧ TF) ∧ True ∧ (r1.1.facts.length ≤ 40 ∧ r1.1.atoms.length ≤ 40) ∧ ((((128 : Nat) ≠ 129) ∧ True) ∧ True ∧ True) ∧ ((TF ∧ TF) ∧ (TF ∧ TF) ∧ True) ∧ True ∧ (True ∧ True ∧ True) ∧ TF) ∧ True)
theorem vcn_DrawAllocated (code : List UInt8) (k : Nat) : VC_DrawAllocated code k := by
  unfold VC_DrawAllocated
  simp only [cln, Nat.reduceEqDiff, Nat.reduceLeDiff, Nat.reduceAdd]
  all_goals (try simp only [opn])
  all_goals (repeat' (first | apply And.intro | intro _))
  all_goals (repeat (cases ‹_ ∧ _›))
  all_goals (first | omega | rfl | assumption | (simp_all; done) | skip)
theorem vce_DrawAllocated (code : List UInt8) (k : Nat) : VC_DrawAllocated code k = vcQ tab (lookF L_DrawAllocated) (lookP P_DrawAllocated) (fun _ => false) (fun _ => none) (fun _ _ => none) (perm_DrawAllocated) (bodyOf Try.f44) (entry (encs c_DrawAllocated.aks (code, ())) (rdOf false k)) (retOk tab c_DrawAllocated Try.f44.results.toList (code, ()) k) := by kernel_rfl
theorem ok_DrawAllocated : FnOk Try.prog E 44 c_DrawAllocated :=
  fn_okQ (l := L_DrawAllocated) (lp := P_DrawAllocated) (hp := fun _ => false) (gcs := fun _ => none) (perm := perm_DrawAllocated) tabOk mix ⟨ok_DrawImplies, trivial⟩ trivial Try.func44 rfl (by kernel_rfl) (by decide) (by kernel_rfl) (anns := fun x _ => fun _ _ => none) (fun ⟨code, _⟩ k _ _ => (vce_DrawAllocated code k).mp (vcn_DrawAllocated code k)) (fun _ _ => ⟨((⟨[], []⟩ : GAsn), (0 : Int), ()), ⟨Nat.zero_le _, Nat.zero_le _⟩⟩)
end Go.Proofs.Ytejcmcbpfnmlaaa

namespace Go.Proofs.Ytejcmcbpfnmlaaa
open Go.SE Go.RowKit
set_option linter.unusedSimpArgs false
set_option linter.unusedVariables false
set_option maxHeartbeats 1000000
set_option maxRecDepth 100000
/-! tsWith -/
abbrev c_tsWith : Con := ⟨[.u16, .int], [.u16], fun (s, t, _) => 0 ≤ s ∧ s < 512, .inl fun (s, t, _) => (tsWith s t, ()), fun _ => 0⟩
abbrev L_tsWith : List (FuncId × Con) := [(66, c_isTerm)]
abbrev P_tsWith : List (FuncId × PT) := []
def VC_tsWith (s : Int) (t : Int) (k : Nat) : Prop := True ∧ True ∧ (True ∧ True ∧ True) ∧ True ∧ (vcIf (!(isT t)) (True ∧ True ∧ (((s, ()) : Int × Unit) = (tsWith s t, ())) ∧ True ∧ True ∧ True ∧ True ∧ TF) (True ∧ True ∧ (0 ≤ t) ∧ True ∧ True ∧ (((bits .or .u16 s (IntKind.wrap .u16 ((1 : Int) * 2 ^ (min t.toNat (IntKind.bits .u16)))), ()) : Int × Unit) = (tsWith s t, ())) ∧ True ∧ True ∧ True ∧ True ∧ TF))
theorem vcn_tsWith (s : Int) (t : Int) (k : Nat) (hp : 0 ≤ s ∧ s < 512) : VC_tsWith s t k := by
  unfold VC_tsWith
  simp only [cln, Nat.reduceEqDiff, Nat.reduceLeDiff, Nat.reduceAdd]
  simp only [vcIf_iff]
  exact ⟨fun h => (tsWith_no (by simpa using h)).symm, fun h => ⟨(isT_iff.1 (by simpa using h)).1, tsWith_eq hp.1 hp.2 (by simpa using h)⟩⟩
theorem vce_tsWith (s : Int) (t : Int) (k : Nat) : VC_tsWith s t k = vcQ tab (lookF L_tsWith) (lookP P_tsWith) (fun _ => false) (fun _ => none) (fun _ _ => none) (fun _ => []) (bodyOf Try.f68) (entry (encs c_tsWith.aks (s, t, ())) (rdOf false k)) (retOk tab c_tsWith Try.f68.results.toList (s, t, ()) k) := by kernel_rfl
theorem ok_tsWith : FnOk Try.prog E 68 c_tsWith :=
  fn_okQ (l := L_tsWith) (lp := P_tsWith) (hp := fun _ => false) (gcs := fun _ => none) (perm := fun _ => []) tabOk mix ⟨ok_isTerm, trivial⟩ trivial Try.func68 rfl (by kernel_rfl) (by decide) (by kernel_rfl) (anns := fun x _ => fun _ _ => none) (fun ⟨s, t, _⟩ k hp _ => (vce_tsWith s t k).mp (vcn_tsWith s t k hp)) tot_fn
end Go.Proofs.Ytejcmcbpfnmlaaa

namespace Go.Proofs.Ytejcmcbpfnmlaaa
open Go.SE Go.RowKit
set_option linter.unusedSimpArgs false
set_option linter.unusedVariables false
set_option maxHeartbeats 1000000
set_option maxRecDepth 100000
/-! termsIn -/
abbrev c_termsIn : Con := ⟨[.asn], [.u16], fun (a, _) => a.facts.length ≤ 281474976710656 ∧ a.atoms.length ≤ 281474976710656, .inl fun (a, _) => (tsA a, ()), fun _ => 0⟩
abbrev L_termsIn : List (FuncId × Con) := [(68, c_tsWith)]
abbrev P_termsIn : List (FuncId × PT) := []
def an_termsIn (a : GAsn) : Nat → St → Option Ann
  | 3, se => some { α := Nat, ok := fun i => i ≤ a.facts.length, mu := fun i => a.facts.length - i, i0 := fun _ => 0, nx := fun a _ => (fun i => i + 1) a, live := [1, 2, 9, 10], sets := fun i => [(11, sv (.int .i64 i)), (3, sv (.int .u16 (tsF (a.facts.take i))))], mids := [31], blks := fun i => [], owns := fun i => [], rd := fun r _ => r, base := 100000 }
  | 8, se => some { α := Nat, ok := fun i => i ≤ a.atoms.length, mu := fun i => a.atoms.length - i, i0 := fun _ => 0, nx := fun a _ => (fun i => i + 1) a, live := [2, 24, 25], sets := fun i => [(26, sv (.int .i64 i)), (3, sv (.int .u16 (tsG (tsF a.facts) (a.atoms.take i))))], mids := [], blks := fun i => [], owns := fun i => [], rd := fun r _ => r, base := 200000 }
  | _, _ => none
def VC_termsIn_1 (a : GAsn) (k : Nat) (i1 : Nat) : Prop := (True ∧ (vcIf (decide (((i1 : Nat) : Int) < ((a.facts.length : Nat) : Int))) ((0 ≤ ((i1 : Nat) : Int) ∧ ((i1 : Nat) : Int) < ((a.facts.length : Nat) : Int)) ∧ True ∧ (TN ∧ True) ∧ (TF ∧ TF) ∧ True ∧ True ∧ True ∧ ((0 ≤ (tsF (a.facts.take i1) : Int) ∧ (tsF (a.facts.take i1) : Int) < 512) ∧ True ∧ True) ∧ True ∧ True ∧ ((0 ≤ (tsWith (tsF (a.facts.take i1) : Int) ((a.facts.getD i1 (⟨false, 0, 0⟩ : GFact)).a)) ∧ (tsWith (tsF (a.facts.take i1) : Int) ((a.facts.getD i1 (⟨false, 0, 0⟩ : GFact)).a)) < 512) ∧ True ∧ True) ∧ True ∧ (inK .i64 (((i1 : Nat) : Int) + (1 : Int))) ∧ True ∧ ((i1 + 1) ≤ a.facts.length) ∧ (a.facts.length - (i1 + 1) < a.facts.length - i1) ∧ TT ∧ (RL [.s (.c (.ptr 31 0)), .s (.c (.d (.val (.int .u16 (0 : Int))))), .s (.c (.d (.arr .fact a.facts))), .s (.c (.d (.val (.int .i64 ((a.facts.length : Nat) : Int)))))]) ∧ (([.s (.c (.d (.val (.int .i64 (((i1 : Nat) : Int) + (1 : Int)))))), .s (.c (.d (.val (.int .u16 (tsWith (tsWith (tsF (a.facts.take i1) : Int) ((a.facts.getD i1 (⟨false, 0, 0⟩ : GFact)).a)) ((a.facts.getD i1 (⟨false, 0, 0⟩ : GFact)).b))))))] : List S) = [.s (.c (.d (.val (.int .i64 (((i1 + 1) : Nat) : Int))))), .s (.c (.d (.val (.int .u16 (tsF (a.facts.take (i1 + 1)) : Int)))))]) ∧ (RM [some (.blk [.d (.arr .fact a.facts), .d (.arr .atom a.atoms)])]) ∧ (RM []) ∧ True ∧ TT) (True ∧ True ∧ True ∧ True ∧ ((0 ≤ a.atoms.length) ∧ TT ∧ (RL [.s (.c (.d (.val (.int .u16 (0 : Int))))), .s (.c (.d (.arr .atom a.atoms))), .s (.c (.d (.val (.int .i64 ((a.atoms.length : Nat) : Int)))))]) ∧ (([.s (.c (.d (.val (.int .i64 (0 : Int))))), .s (.c (.d (.val (.int .u16 (tsF (a.facts.take i1) : Int)))))] : List S) = [.s (.c (.d (.val (.int .i64 ((0 : Nat) : Int))))), .s (.c (.d (.val (.int .u16 (tsG (tsF a.facts) (a.atoms.take 0) : Int)))))]) ∧ (RM []) ∧ (RM []) ∧ True ∧ TT) ∧ (∀ i2 : Nat, (i2 ≤ a.atoms.length) → True ∧ (vcIf (decide (((i2 : Nat) : Int) < ((a.atoms.length : Nat) : Int))) ((0 ≤ ((i2 : Nat) : Int) ∧ ((i2 : Nat) : Int) < ((a.atoms.length : Nat) : Int)) ∧ True ∧ (TN ∧ True) ∧ (TF ∧ TF) ∧ True ∧ True ∧ True ∧ ((0 ≤ (tsG (tsF a.facts) (a.atoms.take i2) : Int) ∧ (tsG (tsF a.facts) (a.atoms.take i2) : Int) < 512) ∧ True ∧ True) ∧ True ∧ True ∧ ((0 ≤ (tsWith (tsG (tsF a.facts) (a.atoms.take i2) : Int) ((a.atoms.getD i2 (⟨0, 0, 0⟩ : GAtom)).a)) ∧ (tsWith (tsG (tsF a.facts) (a.atoms.take i2) : Int) ((a.atoms.getD i2 (⟨0, 0, 0⟩ : GAtom)).a)) < 512) ∧ True ∧ True) ∧ True ∧ (inK .i64 (((i2 : Nat) : Int) + (1 : Int))) ∧ True ∧ ((i2 + 1) ≤ a.atoms.length) ∧ (a.atoms.length - (i2 + 1) < a.atoms.length - i2) ∧ TT ∧ (RL [.s (.c (.d (.val (.int .u16 (0 : Int))))), .s (.c (.d (.arr .atom a.atoms))), .s (.c (.d (.val (.int .i64 ((a.atoms.length : Nat) : Int)))))]) ∧ (([.s (.c (.d (.val (.int .i64 (((i2 : Nat) : Int) + (1 : Int)))))), .s (.c (.d (.val (.int .u16 (tsWith (tsWith (tsG (tsF a.facts) (a.atoms.take i2) : Int) ((a.atoms.getD i2 (⟨0, 0, 0⟩ : GAtom)).a)) ((a.atoms.getD i2 (⟨0, 0, 0⟩ : GAtom)).b))))))] : List S) = [.s (.c (.d (.val (.int .i64 (((i2 + 1) : Nat) : Int))))), .s (.c (.d (.val (.int .u16 (tsG (tsF a.facts) (a.atoms.take (i2 + 1)) : Int)))))]) ∧ (RM []) ∧ (RM []) ∧ True ∧ TT) (True ∧ True ∧ ((((tsG (tsF a.facts) (a.atoms.take i2) : Int), ()) : Int × Unit) = (tsA a, ())) ∧ True ∧ True ∧ True ∧ True ∧ TF))))))
def VC_termsIn (a : GAsn) (k : Nat) : Prop := TN ∧ True ∧ True ∧ True ∧ True ∧ True ∧ True ∧ ((0 ≤ a.facts.length) ∧ TT ∧ (RL [.s (.c (.ptr 31 0)), .s (.c (.d (.val (.int .u16 (0 : Int))))), .s (.c (.d (.arr .fact a.facts))), .s (.c (.d (.val (.int .i64 ((a.facts.length : Nat) : Int)))))]) ∧ (([.s (.c (.d (.val (.int .i64 (0 : Int))))), .s (.c (.d (.val (.int .u16 (0 : Int)))))] : List S) = [.s (.c (.d (.val (.int .i64 ((0 : Nat) : Int))))), .s (.c (.d (.val (.int .u16 (tsF (a.facts.take 0) : Int)))))]) ∧ (RM [some (.blk [.d (.arr .fact a.facts), .d (.arr .atom a.atoms)])]) ∧ (RM []) ∧ True ∧ TT) ∧ (∀ i1 : Nat, (i1 ≤ a.facts.length) → (VC_termsIn_1 a k i1))
theorem vcn_termsIn (a : GAsn) (k : Nat) (hp : a.facts.length ≤ 281474976710656 ∧ a.atoms.length ≤ 281474976710656) : VC_termsIn a k := by
  unfold VC_termsIn VC_termsIn_1
  simp only [cln, Nat.reduceEqDiff, Nat.reduceLeDiff, Nat.reduceAdd]
  have hF := tsF_bd
  have hW1 : ∀ s t, 0 ≤ s → s < 512 → 0 ≤ tsWith s t := fun _ _ h0 h1 => (tsWith_bd h0 h1).1
  have hW2 : ∀ s t, 0 ≤ s → s < 512 → tsWith s t < 512 := fun _ _ h0 h1 => (tsWith_bd h0 h1).2
  have hF0 : tsF [] = 0 := rfl
  have hG0 : ∀ z, tsG z [] = z := fun _ => rfl
  have hG := fun l => tsG_bd l _ (tsF_bd a.facts)
  all_goals (try simp only [opn])
  all_goals (repeat' (first | apply And.intro | intro _))
  all_goals (first | omega | (simp_all; done) | grind [tsF_step, tsG_step, tsA, take_full, Ty.zero])
theorem vce_termsIn (a : GAsn) (k : Nat) : VC_termsIn a k = vcQ tab (lookF L_termsIn) (lookP P_termsIn) (fun _ => false) (fun _ => none) (an_termsIn a) (fun _ => []) (bodyOf Try.f76) (entry (encs c_termsIn.aks (a, ())) (rdOf false k)) (retOk tab c_termsIn Try.f76.results.toList (a, ()) k) := by kernel_rfl
theorem ok_termsIn : FnOk Try.prog E 76 c_termsIn :=
  fn_okQ (l := L_termsIn) (lp := P_termsIn) (hp := fun _ => false) (gcs := fun _ => none) (perm := fun _ => []) tabOk mix ⟨ok_tsWith, trivial⟩ trivial Try.func76 rfl (by kernel_rfl) (by decide) (by kernel_rfl) (anns := fun x _ => an_termsIn x.1) (fun ⟨a, _⟩ k hp _ => (vce_termsIn a k).mp (vcn_termsIn a k hp)) tot_fn
end Go.Proofs.Ytejcmcbpfnmlaaa

namespace Go.Proofs.Ytejcmcbpfnmlaaa
open Go.SE Go.RowKit
set_option linter.unusedSimpArgs false
set_option linter.unusedVariables false
set_option maxHeartbeats 1000000
set_option maxRecDepth 100000
/-! tsHas -/
abbrev c_tsHas : Con := ⟨[.u16, .int], [.bool], fun (s, t, _) => 0 ≤ s ∧ s < 512, .inl fun (s, t, _) => (tsHas s t, ()), fun _ => 0⟩
abbrev L_tsHas : List (FuncId × Con) := [(66, c_isTerm)]
abbrev P_tsHas : List (FuncId × PT) := []
def VC_tsHas (s : Int) (t : Int) (k : Nat) : Prop := True ∧ True ∧ (True ∧ True ∧ True) ∧ True ∧ (vcIf (isT t) (True ∧ True ∧ (0 ≤ t) ∧ True ∧ True ∧ True ∧ True ∧ ((((bits .and .u16 (Int.fdiv s (2 ^ (min t.toNat (IntKind.bits .u16)))) (1 : Int)) == (1 : Int), ()) : Bool × Unit) = (tsHas s t, ())) ∧ True ∧ True ∧ True ∧ True ∧ TF) (True ∧ True ∧ (((false, ()) : Bool × Unit) = (tsHas s t, ())) ∧ True ∧ True ∧ True ∧ True ∧ TF))
theorem vcn_tsHas (s : Int) (t : Int) (k : Nat) (hp : 0 ≤ s ∧ s < 512) : VC_tsHas s t k := by
  unfold VC_tsHas
  simp only [cln, Nat.reduceEqDiff, Nat.reduceLeDiff, Nat.reduceAdd]
  simp only [vcIf_iff]
  exact ⟨fun h => ⟨(isT_iff.1 h).1, tsHas_eq hp.1 hp.2 h⟩, fun h => by simp [tsHas, h]⟩
theorem vce_tsHas (s : Int) (t : Int) (k : Nat) : VC_tsHas s t k = vcQ tab (lookF L_tsHas) (lookP P_tsHas) (fun _ => false) (fun _ => none) (fun _ _ => none) (fun _ => []) (bodyOf Try.f129) (entry (encs c_tsHas.aks (s, t, ())) (rdOf false k)) (retOk tab c_tsHas Try.f129.results.toList (s, t, ()) k) := by kernel_rfl
theorem ok_tsHas : FnOk Try.prog E 129 c_tsHas :=
  fn_okQ (l := L_tsHas) (lp := P_tsHas) (hp := fun _ => false) (gcs := fun _ => none) (perm := fun _ => []) tabOk mix ⟨ok_isTerm, trivial⟩ trivial Try.func129 rfl (by kernel_rfl) (by decide) (by kernel_rfl) (anns := fun x _ => fun _ _ => none) (fun ⟨s, t, _⟩ k hp _ => (vce_tsHas s t k).mp (vcn_tsHas s t k hp)) tot_fn
end Go.Proofs.Ytejcmcbpfnmlaaa

namespace Go.Proofs.Ytejcmcbpfnmlaaa
open Go.SE Go.RowKit
set_option linter.unusedSimpArgs false
set_option linter.unusedVariables false
set_option maxHeartbeats 1000000
set_option maxRecDepth 100000
/-! factHolds -/
abbrev c_factHolds : Con := ⟨[.pkase, .fact], [.bool], fun (c, f, _) => c.length = 9 ∧ fV f = true, .inl fun (c, f, _) => (fh c f, ()), fun _ => 0⟩
abbrev L_factHolds : List (FuncId × Con) := []
abbrev P_factHolds : List (FuncId × PT) := []
def VC_factHolds (c : List Int) (f : GFact) (k : Nat) : Prop := TN ∧ True ∧ True ∧ True ∧ True ∧ True ∧ (0 ≤ f.a ∧ f.a < ((9 : Nat) : Int) ∧ c.length = 9) ∧ True ∧ True ∧ True ∧ True ∧ True ∧ (0 ≤ f.b ∧ f.b < ((9 : Nat) : Int) ∧ c.length = 9) ∧ True ∧ True ∧ True ∧ True ∧ True ∧ True ∧ (((((c.getD f.a.toNat (0 : Int)) == (c.getD f.b.toNat (0 : Int))) == f.eq, ()) : Bool × Unit) = (fh c f, ())) ∧ True ∧ True ∧ True ∧ True ∧ TF
theorem vcn_factHolds (c : List Int) (f : GFact) (k : Nat) (hp : c.length = 9 ∧ fV f = true) : VC_factHolds c f k := by
  unfold VC_factHolds
  simp only [cln, Nat.reduceEqDiff, Nat.reduceLeDiff, Nat.reduceAdd]
  have h1 := fV_isT hp.2
  have h2 := isT_iff.1 h1.1
  have h3 := isT_iff.1 h1.2
  all_goals (try simp only [opn])
  all_goals (repeat' (first | apply And.intro | intro _))
  all_goals (first | omega | (simp_all; done) | grind [fh, cl])
theorem vce_factHolds (c : List Int) (f : GFact) (k : Nat) : VC_factHolds c f k = vcQ tab (lookF L_factHolds) (lookP P_factHolds) (fun _ => false) (fun _ => none) (fun _ _ => none) (fun _ => []) (bodyOf Try.f69) (entry (encs c_factHolds.aks (c, f, ())) (rdOf false k)) (retOk tab c_factHolds Try.f69.results.toList (c, f, ()) k) := by kernel_rfl
theorem ok_factHolds : FnOk Try.prog E 69 c_factHolds :=
  fn_okQ (l := L_factHolds) (lp := P_factHolds) (hp := fun _ => false) (gcs := fun _ => none) (perm := fun _ => []) tabOk mix trivial trivial Try.func69 rfl (by kernel_rfl) (by decide) (by kernel_rfl) (anns := fun x _ => fun _ _ => none) (fun ⟨c, f, _⟩ k hp _ => (vce_factHolds c f k).mp (vcn_factHolds c f k hp)) tot_fn
end Go.Proofs.Ytejcmcbpfnmlaaa

namespace Go.Proofs.Ytejcmcbpfnmlaaa
open Go.SE Go.RowKit
set_option linter.unusedSimpArgs false
set_option linter.unusedVariables false
set_option maxHeartbeats 1000000
set_option maxRecDepth 100000
/-! isFilled -/
abbrev c_isFilled : Con := ⟨[.pkase, .atom], [.bool], fun (c, x, _) => c.length = 9 ∧ atV x = true, .inl fun (c, x, _) => (filB c x, ()), fun _ => 0⟩
abbrev L_isFilled : List (FuncId × Con) := []
abbrev P_isFilled : List (FuncId × PT) := []
def VC_isFilled (c : List Int) (x : GAtom) (k : Nat) : Prop := TN ∧ True ∧ True ∧ True ∧ True ∧ True ∧ (vcIf (x.kind == (1 : Int)) (True ∧ True ∧ (((true, ()) : Bool × Unit) = (filB c x, ())) ∧ True ∧ True ∧ True ∧ True ∧ TF) (True ∧ True ∧ True ∧ True ∧ (0 ≤ x.a ∧ x.a < ((9 : Nat) : Int) ∧ c.length = 9) ∧ True ∧ True ∧ True ∧ True ∧ True ∧ (0 ≤ x.b ∧ x.b < ((9 : Nat) : Int) ∧ c.length = 9) ∧ True ∧ True ∧ True ∧ True ∧ ((((c.getD x.a.toNat (0 : Int)) != (c.getD x.b.toNat (0 : Int)), ()) : Bool × Unit) = (filB c x, ())) ∧ True ∧ True ∧ True ∧ True ∧ TF))
theorem vcn_isFilled (c : List Int) (x : GAtom) (k : Nat) (hp : c.length = 9 ∧ atV x = true) : VC_isFilled c x k := by
  unfold VC_isFilled
  simp only [cln, Nat.reduceEqDiff, Nat.reduceLeDiff, Nat.reduceAdd]
  have h1 := atV_isT hp.2
  have h2 := isT_iff.1 h1.1
  have h3 := isT_iff.1 h1.2
  all_goals (try simp only [opn])
  all_goals (repeat' (first | apply And.intro | intro _))
  all_goals (first | omega | (simp_all; done) | grind [filB, cl])
theorem vce_isFilled (c : List Int) (x : GAtom) (k : Nat) : VC_isFilled c x k = vcQ tab (lookF L_isFilled) (lookP P_isFilled) (fun _ => false) (fun _ => none) (fun _ _ => none) (fun _ => []) (bodyOf Try.f148) (entry (encs c_isFilled.aks (c, x, ())) (rdOf false k)) (retOk tab c_isFilled Try.f148.results.toList (c, x, ()) k) := by kernel_rfl
theorem ok_isFilled : FnOk Try.prog E 148 c_isFilled :=
  fn_okQ (l := L_isFilled) (lp := P_isFilled) (hp := fun _ => false) (gcs := fun _ => none) (perm := fun _ => []) tabOk mix trivial trivial Try.func148 rfl (by kernel_rfl) (by decide) (by kernel_rfl) (anns := fun x _ => fun _ _ => none) (fun ⟨c, x, _⟩ k hp _ => (vce_isFilled c x k).mp (vcn_isFilled c x k hp)) tot_fn
end Go.Proofs.Ytejcmcbpfnmlaaa

namespace Go.Proofs.Ytejcmcbpfnmlaaa
open Go.SE Go.RowKit
set_option linter.unusedSimpArgs false
set_option linter.unusedVariables false
set_option maxHeartbeats 1000000
set_option maxRecDepth 100000
/-! possible -/
abbrev c_possible : Con := ⟨[.pkase, .asn, .int], [.bool], fun (c, a, last, _) => c.length = 9 ∧ asV a = true ∧ 0 ≤ last ∧ last ≤ 8, .inl fun (c, a, last, _) => (possI a c last, ()), fun _ => 0⟩
abbrev L_possible : List (FuncId × Con) := [(68, c_tsWith), (69, c_factHolds), (129, c_tsHas), (148, c_isFilled)]
abbrev P_possible : List (FuncId × PT) := []
def an_possible (c : List Int) (a : GAsn) (last : Int) : Nat → St → Option Ann
  | 2, se => some { α := Nat, ok := fun i => i ≤ a.facts.length ∧ possF c last (a.facts.take i) = true, mu := fun i => a.facts.length - i, i0 := fun _ => 0, nx := fun a _ => (fun i => i + 1) a, live := [0, 2, 4, 13, 14], sets := fun i => [(15, sv (.int .i64 i))], mids := [79], blks := fun i => [], owns := fun i => [], rd := fun r _ => r, base := 100000 }
  | 9, se => some { α := Nat, ok := fun i => i ≤ a.atoms.length ∧ possF c last a.facts = true ∧ okS [] (sts c last (a.atoms.take i)) = true, mu := fun i => a.atoms.length - i, i0 := fun _ => 0, nx := fun a _ => (fun i => i + 1) a, live := [0, 2, 37, 38], sets := fun i => [(39, sv (.int .i64 i)), (9, sv (.int .u16 (maskS (sts c last (a.atoms.take i)))))], mids := [], blks := fun i => [], owns := fun i => [], rd := fun r _ => r, base := 200000 }
  | _, _ => none
def VC_possible_1 (c : List Int) (a : GAsn) (last : Int) (k : Nat) (i2 : Nat) : Prop := (True ∧ (vcIf (decide (last < ((a.atoms.getD i2 (⟨0, 0, 0⟩ : GAtom)).b))) (True ∧ (inK .i64 (((i2 : Nat) : Int) + (1 : Int))) ∧ True ∧ ((i2 + 1) ≤ a.atoms.length ∧ possF c last a.facts = true ∧ okS [] (sts c last (a.atoms.take (i2 + 1))) = true) ∧ (a.atoms.length - (i2 + 1) < a.atoms.length - i2) ∧ TT ∧ (RL [.s (.c (.rv .int c)), .s (.c (.d (.val (.int .i64 last)))), .s (.c (.d (.arr .atom a.atoms))), .s (.c (.d (.val (.int .i64 ((a.atoms.length : Nat) : Int)))))]) ∧ (([.s (.c (.d (.val (.int .i64 (((i2 : Nat) : Int) + (1 : Int)))))), .s (.c (.d (.val (.int .u16 (maskS (sts c last (a.atoms.take i2)) : Int)))))] : List S) = [.s (.c (.d (.val (.int .i64 (((i2 + 1) : Nat) : Int))))), .s (.c (.d (.val (.int .u16 (maskS (sts c last (a.atoms.take (i2 + 1))) : Int)))))]) ∧ (RM []) ∧ (RM []) ∧ True ∧ TT) (True ∧ True ∧ ((c.length = 9 ∧ atV (a.atoms.getD i2 (⟨0, 0, 0⟩ : GAtom)) = true) ∧ True ∧ True) ∧ True ∧ True ∧ (vcIf (!(filB c (a.atoms.getD i2 (⟨0, 0, 0⟩ : GAtom)))) ((inK .i64 (((i2 : Nat) : Int) + (1 : Int))) ∧ True ∧ ((i2 + 1) ≤ a.atoms.length ∧ possF c last a.facts = true ∧ okS [] (sts c last (a.atoms.take (i2 + 1))) = true) ∧ (a.atoms.length - (i2 + 1) < a.atoms.length - i2) ∧ TT ∧ (RL [.s (.c (.rv .int c)), .s (.c (.d (.val (.int .i64 last)))), .s (.c (.d (.arr .atom a.atoms))), .s (.c (.d (.val (.int .i64 ((a.atoms.length : Nat) : Int)))))]) ∧ (([.s (.c (.d (.val (.int .i64 (((i2 : Nat) : Int) + (1 : Int)))))), .s (.c (.d (.val (.int .u16 (maskS (sts c last (a.atoms.take i2)) : Int)))))] : List S) = [.s (.c (.d (.val (.int .i64 (((i2 + 1) : Nat) : Int))))), .s (.c (.d (.val (.int .u16 (maskS (sts c last (a.atoms.take (i2 + 1))) : Int)))))]) ∧ (RM []) ∧ (RM []) ∧ True ∧ TT) (True ∧ True ∧ True ∧ True ∧ (0 ≤ ((a.atoms.getD i2 (⟨0, 0, 0⟩ : GAtom)).a) ∧ ((a.atoms.getD i2 (⟨0, 0, 0⟩ : GAtom)).a) < ((9 : Nat) : Int) ∧ c.length = 9) ∧ True ∧ True ∧ True ∧ (vcIf ((c.getD ((a.atoms.getD i2 (⟨0, 0, 0⟩ : GAtom)).a).toNat (0 : Int)) == (0 : Int)) (True ∧ True ∧ (((false, ()) : Bool × Unit) = (possI a c last, ())) ∧ True ∧ True ∧ True ∧ True ∧ TF) (True ∧ True ∧ True ∧ True ∧ True ∧ (0 ≤ ((a.atoms.getD i2 (⟨0, 0, 0⟩ : GAtom)).a) ∧ ((a.atoms.getD i2 (⟨0, 0, 0⟩ : GAtom)).a) < ((9 : Nat) : Int) ∧ c.length = 9) ∧ True ∧ ((0 ≤ (maskS (sts c last (a.atoms.take i2)) : Int) ∧ (maskS (sts c last (a.atoms.take i2)) : Int) < 512) ∧ True ∧ True) ∧ True ∧ (vcIf (tsHas (maskS (sts c last (a.atoms.take i2)) : Int) (c.getD ((a.atoms.getD i2 (⟨0, 0, 0⟩ : GAtom)).a).toNat (0 : Int))) (True ∧ (((false, ()) : Bool × Unit) = (possI a c last, ())) ∧ True ∧ True ∧ True ∧ True ∧ TF) (True ∧ True ∧ True ∧ True ∧ True ∧ (0 ≤ ((a.atoms.getD i2 (⟨0, 0, 0⟩ : GAtom)).a) ∧ ((a.atoms.getD i2 (⟨0, 0, 0⟩ : GAtom)).a) < ((9 : Nat) : Int) ∧ c.length = 9) ∧ True ∧ ((0 ≤ (maskS (sts c last (a.atoms.take i2)) : Int) ∧ (maskS (sts c last (a.atoms.take i2)) : Int) < 512) ∧ True ∧ True) ∧ True ∧ (inK .i64 (((i2 : Nat) : Int) + (1 : Int))) ∧ True ∧ ((i2 + 1) ≤ a.atoms.length ∧ possF c last a.facts = true ∧ okS [] (sts c last (a.atoms.take (i2 + 1))) = true) ∧ (a.atoms.length - (i2 + 1) < a.atoms.length - i2) ∧ TT ∧ (RL [.s (.c (.rv .int c)), .s (.c (.d (.val (.int .i64 last)))), .s (.c (.d (.arr .atom a.atoms))), .s (.c (.d (.val (.int .i64 ((a.atoms.length : Nat) : Int)))))]) ∧ (([.s (.c (.d (.val (.int .i64 (((i2 : Nat) : Int) + (1 : Int)))))), .s (.c (.d (.val (.int .u16 (tsWith (maskS (sts c last (a.atoms.take i2)) : Int) (c.getD ((a.atoms.getD i2 (⟨0, 0, 0⟩ : GAtom)).a).toNat (0 : Int)))))))] : List S) = [.s (.c (.d (.val (.int .i64 (((i2 + 1) : Nat) : Int))))), .s (.c (.d (.val (.int .u16 (maskS (sts c last (a.atoms.take (i2 + 1))) : Int)))))]) ∧ (RM []) ∧ (RM []) ∧ True ∧ TT)))))))))
def VC_possible_2 (c : List Int) (a : GAsn) (last : Int) (k : Nat) (i1 : Nat) : Prop := (True ∧ (vcIf (decide (((i1 : Nat) : Int) < ((a.facts.length : Nat) : Int))) ((0 ≤ ((i1 : Nat) : Int) ∧ ((i1 : Nat) : Int) < ((a.facts.length : Nat) : Int)) ∧ True ∧ (TN ∧ True) ∧ (TF ∧ TF) ∧ True ∧ True ∧ True ∧ True ∧ True ∧ (vcIf (decide (((a.facts.getD i1 (⟨false, 0, 0⟩ : GFact)).a) ≤ last)) (True ∧ True ∧ True ∧ True ∧ True ∧ True ∧ (vcIf (decide (((a.facts.getD i1 (⟨false, 0, 0⟩ : GFact)).b) ≤ last)) (True ∧ True ∧ ((c.length = 9 ∧ fV (a.facts.getD i1 (⟨false, 0, 0⟩ : GFact)) = true) ∧ True ∧ True) ∧ True ∧ True ∧ (vcIf (!(fh c (a.facts.getD i1 (⟨false, 0, 0⟩ : GFact)))) (True ∧ (((false, ()) : Bool × Unit) = (possI a c last, ())) ∧ True ∧ True ∧ True ∧ True ∧ TF) ((inK .i64 (((i1 : Nat) : Int) + (1 : Int))) ∧ True ∧ ((i1 + 1) ≤ a.facts.length ∧ possF c last (a.facts.take (i1 + 1)) = true) ∧ (a.facts.length - (i1 + 1) < a.facts.length - i1) ∧ TT ∧ (RL [.s (.c (.rv .int c)), .s (.c (.d (.val (.int .i64 last)))), .s (.c (.ptr 79 0)), .s (.c (.d (.arr .fact a.facts))), .s (.c (.d (.val (.int .i64 ((a.facts.length : Nat) : Int)))))]) ∧ (([.s (.c (.d (.val (.int .i64 (((i1 : Nat) : Int) + (1 : Int))))))] : List S) = [.s (.c (.d (.val (.int .i64 (((i1 + 1) : Nat) : Int)))))]) ∧ (RM [some (.blk [.d (.arr .fact a.facts), .d (.arr .atom a.atoms)])]) ∧ (RM []) ∧ True ∧ TT))) (True ∧ (inK .i64 (((i1 : Nat) : Int) + (1 : Int))) ∧ True ∧ ((i1 + 1) ≤ a.facts.length ∧ possF c last (a.facts.take (i1 + 1)) = true) ∧ (a.facts.length - (i1 + 1) < a.facts.length - i1) ∧ TT ∧ (RL [.s (.c (.rv .int c)), .s (.c (.d (.val (.int .i64 last)))), .s (.c (.ptr 79 0)), .s (.c (.d (.arr .fact a.facts))), .s (.c (.d (.val (.int .i64 ((a.facts.length : Nat) : Int)))))]) ∧ (([.s (.c (.d (.val (.int .i64 (((i1 : Nat) : Int) + (1 : Int))))))] : List S) = [.s (.c (.d (.val (.int .i64 (((i1 + 1) : Nat) : Int)))))]) ∧ (RM [some (.blk [.d (.arr .fact a.facts), .d (.arr .atom a.atoms)])]) ∧ (RM []) ∧ True ∧ TT))) (True ∧ True ∧ True ∧ (inK .i64 (((i1 : Nat) : Int) + (1 : Int))) ∧ True ∧ ((i1 + 1) ≤ a.facts.length ∧ possF c last (a.facts.take (i1 + 1)) = true) ∧ (a.facts.length - (i1 + 1) < a.facts.length - i1) ∧ TT ∧ (RL [.s (.c (.rv .int c)), .s (.c (.d (.val (.int .i64 last)))), .s (.c (.ptr 79 0)), .s (.c (.d (.arr .fact a.facts))), .s (.c (.d (.val (.int .i64 ((a.facts.length : Nat) : Int)))))]) ∧ (([.s (.c (.d (.val (.int .i64 (((i1 : Nat) : Int) + (1 : Int))))))] : List S) = [.s (.c (.d (.val (.int .i64 (((i1 + 1) : Nat) : Int)))))]) ∧ (RM [some (.blk [.d (.arr .fact a.facts), .d (.arr .atom a.atoms)])]) ∧ (RM []) ∧ True ∧ TT))) (True ∧ True ∧ True ∧ True ∧ True ∧ ((0 ≤ a.atoms.length ∧ possF c last a.facts = true ∧ okS [] (sts c last (a.atoms.take 0)) = true) ∧ TT ∧ (RL [.s (.c (.rv .int c)), .s (.c (.d (.val (.int .i64 last)))), .s (.c (.d (.arr .atom a.atoms))), .s (.c (.d (.val (.int .i64 ((a.atoms.length : Nat) : Int)))))]) ∧ (([.s (.c (.d (.val (.int .i64 (0 : Int))))), .s (.c (.d (.val (.int .u16 (0 : Int)))))] : List S) = [.s (.c (.d (.val (.int .i64 ((0 : Nat) : Int))))), .s (.c (.d (.val (.int .u16 (maskS (sts c last (a.atoms.take 0)) : Int)))))]) ∧ (RM []) ∧ (RM []) ∧ True ∧ TT) ∧ (∀ i2 : Nat, (i2 ≤ a.atoms.length ∧ possF c last a.facts = true ∧ okS [] (sts c last (a.atoms.take i2)) = true) → True ∧ (vcIf (decide (((i2 : Nat) : Int) < ((a.atoms.length : Nat) : Int))) ((0 ≤ ((i2 : Nat) : Int) ∧ ((i2 : Nat) : Int) < ((a.atoms.length : Nat) : Int)) ∧ True ∧ (TN ∧ True) ∧ (TF ∧ TF) ∧ True ∧ True ∧ True ∧ True ∧ True ∧ (vcIf (decide (last < ((a.atoms.getD i2 (⟨0, 0, 0⟩ : GAtom)).a))) (True ∧ True ∧ True ∧ (inK .i64 (((i2 : Nat) : Int) + (1 : Int))) ∧ True ∧ ((i2 + 1) ≤ a.atoms.length ∧ possF c last a.facts = true ∧ okS [] (sts c last (a.atoms.take (i2 + 1))) = true) ∧ (a.atoms.length - (i2 + 1) < a.atoms.length - i2) ∧ TT ∧ (RL [.s (.c (.rv .int c)), .s (.c (.d (.val (.int .i64 last)))), .s (.c (.d (.arr .atom a.atoms))), .s (.c (.d (.val (.int .i64 ((a.atoms.length : Nat) : Int)))))]) ∧ (([.s (.c (.d (.val (.int .i64 (((i2 : Nat) : Int) + (1 : Int)))))), .s (.c (.d (.val (.int .u16 (maskS (sts c last (a.atoms.take i2)) : Int)))))] : List S) = [.s (.c (.d (.val (.int .i64 (((i2 + 1) : Nat) : Int))))), .s (.c (.d (.val (.int .u16 (maskS (sts c last (a.atoms.take (i2 + 1))) : Int)))))]) ∧ (RM []) ∧ (RM []) ∧ True ∧ TT) (True ∧ True ∧ True ∧ True ∧ True ∧ (VC_possible_1 c a last k i2)))) (True ∧ (((true, ()) : Bool × Unit) = (possI a c last, ())) ∧ True ∧ True ∧ True ∧ True ∧ TF))))))
def VC_possible (c : List Int) (a : GAsn) (last : Int) (k : Nat) : Prop := TN ∧ True ∧ True ∧ True ∧ True ∧ True ∧ ((0 ≤ a.facts.length ∧ possF c last (a.facts.take 0) = true) ∧ TT ∧ (RL [.s (.c (.rv .int c)), .s (.c (.d (.val (.int .i64 last)))), .s (.c (.ptr 79 0)), .s (.c (.d (.arr .fact a.facts))), .s (.c (.d (.val (.int .i64 ((a.facts.length : Nat) : Int)))))]) ∧ (([.s (.c (.d (.val (.int .i64 (0 : Int)))))] : List S) = [.s (.c (.d (.val (.int .i64 ((0 : Nat) : Int)))))]) ∧ (RM [some (.blk [.d (.arr .fact a.facts), .d (.arr .atom a.atoms)])]) ∧ (RM []) ∧ True ∧ TT) ∧ (∀ i1 : Nat, (i1 ≤ a.facts.length ∧ possF c last (a.facts.take i1) = true) → (VC_possible_2 c a last k i1))
theorem vcn_possible (c : List Int) (a : GAsn) (last : Int) (k : Nat) (hp : c.length = 9 ∧ asV a = true ∧ 0 ≤ last ∧ last ≤ 8) : VC_possible c a last k := by
  unfold VC_possible VC_possible_2 VC_possible_1
  simp only [cln, Nat.reduceEqDiff, Nat.reduceLeDiff, Nat.reduceAdd]
  have hF := asV_facts hp.2.1
  have hX := fun i (h : i < a.atoms.length) => isT_iff.1 (asV_atom (d := ⟨0, 0, 0⟩) hp.2.1 h).1
  have hM := fun i => maskS_bd (sts c last (a.atoms.take i))
  all_goals (try simp only [opn])
  all_goals (repeat' (first | apply And.intro | intro _))
  all_goals (repeat (cases ‹_ ∧ _›))
  all_goals (first | omega | rfl | assumption | (simp_all; done) | (exact (hX _ (by assumption)).1) | (exact (hM _).1) | (exact (hM _).2) | (symm; exact possI_noF (by assumption) (by assumption) (by assumption) (by assumption)) | (rw [possF_step (d := ⟨false, 0, 0⟩) (by assumption)]; simp_all; done) | (rw [possF_step (d := ⟨false, 0, 0⟩) (by assumption)]; simp_all; omega) | (rw [← take_full (l := a.facts) (by assumption)]; assumption) | (rw [sts_skip (c := c) (last := last) (l := a.atoms) (d := ⟨0, 0, 0⟩) (by assumption) (by simp only [stB, Bool.and_eq_false_iff, decide_eq_false_iff_not]; first | (left; left; omega) | (left; right; omega) | (right; assumption))]; done) | (rw [sts_skip (c := c) (last := last) (l := a.atoms) (d := ⟨0, 0, 0⟩) (by assumption) (by simp only [stB, Bool.and_eq_false_iff, decide_eq_false_iff_not]; first | (left; left; omega) | (left; right; omega) | (right; assumption))]; assumption) | (rw [take_full (l := a.atoms) (by assumption)] at *; simp_all [possI]; done) | skip)
  all_goals (have hS := fun (j : Nat) (h1 : ¬ last < (a.atoms.getD j ⟨0, 0, 0⟩).a) (h2 : ¬ last < (a.atoms.getD j ⟨0, 0, 0⟩).b) (h3 : filB c (a.atoms.getD j ⟨0, 0, 0⟩) = true) => show stB c last (a.atoms.getD j ⟨0, 0, 0⟩) = true by (simp only [stB, Bool.and_eq_true, decide_eq_true_eq]; exact ⟨⟨by omega, by omega⟩, by assumption⟩))
  all_goals (first | (symm; exact possI_noA (by assumption) (hS _ (by assumption) (by assumption) (by assumption)) (.inl (by assumption))) | (symm; exact possI_noA (by assumption) (hS _ (by assumption) (by assumption) (by assumption)) (.inr (by assumption))) | (exact (okS_step (by assumption) (by assumption) (hS _ (by assumption) (by assumption) (by assumption)) (by assumption) (by assumption)).1) | (exact (okS_step (by assumption) (by assumption) (hS _ (by assumption) (by assumption) (by assumption)) (by assumption) (by assumption)).2.symm) | skip)
theorem vce_possible (c : List Int) (a : GAsn) (last : Int) (k : Nat) : VC_possible c a last k = vcQ tab (lookF L_possible) (lookP P_possible) (fun _ => false) (fun _ => none) (an_possible c a last) (fun _ => []) (bodyOf Try.f153) (entry (encs c_possible.aks (c, a, last, ())) (rdOf false k)) (retOk tab c_possible Try.f153.results.toList (c, a, last, ()) k) := by kernel_rfl
theorem ok_possible : FnOk Try.prog E 153 c_possible :=
  fn_okQ (l := L_possible) (lp := P_possible) (hp := fun _ => false) (gcs := fun _ => none) (perm := fun _ => []) tabOk mix ⟨ok_tsWith, ok_factHolds, ok_tsHas, ok_isFilled, trivial⟩ trivial Try.func153 rfl (by kernel_rfl) (by decide) (by kernel_rfl) (anns := fun x _ => an_possible x.1 x.2.1 x.2.2.1) (fun ⟨c, a, last, _⟩ k hp _ => (vce_possible c a last k).mp (vcn_possible c a last k hp)) tot_fn
end Go.Proofs.Ytejcmcbpfnmlaaa
