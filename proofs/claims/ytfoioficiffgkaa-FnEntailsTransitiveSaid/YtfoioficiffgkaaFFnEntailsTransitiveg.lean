/-
  Contracts of single functions of the program, each shown by the engine: what a call returns for arguments within the contract's bounds.
-/
import Derived.Test.YtfoioficiffgkaaFFnEntailsTransitivea
import Derived.Test.YtfoioficiffgkaaFFnEntailsTransitived
import Derived.Test.YtfoioficiffgkaaFFnEntailsTransitivef
import Derived.Test.YtfoioficiffgkaaFFnEntailsTransitivec
import Derived.Test.YtfoioficiffgkaaEd
import Derived.Test.YtfoioficiffgkaaEe
import Derived.Test.YtfoioficiffgkaaEf
set_option linter.unusedSimpArgs false
set_option linter.unusedVariables false
set_option linter.unusedSectionVars false

namespace Go.Proofs.Ytfoioficiffgkaa
open Go.SE Go.RowKit
set_option linter.unusedSimpArgs false
set_option linter.unusedVariables false
set_option maxHeartbeats 1000000
set_option maxRecDepth 100000
abbrev c_FnEntailsTransitive : Con := ⟨[.sl .u8, .sl .u8], [.bool], fun (code, more, _) => code.length <= 281474976710656 /\ more.length <= 281474976710656, .inl fun (code, more, _) => (true, ()), fun _ => 0⟩
abbrev L_FnEntailsTransitive : List (FuncId × Con) := [(30, c_DrawEntails), (31, c_iEntails), (32, c_sEntails), (41, c_iFoldCells)]
abbrev P_FnEntailsTransitive : List (FuncId × PT) := []
def VC_FnEntailsTransitive_1  : Prop := True /\ (((true, ()) : Bool × Unit) = (true, ())) /\ True /\ True /\ True /\ True /\ TF
def VC_FnEntailsTransitive_2  : Prop := True /\ VC_FnEntailsTransitive_1
def VC_FnEntailsTransitive_3 (r1 : GAsn × GAsn × Unit) : Prop := r1.1.facts.length <= 40 /\ r1.1.atoms.length <= 40 /\ r1.2.1.facts.length <= 40 /\ r1.2.1.atoms.length <= 40
def VC_FnEntailsTransitive_4 (r1 : GAsn × GAsn × Unit) : Prop := (r1.1.facts.length <= 281474976710656 /\ r1.1.atoms.length <= 281474976710656 /\ r1.2.1.facts.length <= 281474976710656 /\ r1.2.1.atoms.length <= 281474976710656) /\ True /\ True
def VC_FnEntailsTransitive_5 (r1 : GAsn × GAsn × Unit) : Prop := True /\ True /\ True /\ (VC_FnEntailsTransitive_4 r1) /\ True /\ True /\ ((((ENT r1.1 r1.2.1) == (ENT r1.1 r1.2.1), ()) : Bool × Unit) = (true, ())) /\ True /\ True /\ True /\ True /\ TF
def VC_FnEntailsTransitive_6 (r1 : GAsn × GAsn × Unit) (r2 : GAsn × GAsn × Unit) : Prop := (r1.2.1.facts.length <= 281474976710656 /\ r1.2.1.atoms.length <= 281474976710656 /\ r2.1.facts.length <= 281474976710656 /\ r2.1.atoms.length <= 281474976710656) /\ True /\ True
def VC_FnEntailsTransitive_7 (r1 : GAsn × GAsn × Unit) : Prop := True /\ True /\ True /\ (vcIf (!(fcB r1.2.1)) (True /\ VC_FnEntailsTransitive_2) (True /\ True /\ ((r1.1.facts.length <= 281474976710656 /\ r1.1.atoms.length <= 281474976710656 /\ (fcL r1.2.1).facts.length <= 281474976710656 /\ (fcL r1.2.1).atoms.length <= 281474976710656) /\ True /\ True) /\ True /\ True /\ True /\ ((((ENT r1.1 (fcL r1.2.1)), ()) : Bool × Unit) = (true, ())) /\ True /\ True /\ True /\ True /\ TF))
def VC_FnEntailsTransitive_8  : Prop := True /\ True /\ (((false, ()) : Bool × Unit) = (true, ())) /\ True /\ True /\ True /\ True /\ TF
def VC_FnEntailsTransitive_9 (r2 : GAsn × GAsn × Unit) (r1 : GAsn × GAsn × Unit) : Prop := True /\ True /\ (VC_FnEntailsTransitive_6 r2 r1) /\ True /\ True /\ (vcIf (!(ENT r2.2.1 r1.1)) (True /\ True /\ True /\ (VC_FnEntailsTransitive_7 r1)) (True /\ True /\ ((r2.2.1.facts.length <= 281474976710656 /\ r2.2.1.atoms.length <= 281474976710656 /\ r1.2.1.facts.length <= 281474976710656 /\ r1.2.1.atoms.length <= 281474976710656) /\ True /\ True) /\ True /\ True /\ True /\ (vcIf (ENT r2.2.1 r1.2.1) (VC_FnEntailsTransitive_7 r1) VC_FnEntailsTransitive_8)))
def VC_FnEntailsTransitive (code : List UInt8) (more : List UInt8) (k : Nat) : Prop := True /\ True /\ True /\ True /\ True /\ (vcIf (decide ((1048576 : Int) < ((code.length : Nat) : Int))) VC_FnEntailsTransitive_2 (True /\ True /\ True /\ True /\ (vcIf (decide ((1048576 : Int) < ((more.length : Nat) : Int))) VC_FnEntailsTransitive_1 (True /\ (True /\ True /\ TN /\ TN /\ TN /\ TN /\ True) /\ (∀ r1 : GAsn × GAsn × Unit, (VC_FnEntailsTransitive_3 r1) -> True /\ True /\ True /\ (TN /\ TN /\ TN /\ True) /\ (TN /\ TN /\ TN /\ True) /\ (TF /\ TF) /\ (TF /\ TF) /\ True /\ (True /\ True /\ TN /\ TN /\ TN /\ TN /\ True) /\ (∀ r2 : GAsn × GAsn × Unit, (VC_FnEntailsTransitive_3 r2) -> True /\ True /\ True /\ (TN /\ TN /\ TN /\ True) /\ (TN /\ TN /\ TN /\ True) /\ (TF /\ TF) /\ (TF /\ TF) /\ True /\ True /\ (VC_FnEntailsTransitive_4 r1) /\ True /\ True /\ True /\ True /\ (VC_FnEntailsTransitive_4 r1) /\ True /\ True /\ (vcIf ((ENT r1.1 r1.2.1) != (ENT r1.1 r1.2.1)) (True /\ (VC_FnEntailsTransitive_5 r1)) (True /\ True /\ True /\ (vcIf (!(ENT r1.1 r1.2.1)) (VC_FnEntailsTransitive_5 r1) (True /\ ((r1.2.1.facts.length <= 281474976710656 /\ r1.2.1.atoms.length <= 281474976710656) /\ True /\ TN /\ TN /\ True) /\ True /\ True /\ True /\ (TN /\ TN /\ TN /\ True) /\ (TF /\ TF) /\ True /\ True /\ True /\ (VC_FnEntailsTransitive_6 r1 r2) /\ True /\ True /\ (vcIf (!(ENT r1.2.1 r2.1)) (True /\ True /\ (VC_FnEntailsTransitive_9 r2 r1)) (True /\ True /\ ((r1.1.facts.length <= 281474976710656 /\ r1.1.atoms.length <= 281474976710656 /\ r2.1.facts.length <= 281474976710656 /\ r2.1.atoms.length <= 281474976710656) /\ True /\ True) /\ True /\ True /\ (vcIf (ENT r1.1 r2.1) (VC_FnEntailsTransitive_9 r2 r1) (True /\ True /\ VC_FnEntailsTransitive_8))))))))))))))
theorem vcn_FnEntailsTransitive (code : List UInt8) (more : List UInt8) (k : Nat) (hp : code.length <= 281474976710656 /\ more.length <= 281474976710656) : VC_FnEntailsTransitive code more k := by
 unfold VC_FnEntailsTransitive VC_FnEntailsTransitive_9 VC_FnEntailsTransitive_8 VC_FnEntailsTransitive_7 VC_FnEntailsTransitive_6 VC_FnEntailsTransitive_5 VC_FnEntailsTransitive_4 VC_FnEntailsTransitive_3 VC_FnEntailsTransitive_2 VC_FnEntailsTransitive_1
 simp only [cln, Nat.reduceEqDiff, Nat.reduceLeDiff, Nat.reduceAdd, bne_self_eq_false, beq_self_eq_true, decide_true, eq_self, Bool.not_true, Bool.not_false, vcIf_true, vcIf_false, Bool.false_and, Bool.true_and, Bool.or_false, Bool.or_true]
 all_goals (try simp only [opn])
 all_goals (repeat' (first | apply And.intro | intro _))
 all_goals (repeat (cases ‹_ /\ _›))
 all_goals (first | trivial | (exfalso; contradiction) | omega | with_reducible assumption | with_reducible rfl | skip)
 all_goals (first
  | (with_reducible refine Nat.le_trans (m := 200) ?_ (by decide); first
   | with_reducible exact md200V | with_reducible exact md200H
   | with_reducible exact fc200F (by omega) | with_reducible exact fc200A (by omega))
  | with_reducible exact en_fold ‹_› ‹_›
  | with_reducible exact (en_trN ‹_› ‹_› ‹_›).elim
  | with_reducible exact fo_hol ‹_› ‹_›
  | with_reducible exact (fo_lenI ‹_› ‹_›).elim
  | with_reducible exact (fo_entN ‹_› ‹_›).elim
  | skip)
theorem ok_FnEntailsTransitive : FnOk Try.prog E 11 c_FnEntailsTransitive :=
 fn_okQ (l := L_FnEntailsTransitive) (lp := P_FnEntailsTransitive) (hp := fun _ => false) (gcs := fun _ => none) (perm := fun _ => []) tabOk mix ⟨ok_DrawEntails, ok_iEntails, ok_sEntails, ok_iFoldCells, trivial⟩ trivial Try.func11 rfl (by kernel_rfl) (by decide) (by kernel_rfl) (anns := fun x _ => fun _ _ => none) (fun ⟨code, more, _⟩ k hp _ => Eq.mp (by kernel_rfl) (vcn_FnEntailsTransitive code more k hp)) tot_fn
end Go.Proofs.Ytfoioficiffgkaa
