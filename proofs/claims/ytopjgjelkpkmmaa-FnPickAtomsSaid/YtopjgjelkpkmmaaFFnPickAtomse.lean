/-
  Contracts of single functions of the program, each shown by the engine: what a call returns for arguments within the contract's bounds.
-/
import Derived.Test.YtopjgjelkpkmmaaFFnPickAtomsa
import Derived.Test.YtopjgjelkpkmmaaFFnPickAtomsb
import Derived.Test.YtopjgjelkpkmmaaFFnPickAtomsd
import Derived.Test.YtopjgjelkpkmmaaEd
import Derived.Test.YtopjgjelkpkmmaaEe
set_option linter.unusedSimpArgs false
set_option linter.unusedVariables false
set_option linter.unusedSectionVars false

namespace Go.Proofs.Ytopjgjelkpkmmaa
open Go.SE Go.RowKit
set_option linter.unusedSimpArgs false
set_option linter.unusedVariables false
set_option maxHeartbeats 1000000
set_option maxRecDepth 100000
abbrev c_FnPickAtoms : Con := ⟨[.sl .u8], [.bool], fun (code, _) => code.length <= 281474976710656, .inl fun (code, _) => (true, ()), fun _ => 0⟩
abbrev L_FnPickAtoms : List (FuncId × Con) := [(28, c_DrawPickAtoms), (29, c_iPickAtoms), (30, c_sPickAtoms), (31, c_iAssertionSame), (32, c_iStarAssertions), (33, c_iEquivalent)]
abbrev P_FnPickAtoms : List (FuncId × PT) := []
def VC_FnPickAtoms_1 (r1 : GAsn × Int × Unit) : Prop := (r1.1.facts.length <= 281474976710656 /\ r1.1.atoms.length <= 281474976710656) /\ True /\ TN /\ TN /\ True
def VC_FnPickAtoms_2 (r1 : GAsn × Int × Unit) : Prop := ((pkL r1.1 r1.2.1).facts.length <= 281474976710656 /\ (pkL r1.1 r1.2.1).atoms.length <= 281474976710656 /\ (pkL r1.1 r1.2.1).facts.length <= 281474976710656 /\ (pkL r1.1 r1.2.1).atoms.length <= 281474976710656) /\ True /\ True
def VC_FnPickAtoms_3  : Prop := True /\ True /\ (((false, ()) : Bool × Unit) = (true, ())) /\ True /\ True /\ True /\ True /\ TF
def VC_FnPickAtoms_4 (r1 : GAsn × Int × Unit) : Prop := True /\ True /\ True /\ True /\ (vcIf ((pkOk r1.1 r1.2.1) == (pkOk r1.1 r1.2.1)) (True /\ True /\ (VC_FnPickAtoms_2 r1) /\ True /\ True /\ ((((decide ((pkL r1.1 r1.2.1) = (pkL r1.1 r1.2.1))), ()) : Bool × Unit) = (true, ())) /\ True /\ True /\ True /\ True /\ TF) VC_FnPickAtoms_3)
def VC_FnPickAtoms_5 (r1 : GAsn × Int × Unit) : Prop := True /\ (VC_FnPickAtoms_4 r1)
def VC_FnPickAtoms_6  : Prop := True /\ True /\ VC_FnPickAtoms_3
def VC_FnPickAtoms_7 (r1 : GAsn × Int × Unit) : Prop := (True /\ True /\ (TN /\ TN /\ TN /\ True) /\ (TF /\ TF) /\ True /\ True /\ True /\ True /\ True /\ (vcIf ((pkOk r1.1 r1.2.1) != (pkOk r1.1 r1.2.1)) (True /\ True /\ (VC_FnPickAtoms_5 r1)) (True /\ True /\ (VC_FnPickAtoms_2 r1) /\ True /\ True /\ True /\ (vcIf (!(decide ((pkL r1.1 r1.2.1) = (pkL r1.1 r1.2.1)))) (VC_FnPickAtoms_5 r1) (True /\ True /\ True /\ (vcIf (!(pkOk r1.1 r1.2.1)) (VC_FnPickAtoms_4 r1) (True /\ True /\ True /\ True /\ (0 <= ((r1.1.atoms.length : Nat) : Int)) /\ (inK .i64 ((IntKind.wrap .i64 ((1 : Int) * 2 ^ (min r1.1.atoms.length (IntKind.bits .i64)))) - (1 : Int))) /\ True /\ (inK .i64 (((IntKind.wrap .i64 ((1 : Int) * 2 ^ (min r1.1.atoms.length (IntKind.bits .i64)))) - (1 : Int)) - r1.2.1)) /\ (VC_FnPickAtoms_1 r1) /\ True /\ True /\ True /\ (TN /\ TN /\ TN /\ True) /\ (TF /\ TF) /\ True /\ True /\ True /\ (((pkL r1.1 r1.2.1).facts.length <= 1048576 /\ (pkL r1.1 r1.2.1).atoms.length <= 1048576 /\ (pkL r1.1 (((IntKind.wrap .i64 ((1 : Int) * 2 ^ (min r1.1.atoms.length (IntKind.bits .i64)))) - (1 : Int)) - r1.2.1)).facts.length <= 1048576 /\ (pkL r1.1 (((IntKind.wrap .i64 ((1 : Int) * 2 ^ (min r1.1.atoms.length (IntKind.bits .i64)))) - (1 : Int)) - r1.2.1)).atoms.length <= 1048576) /\ True /\ TN /\ TN /\ True) /\ True /\ True /\ True /\ (TN /\ TN /\ TN /\ True) /\ (TF /\ TF) /\ True /\ True /\ True /\ (TN /\ TN /\ True) /\ (TN /\ TN /\ TN /\ True) /\ (TF /\ TF) /\ True /\ True /\ (vcIf (pkOk r1.1 (((IntKind.wrap .i64 ((1 : Int) * 2 ^ (min r1.1.atoms.length (IntKind.bits .i64)))) - (1 : Int)) - r1.2.1)) (True /\ True /\ True /\ (vcIf (starOk (pkL r1.1 r1.2.1) (pkL r1.1 (((IntKind.wrap .i64 ((1 : Int) * 2 ^ (min r1.1.atoms.length (IntKind.bits .i64)))) - (1 : Int)) - r1.2.1))) (True /\ True /\ True /\ True /\ True /\ True /\ True /\ True /\ True /\ (vcIf (((((starL (pkL r1.1 r1.2.1) (pkL r1.1 (((IntKind.wrap .i64 ((1 : Int) * 2 ^ (min r1.1.atoms.length (IntKind.bits .i64)))) - (1 : Int)) - r1.2.1))).atoms).length : Nat) : Int) == ((r1.1.atoms.length : Nat) : Int)) (True /\ True /\ (((starL (pkL r1.1 r1.2.1) (pkL r1.1 (((IntKind.wrap .i64 ((1 : Int) * 2 ^ (min r1.1.atoms.length (IntKind.bits .i64)))) - (1 : Int)) - r1.2.1))).facts.length <= 281474976710656 /\ (starL (pkL r1.1 r1.2.1) (pkL r1.1 (((IntKind.wrap .i64 ((1 : Int) * 2 ^ (min r1.1.atoms.length (IntKind.bits .i64)))) - (1 : Int)) - r1.2.1))).atoms.length <= 281474976710656 /\ (⟨([] : List GFact), r1.1.atoms⟩ : GAsn).facts.length <= 281474976710656 /\ (⟨([] : List GFact), r1.1.atoms⟩ : GAsn).atoms.length <= 281474976710656) /\ True /\ True) /\ True /\ True /\ ((((ENT (starL (pkL r1.1 r1.2.1) (pkL r1.1 (((IntKind.wrap .i64 ((1 : Int) * 2 ^ (min r1.1.atoms.length (IntKind.bits .i64)))) - (1 : Int)) - r1.2.1))) (⟨([] : List GFact), r1.1.atoms⟩ : GAsn) && ENT (⟨([] : List GFact), r1.1.atoms⟩ : GAsn) (starL (pkL r1.1 r1.2.1) (pkL r1.1 (((IntKind.wrap .i64 ((1 : Int) * 2 ^ (min r1.1.atoms.length (IntKind.bits .i64)))) - (1 : Int)) - r1.2.1)))), ()) : Bool × Unit) = (true, ())) /\ True /\ True /\ True /\ True /\ TF) VC_FnPickAtoms_3)) VC_FnPickAtoms_6)) (True /\ True /\ VC_FnPickAtoms_6)))))))))
def VC_FnPickAtoms (code : List UInt8) (k : Nat) : Prop := True /\ True /\ True /\ True /\ (vcIf (decide ((1048576 : Int) < ((code.length : Nat) : Int))) (True /\ (((true, ()) : Bool × Unit) = (true, ())) /\ True /\ True /\ True /\ True /\ TF) (True /\ (True /\ True /\ TN /\ TN /\ True) /\ (∀ r1 : GAsn × Int × Unit, (r1.1.facts.length <= 40 /\ r1.1.atoms.length <= 40) -> True /\ True /\ True /\ (TN /\ TN /\ TN /\ True) /\ (TF /\ TF) /\ True /\ True /\ True /\ (VC_FnPickAtoms_1 r1) /\ True /\ True /\ True /\ (TN /\ TN /\ TN /\ True) /\ (TF /\ TF) /\ True /\ True /\ True /\ (VC_FnPickAtoms_1 r1) /\ True /\ (VC_FnPickAtoms_7 r1))))
theorem vcn_FnPickAtoms (code : List UInt8) (k : Nat) (hp : code.length <= 281474976710656) : VC_FnPickAtoms code k := by
 unfold VC_FnPickAtoms VC_FnPickAtoms_7 VC_FnPickAtoms_6 VC_FnPickAtoms_5 VC_FnPickAtoms_4 VC_FnPickAtoms_3 VC_FnPickAtoms_2 VC_FnPickAtoms_1
 simp only [cln, Nat.reduceEqDiff, Nat.reduceLeDiff, Nat.reduceAdd, bne_self_eq_false, beq_self_eq_true, decide_true, eq_self, Bool.not_true, Bool.not_false, vcIf_true, vcIf_false, Bool.false_and, Bool.true_and, Bool.or_false, Bool.or_true]
 all_goals (try simp only [opn])
 all_goals (try simp only [pkTop_w, pkC_w])
 all_goals (repeat' (first | apply And.intro | intro _))
 all_goals (repeat (cases ‹_ /\ _›))
 all_goals (first | with_reducible exact True.intro | (exfalso; contradiction) | omega | with_reducible assumption | with_reducible rfl | skip)
 all_goals (first
  | (with_reducible refine Nat.le_trans (m := 200) ?_ (by decide); first
   | with_reducible exact frm200F | with_reducible exact frm200A (by omega) | with_reducible exact ufr200F (by omega) (by omega) | with_reducible exact ufr200A (by omega) (by omega)
   | with_reducible exact pkl200F | with_reducible exact pkl200A (by omega) | with_reducible exact stp200F | with_reducible exact stp200A (by omega) (by omega))
  | with_reducible exact (frs_1 ‹_› ‹_›).elim | with_reducible exact frs_2 ‹_›
  | with_reducible exact (fre_1 ‹_› ‹_›).elim | with_reducible exact (fre_2 ‹_› ‹_›).elim
  | with_reducible exact uf_bd (by omega) (by omega) | with_reducible exact (uf_lenN ‹_› ‹_›).elim | with_reducible exact (uf_sameN ‹_› ‹_›).elim
  | with_reducible exact (uf_frmN ‹_› ‹_›).elim | with_reducible exact ufr_ent ‹_› ‹_› | with_reducible exact ufr_same ‹_›
  | with_reducible exact pkT_1 ‹_› | with_reducible exact pkT_2 ‹_› | with_reducible exact pkT_3 ‹_› | with_reducible exact pkT_4 ‹_›
  | with_reducible exact (pkT_okN ‹_› ‹_›).elim | with_reducible exact (pk_so ‹_› ‹_›).elim | with_reducible exact (pk_ln ‹_› ‹_›).elim | with_reducible exact pk_eq ‹_›
  | skip)
theorem ok_FnPickAtoms : FnOk Try.prog E 5 c_FnPickAtoms :=
 fn_okQ (l := L_FnPickAtoms) (lp := P_FnPickAtoms) (hp := fun _ => false) (gcs := fun _ => none) (perm := fun _ => []) tabOk mix ⟨ok_DrawPickAtoms, ok_iPickAtoms, ok_sPickAtoms, ok_iAssertionSame, ok_iStarAssertions, ok_iEquivalent, trivial⟩ trivial Try.func5 rfl (by kernel_rfl) (by decide) (by kernel_rfl) (anns := fun x _ => fun _ _ => none) (fun ⟨code, _⟩ k hp _ => Eq.mp (by kernel_rfl) (vcn_FnPickAtoms code k hp)) tot_fn
end Go.Proofs.Ytopjgjelkpkmmaa
