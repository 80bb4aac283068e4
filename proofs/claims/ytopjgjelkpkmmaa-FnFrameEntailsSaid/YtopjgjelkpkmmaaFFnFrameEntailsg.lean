/-
  Contracts of single functions of the program, each shown by the engine: what a call returns for arguments within the contract's bounds.
-/
import Derived.Test.YtopjgjelkpkmmaaFFnFrameEntailsa
import Derived.Test.YtopjgjelkpkmmaaFFnFrameEntailsd
import Derived.Test.YtopjgjelkpkmmaaFFnFrameEntailsc
import Derived.Test.YtopjgjelkpkmmaaFFnFrameEntailsf
import Derived.Test.YtopjgjelkpkmmaaEd
import Derived.Test.YtopjgjelkpkmmaaEe
import Derived.Test.YtopjgjelkpkmmaaEf
set_option linter.unusedSimpArgs false
set_option linter.unusedVariables false
set_option linter.unusedSectionVars false

namespace Go.Proofs.Ytopjgjelkpkmmaa
open Go.SE Go.RowKit
set_option linter.unusedSimpArgs false
set_option linter.unusedVariables false
set_option maxHeartbeats 1000000
set_option maxRecDepth 100000
abbrev c_l7Frame : Con := ⟨[.asn, .asn], [.asn, .bool], fun (a, b, _) => asV a = true /\ asV b = true, .inl fun (a, b, _) => (frmL a b, frmB a b, ()), fun _ => 0⟩
abbrev L_l7Frame : List (FuncId × Con) := [(74, c_sAssertionValid), (75, c_l7Pick), (87, c_l3Star), (124, c_sEntails)]
abbrev P_l7Frame : List (FuncId × PT) := []
def an_l7Frame (a : GAsn) (b : GAsn) : Nat -> St -> Option Ann
 | 2, se => some { α := Nat, ok := fun i => (i : Int) <= pkTop a /\ frN a b i = true, mu := fun i => (pkTop a).toNat - i, i0 := fun _ => 0, nx := fun a _ => (fun i => i + 1) a, live := [2, 3, 4], sets := fun i => [(6, sv (.int .i64 i))], mids := [47, 63, 64, 65, 79], blks := fun i => [], owns := fun i => [], rd := fun r _ => r, base := 100000 }
 | _, _ => none
def VC_l7Frame_1 (a : GAsn) (b : GAsn) : Prop := (RM [some (.blk [.d (.arr .fact a.facts), .d (.arr .atom a.atoms)]), some (.blk [.d (.arr .fact b.facts), .d (.arr .atom b.atoms)]), some (.sl 64 .fact ([] : List GFact)), some (.sl 65 .atom ([] : List GAtom)), some (.blk [.own 64, .own 65])]) /\ (RM []) /\ True /\ TT
def VC_l7Frame_2 (i1 : Nat) (a : GAsn) (b : GAsn) : Prop := True /\ (inK .i64 (((i1 : Nat) : Int) + (1 : Int))) /\ True /\ (((i1 + 1) : Int) <= pkTop a /\ frN a b (i1 + 1) = true) /\ ((pkTop a).toNat - (i1 + 1) < (pkTop a).toNat - i1) /\ TT /\ (RL [.s (.c (.ptr 47 0)), .s (.c (.ptr 63 0)), .s (.c (.ptr 79 0))]) /\ (([.s (.c (.d (.val (.int .i64 (((i1 : Nat) : Int) + (1 : Int))))))] : List S) = [.s (.c (.d (.val (.int .i64 (((i1 + 1) : Nat) : Int)))))]) /\ (VC_l7Frame_1 a b)
def VC_l7Frame (a : GAsn) (b : GAsn) (k : Nat) : Prop := TN /\ TN /\ (TN /\ TN /\ TN /\ True) /\ True /\ True /\ (((0 : Int) <= pkTop a /\ frN a b 0 = true) /\ TT /\ (RL [.s (.c (.ptr 47 0)), .s (.c (.ptr 63 0)), .s (.c (.ptr 79 0))]) /\ (([.s (.c (.d (.val (.int .i64 (0 : Int)))))] : List S) = [.s (.c (.d (.val (.int .i64 ((0 : Nat) : Int)))))]) /\ (VC_l7Frame_1 a b)) /\ (∀ i1 : Nat, ((i1 : Int) <= pkTop a /\ frN a b i1 = true) -> True /\ True /\ True /\ True /\ (0 <= ((a.atoms.length : Nat) : Int)) /\ True /\ (vcIf (decide (((i1 : Nat) : Int) < (IntKind.wrap .i64 ((1 : Int) * 2 ^ (min a.atoms.length (IntKind.bits .i64)))))) (True /\ True /\ ((a.facts.length <= 1048576 /\ a.atoms.length <= 1048576) /\ True /\ TN /\ TN /\ True) /\ (TN /\ TN /\ TN /\ True) /\ (TF /\ TF) /\ True /\ True /\ ((b.facts.length <= 1048576 /\ b.atoms.length <= 1048576 /\ (⟨[], (pkA ((i1 : Nat) : Int) a.atoms)⟩ : GAsn).facts.length <= 1048576 /\ (⟨[], (pkA ((i1 : Nat) : Int) a.atoms)⟩ : GAsn).atoms.length <= 1048576) /\ True /\ TN /\ TN /\ True) /\ (TN /\ TN /\ TN /\ True) /\ (TF /\ TF) /\ True /\ (((⟨(b.facts ++ (⟨[], (pkA ((i1 : Nat) : Int) a.atoms)⟩ : GAsn).facts), (b.atoms ++ (⟨[], (pkA ((i1 : Nat) : Int) a.atoms)⟩ : GAsn).atoms)⟩ : GAsn).facts.length <= 281474976710656 /\ (⟨(b.facts ++ (⟨[], (pkA ((i1 : Nat) : Int) a.atoms)⟩ : GAsn).facts), (b.atoms ++ (⟨[], (pkA ((i1 : Nat) : Int) a.atoms)⟩ : GAsn).atoms)⟩ : GAsn).atoms.length <= 281474976710656) /\ True /\ True) /\ True /\ (vcIf (asV (⟨(b.facts ++ (⟨[], (pkA ((i1 : Nat) : Int) a.atoms)⟩ : GAsn).facts), (b.atoms ++ (⟨[], (pkA ((i1 : Nat) : Int) a.atoms)⟩ : GAsn).atoms)⟩ : GAsn)) (True /\ True /\ ((a.facts.length <= 281474976710656 /\ a.atoms.length <= 281474976710656 /\ (⟨(b.facts ++ (⟨[], (pkA ((i1 : Nat) : Int) a.atoms)⟩ : GAsn).facts), (b.atoms ++ (⟨[], (pkA ((i1 : Nat) : Int) a.atoms)⟩ : GAsn).atoms)⟩ : GAsn).facts.length <= 281474976710656 /\ (⟨(b.facts ++ (⟨[], (pkA ((i1 : Nat) : Int) a.atoms)⟩ : GAsn).facts), (b.atoms ++ (⟨[], (pkA ((i1 : Nat) : Int) a.atoms)⟩ : GAsn).atoms)⟩ : GAsn).atoms.length <= 281474976710656) /\ True /\ True) /\ True /\ (vcIf (ENT a (⟨(b.facts ++ (⟨[], (pkA ((i1 : Nat) : Int) a.atoms)⟩ : GAsn).facts), (b.atoms ++ (⟨[], (pkA ((i1 : Nat) : Int) a.atoms)⟩ : GAsn).atoms)⟩ : GAsn)) (True /\ (TF /\ TF) /\ True /\ ((((⟨[], (pkA ((i1 : Nat) : Int) a.atoms)⟩ : GAsn), true, ()) : GAsn × Bool × Unit) = (frmL a b, frmB a b, ())) /\ ((((100304 : Nat) ≠ 100305) /\ True) /\ True /\ True) /\ ((TF /\ TF) /\ (TF /\ TF) /\ True) /\ True /\ (True /\ True /\ True) /\ TF) (VC_l7Frame_2 i1 a b))) (True /\ (VC_l7Frame_2 i1 a b)))) ((TN /\ TN /\ True) /\ (TF /\ TF) /\ True /\ ((((⟨([] : List GFact), ([] : List GAtom)⟩ : GAsn), false, ()) : GAsn × Bool × Unit) = (frmL a b, frmB a b, ())) /\ ((((100496 : Nat) ≠ 100497) /\ True) /\ True /\ True) /\ ((TF /\ TF) /\ (TF /\ TF) /\ True) /\ True /\ (True /\ True /\ True) /\ TF)))
theorem vcn_l7Frame (a : GAsn) (b : GAsn) (k : Nat) (hp : asV a = true /\ asV b = true) : VC_l7Frame a b k := by
 unfold VC_l7Frame VC_l7Frame_2 VC_l7Frame_1
 simp only [cln, Nat.reduceEqDiff, Nat.reduceLeDiff, Nat.reduceAdd]
 have hT := pkTop_eq hp.1
 have hA := fo_len6 hp.1
 have hB := fo_len6 hp.2
 all_goals (try simp only [opn])
 all_goals (try simp only [pkTop_w])
 all_goals (try simp only [decide_eq_true_eq, decide_eq_false_iff_not])
 all_goals (repeat' (first | apply And.intro | intro _))
 all_goals (repeat (cases ‹_ /\ _›))
 all_goals (first | with_reducible exact True.intro | (exfalso; contradiction) | omega | with_reducible assumption | with_reducible rfl | skip)
 all_goals (first
  | with_reducible exact frN_zero | with_reducible exact pk200 (by omega)
  | (with_reducible refine Nat.le_trans (m := 200) ?_ (by decide); with_reducible exact app_pk (by omega) (by omega))
  | with_reducible exact fra_a ‹_› ‹_› ‹_› ‹_› | with_reducible exact fra_b ‹_› ‹_› ‹_› ‹_›
  | with_reducible exact (frm_f ‹_› ‹_› ‹_› ‹_› ‹_› ‹_›).1 | with_reducible exact (frm_f ‹_› ‹_› ‹_› ‹_› ‹_› ‹_›).2
  | with_reducible exact (frm_none ‹_› ‹_› ‹_› ‹_›).1 | with_reducible exact (frm_none ‹_› ‹_› ‹_› ‹_›).2
  | skip)
theorem ok_l7Frame : FnOk Try.prog E 83 c_l7Frame :=
 fn_okQ (l := L_l7Frame) (lp := P_l7Frame) (hp := fun _ => false) (gcs := fun _ => none) (perm := fun _ => []) tabOk mix ⟨ok_sAssertionValid, ok_l7Pick, ok_l3Star, ok_sEntails, trivial⟩ trivial Try.func83 rfl (by kernel_rfl) (by decide) (by kernel_rfl) (anns := fun x _ => an_l7Frame x.1 x.2.1) (fun ⟨a, b, _⟩ k hp _ => Eq.mp (by kernel_rfl) (vcn_l7Frame a b k hp)) tot_fn
abbrev c_sFrameOf : Con := ⟨[.asn, .asn], [.asn, .bool], fun (a, b, _) => a.facts.length <= 281474976710656 /\ a.atoms.length <= 281474976710656 /\ b.facts.length <= 281474976710656 /\ b.atoms.length <= 281474976710656, .inl fun (a, b, _) => (frmL a b, frmB a b, ()), fun _ => 0⟩
abbrev L_sFrameOf : List (FuncId × Con) := [(74, c_sAssertionValid), (83, c_l7Frame)]
abbrev P_sFrameOf : List (FuncId × PT) := []
def VC_sFrameOf_1 (a : GAsn) (b : GAsn) : Prop := (TN /\ TN /\ True) /\ (TF /\ TF) /\ True /\ ((((⟨([] : List GFact), ([] : List GAtom)⟩ : GAsn), false, ()) : GAsn × Bool × Unit) = (frmL a b, frmB a b, ())) /\ ((((224 : Nat) ≠ 225) /\ True) /\ True /\ True) /\ ((TF /\ TF) /\ (TF /\ TF) /\ True) /\ True /\ (True /\ True /\ True) /\ TF
def VC_sFrameOf (a : GAsn) (b : GAsn) (k : Nat) : Prop := TN /\ TN /\ (TN /\ TN /\ TN /\ True) /\ True /\ True /\ ((a.facts.length <= 281474976710656 /\ a.atoms.length <= 281474976710656) /\ True /\ True) /\ True /\ True /\ (vcIf (!(asV a)) (True /\ (VC_sFrameOf_1 a b)) (True /\ ((b.facts.length <= 281474976710656 /\ b.atoms.length <= 281474976710656) /\ True /\ True) /\ True /\ True /\ (vcIf (!(asV b)) (VC_sFrameOf_1 a b) (True /\ True /\ ((asV a = true /\ asV b = true) /\ True /\ TN /\ TN /\ True) /\ True /\ True /\ (TF /\ TF) /\ True /\ ((((frmL a b), (frmB a b), ()) : GAsn × Bool × Unit) = (frmL a b, frmB a b, ())) /\ ((((272 : Nat) ≠ 273) /\ True) /\ True /\ True) /\ ((TF /\ TF) /\ (TF /\ TF) /\ True) /\ True /\ (True /\ True /\ True) /\ TF))))
theorem vcn_sFrameOf (a : GAsn) (b : GAsn) (k : Nat) (hp : a.facts.length <= 281474976710656 /\ a.atoms.length <= 281474976710656 /\ b.facts.length <= 281474976710656 /\ b.atoms.length <= 281474976710656) : VC_sFrameOf a b k := by
 unfold VC_sFrameOf VC_sFrameOf_1
 simp only [cln, Nat.reduceEqDiff, Nat.reduceLeDiff, Nat.reduceAdd]
 all_goals (try simp only [opn])
 all_goals (repeat' (first | apply And.intro | intro _))
 all_goals (repeat (cases ‹_ /\ _›))
 all_goals (first | with_reducible exact True.intro | (exfalso; contradiction) | omega | with_reducible assumption | with_reducible rfl | skip)
 all_goals (try have hA := fo_len6 ‹asV a = true›)
 all_goals (try have hB := fo_len6 ‹asV b = true›)
 all_goals (first
  | omega
  | with_reducible exact pk200 (by omega)
  | (with_reducible refine Nat.le_trans (m := 200) ?_ (by decide); first
   | with_reducible exact star_pkF (by omega) | with_reducible exact star_pkA (by omega) (by omega))
  | with_reducible exact fra_y ‹_› | with_reducible exact fra_n ‹_›
  | with_reducible exact (frm_no1 ‹_›).1 | with_reducible exact (frm_no1 ‹_›).2 | with_reducible exact (frm_no2 ‹_›).1 | with_reducible exact (frm_no2 ‹_›).2
  | with_reducible exact (frm_n ‹_› ‹_› ‹_›).1 | with_reducible exact (frm_n ‹_› ‹_› ‹_›).2
  | with_reducible exact (frm_y ‹_› ‹_› ‹_›).1 | with_reducible exact (frm_y ‹_› ‹_› ‹_›).2
  | skip)
theorem ok_sFrameOf : FnOk Try.prog E 36 c_sFrameOf :=
 fn_okQ (l := L_sFrameOf) (lp := P_sFrameOf) (hp := fun _ => false) (gcs := fun _ => none) (perm := fun _ => []) tabOk mix ⟨ok_sAssertionValid, ok_l7Frame, trivial⟩ trivial Try.func36 rfl (by kernel_rfl) (by decide) (by kernel_rfl) (anns := fun x _ => fun _ _ => none) (fun ⟨a, b, _⟩ k hp _ => Eq.mp (by kernel_rfl) (vcn_sFrameOf a b k hp)) tot_fn
abbrev c_FnFrameEntails : Con := ⟨[.sl .u8], [.bool], fun (code, _) => code.length <= 281474976710656, .inl fun (code, _) => (true, ()), fun _ => 0⟩
abbrev L_FnFrameEntails : List (FuncId × Con) := [(20, c_iEntails), (31, c_iAssertionSame), (34, c_DrawFrameOf), (35, c_iFrameOf), (36, c_sFrameOf), (37, c_iAssertionValid)]
abbrev P_FnFrameEntails : List (FuncId × PT) := []
def VC_FnFrameEntails_1 (r1 : GAsn × GAsn × Unit) : Prop := r1.1.facts.length <= 281474976710656 /\ r1.1.atoms.length <= 281474976710656 /\ r1.2.1.facts.length <= 281474976710656 /\ r1.2.1.atoms.length <= 281474976710656
def VC_FnFrameEntails_2 (r1 : GAsn × GAsn × Unit) : Prop := (VC_FnFrameEntails_1 r1) /\ True /\ TN /\ TN /\ True
def VC_FnFrameEntails_3 (r1 : GAsn × GAsn × Unit) : Prop := ((frmL r1.1 r1.2.1).facts.length <= 281474976710656 /\ (frmL r1.1 r1.2.1).atoms.length <= 281474976710656 /\ (frmL r1.1 r1.2.1).facts.length <= 281474976710656 /\ (frmL r1.1 r1.2.1).atoms.length <= 281474976710656) /\ True /\ True
def VC_FnFrameEntails_4  : Prop := True /\ True /\ (((false, ()) : Bool × Unit) = (true, ())) /\ True /\ True /\ True /\ True /\ TF
def VC_FnFrameEntails_5 (r1 : GAsn × GAsn × Unit) : Prop := True /\ True /\ True /\ True /\ (vcIf ((frmB r1.1 r1.2.1) == (frmB r1.1 r1.2.1)) (True /\ True /\ (VC_FnFrameEntails_3 r1) /\ True /\ True /\ ((((decide ((frmL r1.1 r1.2.1) = (frmL r1.1 r1.2.1))), ()) : Bool × Unit) = (true, ())) /\ True /\ True /\ True /\ True /\ TF) VC_FnFrameEntails_4)
def VC_FnFrameEntails_6 (r1 : GAsn × GAsn × Unit) : Prop := True /\ (VC_FnFrameEntails_5 r1)
def VC_FnFrameEntails_7 (r1 : GAsn × GAsn × Unit) : Prop := True /\ True /\ True /\ (vcIf (frmB r1.1 r1.1) (True /\ True /\ True /\ True /\ True /\ True /\ (((((((frmL r1.1 r1.1).atoms).length : Nat) : Int) == (0 : Int), ()) : Bool × Unit) = (true, ())) /\ True /\ True /\ True /\ True /\ TF) VC_FnFrameEntails_4)
def VC_FnFrameEntails_8  : Prop := True /\ True /\ VC_FnFrameEntails_4
def VC_FnFrameEntails (code : List UInt8) (k : Nat) : Prop := True /\ True /\ True /\ True /\ (vcIf (decide ((1048576 : Int) < ((code.length : Nat) : Int))) (True /\ (((true, ()) : Bool × Unit) = (true, ())) /\ True /\ True /\ True /\ True /\ TF) (True /\ (True /\ True /\ TN /\ TN /\ TN /\ TN /\ True) /\ (∀ r1 : GAsn × GAsn × Unit, (r1.1.facts.length <= 40 /\ r1.1.atoms.length <= 40 /\ r1.2.1.facts.length <= 40 /\ r1.2.1.atoms.length <= 40) -> True /\ True /\ True /\ (TN /\ TN /\ TN /\ True) /\ (TN /\ TN /\ TN /\ True) /\ (TF /\ TF) /\ (TF /\ TF) /\ True /\ True /\ (VC_FnFrameEntails_2 r1) /\ True /\ True /\ True /\ (TN /\ TN /\ TN /\ True) /\ (TF /\ TF) /\ True /\ True /\ True /\ (VC_FnFrameEntails_2 r1) /\ True /\ True /\ True /\ (TN /\ TN /\ TN /\ True) /\ (TF /\ TF) /\ True /\ True /\ True /\ True /\ True /\ (vcIf ((frmB r1.1 r1.2.1) != (frmB r1.1 r1.2.1)) (True /\ True /\ (VC_FnFrameEntails_6 r1)) (True /\ True /\ (VC_FnFrameEntails_3 r1) /\ True /\ True /\ True /\ (vcIf (!(decide ((frmL r1.1 r1.2.1) = (frmL r1.1 r1.2.1)))) (VC_FnFrameEntails_6 r1) (True /\ ((r1.1.facts.length <= 281474976710656 /\ r1.1.atoms.length <= 281474976710656) /\ True /\ True) /\ True /\ True /\ (vcIf (!(asV r1.1)) (VC_FnFrameEntails_5 r1) (True /\ True /\ ((r1.1.facts.length <= 281474976710656 /\ r1.1.atoms.length <= 281474976710656 /\ r1.1.facts.length <= 281474976710656 /\ r1.1.atoms.length <= 281474976710656) /\ True /\ TN /\ TN /\ True) /\ True /\ True /\ True /\ (TN /\ TN /\ TN /\ True) /\ (TF /\ TF) /\ True /\ True /\ True /\ ((VC_FnFrameEntails_1 r1) /\ True /\ True) /\ True /\ True /\ (vcIf (!(ENT r1.1 r1.2.1)) (True /\ True /\ (VC_FnFrameEntails_7 r1)) (True /\ True /\ (vcIf (frmB r1.1 r1.2.1) (True /\ True /\ True /\ True /\ True /\ True /\ True /\ (vcIf (((((frmL r1.1 r1.2.1).atoms).length : Nat) : Int) == (0 : Int)) (VC_FnFrameEntails_7 r1) VC_FnFrameEntails_8)) (True /\ True /\ True /\ VC_FnFrameEntails_8)))))))))))))
theorem vcn_FnFrameEntails (code : List UInt8) (k : Nat) (hp : code.length <= 281474976710656) : VC_FnFrameEntails code k := by
 unfold VC_FnFrameEntails VC_FnFrameEntails_8 VC_FnFrameEntails_7 VC_FnFrameEntails_6 VC_FnFrameEntails_5 VC_FnFrameEntails_4 VC_FnFrameEntails_3 VC_FnFrameEntails_2 VC_FnFrameEntails_1
 simp only [cln, Nat.reduceEqDiff, Nat.reduceLeDiff, Nat.reduceAdd, bne_self_eq_false, beq_self_eq_true, decide_true, eq_self, Bool.not_true, Bool.not_false, vcIf_true, vcIf_false, Bool.false_and, Bool.true_and, Bool.or_false, Bool.or_true]
 all_goals (try simp only [opn])
 all_goals (try simp only [pkTop_w, pkC_w])
 all_goals (repeat' (first | apply And.intro | intro _))
 all_goals (repeat (cases ‹_ /\ _›))
 all_goals (first | with_reducible exact True.intro | (exfalso; contradiction) | omega | with_reducible assumption | with_reducible rfl | skip)
 all_goals (first
  | (with_reducible refine Nat.le_trans (m := 200) ?_ (by decide); first
   | with_reducible exact frm200F | with_reducible exact frm200A (by omega) | with_reducible exact ufr200F (by omega) (by omega) | with_reducible exact ufr200A (by omega) (by omega)
   | with_reducible exact pkl200F | with_reducible exact pkl200A (by omega) | with_reducible exact stp200F | with_reducible exact stp200A (by omega) (by omega))
  | with_reducible exact (frs_1 ‹_› ‹_›).elim | with_reducible exact frs_2 ‹_›
  | with_reducible exact (fre_1 ‹_› ‹_›).elim | with_reducible exact (fre_2 ‹_› ‹_›).elim
  | with_reducible exact uf_bd (by omega) (by omega) | with_reducible exact (uf_lenN ‹_› ‹_›).elim | with_reducible exact (uf_sameN ‹_› ‹_›).elim
  | with_reducible exact (uf_frmN ‹_› ‹_›).elim | with_reducible exact ufr_ent ‹_› ‹_› | with_reducible exact ufr_same ‹_›
  | with_reducible exact pkT_1 ‹_› | with_reducible exact pkT_2 ‹_› | with_reducible exact pkT_3 ‹_› | with_reducible exact pkT_4 ‹_›
  | with_reducible exact (pkT_okN ‹_› ‹_›).elim | with_reducible exact (pk_so ‹_› ‹_›).elim | with_reducible exact (pk_ln ‹_› ‹_›).elim | with_reducible exact pk_eq ‹_›
  | skip)
theorem ok_FnFrameEntails : FnOk Try.prog E 6 c_FnFrameEntails :=
 fn_okQ (l := L_FnFrameEntails) (lp := P_FnFrameEntails) (hp := fun _ => false) (gcs := fun _ => none) (perm := fun _ => []) tabOk mix ⟨ok_iEntails, ok_iAssertionSame, ok_DrawFrameOf, ok_iFrameOf, ok_sFrameOf, ok_iAssertionValid, trivial⟩ trivial Try.func6 rfl (by kernel_rfl) (by decide) (by kernel_rfl) (anns := fun x _ => fun _ _ => none) (fun ⟨code, _⟩ k hp _ => Eq.mp (by kernel_rfl) (vcn_FnFrameEntails code k hp)) tot_fn
end Go.Proofs.Ytopjgjelkpkmmaa
