/-
  Contracts of single functions of the program, each shown by the engine: what a call returns for arguments within the contract's bounds.
-/
import Derived.Test.YtopjgjelkpkmmaaFFnFrameEntailsa
import Derived.Test.YtopjgjelkpkmmaaFFnFrameEntailsd
import Derived.Test.YtopjgjelkpkmmaaFFnFrameEntailse
import Derived.Test.YtopjgjelkpkmmaaEd
import Derived.Test.YtopjgjelkpkmmaaEe
import Derived.Test.YtopjgjelkpkmmaaFFnFrameEntailsc
import Derived.Test.YtopjgjelkpkmmaaEf
set_option linter.unusedSimpArgs false
set_option linter.unusedVariables false
set_option linter.unusedSectionVars false

namespace Go.Proofs.Ytopjgjelkpkmmaa
open Go.SE Go.RowKit
set_option linter.unusedSimpArgs false
set_option linter.unusedVariables false
set_option maxHeartbeats 1000000
set_option maxRecDepth 100000
abbrev c_sEntails : Con := ⟨[.asn, .asn], [.bool], fun (a, b, _) => a.facts.length <= 281474976710656 /\ a.atoms.length <= 281474976710656 /\ b.facts.length <= 281474976710656 /\ b.atoms.length <= 281474976710656, .inl fun (a, b, _) => (ENT a b, ()), fun _ => 0⟩
abbrev L_sEntails : List (FuncId × Con) := [(74, c_sAssertionValid), (105, c_l6Fails)]
abbrev P_sEntails : List (FuncId × PT) := []
def VC_sEntails_1 (a : GAsn) (b : GAsn) : Prop := True /\ (((false, ()) : Bool × Unit) = (ENT a b, ())) /\ True /\ True /\ True /\ True /\ TF
def VC_sEntails (a : GAsn) (b : GAsn) (k : Nat) : Prop := TN /\ TN /\ True /\ True /\ ((a.facts.length <= 281474976710656 /\ a.atoms.length <= 281474976710656) /\ True /\ True) /\ True /\ True /\ (vcIf (!(asV a)) (True /\ (VC_sEntails_1 a b)) (True /\ ((b.facts.length <= 281474976710656 /\ b.atoms.length <= 281474976710656) /\ True /\ True) /\ True /\ True /\ (vcIf (!(asV b)) (VC_sEntails_1 a b) (True /\ True /\ ((asV a = true /\ asV b = true) /\ True /\ TN /\ True) /\ True /\ True /\ True /\ True /\ True /\ True /\ True /\ True /\ (((!(!(FC a b).isEmpty), ()) : Bool × Unit) = (ENT a b, ())) /\ True /\ True /\ True /\ True /\ TF))))
theorem vcn_sEntails (a : GAsn) (b : GAsn) (k : Nat) (hp : a.facts.length <= 281474976710656 /\ a.atoms.length <= 281474976710656 /\ b.facts.length <= 281474976710656 /\ b.atoms.length <= 281474976710656) : VC_sEntails a b k := by
 unfold VC_sEntails VC_sEntails_1
 simp only [cln, Nat.reduceEqDiff, Nat.reduceLeDiff, Nat.reduceAdd]
 all_goals (try simp only [opn])
 all_goals (repeat' (first | apply And.intro | intro _))
 all_goals (repeat (cases ‹_ /\ _›))
 all_goals (first | omega | rfl | assumption | exact (ent_no1 ‹_›).symm | exact (ent_no2 ‹_›).symm | (rw [ENT_FC ‹_› ‹_›, Bool.not_not]; done) | exact fc_len ‹_› ‹_› | skip)
theorem ok_sEntails : FnOk Try.prog E 124 c_sEntails :=
 fn_okQ (l := L_sEntails) (lp := P_sEntails) (hp := fun _ => false) (gcs := fun _ => none) (perm := fun _ => []) tabOk mix ⟨ok_sAssertionValid, ok_l6Fails, trivial⟩ trivial Try.func124 rfl (by kernel_rfl) (by decide) (by kernel_rfl) (anns := fun x _ => fun _ _ => none) (fun ⟨a, b, _⟩ k hp _ => Eq.mp (by kernel_rfl) (vcn_sEntails a b k hp)) tot_fn
abbrev c_l6Without : Con := ⟨[.asn, .int, .int, .atom], [.asn], fun (a, i, q, x, _) => a.facts.length <= 1048576 /\ a.atoms.length <= 1048576, .inl fun (a, i, q, x, _) => (⟨a.facts, x :: woF a.atoms i q a.atoms.length⟩, ()), fun _ => 0⟩
abbrev L_l6Without : List (FuncId × Con) := []
abbrev P_l6Without : List (FuncId × PT) := []
def an_l6Without (a : GAsn) (i : Int) (q : Int) (x : GAtom) : Nat -> St -> Option Ann
 | 3, se => some { α := Nat, ok := fun j => j <= a.atoms.length, mu := fun j => a.atoms.length - j, i0 := fun _ => 0, nx := fun a _ => (fun j => j + 1) a, live := [1, 2, 4, 8, 9], sets := fun j => [(10, sv (.int .i64 j))], mids := [79, 128, 129, 143], blks := fun j => [(159, .blk [.own 7, .own 8])], owns := fun j => [⟨7, .cell 159 0, .fact, a.facts⟩, ⟨8, .cell 159 1, .atom, x :: woF a.atoms i q j⟩], rd := fun r _ => r, base := 100000 }
 | _, _ => none
def VC_l6Without_1 (i : Int) (q : Int) : Prop := RL [.s (.c (.d (.val (.int .i64 i)))), .s (.c (.d (.val (.int .i64 q)))), .s (.c (.ptr 79 0)), .s (.c (.ptr 143 0)), .s (.c (.ptr 159 0))]
def VC_l6Without_2 (a : GAsn) : Prop := RM [some (.blk [.d (.arr .fact a.facts), .d (.arr .atom a.atoms)]), some (.sl 128 .fact ([] : List GFact)), some (.sl 129 .atom ([] : List GAtom)), some (.blk [.own 128, .own 129])]
def VC_l6Without_3 (j1 : Nat) : Prop := ([.s (.c (.d (.val (.int .i64 (((j1 : Nat) : Int) + (1 : Int))))))] : List S) = [.s (.c (.d (.val (.int .i64 (((j1 + 1) : Nat) : Int)))))]
def VC_l6Without_4 (j1 : Nat) (a : GAsn) (i : Int) (q : Int) (x : GAtom) : Prop := True /\ (inK .i64 (((j1 : Nat) : Int) + (1 : Int))) /\ True /\ ((j1 + 1) <= a.atoms.length) /\ (a.atoms.length - (j1 + 1) < a.atoms.length - j1) /\ TT /\ (VC_l6Without_1 i q) /\ (VC_l6Without_3 j1) /\ (VC_l6Without_2 a) /\ (RM [some (.blk [.own 7, .own 8])]) /\ (((some a.facts : Option (List GFact)) = some a.facts) /\ ((some (x :: woF a.atoms i q j1) : Option (List GAtom)) = some (x :: woF a.atoms i q (j1 + 1))) /\ True) /\ TT
def VC_l6Without (a : GAsn) (i : Int) (q : Int) (x : GAtom) (k : Nat) : Prop := TN /\ TN /\ (TN /\ TN /\ TN /\ True) /\ (TN /\ True) /\ True /\ True /\ (TN /\ TF /\ TF /\ (([] : List GFact).length + a.facts.length <= 4294967296)) /\ True /\ (TN /\ True) /\ (TN /\ TN /\ True) /\ (TN /\ TN /\ TN /\ True) /\ (TF /\ TF) /\ True /\ ((0 <= a.atoms.length) /\ TT /\ (VC_l6Without_1 i q) /\ (([.s (.c (.d (.val (.int .i64 (0 : Int)))))] : List S) = [.s (.c (.d (.val (.int .i64 ((0 : Nat) : Int)))))]) /\ (VC_l6Without_2 a) /\ (RM [some (.blk [.own 224, .own 256])]) /\ (((some (([] : List GFact) ++ a.facts) : Option (List GFact)) = some a.facts) /\ ((some ([x] : List GAtom) : Option (List GAtom)) = some (x :: woF a.atoms i q 0)) /\ True) /\ TT) /\ (∀ j1 : Nat, (j1 <= a.atoms.length) -> True /\ True /\ True /\ True /\ True /\ (vcIf (decide (((j1 : Nat) : Int) < ((a.atoms.length : Nat) : Int))) (True /\ True /\ True /\ True /\ (vcIf (((j1 : Nat) : Int) != i) (True /\ True /\ True /\ True /\ (vcIf (((j1 : Nat) : Int) != q) (True /\ True /\ True /\ True /\ True /\ (0 <= ((j1 : Nat) : Int) /\ ((j1 : Nat) : Int) < ((a.atoms.length : Nat) : Int)) /\ True /\ (TN /\ True) /\ (TN /\ TF /\ TF /\ ((x :: woF a.atoms i q j1).length + ([(a.atoms.getD j1 (⟨0, 0, 0⟩ : GAtom))] : List GAtom).length <= 4294967296)) /\ True /\ (TF /\ TF) /\ True /\ (inK .i64 (((j1 : Nat) : Int) + (1 : Int))) /\ True /\ ((j1 + 1) <= a.atoms.length) /\ (a.atoms.length - (j1 + 1) < a.atoms.length - j1) /\ TT /\ (VC_l6Without_1 i q) /\ (VC_l6Without_3 j1) /\ (VC_l6Without_2 a) /\ (RM [some (.blk [.own 7, .own 100656])]) /\ (((some a.facts : Option (List GFact)) = some a.facts) /\ ((some ((x :: woF a.atoms i q j1) ++ ([(a.atoms.getD j1 (⟨0, 0, 0⟩ : GAtom))] : List GAtom)) : Option (List GAtom)) = some (x :: woF a.atoms i q (j1 + 1))) /\ True) /\ TT) (VC_l6Without_4 j1 a i q x))) (True /\ (VC_l6Without_4 j1 a i q x)))) (True /\ (TF /\ TF) /\ ((((⟨a.facts, x :: woF a.atoms i q j1⟩ : GAsn), ()) : GAsn × Unit) = (⟨a.facts, x :: woF a.atoms i q a.atoms.length⟩, ())) /\ ((((7 : Nat) ≠ 8) /\ True) /\ True /\ True) /\ ((TF /\ TF) /\ (TF /\ TF) /\ True) /\ True /\ (True /\ True /\ True) /\ TF)))
theorem vcn_l6Without (a : GAsn) (i : Int) (q : Int) (x : GAtom) (k : Nat) (hp : a.facts.length <= 1048576 /\ a.atoms.length <= 1048576) : VC_l6Without a i q x k := by
 unfold VC_l6Without VC_l6Without_4 VC_l6Without_3 VC_l6Without_2 VC_l6Without_1
 simp only [cln, Nat.reduceEqDiff, Nat.reduceLeDiff, Nat.reduceAdd]
 all_goals (try simp only [opn])
 all_goals (repeat' (first | apply And.intro | intro _))
 all_goals (repeat (cases ‹_ /\ _›))
 all_goals (first | (exfalso; contradiction) | omega | with_reducible assumption | with_reducible rfl | skip)
 all_goals (first
  | rfl
  | (exact woF_bd (by omega))
  | (rw [List.cons_append, woF_go ‹_› ‹_›]; done)
  | (rw [woF_skip (.inl ‹_›)]; done) | (rw [woF_skip (.inr ‹_›)]; done)
  | (have e := Nat.le_antisymm ‹_ <= a.atoms.length› (Nat.le_of_not_lt ‹¬ _ < a.atoms.length›); rw [e]; done)
  | skip)
theorem ok_l6Without : FnOk Try.prog E 132 c_l6Without :=
 fn_okQ (l := L_l6Without) (lp := P_l6Without) (hp := fun _ => false) (gcs := fun _ => none) (perm := fun _ => []) tabOk mix trivial trivial Try.func132 rfl (by kernel_rfl) (by decide) (by kernel_rfl) (anns := fun x _ => an_l6Without x.1 x.2.1 x.2.2.1 x.2.2.2.1) (fun ⟨a, i, q, x, _⟩ k hp _ => Eq.mp (by kernel_rfl) (vcn_l6Without a i q x k hp)) tot_fn
abbrev c_sFoldCells : Con := ⟨[.asn], [.asn, .bool], fun (a, _) => a.facts.length <= 281474976710656 /\ a.atoms.length <= 281474976710656, .inl fun (a, _) => (fcL a, fcB a, ()), fun _ => 0⟩
abbrev L_sFoldCells : List (FuncId × Con) := [(74, c_sAssertionValid), (124, c_sEntails), (132, c_l6Without)]
abbrev P_sFoldCells : List (FuncId × PT) := []
def an_sFoldCells (a : GAsn) : Nat -> St -> Option Ann
 | 4, se => some { α := Nat, ok := fun i => i <= a.atoms.length /\ asV a = true /\ noI a i = true, mu := fun i => a.atoms.length - i, i0 := fun _ => 0, nx := fun a _ => (fun i => i + 1) a, live := [1, 2], sets := fun i => [(4, sv (.int .i64 i))], mids := [31, 32, 33, 47], blks := fun i => [], owns := fun i => [], rd := fun r _ => r, base := 100000 }
 | 7, se => some { α := Nat, ok := fun j => j <= a.atoms.length /\ noK a (intAt se 4).toNat j = true, mu := fun j => a.atoms.length - j, i0 := fun _ => 0, nx := fun a _ => (fun j => j + 1) a, live := [1, 2, 4], sets := fun j => [(5, sv (.int .i64 j))], mids := [31, 32, 33, 47], blks := fun j => [], owns := fun j => [], rd := fun r _ => r, base := 200000 }
 | _, _ => none
def VC_sFoldCells_1 (a : GAsn) : Prop := (((⟨([] : List GFact), ([] : List GAtom)⟩ : GAsn), false, ()) : GAsn × Bool × Unit) = (fcL a, fcB a, ())
def VC_sFoldCells_2 (a : GAsn) : Prop := (RM [some (.blk [.d (.arr .fact a.facts), .d (.arr .atom a.atoms)]), some (.sl 32 .fact ([] : List GFact)), some (.sl 33 .atom ([] : List GAtom)), some (.blk [.own 32, .own 33])]) /\ (RM []) /\ True /\ TT
def VC_sFoldCells_3 (a : GAsn) : Prop := (([.s (.c (.d (.val (.int .i64 (0 : Int)))))] : List S) = [.s (.c (.d (.val (.int .i64 ((0 : Nat) : Int)))))]) /\ (VC_sFoldCells_2 a)
def VC_sFoldCells_4 (i1 : Nat) : Prop := RL [.s (.c (.ptr 31 0)), .s (.c (.ptr 47 0)), .s (.c (.d (.val (.int .i64 ((i1 : Nat) : Int)))))]
def VC_sFoldCells_5 (j2 : Nat) (a : GAsn) : Prop := (([.s (.c (.d (.val (.int .i64 (((j2 : Nat) : Int) + (1 : Int))))))] : List S) = [.s (.c (.d (.val (.int .i64 (((j2 + 1) : Nat) : Int)))))]) /\ (VC_sFoldCells_2 a)
def VC_sFoldCells_6 (j2 : Nat) (a : GAsn) (i1 : Nat) : Prop := True /\ (inK .i64 (((j2 : Nat) : Int) + (1 : Int))) /\ True /\ ((j2 + 1) <= a.atoms.length /\ noK a (((i1 : Nat) : Int)).toNat (j2 + 1) = true) /\ (a.atoms.length - (j2 + 1) < a.atoms.length - j2) /\ TT /\ (VC_sFoldCells_4 i1) /\ (VC_sFoldCells_5 j2 a)
def VC_sFoldCells_7 (a : GAsn) : Prop := (((0 <= a.atoms.length /\ asV a = true /\ noI a 0 = true) /\ TT /\ (RL [.s (.c (.ptr 31 0)), .s (.c (.ptr 47 0))]) /\ (VC_sFoldCells_3 a)) /\ (∀ i1 : Nat, (i1 <= a.atoms.length /\ asV a = true /\ noI a i1 = true) -> True /\ True /\ True /\ True /\ True /\ (vcIf (decide (((i1 : Nat) : Int) < ((a.atoms.length : Nat) : Int))) (True /\ ((0 <= a.atoms.length /\ noK a (((i1 : Nat) : Int)).toNat 0 = true) /\ TT /\ (VC_sFoldCells_4 i1) /\ (VC_sFoldCells_3 a)) /\ (∀ j2 : Nat, (j2 <= a.atoms.length /\ noK a (((i1 : Nat) : Int)).toNat j2 = true) -> True /\ True /\ True /\ True /\ True /\ (vcIf (decide (((j2 : Nat) : Int) < ((a.atoms.length : Nat) : Int))) (True /\ True /\ True /\ True /\ (vcIf (((i1 : Nat) : Int) == ((j2 : Nat) : Int)) (True /\ (VC_sFoldCells_6 j2 a i1)) (True /\ True /\ True /\ (0 <= ((i1 : Nat) : Int) /\ ((i1 : Nat) : Int) < ((a.atoms.length : Nat) : Int)) /\ True /\ True /\ True /\ True /\ True /\ (0 <= ((j2 : Nat) : Int) /\ ((j2 : Nat) : Int) < ((a.atoms.length : Nat) : Int)) /\ True /\ True /\ True /\ True /\ (vcIf (((a.atoms.getD i1 (⟨0, 0, 0⟩ : GAtom)).b) != ((a.atoms.getD j2 (⟨0, 0, 0⟩ : GAtom)).a)) (VC_sFoldCells_6 j2 a i1) (True /\ True /\ True /\ True /\ True /\ True /\ (0 <= ((i1 : Nat) : Int) /\ ((i1 : Nat) : Int) < ((a.atoms.length : Nat) : Int)) /\ True /\ True /\ True /\ True /\ True /\ (0 <= ((j2 : Nat) : Int) /\ ((j2 : Nat) : Int) < ((a.atoms.length : Nat) : Int)) /\ True /\ True /\ True /\ ((a.facts.length <= 1048576 /\ a.atoms.length <= 1048576) /\ True /\ TN /\ TN /\ True) /\ (TN /\ TN /\ TN /\ True) /\ (TF /\ TF) /\ True /\ True /\ ((a.facts.length <= 281474976710656 /\ a.atoms.length <= 281474976710656 /\ (⟨a.facts, ((⟨(2 : Int), (a.atoms.getD i1 (⟨0, 0, 0⟩ : GAtom)).a, (a.atoms.getD j2 (⟨0, 0, 0⟩ : GAtom)).b⟩ : GAtom) :: woF a.atoms ((i1 : Nat) : Int) ((j2 : Nat) : Int) a.atoms.length)⟩ : GAsn).facts.length <= 281474976710656 /\ (⟨a.facts, ((⟨(2 : Int), (a.atoms.getD i1 (⟨0, 0, 0⟩ : GAtom)).a, (a.atoms.getD j2 (⟨0, 0, 0⟩ : GAtom)).b⟩ : GAtom) :: woF a.atoms ((i1 : Nat) : Int) ((j2 : Nat) : Int) a.atoms.length)⟩ : GAsn).atoms.length <= 281474976710656) /\ True /\ True) /\ (vcIf (ENT a (⟨a.facts, ((⟨(2 : Int), (a.atoms.getD i1 (⟨0, 0, 0⟩ : GAtom)).a, (a.atoms.getD j2 (⟨0, 0, 0⟩ : GAtom)).b⟩ : GAtom) :: woF a.atoms ((i1 : Nat) : Int) ((j2 : Nat) : Int) a.atoms.length)⟩ : GAsn)) (True /\ (TF /\ TF) /\ True /\ ((((⟨a.facts, ((⟨(2 : Int), (a.atoms.getD i1 (⟨0, 0, 0⟩ : GAtom)).a, (a.atoms.getD j2 (⟨0, 0, 0⟩ : GAtom)).b⟩ : GAtom) :: woF a.atoms ((i1 : Nat) : Int) ((j2 : Nat) : Int) a.atoms.length)⟩ : GAsn), true, ()) : GAsn × Bool × Unit) = (fcL a, fcB a, ())) /\ ((((200944 : Nat) ≠ 200945) /\ True) /\ True /\ True) /\ ((TF /\ TF) /\ (TF /\ TF) /\ True) /\ True /\ (True /\ True /\ True) /\ TF) (VC_sFoldCells_6 j2 a i1))))))) (True /\ (inK .i64 (((i1 : Nat) : Int) + (1 : Int))) /\ True /\ ((i1 + 1) <= a.atoms.length /\ asV a = true /\ noI a (i1 + 1) = true) /\ (a.atoms.length - (i1 + 1) < a.atoms.length - i1) /\ TT /\ (RL [.s (.c (.ptr 31 0)), .s (.c (.ptr 47 0))]) /\ (VC_sFoldCells_5 i1 a))))) ((TN /\ TN /\ True) /\ (TF /\ TF) /\ True /\ (VC_sFoldCells_1 a) /\ ((((101024 : Nat) ≠ 101025) /\ True) /\ True /\ True) /\ ((TF /\ TF) /\ (TF /\ TF) /\ True) /\ True /\ (True /\ True /\ True) /\ TF))))
def VC_sFoldCells (a : GAsn) (k : Nat) : Prop := TN /\ (TN /\ TN /\ TN /\ True) /\ True /\ True /\ ((a.facts.length <= 281474976710656 /\ a.atoms.length <= 281474976710656) /\ True /\ True) /\ True /\ (vcIf (!(asV a)) ((TN /\ TN /\ True) /\ (TF /\ TF) /\ True /\ (VC_sFoldCells_1 a) /\ ((((160 : Nat) ≠ 161) /\ True) /\ True /\ True) /\ ((TF /\ TF) /\ (TF /\ TF) /\ True) /\ True /\ (True /\ True /\ True) /\ TF) (True /\ (VC_sFoldCells_7 a)))
theorem vcn_sFoldCells (a : GAsn) (k : Nat) (hp : a.facts.length <= 281474976710656 /\ a.atoms.length <= 281474976710656) : VC_sFoldCells a k := by
 unfold VC_sFoldCells VC_sFoldCells_7 VC_sFoldCells_6 VC_sFoldCells_5 VC_sFoldCells_4 VC_sFoldCells_3 VC_sFoldCells_2 VC_sFoldCells_1
 simp only [cln, Nat.reduceEqDiff, Nat.reduceLeDiff, Nat.reduceAdd]
 all_goals (try simp only [opn])
 all_goals (repeat' (first | apply And.intro | intro _))
 all_goals (repeat (cases ‹_ /\ _›))
 all_goals (first | (exfalso; contradiction) | omega | with_reducible assumption | with_reducible rfl | skip)
 all_goals (try have h6 := fo_len6 ‹asV a = true›)
 all_goals (first
  | omega
  | with_reducible exact (fo_bad ‹_›).1.symm | with_reducible exact (fo_bad ‹_›).2.symm
  | with_reducible exact noI_zero | with_reducible exact noK_zero
  | with_reducible exact noK_same ‹_› ‹_› | with_reducible exact noK_apart ‹_› ‹_› | with_reducible exact foR_no ‹_› ‹_›
  | (exact woF_bd (by omega))
  | with_reducible exact (foR_hit ‹_› ‹_› ‹_› ‹_› ‹_› ‹_› ‹_› ‹_›).1
  | with_reducible exact (foR_hit ‹_› ‹_› ‹_› ‹_› ‹_› ‹_› ‹_› ‹_›).2
  | with_reducible exact noI_step ‹_› ‹_› ‹_› ‹_›
  | with_reducible exact (fo_end ‹_› ‹_› ‹_›).1.symm | with_reducible exact (fo_end ‹_› ‹_› ‹_›).2.symm
  | skip)
theorem ok_sFoldCells : FnOk Try.prog E 96 c_sFoldCells :=
 fn_okQ (l := L_sFoldCells) (lp := P_sFoldCells) (hp := fun _ => false) (gcs := fun _ => none) (perm := fun _ => []) tabOk mix ⟨ok_sAssertionValid, ok_sEntails, ok_l6Without, trivial⟩ trivial Try.func96 rfl (by kernel_rfl) (by decide) (by kernel_rfl) (anns := fun x _ => an_sFoldCells x.1) (fun ⟨a, _⟩ k hp _ => Eq.mp (by kernel_rfl) (vcn_sFoldCells a k hp)) tot_fn
abbrev c_l7Some : Con := ⟨[.rdr], [.asn, .asn], fun _ => True, .inr fun (rr, _) r => r.1.facts.length <= 40 /\ r.1.atoms.length <= 40 /\ r.2.1.facts.length <= 40 /\ r.2.1.atoms.length <= 40, fun (rr, _) => 37⟩
abbrev L_l7Some : List (FuncId × Con) := [(51, c_pick), (52, c_l3Mutate), (75, c_l7Pick), (86, c_l7Small), (96, c_sFoldCells)]
abbrev P_l7Some : List (FuncId × PT) := []
def VC_l7Some_1 (r6 : GAsn × Unit) (r7 : GAsn × Unit) : Prop := r6.1.facts.length <= 40 /\ r6.1.atoms.length <= 40 /\ r7.1.facts.length <= 40 /\ r7.1.atoms.length <= 40
def VC_l7Some_2  : Prop := (((496 : Nat) ≠ 497) /\ ((496 : Nat) ≠ 544) /\ ((496 : Nat) ≠ 545) /\ True) /\ (((497 : Nat) ≠ 544) /\ ((497 : Nat) ≠ 545) /\ True) /\ (((544 : Nat) ≠ 545) /\ True) /\ True /\ True
def VC_l7Some_3 (k : Nat) (r1 : GAsn × Unit) : Prop := True /\ (True /\ True /\ (k + 13 + 1 + 1 + 1 + 13 <= 1099511627776) /\ True) /\ (∀ r5 : GAsn × Unit, (r5.1.facts.length <= 1 /\ r5.1.atoms.length <= 4) -> (TF /\ TF) /\ True /\ True /\ ((r1.1.facts.length <= 100000 /\ r1.1.atoms.length <= 100000) /\ (k + 13 + 1 + 1 + 1 + 13 + 4 <= 1099511627776) /\ TN /\ TN /\ True) /\ (∀ r6 : GAsn × Unit, (r6.1.facts.length <= r1.1.facts.length + 14 /\ r6.1.atoms.length <= r1.1.atoms.length + 7) -> True /\ True /\ ((r5.1.facts.length <= 100000 /\ r5.1.atoms.length <= 100000) /\ (k + 13 + 1 + 1 + 1 + 13 + 4 + 4 <= 1099511627776) /\ TN /\ TN /\ True) /\ (∀ r7 : GAsn × Unit, (r7.1.facts.length <= r5.1.facts.length + 14 /\ r7.1.atoms.length <= r5.1.atoms.length + 7) -> (TF /\ TF) /\ (TF /\ TF) /\ (VC_l7Some_1 r6 r7) /\ VC_l7Some_2 /\ ((TF /\ TF) /\ (TF /\ TF) /\ (TF /\ TF) /\ (TF /\ TF) /\ True) /\ True /\ (True /\ True /\ True /\ True /\ True) /\ (k + 13 + 1 + 1 + 1 + 13 + 4 + 4 <= k + 37))))
def VC_l7Some_4 (r1 : GAsn × Unit) (k : Nat) : Prop := (r1.1.facts.length <= 100000 /\ r1.1.atoms.length <= 100000) /\ (k + 13 + 1 + 1 + 1 + 4 <= 1099511627776) /\ TN /\ TN /\ True
def VC_l7Some_5 (r8 : GAsn × Unit) (r9 : GAsn × Unit) (k : Nat) : Prop := (TF /\ TF) /\ (TF /\ TF) /\ (VC_l7Some_1 r8 r9) /\ VC_l7Some_2 /\ ((TF /\ TF) /\ (TF /\ TF) /\ (TF /\ TF) /\ (TF /\ TF) /\ True) /\ True /\ (True /\ True /\ True /\ True /\ True) /\ (k + 13 + 1 + 1 + 1 + 4 + 4 <= k + 37)
def VC_l7Some_6 (k : Nat) (r1 : GAsn × Unit) (r2 : Int × Unit) : Prop := True /\ (True /\ (k + 13 + 1 + 1 + 1 <= 1099511627776) /\ True) /\ (∀ r10 : Int × Unit, (pickP (8 : Int) r10.1) -> True /\ (vcIf (r10.1 == (0 : Int)) (VC_l7Some_3 k r1) (True /\ True /\ (VC_l7Some_4 r1 k) /\ (∀ r14 : GAsn × Unit, (r14.1.facts.length <= r1.1.facts.length + 14 /\ r14.1.atoms.length <= r1.1.atoms.length + 7) -> True /\ True /\ (((⟨[], (pkA r2.1 r1.1.atoms)⟩ : GAsn).facts.length <= 100000 /\ (⟨[], (pkA r2.1 r1.1.atoms)⟩ : GAsn).atoms.length <= 100000) /\ (k + 13 + 1 + 1 + 1 + 4 + 4 <= 1099511627776) /\ TN /\ TN /\ True) /\ (∀ r15 : GAsn × Unit, (r15.1.facts.length <= (⟨[], (pkA r2.1 r1.1.atoms)⟩ : GAsn).facts.length + 14 /\ r15.1.atoms.length <= (⟨[], (pkA r2.1 r1.1.atoms)⟩ : GAsn).atoms.length + 7) -> (VC_l7Some_5 r14 r15 k))))))
def VC_l7Some (rr : Unit) (k : Nat) : Prop := (TN /\ TN /\ TN /\ True) /\ (TN /\ TN /\ TN /\ True) /\ True /\ (True /\ True /\ (k + 13 <= 1099511627776) /\ True) /\ (∀ r1 : GAsn × Unit, (r1.1.facts.length <= 1 /\ r1.1.atoms.length <= 4) -> (TN /\ TN /\ TN /\ True) /\ (TF /\ TF) /\ True /\ True /\ (True /\ (k + 13 + 1 <= 1099511627776) /\ True) /\ (∀ r2 : Int × Unit, (pickP (8 : Int) r2.1) -> ((r1.1.facts.length <= 1048576 /\ r1.1.atoms.length <= 1048576) /\ True /\ TN /\ TN /\ True) /\ (TN /\ TN /\ TN /\ True) /\ (TF /\ TF) /\ True /\ (True /\ (k + 13 + 1 + 1 <= 1099511627776) /\ True) /\ (∀ r3 : Int × Unit, (pickP (3 : Int) r3.1) -> True /\ (vcIf (r3.1 == (0 : Int)) (True /\ (((⟨[], (pkA r2.1 r1.1.atoms)⟩ : GAsn).facts.length <= 281474976710656 /\ (⟨[], (pkA r2.1 r1.1.atoms)⟩ : GAsn).atoms.length <= 281474976710656) /\ True /\ TN /\ TN /\ True) /\ True /\ True /\ True /\ (TN /\ TN /\ TN /\ True) /\ (TF /\ TF) /\ True /\ True /\ (vcIf (fcB (⟨[], (pkA r2.1 r1.1.atoms)⟩ : GAsn)) (True /\ (TF /\ TF) /\ True /\ (True /\ (k + 13 + 1 + 1 + 1 <= 1099511627776) /\ True) /\ (∀ r4 : Int × Unit, (pickP (8 : Int) r4.1) -> True /\ (vcIf (r4.1 == (0 : Int)) (VC_l7Some_3 k r1) (True /\ True /\ (VC_l7Some_4 r1 k) /\ (∀ r8 : GAsn × Unit, (r8.1.facts.length <= r1.1.facts.length + 14 /\ r8.1.atoms.length <= r1.1.atoms.length + 7) -> True /\ True /\ (((fcL (⟨[], (pkA r2.1 r1.1.atoms)⟩ : GAsn)).facts.length <= 100000 /\ (fcL (⟨[], (pkA r2.1 r1.1.atoms)⟩ : GAsn)).atoms.length <= 100000) /\ (k + 13 + 1 + 1 + 1 + 4 + 4 <= 1099511627776) /\ TN /\ TN /\ True) /\ (∀ r9 : GAsn × Unit, (r9.1.facts.length <= (fcL (⟨[], (pkA r2.1 r1.1.atoms)⟩ : GAsn)).facts.length + 14 /\ r9.1.atoms.length <= (fcL (⟨[], (pkA r2.1 r1.1.atoms)⟩ : GAsn)).atoms.length + 7) -> (VC_l7Some_5 r8 r9 k))))))) (VC_l7Some_6 k r1 r2))) (VC_l7Some_6 k r1 r2)))))
theorem vcn_l7Some (rr : Unit) (k : Nat) (hk : k + (37) <= 1099511627776) : VC_l7Some rr k := by
 unfold VC_l7Some VC_l7Some_6 VC_l7Some_5 VC_l7Some_4 VC_l7Some_3 VC_l7Some_2 VC_l7Some_1
 simp only [cln, Nat.reduceEqDiff, Nat.reduceLeDiff, Nat.reduceAdd]
 all_goals (try simp only [opn])
 all_goals (repeat' (first | apply And.intro | intro _))
 all_goals (repeat (cases ‹_ /\ _›))
 all_goals (first | (exfalso; contradiction) | omega | with_reducible assumption | with_reducible rfl | skip)
 all_goals (try simp only [List.length_append, List.length_cons, List.length_nil, List.length_set, List.length_take, List.length_drop, List.mem_cons, List.mem_nil_iff, or_false] at *)
 all_goals (first
  | omega
  | (rcases ‹_ ∨ _› with h | h | h | h <;> omega)
  | exact Nat.le_trans fcL_len.1 ‹_› | exact Nat.le_trans fcL_len.2 ‹_›
  | grind [asV, fsV, pkA_le, fcL_len])
theorem ok_l7Some : FnOk Try.prog E 80 c_l7Some :=
 fn_okQ (l := L_l7Some) (lp := P_l7Some) (hp := fun _ => false) (gcs := fun _ => none) (perm := fun _ => []) tabOk mix ⟨ok_pick, ok_l3Mutate, ok_l7Pick, ok_l7Small, ok_sFoldCells, trivial⟩ trivial Try.func80 rfl (by kernel_rfl) (by decide) (by kernel_rfl) (anns := fun x _ => fun _ _ => none) (fun ⟨rr, _⟩ k _ hk => Eq.mp (by kernel_rfl) (vcn_l7Some rr k (hk rfl))) (fun _ _ => ⟨((⟨[], []⟩ : GAsn), (⟨[], []⟩ : GAsn), ()), ⟨Nat.zero_le _, Nat.zero_le _, Nat.zero_le _, Nat.zero_le _⟩⟩)
abbrev c_DrawFrameOf : Con := ⟨[.sl .u8], [.asn, .asn], fun _ => True, .inr fun (code, _) r => r.1.facts.length <= 40 /\ r.1.atoms.length <= 40 /\ r.2.1.facts.length <= 40 /\ r.2.1.atoms.length <= 40, fun (code, _) => 37⟩
abbrev L_DrawFrameOf : List (FuncId × Con) := [(80, c_l7Some)]
abbrev P_DrawFrameOf : List (FuncId × PT) := []
def VC_DrawFrameOf_1 (r1 : GAsn × GAsn × Unit) : Prop := r1.1.facts.length <= 40 /\ r1.1.atoms.length <= 40 /\ r1.2.1.facts.length <= 40 /\ r1.2.1.atoms.length <= 40
def VC_DrawFrameOf (code : List UInt8) (k : Nat) : Prop := (TN /\ TN /\ TN /\ True) /\ (TN /\ TN /\ TN /\ True) /\ (((4 : Nat) < 9) /\ ((5 : Nat) < 9) /\ ((4 : Nat) ≠ 0)) /\ ((none : Option Nat) = none) /\ TT /\ TT /\ True /\ (True /\ (0 + 37 <= 1099511627776) /\ TN /\ TN /\ TN /\ TN /\ True) /\ (∀ r1 : GAsn × GAsn × Unit, (VC_DrawFrameOf_1 r1) -> True /\ True /\ (TF /\ TF) /\ (TF /\ TF) /\ (VC_DrawFrameOf_1 r1) /\ ((((96 : Nat) ≠ 97) /\ ((96 : Nat) ≠ 98) /\ ((96 : Nat) ≠ 99) /\ True) /\ (((97 : Nat) ≠ 98) /\ ((97 : Nat) ≠ 99) /\ True) /\ (((98 : Nat) ≠ 99) /\ True) /\ True /\ True) /\ ((TF /\ TF) /\ (TF /\ TF) /\ (TF /\ TF) /\ (TF /\ TF) /\ True) /\ True /\ (True /\ True /\ True /\ True /\ True) /\ (0 + 37 <= 0 + 37))
theorem vcn_DrawFrameOf (code : List UInt8) (k : Nat) : VC_DrawFrameOf code k := by
 unfold VC_DrawFrameOf VC_DrawFrameOf_1
 simp only [cln, Nat.reduceEqDiff, Nat.reduceLeDiff, Nat.reduceAdd]
 all_goals (try simp only [opn])
 all_goals (repeat' (first | apply And.intro | intro _))
 all_goals (repeat (cases ‹_ /\ _›))
 all_goals (first | (exfalso; contradiction) | omega | with_reducible assumption | with_reducible rfl | skip)
 all_goals (try simp only [List.length_append, List.length_cons, List.length_nil, List.length_set, List.length_take, List.length_drop, List.mem_cons, List.mem_nil_iff, or_false] at *)
 all_goals (first
  | omega
  | (rcases ‹_ ∨ _› with h | h | h | h <;> omega)
  | exact Nat.le_trans fcL_len.1 ‹_› | exact Nat.le_trans fcL_len.2 ‹_›
  | grind [asV, fsV])
theorem ok_DrawFrameOf : FnOk Try.prog E 34 c_DrawFrameOf :=
 draw_fnX (hp := fun _ => false) (perm := fun _ => []) (gl := ([0, 2, 3], [32, 33, 47, 48, 49, 63])) tabOk mix (kall_of (l := L_DrawFrameOf) ⟨ok_l7Some, trivial⟩) (pall_of (l := P_DrawFrameOf) trivial) open_l18Open fn_l18Open Try.func34 rfl (by kernel_rfl) (by decide) (by kernel_rfl) rfl rfl (anns := fun x => fun _ _ => none) (fun ⟨code, _⟩ _ => Eq.mp (by kernel_rfl) (vcn_DrawFrameOf code 0)) (fun _ _ => ⟨((⟨[], []⟩ : GAsn), (⟨[], []⟩ : GAsn), ()), ⟨Nat.zero_le _, Nat.zero_le _, Nat.zero_le _, Nat.zero_le _⟩⟩)
abbrev c_pickAtoms : Con := ⟨[.asn, .int], [.asn], fun (a, mask, _) => a.facts.length <= 1048576 /\ a.atoms.length <= 1048576, .inl fun (a, mask, _) => (⟨[], pkA mask a.atoms⟩, ()), fun _ => 0⟩
abbrev L_pickAtoms : List (FuncId × Con) := []
abbrev P_pickAtoms : List (FuncId × PT) := []
def an_pickAtoms (a : GAsn) (mask : Int) : Nat -> St -> Option Ann
 | 3, se => some { α := Nat, ok := fun i => i <= a.atoms.length, mu := fun i => a.atoms.length - i, i0 := fun _ => 0, nx := fun a _ => (fun i => i + 1) a, live := [1, 4, 5, 9, 10], sets := fun i => [(11, sv (.int .i64 i))], mids := [64, 65, 79], blks := fun i => [(95, .blk [.own 7, .own 8])], owns := fun i => [⟨7, .cell 95 0, .fact, []⟩, ⟨8, .cell 95 1, .atom, pk mask a.atoms i⟩], rd := fun r _ => r, base := 100000 }
 | _, _ => none
def VC_pickAtoms_1 (mask : Int) (a : GAsn) : Prop := RL [.s (.c (.d (.val (.int .i64 mask)))), .s (.c (.ptr 79 0)), .s (.c (.ptr 95 0)), .s (.c (.d (.arr .atom a.atoms))), .s (.c (.d (.val (.int .i64 ((a.atoms.length : Nat) : Int)))))]
def VC_pickAtoms_2  : Prop := RM [some (.sl 64 .fact ([] : List GFact)), some (.sl 65 .atom ([] : List GAtom)), some (.blk [.own 64, .own 65])]
def VC_pickAtoms_3 (i1 : Nat) : Prop := ([.s (.c (.d (.val (.int .i64 (((i1 : Nat) : Int) + (1 : Int))))))] : List S) = [.s (.c (.d (.val (.int .i64 (((i1 + 1) : Nat) : Int)))))]
def VC_pickAtoms (a : GAsn) (mask : Int) (k : Nat) : Prop := TN /\ (TN /\ TN /\ TN /\ True) /\ (TN /\ TN /\ TN /\ True) /\ True /\ True /\ True /\ True /\ ((0 <= a.atoms.length) /\ TT /\ (VC_pickAtoms_1 mask a) /\ (([.s (.c (.d (.val (.int .i64 (0 : Int)))))] : List S) = [.s (.c (.d (.val (.int .i64 ((0 : Nat) : Int)))))]) /\ VC_pickAtoms_2 /\ (RM [some (.blk [.own 80, .own 81])]) /\ (((some ([] : List GFact) : Option (List GFact)) = some []) /\ ((some ([] : List GAtom) : Option (List GAtom)) = some (pk mask a.atoms 0)) /\ True) /\ TT) /\ (∀ i1 : Nat, (i1 <= a.atoms.length) -> True /\ (vcIf (decide (((i1 : Nat) : Int) < ((a.atoms.length : Nat) : Int))) (True /\ (0 <= ((i1 : Nat) : Int) /\ ((i1 : Nat) : Int) < ((a.atoms.length : Nat) : Int)) /\ True /\ (TN /\ True) /\ True /\ (TF /\ TF) /\ True /\ True /\ (0 <= ((i1 : Nat) : Int)) /\ True /\ True /\ (vcIf ((bits .and .i64 (Int.fdiv mask (2 ^ (min i1 (IntKind.bits .i64)))) (1 : Int)) == (1 : Int)) (True /\ True /\ True /\ (TN /\ True) /\ (TN /\ TF /\ TF /\ ((pk mask a.atoms i1).length + ([(a.atoms.getD i1 (⟨0, 0, 0⟩ : GAtom))] : List GAtom).length <= 4294967296)) /\ True /\ (TF /\ TF) /\ (inK .i64 (((i1 : Nat) : Int) + (1 : Int))) /\ True /\ ((i1 + 1) <= a.atoms.length) /\ (a.atoms.length - (i1 + 1) < a.atoms.length - i1) /\ TT /\ (VC_pickAtoms_1 mask a) /\ (VC_pickAtoms_3 i1) /\ VC_pickAtoms_2 /\ (RM [some (.blk [.own 7, .own 100400])]) /\ (((some [] : Option (List GFact)) = some []) /\ ((some ((pk mask a.atoms i1) ++ ([(a.atoms.getD i1 (⟨0, 0, 0⟩ : GAtom))] : List GAtom)) : Option (List GAtom)) = some (pk mask a.atoms (i1 + 1))) /\ True) /\ TT) ((inK .i64 (((i1 : Nat) : Int) + (1 : Int))) /\ True /\ ((i1 + 1) <= a.atoms.length) /\ (a.atoms.length - (i1 + 1) < a.atoms.length - i1) /\ TT /\ (VC_pickAtoms_1 mask a) /\ (VC_pickAtoms_3 i1) /\ VC_pickAtoms_2 /\ (RM [some (.blk [.own 7, .own 8])]) /\ (((some [] : Option (List GFact)) = some []) /\ ((some (pk mask a.atoms i1) : Option (List GAtom)) = some (pk mask a.atoms (i1 + 1))) /\ True) /\ TT))) (True /\ (TF /\ TF) /\ ((((⟨[], pk mask a.atoms i1⟩ : GAsn), ()) : GAsn × Unit) = (⟨[], pkA mask a.atoms⟩, ())) /\ ((((7 : Nat) ≠ 8) /\ True) /\ True /\ True) /\ ((TF /\ TF) /\ (TF /\ TF) /\ True) /\ True /\ (True /\ True /\ True) /\ TF)))
theorem vcn_pickAtoms (a : GAsn) (mask : Int) (k : Nat) (hp : a.facts.length <= 1048576 /\ a.atoms.length <= 1048576) : VC_pickAtoms a mask k := by
 unfold VC_pickAtoms VC_pickAtoms_3 VC_pickAtoms_2 VC_pickAtoms_1
 simp only [cln, Nat.reduceEqDiff, Nat.reduceLeDiff, Nat.reduceAdd]
 have hs := pk_step mask a.atoms
 have hl := pk_len mask a.atoms
 all_goals (try simp only [opn])
 all_goals (repeat' (first | apply And.intro | intro _))
 all_goals (first | omega | (simp_all; done) | grind [pkA, mbit, pk])
theorem ok_pickAtoms : FnOk Try.prog E 73 c_pickAtoms :=
 fn_okQ (l := L_pickAtoms) (lp := P_pickAtoms) (hp := fun _ => false) (gcs := fun _ => none) (perm := fun _ => []) tabOk mix trivial trivial Try.func73 rfl (by kernel_rfl) (by decide) (by kernel_rfl) (anns := fun x _ => an_pickAtoms x.1 x.2.1) (fun ⟨a, mask, _⟩ k hp _ => Eq.mp (by kernel_rfl) (vcn_pickAtoms a mask k hp)) tot_fn
def lmHp : Nat -> Bool
 | 4 => true
 | _ => false
def seqL : Code -> Code
 | .seq a _ => a
 | c => c
def seqR : Code -> Code
 | .seq _ a => a
 | c => c
def loopB : Code -> Code
 | .block _ (.loop a) => a
 | c => c
noncomputable def lmLB : Code := loopB (seqR (seqL (seqR (bodyOf Try.f81))))
theorem lm_code : bodyOf Try.f81 = .seq (seqL (bodyOf Try.f81)) (.seq (.seq (seqL (seqL (seqR (bodyOf Try.f81)))) (.block 0 (.loop lmLB))) (seqR (seqR (bodyOf Try.f81)))) := by rfl
def lmAnn (n : Int) (acc : Int -> Bool) (base : Nat) : Nat -> Option Ann
 | 2 => some { α := Nat, ok := fun m => (m : Int) <= 2 ^ n.toNat /\ ∀ j : Nat, j < m -> acc j = false, mu := fun m => 2 ^ n.toNat - m, i0 := fun _ => 0, nx := fun m _ => m + 1, live := [0, 1], sets := fun m => [(6, sv (.int .i64 (m : Int)))], mids := [], blks := fun _ => [], owns := fun _ => [], rd := fun r _ => r, base := base }
 | _ => none
def lmAnnS (c : ClC) (args : List S0) (base : Nat) (st : St) : Nat -> Option Ann :=
 match args with
 | [.c (.d (.val (.int .i64 n))), .c (.fn _ [i1, i2])] => match asnBlk st i1, asnBlk st i2 with
  | some a, some b => lmAnn n (fun m => c.acc m a b) base
  | _, _ => fun _ => none
 | _ => fun _ => none
theorem lm_round (c : ClC) (h : St) (n m : Int) (f : Nat) (i1 i2 : Nat) (a b : GAsn) (O : Nat -> Option Res) (ann : Nat -> Option Ann) (Q : XK -> St -> Prop) (e0 : h.env 0 = .s (.c (.d (.val (.int .i64 n))))) (e1 : h.env 1 = .s (.c (.fn f [i1, i2]))) (e6 : h.env 6 = .s (.c (.d (.val (.int .i64 m))))) (hrd : h.rd = none)
  (ha : ∀ env sp fr base rd, asnBlk { env := env, mem := h.mem, sp := sp, fr := fr, base := base, rd := rd } i1 = some a) (hb' : ∀ env sp fr base rd, asnBlk { env := env, mem := h.mem, sp := sp, fr := fr, base := base, rd := rd } i2 = some b)
  (hb : ∀ env sp fr base rd, blkIds { env := env, mem := h.mem, sp := sp, fr := fr, base := base, rd := rd } [i1, i2] = true)
  (h0 : 0 <= n) (h62 : n <= 62) (hm0 : 0 <= m) (hpre : m < 2 ^ n.toNat -> c.pre m a b)
  (q1 : m < 2 ^ n.toNat -> c.acc m a b = true -> ∀ env, env 4 = .s (.c (.d (.val (.int .i64 m)))) -> env 5 = .s (.c (.d (.val (.bool true)))) -> Q .ret { env := env, mem := h.mem, sp := h.sp, fr := h.fr, base := h.base, rd := none })
  (q2 : m < 2 ^ n.toNat -> c.acc m a b = false -> ∀ env, env 0 = h.env 0 -> env 1 = h.env 1 -> env 6 = .s (.c (.d (.val (.int .i64 (m + 1))))) -> Q .normal { env := env, mem := h.mem, sp := h.sp, fr := h.fr, base := h.base, rd := none })
  (q3 : ¬ m < 2 ^ n.toNat -> ∀ env, Q (.exit 0) { env := env, mem := h.mem, sp := h.sp, fr := h.fr, base := h.base, rd := none }) :
  vcP tab (lookF []) O (lookP [(f, ptCl c)]) lmHp (fun _ => none) ann (fun _ => []) lmLB h Q := by
 have hp := pow62 h0 h62
 dsimp only [lmLB, loopB, seqR, seqL, bodyOf, Try.f81]
 simp only [e0, e1, e6, hrd, hb, ha, hb', hp.1, ptCl, List.map_cons, List.map_nil, List.cons_append, List.nil_append, upd, lmHp, SE.lookF, tab2, tab3, tab4, tab5, tab7, tab9, tab12, tab13, tab21, tab22, tab23, tab24, tab25, tab26, tab29, tab30, tab31, tab38, tab39, tab40, tab41, tab65, tab66, tab67, tab68, tab71, tab77, tab78, tab93, tab94, tab104, tab105, tab110, tab111, tab112, tab119, tab121, tab130, tab139, tab141, tab149, tab151, tab156, tab157, tab158, Option.map_none, Option.map_some, if_true, if_false, reduceCtorEq, Option.getD_some, Nat.reduceEqDiff, vcReg, condK, seqK, blockK, vcOps, vcStep, vcOp, vcTr, vcDet_some, vcDet_none, vcIf_true, vcIf_false, gslot, trOp, trMove, trPick, trBin, argsS, ev, constS, junk, sv, St.app, St.put, noJunk, inK, binI, shf, isShift, intOp, vcP, vcRegP, vcOpsP, vcStepP, vcOpP, vcOpX, idxOf, cloK, cloOf, withPtrs, ptK, ptOf, vcPt, gcK, lookP, ptBase, St.back, adds, sets, cond_true, true_and, and_true]
 rw [vcIf_iff, decide_eq_true_eq, decide_eq_false_iff_not]
 refine ⟨h0, fun hlt => ⟨hpre hlt, ?_⟩, fun hge => q3 hge _⟩
 rw [vcIf_iff]
 refine ⟨fun ht => q1 hlt ht _ rfl rfl, fun hf => ⟨?_, q2 hlt hf _ rfl rfl rfl⟩⟩
 have h2 := hp.2.1
 have : IntKind.i64.min = -9223372036854775808 := rfl
 have : IntKind.i64.max = 9223372036854775807 := rfl
 omega
theorem lm_fits (st s0 st' : St) (n m : Int) (f i1 i2 : Nat) (hm0 : s0.mem = st.mem) (hm : st'.mem = st.mem) (hs : ∀ j, (st.mem j).isSome = true -> st'.sp j = s0.sp j /\ st'.fr j = s0.fr j) (e0 : s0.env 0 = .s (.c (.d (.val (.int .i64 n))))) (e1 : s0.env 1 = .s (.c (.fn f [i1, i2]))) (h0 : st'.env 0 = s0.env 0) (h1 : st'.env 1 = s0.env 1) (h6 : st'.env 6 = .s (.c (.d (.val (.int .i64 m)))))
  (hi : (st.mem i1).isSome = true) (hj : (st.mem i2).isSome = true) (hrd : st'.rd = none) : fitsP st.mem [0, 1] [(6, sv (.int .i64 m))] [] [] [] none s0 st' := by
 refine ⟨⟨h0, h1, trivial⟩, ⟨h6, trivial⟩, trivial, trivial, trivial, trivial, trivial, trivial, ?_, ⟨trivial, trivial⟩, trivial, trivial, trivial, fun j hj' _ => ?_, fun _ _ _ _ _ _ => trivial, by rw [hrd]; trivial⟩
 ·refine ⟨?_, ?_, trivial⟩
  ·rw [e0]; trivial
  ·rw [e1]
   exact ⟨by rw [hi, Bool.or_true], by rw [hj, Bool.or_true], trivial⟩
 ·exact ⟨by rw [hm0], by rw [hm, hm0], (hs j hj').1, (hs j hj').2⟩
theorem lm_loop (c : ClC) (st s0 : St) (base : Nat) (n : Int) (f i1 i2 : Nat) (a b : GAsn) (ha : asnBlk st i1 = some a) (hb : asnBlk st i2 = some b) (h0 : 0 <= n) (h62 : n <= 62) (hpre : ∀ m : Int, 0 <= m -> m < 2 ^ n.toNat -> c.pre m a b)
  (hm0 : s0.mem = st.mem) (hs0 : ∀ j, (st.mem j).isSome = true -> s0.sp j = st.sp j /\ s0.fr j = st.fr j) (hrd : s0.rd = none) (e0 : s0.env 0 = .s (.c (.d (.val (.int .i64 n))))) (e1 : s0.env 1 = .s (.c (.fn f [i1, i2]))) (e6 : s0.env 6 = .s (.c (.d (.val (.int .i64 0))))) (ann : Nat -> Option Ann) (Q : XK -> St -> Prop)
  (q1 : ∀ m : Nat, (m : Int) < 2 ^ n.toNat -> (∀ j : Nat, j < m -> c.acc j a b = false) -> c.acc m a b = true -> ∀ st', st'.mem = st.mem -> (∀ j, (st.mem j).isSome = true -> st'.sp j = st.sp j /\ st'.fr j = st.fr j) -> st'.rd = none -> st'.env 4 = .s (.c (.d (.val (.int .i64 m)))) -> st'.env 5 = .s (.c (.d (.val (.bool true)))) -> Q .ret st')
  (q3 : ∀ m : Nat, ¬ (m : Int) < 2 ^ n.toNat -> (∀ j : Nat, j < m -> c.acc j a b = false) -> ∀ st', st'.mem = st.mem -> (∀ j, (st.mem j).isSome = true -> st'.sp j = st.sp j /\ st'.fr j = st.fr j) -> st'.rd = none -> Q (.exit 0) st') :
  vcLoopP st.mem (fun st' Q' => vcP tab (lookF []) st.mem (lookP [(f, ptCl c)]) lmHp (fun _ => none) ann (fun _ => []) lmLB st' Q') s0 Q (lmAnn n (fun m => c.acc m a b) base 2) := by
 have hp := pow62 h0 h62
 have m1 : (st.mem i1).isSome = true := by rw [asnBlk_mem ha]; rfl
 have m2 : (st.mem i2).isSome = true := by rw [asnBlk_mem hb]; rfl
 have tm : tabM st.mem s0.mem [] = st.mem := by
  rw [hm0]
  funext j
  simp only [tabM]
  cases st.mem j <;> rfl
 have tq : ∀ (q : Nat -> Bool) j, (st.mem j).isSome = true -> tabQ st.mem q [] j = q j := fun q j hj => by
  simp only [tabQ]
  cases hq : st.mem j with
  | none => rw [hq] at hj; cases hj
  | some r => rfl
 have e2 : ((2 ^ n.toNat : Nat) : Int) = 2 ^ n.toNat := by push_cast; rfl
 refine ⟨⟨⟨by show ((0 : Nat) : Int) <= _; omega, fun j hj => absurd hj (Nat.not_lt_zero _)⟩, ?_⟩, fun m hm => ?_⟩
 ·show fitsP st.mem [0, 1] [(6, sv (.int .i64 ((0 : Nat) : Int)))] [] [] [] s0.rd s0 s0
  rw [hrd]
  exact lm_fits st s0 s0 n 0 f i1 i2 hm0 hm0 (fun _ _ => ⟨rfl, rfl⟩) e0 e1 rfl rfl e6 m1 m2 hrd
 ·obtain ⟨hle, hno⟩ := hm
  show vcP tab (lookF []) st.mem _ lmHp _ ann _ lmLB (headP st.mem [0, 1] [(6, sv (.int .i64 (m : Int)))] [] [] [] base s0.rd s0) _
  have hmem : (headP st.mem [0, 1] [(6, sv (.int .i64 (m : Int)))] [] [] [] base s0.rd s0).mem = st.mem := tm
  have hsp : ∀ j, (st.mem j).isSome = true -> (headP st.mem [0, 1] [(6, sv (.int .i64 (m : Int)))] [] [] [] base s0.rd s0).sp j = s0.sp j /\ (headP st.mem [0, 1] [(6, sv (.int .i64 (m : Int)))] [] [] [] base s0.rd s0).fr j = s0.fr j := fun j hj => ⟨tq _ j hj, tq _ j hj⟩
  have hrd' : (headP st.mem [0, 1] [(6, sv (.int .i64 (m : Int)))] [] [] [] base s0.rd s0).rd = none := hrd
  have he0 : (headP st.mem [0, 1] [(6, sv (.int .i64 (m : Int)))] [] [] [] base s0.rd s0).env 0 = s0.env 0 := rfl
  have he1 : (headP st.mem [0, 1] [(6, sv (.int .i64 (m : Int)))] [] [] [] base s0.rd s0).env 1 = s0.env 1 := rfl
  have he6 : (headP st.mem [0, 1] [(6, sv (.int .i64 (m : Int)))] [] [] [] base s0.rd s0).env 6 = .s (.c (.d (.val (.int .i64 (m : Int))))) := rfl
  generalize headP st.mem [0, 1] [(6, sv (.int .i64 (m : Int)))] [] [] [] base s0.rd s0 = h at hmem hsp hrd' he0 he1 he6
  have hsp' : ∀ j, (st.mem j).isSome = true -> h.sp j = st.sp j /\ h.fr j = st.fr j := fun j hj => ⟨(hsp j hj).1.trans (hs0 j hj).1, (hsp j hj).2.trans (hs0 j hj).2⟩
  refine lm_round c h n (m : Int) f i1 i2 a b st.mem ann _ (he0.trans e0) (he1.trans e1) he6 hrd' ?_ ?_ ?_ h0 h62 (by omega) (fun hlt => hpre _ (by omega) hlt) ?_ ?_ ?_
  ·intro env sp fr base rd
   unfold asnBlk at ha ⊢
   rw [hmem]; exact ha
  ·intro env sp fr base rd
   unfold asnBlk at hb ⊢
   rw [hmem]; exact hb
  ·intro env sp fr base rd
   simp only [blkIds, hmem, asnBlk_mem ha, asnBlk_mem hb]
  ·intro hlt hacc env h4 h5
   exact q1 m hlt hno hacc _ hmem hsp' rfl h4 h5
  ·intro hlt hacc env g0 g1 g6
   show (((m + 1 : Nat) : Int) <= 2 ^ n.toNat /\ ∀ j : Nat, j < m + 1 -> c.acc j a b = false) /\ 2 ^ n.toNat - (m + 1) < 2 ^ n.toNat - m /\ fitsP st.mem [0, 1] [(6, sv (.int .i64 ((m + 1 : Nat) : Int)))] [] [] [] s0.rd s0 _
   refine ⟨⟨by omega, fun j hj => ?_⟩, by omega, ?_⟩
   ·by_cases e : j = m
    ·subst e; exact hacc
    ·exact hno j (by omega)
   ·rw [hrd]
    exact lm_fits st s0 _ n ((m + 1 : Nat) : Int) f i1 i2 hm0 hmem hsp e0 e1 (g0.trans he0) (g1.trans he1) (by rw [show ((m + 1 : Nat) : Int) = (m : Int) + 1 by omega]; exact g6) m1 m2 rfl
  ·intro hge env
   exact q3 m hge hno _ hmem hsp' rfl
theorem lm_vc (c : ClC) (st : St) (base : Nat) (n : Int) (f i1 i2 : Nat) (a b : GAsn) (ha : asnBlk st i1 = some a) (hb : asnBlk st i2 = some b) (hrd : st.rd = none) (h0 : 0 <= n) (h62 : n <= 62) (hpre : ∀ m : Int, 0 <= m -> m < 2 ^ n.toNat -> c.pre m a b) (k : S -> St -> Prop)
  (hk : ∀ st', st'.mem = st.mem -> (∀ j, (st.mem j).isSome = true -> st'.sp j = st.sp j /\ st'.fr j = st.fr j) -> st'.rd = none -> k (.tup [.c (.d (.val (.int .i64 (lmI (fun m => c.acc m a b) n)))), .c (.d (.val (.bool (lmB (fun m => c.acc m a b) n))))]) st') :
  inl tab (lookF []) (lookP [(f, ptCl c)]) lmHp (fun _ _ => none) (lmAnnS c) (fun _ => []) Try.f81.ntmps (bodyOf Try.f81) Try.f81.results.toList [.c (.d (.val (.int .i64 n))), .c (.fn f [i1, i2])] base st k := by
 have hp := pow62 h0 h62
 refine ⟨by show 2 <= 17; decide, ?_⟩
 have hA : lmAnnS c [.c (.d (.val (.int .i64 n))), .c (.fn f [i1, i2])] base st = lmAnn n (fun m => c.acc m a b) base := by
  unfold lmAnnS
  simp only [ha, hb]
 rw [hA, lm_code]
 have m1 := asnBlk_mem ha
 have m2 := asnBlk_mem hb
 have tm : ∀ m : Nat -> Option Res, m = st.mem -> tabM st.mem m [] = st.mem := fun m hm => by
  subst hm
  funext j
  simp only [tabM]
  cases st.mem j <;> rfl
 have tq : ∀ (q : Nat -> Bool) j, (st.mem j).isSome = true -> tabQ st.mem q [] j = q j := fun q j hj => by
  simp only [tabQ]
  cases hq : st.mem j with
  | none => rw [hq] at hj; cases hj
  | some r => rfl
 simp only [vcP, seqK, gcK, blockK]
 dsimp only [seqL, seqR, bodyOf, Try.f81]
 simp only [inlSt, envOf, upd, SE.lookF, tab2, tab3, tab4, tab5, tab7, tab9, tab12, tab13, tab21, tab22, tab23, tab24, tab25, tab26, tab29, tab30, tab31, tab38, tab39, tab40, tab41, tab65, tab66, tab67, tab68, tab71, tab77, tab78, tab93, tab94, tab104, tab105, tab110, tab111, tab112, tab119, tab121, tab130, tab139, tab141, tab149, tab151, tab156, tab157, tab158, hrd, Option.map_none, Option.map_some, reduceCtorEq, Option.getD_some, Nat.reduceEqDiff, vcReg, condK, seqK, blockK, vcOps, vcStep, vcOp, vcTr, vcDet_some, vcDet_none, trOp, trMove, ev, constS, junk, sv, St.app, St.put, vcP, vcRegP, vcOpsP, lmHp, gcK, adds, sets, true_and, and_true]
 rw [show firstReg lmLB = 2 from rfl]
 refine lm_loop c st _ base n f i1 i2 a b ha hb h0 h62 hpre ?_ ?_ ?_ ?_ ?_ ?_ _ _ ?_ ?_
 ·rfl
 ·exact fun _ _ => ⟨rfl, rfl⟩
 ·rfl
 ·rfl
 ·rfl
 ·rfl
 ·intro m hlt hno hacc st' g1 g2 g3 g4 g5
  obtain ⟨l1, l2⟩ := lm_found (acc := fun m => c.acc m a b) hlt hno hacc
  show retP tab [.tmp 4, .tmp 5] k .ret st'
  simp only [retP, loadsS, loadS, g4, g5, pack1]
  rw [l1, l2]
  exact hk st' g1 g2 g3
 ·intro m hge hno st' g1 g2 g3
  obtain ⟨l1, l2⟩ := lm_none (acc := fun m => c.acc m a b) hge hno
  simp only [blockK, seqK, retP, loadsS, loadS, upd, pack1, Nat.reduceEqDiff, if_true, if_false]
  rw [l1, l2]
  exact hk _ g1 g2 (by simp [g3])
theorem ptok_lm {f : Nat} {c : ClC} (hF : FnOk Try.prog E f c.con) : PTOk Try.prog E 81 (ptLM f c) := by
 have base := pt_ok (l := []) (lp := [(f, ptCl c)]) (hp := lmHp) (perm := fun _ => []) (gcb := fun _ _ => none) (ann := lmAnnS c) tabOk mix trivial ⟨ptCl_ok hF, trivial⟩ Try.func81 rfl (by kernel_rfl) (by kernel_rfl)
 refine ⟨base.fn, ?_⟩
 intro w0 M g st w args vs bs k hg hcl hrefs hargs hv
 unfold ptLM at hv
 split at hv
 ·rename_i n f' i1 i2
  split at hv
  ·rename_i a b ha hb
   obtain ⟨rfl, hrd, ⟨h0, h62⟩, hpre, hk⟩ := hv
   have hi := lm_vc c st bs n f' i1 i2 a b ha hb hrd h0 h62 hpre
    (fun s st' => s = .tup [.c (.d (.val (.int .i64 (lmI (fun m => c.acc m a b) n)))), .c (.d (.val (.bool (lmB (fun m => c.acc m a b) n))))] /\ st'.mem = st.mem /\ (∀ j, (st.mem j).isSome = true -> st'.sp j = st.sp j /\ st'.fr j = st.fr j) /\ st'.rd = st.rd)
    (fun st' g1 g2 g3 => ⟨rfl, g1, g2, g3.trans hrd.symm⟩)
   refine Calls.mono (base.call w0 M g st w _ vs bs _ hg hcl hrefs hargs hi) fun e w' he => ?_
   obtain ⟨v, s, st', g', rfl, ⟨rfl, g1, g2, g3⟩, hg', hsR, hsref, hcl', hold, hro, hρ⟩ := he
   exact ⟨v, _, st, g', rfl, hk, hg'.agree g1 g2 g3, hsR, (fun id hid => by cases hid), hcl, fun id h => ⟨h, (hold id h).2⟩, hro, hρ⟩
  ·exact hv.elim
 ·exact hv.elim
abbrev c_joinListsF : Con := ⟨[.sl .fact, .sl .fact], [.sl .fact], fun (a, b, _) => a.length <= 1048576 /\ b.length <= 1048576, .inl fun (a, b, _) => (a ++ b, ()), fun _ => 0⟩
abbrev L_joinListsF : List (FuncId × Con) := []
abbrev P_joinListsF : List (FuncId × PT) := []
def VC_joinListsF (a : List GFact) (b : List GFact) (k : Nat) : Prop := TN /\ True /\ True /\ True /\ True /\ (inK .i64 (((a.length : Nat) : Int) + ((b.length : Nat) : Int))) /\ (TN /\ (0 <= (0 : Int) /\ (0 : Int) <= (((a.length : Nat) : Int) + ((b.length : Nat) : Int)) /\ (((a.length : Nat) : Int) + ((b.length : Nat) : Int)) <= 4294967296)) /\ True /\ True /\ True /\ (TN /\ TF /\ TF /\ ((List.replicate 0 (⟨false, 0, 0⟩ : GFact)).length + a.length <= 4294967296)) /\ True /\ (TN /\ TF /\ TF /\ (((List.replicate 0 (⟨false, 0, 0⟩ : GFact)) ++ a).length + b.length <= 4294967296)) /\ True /\ (((((List.replicate 0 (⟨false, 0, 0⟩ : GFact)) ++ a) ++ b, ()) : (List GFact) × Unit) = (a ++ b, ())) /\ (True /\ True) /\ ((TF /\ TF) /\ True) /\ True /\ (True /\ True) /\ TF
theorem vcn_joinListsF (a : List GFact) (b : List GFact) (k : Nat) (hp : a.length <= 1048576 /\ b.length <= 1048576) : VC_joinListsF a b k := by
 unfold VC_joinListsF
 simp only [cln, Nat.reduceEqDiff, Nat.reduceLeDiff, Nat.reduceAdd]
 all_goals (try simp only [opn])
 all_goals (repeat' (first | apply And.intro | intro _))
 all_goals (first | omega | (simp_all; done) | grind [])
theorem ok_joinListsF : FnOk Try.prog E 78 c_joinListsF :=
 fn_okQ (l := L_joinListsF) (lp := P_joinListsF) (hp := fun _ => false) (gcs := fun _ => none) (perm := fun _ => []) tabOk mix trivial trivial Try.func78 rfl (by kernel_rfl) (by decide) (by kernel_rfl) (anns := fun x _ => fun _ _ => none) (fun ⟨a, b, _⟩ k hp _ => Eq.mp (by kernel_rfl) (vcn_joinListsF a b k hp)) tot_fn
abbrev c_joinListsA : Con := ⟨[.sl .atom, .sl .atom], [.sl .atom], fun (a, b, _) => a.length <= 1048576 /\ b.length <= 1048576, .inl fun (a, b, _) => (a ++ b, ()), fun _ => 0⟩
abbrev L_joinListsA : List (FuncId × Con) := []
abbrev P_joinListsA : List (FuncId × PT) := []
def VC_joinListsA (a : List GAtom) (b : List GAtom) (k : Nat) : Prop := TN /\ True /\ True /\ True /\ True /\ (inK .i64 (((a.length : Nat) : Int) + ((b.length : Nat) : Int))) /\ (TN /\ (0 <= (0 : Int) /\ (0 : Int) <= (((a.length : Nat) : Int) + ((b.length : Nat) : Int)) /\ (((a.length : Nat) : Int) + ((b.length : Nat) : Int)) <= 4294967296)) /\ True /\ True /\ True /\ (TN /\ TF /\ TF /\ ((List.replicate 0 (⟨0, 0, 0⟩ : GAtom)).length + a.length <= 4294967296)) /\ True /\ (TN /\ TF /\ TF /\ (((List.replicate 0 (⟨0, 0, 0⟩ : GAtom)) ++ a).length + b.length <= 4294967296)) /\ True /\ (((((List.replicate 0 (⟨0, 0, 0⟩ : GAtom)) ++ a) ++ b, ()) : (List GAtom) × Unit) = (a ++ b, ())) /\ (True /\ True) /\ ((TF /\ TF) /\ True) /\ True /\ (True /\ True) /\ TF
theorem vcn_joinListsA (a : List GAtom) (b : List GAtom) (k : Nat) (hp : a.length <= 1048576 /\ b.length <= 1048576) : VC_joinListsA a b k := by
 unfold VC_joinListsA
 simp only [cln, Nat.reduceEqDiff, Nat.reduceLeDiff, Nat.reduceAdd]
 all_goals (try simp only [opn])
 all_goals (repeat' (first | apply And.intro | intro _))
 all_goals (first | omega | (simp_all; done) | grind [])
theorem ok_joinListsA : FnOk Try.prog E 79 c_joinListsA :=
 fn_okQ (l := L_joinListsA) (lp := P_joinListsA) (hp := fun _ => false) (gcs := fun _ => none) (perm := fun _ => []) tabOk mix trivial trivial Try.func79 rfl (by kernel_rfl) (by decide) (by kernel_rfl) (anns := fun x _ => fun _ _ => none) (fun ⟨a, b, _⟩ k hp _ => Eq.mp (by kernel_rfl) (vcn_joinListsA a b k hp)) tot_fn
abbrev c_iStarAssertions : Con := ⟨[.asn, .asn], [.asn, .bool], fun (a, b, _) => a.facts.length <= 1048576 /\ a.atoms.length <= 1048576 /\ b.facts.length <= 1048576 /\ b.atoms.length <= 1048576, .inl fun (a, b, _) => (starL a b, starOk a b, ()), fun _ => 0⟩
abbrev L_iStarAssertions : List (FuncId × Con) := [(37, c_iAssertionValid), (78, c_joinListsF), (79, c_joinListsA)]
abbrev P_iStarAssertions : List (FuncId × PT) := []
def VC_iStarAssertions_1 (a : GAsn) (b : GAsn) : Prop := (((⟨([] : List GFact), ([] : List GAtom)⟩ : GAsn), false, ()) : GAsn × Bool × Unit) = (starL a b, starOk a b, ())
def VC_iStarAssertions_2 (a : GAsn) (b : GAsn) : Prop := (TN /\ TN /\ True) /\ (TF /\ TF) /\ True /\ (VC_iStarAssertions_1 a b) /\ ((((240 : Nat) ≠ 241) /\ True) /\ True /\ True) /\ ((TF /\ TF) /\ (TF /\ TF) /\ True) /\ True /\ (True /\ True /\ True) /\ TF
def VC_iStarAssertions (a : GAsn) (b : GAsn) (k : Nat) : Prop := TN /\ TN /\ (TN /\ TN /\ TN /\ True) /\ True /\ True /\ ((a.facts.length <= 281474976710656 /\ a.atoms.length <= 281474976710656) /\ True /\ True) /\ True /\ True /\ (vcIf (!(asV a)) (True /\ (VC_iStarAssertions_2 a b)) (True /\ ((b.facts.length <= 281474976710656 /\ b.atoms.length <= 281474976710656) /\ True /\ True) /\ True /\ True /\ (vcIf (!(asV b)) (VC_iStarAssertions_2 a b) (True /\ True /\ True /\ True /\ ((a.facts.length <= 1048576 /\ b.facts.length <= 1048576) /\ True /\ TN /\ True) /\ True /\ True /\ True /\ True /\ ((a.atoms.length <= 1048576 /\ b.atoms.length <= 1048576) /\ True /\ TN /\ True) /\ (TN /\ TN /\ True) /\ (TN /\ TN /\ TN /\ True) /\ (TF /\ TF) /\ True /\ (((⟨(a.facts ++ b.facts), (a.atoms ++ b.atoms)⟩ : GAsn).facts.length <= 281474976710656 /\ (⟨(a.facts ++ b.facts), (a.atoms ++ b.atoms)⟩ : GAsn).atoms.length <= 281474976710656) /\ True /\ True) /\ True /\ (vcIf (!(asV (⟨(a.facts ++ b.facts), (a.atoms ++ b.atoms)⟩ : GAsn))) ((TN /\ TN /\ True) /\ (TF /\ TF) /\ True /\ (VC_iStarAssertions_1 a b) /\ ((((480 : Nat) ≠ 481) /\ True) /\ True /\ True) /\ ((TF /\ TF) /\ (TF /\ TF) /\ True) /\ True /\ (True /\ True /\ True) /\ TF) (True /\ (TF /\ TF) /\ True /\ ((((⟨(a.facts ++ b.facts), (a.atoms ++ b.atoms)⟩ : GAsn), true, ()) : GAsn × Bool × Unit) = (starL a b, starOk a b, ())) /\ ((((320 : Nat) ≠ 400) /\ True) /\ True /\ True) /\ ((TF /\ TF) /\ (TF /\ TF) /\ True) /\ True /\ (True /\ True /\ True) /\ TF))))))
theorem vcn_iStarAssertions (a : GAsn) (b : GAsn) (k : Nat) (hp : a.facts.length <= 1048576 /\ a.atoms.length <= 1048576 /\ b.facts.length <= 1048576 /\ b.atoms.length <= 1048576) : VC_iStarAssertions a b k := by
 unfold VC_iStarAssertions VC_iStarAssertions_2 VC_iStarAssertions_1
 simp only [cln, Nat.reduceEqDiff, Nat.reduceLeDiff, Nat.reduceAdd]
 all_goals (try simp only [opn])
 all_goals (repeat' (first | apply And.intro | intro _))
 all_goals (first | omega | (simp_all; done) | grind [starL, starOk, starA])
theorem ok_iStarAssertions : FnOk Try.prog E 32 c_iStarAssertions :=
 fn_okQ (l := L_iStarAssertions) (lp := P_iStarAssertions) (hp := fun _ => false) (gcs := fun _ => none) (perm := fun _ => []) tabOk mix ⟨ok_iAssertionValid, ok_joinListsF, ok_joinListsA, trivial⟩ trivial Try.func32 rfl (by kernel_rfl) (by decide) (by kernel_rfl) (anns := fun x _ => fun _ _ => none) (fun ⟨a, b, _⟩ k hp _ => Eq.mp (by kernel_rfl) (vcn_iStarAssertions a b k hp)) tot_fn
abbrev c_frAcc : Con := ⟨[.int, .pasn, .pasn], [.bool], fun (m, b, a, _) => asV a = true /\ asV b = true, .inl fun (m, b, a, _) => (FRA m b a, ()), fun _ => 0⟩
abbrev L_frAcc : List (FuncId × Con) := [(20, c_iEntails), (32, c_iStarAssertions), (73, c_pickAtoms)]
abbrev P_frAcc : List (FuncId × PT) := []
def VC_frAcc (m : Int) (b : GAsn) (a : GAsn) (k : Nat) : Prop := True /\ True /\ True /\ True /\ ((a.facts.length <= 1048576 /\ a.atoms.length <= 1048576) /\ True /\ TN /\ TN /\ True) /\ ((b.facts.length <= 1048576 /\ b.atoms.length <= 1048576 /\ (⟨[], (pkA m a.atoms)⟩ : GAsn).facts.length <= 1048576 /\ (⟨[], (pkA m a.atoms)⟩ : GAsn).atoms.length <= 1048576) /\ True /\ TN /\ TN /\ True) /\ True /\ True /\ True /\ (TN /\ TN /\ TN /\ True) /\ (TF /\ TF) /\ True /\ True /\ True /\ (vcIf (starOk b (⟨[], (pkA m a.atoms)⟩ : GAsn)) (True /\ True /\ ((a.facts.length <= 281474976710656 /\ a.atoms.length <= 281474976710656 /\ (starL b (⟨[], (pkA m a.atoms)⟩ : GAsn)).facts.length <= 281474976710656 /\ (starL b (⟨[], (pkA m a.atoms)⟩ : GAsn)).atoms.length <= 281474976710656) /\ True /\ True) /\ True /\ True /\ ((((ENT a (starL b (⟨[], (pkA m a.atoms)⟩ : GAsn))), ()) : Bool × Unit) = (FRA m b a, ())) /\ True /\ True /\ True /\ True /\ TF) (True /\ True /\ (((false, ()) : Bool × Unit) = (FRA m b a, ())) /\ True /\ True /\ True /\ True /\ TF))
theorem vcn_frAcc (m : Int) (b : GAsn) (a : GAsn) (k : Nat) (hp : asV a = true /\ asV b = true) : VC_frAcc m b a k := by
 unfold VC_frAcc
 simp only [cln, Nat.reduceEqDiff, Nat.reduceLeDiff, Nat.reduceAdd]
 all_goals (try simp only [opn])
 all_goals (repeat' (first | apply And.intro | intro _))
 all_goals (repeat (cases ‹_ /\ _›))
 all_goals (first | with_reducible exact True.intro | (exfalso; contradiction) | omega | with_reducible assumption | with_reducible rfl | skip)
 all_goals (try have hA := fo_len6 ‹asV a = true›)
 all_goals (try have hB := fo_len6 ‹asV b = true›)
 all_goals (first
  | omega
  | with_reducible exact pk200 (by omega)
  | (with_reducible refine Nat.le_trans (m := 200) ?_ (by decide); first
   | with_reducible exact star_pkF (by omega) | with_reducible exact star_pkA (by omega) (by omega))
  | with_reducible exact fra_y ‹_› | with_reducible exact fra_n ‹_›
  | with_reducible exact (frm_no1 ‹_›).1 | with_reducible exact (frm_no1 ‹_›).2 | with_reducible exact (frm_no2 ‹_›).1 | with_reducible exact (frm_no2 ‹_›).2
  | with_reducible exact (frm_n ‹_› ‹_› ‹_›).1 | with_reducible exact (frm_n ‹_› ‹_› ‹_›).2
  | with_reducible exact (frm_y ‹_› ‹_› ‹_›).1 | with_reducible exact (frm_y ‹_› ‹_› ‹_›).2
  | skip)
abbrev cl_frAcc : ClC := ⟨fun m b a => asV a = true /\ asV b = true, fun m b a => FRA m b a⟩
theorem ok_frAcc : FnOk Try.prog E 82 c_frAcc :=
 fn_okQ (l := L_frAcc) (lp := P_frAcc) (hp := fun _ => false) (gcs := fun _ => none) (perm := fun _ => []) tabOk mix ⟨ok_iEntails, ok_iStarAssertions, ok_pickAtoms, trivial⟩ trivial Try.func82 rfl (by kernel_rfl) (by decide) (by kernel_rfl) (anns := fun x _ => fun _ _ => none) (fun ⟨m, b, a, _⟩ k hp _ => Eq.mp (by kernel_rfl) (vcn_frAcc m b a k hp)) tot_fn
abbrev c_iFrameOf : Con := ⟨[.asn, .asn], [.asn, .bool], fun (a, b, _) => a.facts.length <= 281474976710656 /\ a.atoms.length <= 281474976710656 /\ b.facts.length <= 281474976710656 /\ b.atoms.length <= 281474976710656, .inl fun (a, b, _) => (frmL a b, frmB a b, ()), fun _ => 0⟩
abbrev L_iFrameOf : List (FuncId × Con) := [(37, c_iAssertionValid), (73, c_pickAtoms)]
abbrev P_iFrameOf : List (FuncId × PT) := [(81, ptLM 82 cl_frAcc)]
def hp_iFrameOf : Nat -> Bool
 | 3 => true
 | _ => false
def VC_iFrameOf_1 (a : GAsn) (b : GAsn) : Prop := (((⟨([] : List GFact), ([] : List GAtom)⟩ : GAsn), false, ()) : GAsn × Bool × Unit) = (frmL a b, frmB a b, ())
def VC_iFrameOf_2 (a : GAsn) (b : GAsn) : Prop := (TN /\ TN /\ True) /\ (TF /\ TF) /\ True /\ (VC_iFrameOf_1 a b) /\ ((((256 : Nat) ≠ 257) /\ True) /\ True /\ True) /\ ((TF /\ TF) /\ (TF /\ TF) /\ True) /\ True /\ (True /\ True /\ True) /\ TF
def VC_iFrameOf (a : GAsn) (b : GAsn) (k : Nat) : Prop := TN /\ TN /\ (TN /\ TN /\ TN /\ True) /\ True /\ True /\ ((a.facts.length <= 281474976710656 /\ a.atoms.length <= 281474976710656) /\ True /\ True) /\ True /\ True /\ (vcIf (!(asV a)) (True /\ (VC_iFrameOf_2 a b)) (True /\ ((b.facts.length <= 281474976710656 /\ b.atoms.length <= 281474976710656) /\ True /\ True) /\ True /\ True /\ (vcIf (!(asV b)) (VC_iFrameOf_2 a b) (True /\ True /\ True /\ True /\ ((82 : Nat) = 82) /\ ((none : Option Nat) = none) /\ (0 <= ((a.atoms.length : Nat) : Int) /\ ((a.atoms.length : Nat) : Int) <= 62) /\ (∀ m1 : Int, (0 : Int) <= m1 -> m1 < (2 : Int) ^ (((a.atoms.length : Nat) : Int)).toNat -> asV a = true /\ asV b = true) /\ True /\ True /\ True /\ True /\ True /\ True /\ True /\ (vcIf (!(lmB (fun m1 => FRA m1 b a) ((a.atoms.length : Nat) : Int))) ((TN /\ TN /\ True) /\ (TF /\ TF) /\ True /\ (VC_iFrameOf_1 a b) /\ ((((432 : Nat) ≠ 433) /\ True) /\ True /\ True) /\ ((TF /\ TF) /\ (TF /\ TF) /\ True) /\ True /\ (True /\ True /\ True) /\ TF) (True /\ True /\ ((a.facts.length <= 1048576 /\ a.atoms.length <= 1048576) /\ True /\ TN /\ TN /\ True) /\ (TF /\ TF) /\ True /\ ((((⟨[], (pkA (lmI (fun m1 => FRA m1 b a) ((a.atoms.length : Nat) : Int)) a.atoms)⟩ : GAsn), true, ()) : GAsn × Bool × Unit) = (frmL a b, frmB a b, ())) /\ ((((480 : Nat) ≠ 481) /\ True) /\ True /\ True) /\ ((TF /\ TF) /\ (TF /\ TF) /\ True) /\ True /\ (True /\ True /\ True) /\ TF))))))
theorem vcn_iFrameOf (a : GAsn) (b : GAsn) (k : Nat) (hp : a.facts.length <= 281474976710656 /\ a.atoms.length <= 281474976710656 /\ b.facts.length <= 281474976710656 /\ b.atoms.length <= 281474976710656) : VC_iFrameOf a b k := by
 unfold VC_iFrameOf VC_iFrameOf_2 VC_iFrameOf_1
 simp only [cln, Nat.reduceEqDiff, Nat.reduceLeDiff, Nat.reduceAdd]
 all_goals (try simp only [opn])
 all_goals (repeat' (first | apply And.intro | intro _))
 all_goals (repeat (cases ‹_ /\ _›))
 all_goals (first | with_reducible exact True.intro | (exfalso; contradiction) | omega | with_reducible assumption | with_reducible rfl | skip)
 all_goals (try have hA := fo_len6 ‹asV a = true›)
 all_goals (try have hB := fo_len6 ‹asV b = true›)
 all_goals (first
  | omega
  | with_reducible exact pk200 (by omega)
  | (with_reducible refine Nat.le_trans (m := 200) ?_ (by decide); first
   | with_reducible exact star_pkF (by omega) | with_reducible exact star_pkA (by omega) (by omega))
  | with_reducible exact fra_y ‹_› | with_reducible exact fra_n ‹_›
  | with_reducible exact (frm_no1 ‹_›).1 | with_reducible exact (frm_no1 ‹_›).2 | with_reducible exact (frm_no2 ‹_›).1 | with_reducible exact (frm_no2 ‹_›).2
  | with_reducible exact (frm_n ‹_› ‹_› ‹_›).1 | with_reducible exact (frm_n ‹_› ‹_› ‹_›).2
  | with_reducible exact (frm_y ‹_› ‹_› ‹_›).1 | with_reducible exact (frm_y ‹_› ‹_› ‹_›).2
  | skip)
theorem ok_iFrameOf : FnOk Try.prog E 35 c_iFrameOf :=
 fn_okQ (l := L_iFrameOf) (lp := P_iFrameOf) (hp := hp_iFrameOf) (gcs := fun _ => none) (perm := fun _ => []) tabOk mix ⟨ok_iAssertionValid, ok_pickAtoms, trivial⟩ ⟨(ptok_lm (c := cl_frAcc) ok_frAcc), trivial⟩ Try.func35 rfl (by kernel_rfl) (by decide) (by kernel_rfl) (anns := fun x _ => fun _ _ => none) (fun ⟨a, b, _⟩ k hp _ => Eq.mp (by kernel_rfl) (vcn_iFrameOf a b k hp)) tot_fn
end Go.Proofs.Ytopjgjelkpkmmaa
