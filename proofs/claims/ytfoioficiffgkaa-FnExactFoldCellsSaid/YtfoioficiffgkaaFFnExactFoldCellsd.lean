/-
  Contracts of single functions of the program, each shown by the engine: what a call returns for arguments within the contract's bounds.
-/
import Derived.Test.YtfoioficiffgkaaFFnExactFoldCellsa
import Derived.Test.YtfoioficiffgkaaFFnExactFoldCellsc
import Derived.Test.YtfoioficiffgkaaEd
import Derived.Test.YtfoioficiffgkaaEe
set_option linter.unusedSimpArgs false
set_option linter.unusedVariables false
set_option linter.unusedSectionVars false

namespace Go.Proofs.Ytfoioficiffgkaa
open Go.SE Go.RowKit
set_option linter.unusedSimpArgs false
set_option linter.unusedVariables false
set_option maxHeartbeats 1000000
set_option maxRecDepth 100000
abbrev c_foldAt : Con := ⟨[.asn, .int, .int], [.asn], fun (a, i, q, _) => a.facts.length <= 1048576 /\ a.atoms.length <= 1048576 /\ 0 <= i /\ i < a.atoms.length /\ 0 <= q /\ q < a.atoms.length, .inl fun (a, i, q, _) => (⟨a.facts, (⟨2, (a.atoms.getD i.toNat ⟨0, 0, 0⟩).a, (a.atoms.getD q.toNat ⟨0, 0, 0⟩).b⟩ : GAtom) :: woF a.atoms i q a.atoms.length⟩, ()), fun _ => 0⟩
abbrev L_foldAt : List (FuncId × Con) := [(82, c_joinListsF)]
abbrev P_foldAt : List (FuncId × PT) := []
def an_foldAt (a : GAsn) (i : Int) (q : Int) : Nat -> St -> Option Ann
 | 3, se => some { α := Nat, ok := fun j => j <= a.atoms.length, mu := fun j => a.atoms.length - j, i0 := fun _ => 0, nx := fun a _ => (fun j => j + 1) a, live := [1, 2, 3, 6, 25, 26], sets := fun j => [(27, sv (.int .i64 j))], mids := [63, 96, 97, 111], blks := fun j => [], owns := fun j => [⟨7, .slot 7, .atom, (⟨2, (a.atoms.getD i.toNat ⟨0, 0, 0⟩).a, (a.atoms.getD q.toNat ⟨0, 0, 0⟩).b⟩ : GAtom) :: woF a.atoms i q j⟩], rd := fun r _ => r, base := 100000 }
 | _, _ => none
def VC_foldAt_1 (i : Int) (q : Int) (a : GAsn) : Prop := RL [.s (.c (.d (.val (.int .i64 i)))), .s (.c (.d (.val (.int .i64 q)))), .s (.c (.ptr 63 0)), .s (.c (.ptr 111 0)), .s (.c (.d (.arr .atom a.atoms))), .s (.c (.d (.val (.int .i64 ((a.atoms.length : Nat) : Int)))))]
def VC_foldAt_2 (a : GAsn) : Prop := RM [some (.blk [.d (.arr .fact a.facts), .d (.arr .atom a.atoms)]), some (.sl 96 .fact ([] : List GFact)), some (.sl 97 .atom ([] : List GAtom)), some (.blk [.own 96, .own 97])]
def VC_foldAt_3 (j1 : Nat) : Prop := ([.s (.c (.d (.val (.int .i64 (((j1 : Nat) : Int) + (1 : Int))))))] : List S) = [.s (.c (.d (.val (.int .i64 (((j1 + 1) : Nat) : Int)))))]
def VC_foldAt_4 (j1 : Nat) (a : GAsn) (i : Int) (q : Int) : Prop := (inK .i64 (((j1 : Nat) : Int) + (1 : Int))) /\ True /\ ((j1 + 1) <= a.atoms.length) /\ (a.atoms.length - (j1 + 1) < a.atoms.length - j1) /\ TT /\ (VC_foldAt_1 i q a) /\ (VC_foldAt_3 j1) /\ (VC_foldAt_2 a) /\ (RM []) /\ (((some ((⟨2, (a.atoms.getD i.toNat ⟨0, 0, 0⟩).a, (a.atoms.getD q.toNat ⟨0, 0, 0⟩).b⟩ : GAtom) :: woF a.atoms i q j1) : Option (List GAtom)) = some ((⟨2, (a.atoms.getD i.toNat ⟨0, 0, 0⟩).a, (a.atoms.getD q.toNat ⟨0, 0, 0⟩).b⟩ : GAtom) :: woF a.atoms i q (j1 + 1))) /\ True) /\ TT
def VC_foldAt (a : GAsn) (i : Int) (q : Int) (k : Nat) : Prop := TN /\ (TN /\ TN /\ TN /\ True) /\ True /\ True /\ True /\ (0 <= i /\ i < ((a.atoms.length : Nat) : Int)) /\ True /\ True /\ True /\ True /\ True /\ (0 <= q /\ q < ((a.atoms.length : Nat) : Int)) /\ True /\ True /\ True /\ (TN /\ True) /\ True /\ True /\ True /\ True /\ True /\ ((0 <= a.atoms.length) /\ TT /\ (VC_foldAt_1 i q a) /\ (([.s (.c (.d (.val (.int .i64 (0 : Int)))))] : List S) = [.s (.c (.d (.val (.int .i64 ((0 : Nat) : Int)))))]) /\ (VC_foldAt_2 a) /\ (RM []) /\ (((some ([(⟨(2 : Int), (a.atoms.getD i.toNat (⟨0, 0, 0⟩ : GAtom)).a, (a.atoms.getD q.toNat (⟨0, 0, 0⟩ : GAtom)).b⟩ : GAtom)] : List GAtom) : Option (List GAtom)) = some ((⟨2, (a.atoms.getD i.toNat ⟨0, 0, 0⟩).a, (a.atoms.getD q.toNat ⟨0, 0, 0⟩).b⟩ : GAtom) :: woF a.atoms i q 0)) /\ True) /\ TT) /\ (∀ j1 : Nat, (j1 <= a.atoms.length) -> True /\ (vcIf (decide (((j1 : Nat) : Int) < ((a.atoms.length : Nat) : Int))) (True /\ (0 <= ((j1 : Nat) : Int) /\ ((j1 : Nat) : Int) < ((a.atoms.length : Nat) : Int)) /\ True /\ (TN /\ True) /\ True /\ (TF /\ TF) /\ True /\ True /\ True /\ True /\ (vcIf (((j1 : Nat) : Int) != i) (True /\ True /\ True /\ True /\ (vcIf (((j1 : Nat) : Int) != q) (True /\ True /\ (TN /\ True) /\ (TN /\ TF /\ TF /\ (((⟨2, (a.atoms.getD i.toNat ⟨0, 0, 0⟩).a, (a.atoms.getD q.toNat ⟨0, 0, 0⟩).b⟩ : GAtom) :: woF a.atoms i q j1).length + ([(a.atoms.getD j1 (⟨0, 0, 0⟩ : GAtom))] : List GAtom).length <= 4294967296)) /\ True /\ (inK .i64 (((j1 : Nat) : Int) + (1 : Int))) /\ True /\ ((j1 + 1) <= a.atoms.length) /\ (a.atoms.length - (j1 + 1) < a.atoms.length - j1) /\ TT /\ (VC_foldAt_1 i q a) /\ (VC_foldAt_3 j1) /\ (VC_foldAt_2 a) /\ (RM []) /\ (((some (((⟨2, (a.atoms.getD i.toNat ⟨0, 0, 0⟩).a, (a.atoms.getD q.toNat ⟨0, 0, 0⟩).b⟩ : GAtom) :: woF a.atoms i q j1) ++ ([(a.atoms.getD j1 (⟨0, 0, 0⟩ : GAtom))] : List GAtom)) : Option (List GAtom)) = some ((⟨2, (a.atoms.getD i.toNat ⟨0, 0, 0⟩).a, (a.atoms.getD q.toNat ⟨0, 0, 0⟩).b⟩ : GAtom) :: woF a.atoms i q (j1 + 1))) /\ True) /\ TT) (VC_foldAt_4 j1 a i q))) (True /\ (VC_foldAt_4 j1 a i q)))) (True /\ True /\ ((a.facts.length <= 1048576 /\ ([] : List GFact).length <= 1048576) /\ True /\ TN /\ True) /\ True /\ (TN /\ TN /\ True) /\ (TF /\ TF) /\ ((((⟨(a.facts ++ ([] : List GFact)), (⟨2, (a.atoms.getD i.toNat ⟨0, 0, 0⟩).a, (a.atoms.getD q.toNat ⟨0, 0, 0⟩).b⟩ : GAtom) :: woF a.atoms i q j1⟩ : GAsn), ()) : GAsn × Unit) = (⟨a.facts, (⟨2, (a.atoms.getD i.toNat ⟨0, 0, 0⟩).a, (a.atoms.getD q.toNat ⟨0, 0, 0⟩).b⟩ : GAtom) :: woF a.atoms i q a.atoms.length⟩, ())) /\ ((((100752 : Nat) ≠ 7) /\ True) /\ True /\ True) /\ ((TF /\ TF) /\ (TF /\ TF) /\ True) /\ True /\ (True /\ True /\ True) /\ TF)))
theorem vcn_foldAt (a : GAsn) (i : Int) (q : Int) (k : Nat) (hp : a.facts.length <= 1048576 /\ a.atoms.length <= 1048576 /\ 0 <= i /\ i < a.atoms.length /\ 0 <= q /\ q < a.atoms.length) : VC_foldAt a i q k := by
 unfold VC_foldAt VC_foldAt_4 VC_foldAt_3 VC_foldAt_2 VC_foldAt_1
 simp only [cln, Nat.reduceEqDiff, Nat.reduceLeDiff, Nat.reduceAdd]
 all_goals (try simp only [opn])
 all_goals (repeat' (first | apply And.intro | intro _))
 all_goals (repeat (cases ‹_ /\ _›))
 all_goals (first | (exfalso; contradiction) | omega | with_reducible assumption | with_reducible rfl | skip)
 all_goals (first
  | rfl
  | (exact woF_bd (by omega))
  | (rw [List.cons_append, woF_go ‹_› ‹_›]; done)
  | (rw [woF_skip (.inl ‹_›)]; done) | (rw [woF_skip (.inr ‹_›)]; done)
  | (have e := Nat.le_antisymm ‹_ <= a.atoms.length› (Nat.le_of_not_lt ‹¬ _ < a.atoms.length›); rw [e]; done)
  | skip)
theorem ok_foldAt : FnOk Try.prog E 142 c_foldAt :=
 fn_okQ (l := L_foldAt) (lp := P_foldAt) (hp := fun _ => false) (gcs := fun _ => none) (perm := fun _ => []) tabOk mix ⟨ok_joinListsF, trivial⟩ trivial Try.func142 rfl (by kernel_rfl) (by decide) (by kernel_rfl) (anns := fun x _ => an_foldAt x.1 x.2.1 x.2.2.1) (fun ⟨a, i, q, _⟩ k hp _ => Eq.mp (by kernel_rfl) (vcn_foldAt a i q k hp)) tot_fn
abbrev c_firstFold : Con := ⟨[.asn, .fnc 96], [.asn, .bool], fun (a, f, _) => asV a = true, .inl fun (a, f, _) => (fcL a, fcB a, ()), fun _ => 0⟩
abbrev L_firstFold : List (FuncId × Con) := [(31, c_iEntails), (142, c_foldAt)]
abbrev P_firstFold : List (FuncId × PT) := [(96, pt_foldAny)]
def an_firstFold (a : GAsn) (f : Unit) : Nat -> St -> Option Ann
 | 2, se => some { α := Nat, ok := fun i => i <= a.atoms.length /\ noI a i = true, mu := fun i => a.atoms.length - i, i0 := fun _ => 0, nx := fun a _ => (fun i => i + 1) a, live := [1, 2, 4, 12, 13], sets := fun i => [(14, sv (.int .i64 i))], mids := [47, 64, 65, 79], blks := fun i => [], owns := fun i => [], rd := fun r _ => r, base := 100000 }
 | 5, se => some { α := Nat, ok := fun j => j <= a.atoms.length /\ noK a (intAt se 14).toNat j = true, mu := fun j => a.atoms.length - j, i0 := fun _ => 0, nx := fun a _ => (fun j => j + 1) a, live := [1, 2, 4, 6, 7, 12, 13, 14, 20, 21], sets := fun j => [(22, sv (.int .i64 j))], mids := [47, 64, 65, 79, 100127], blks := fun j => [], owns := fun j => [], rd := fun r _ => r, base := 200000 }
 | _, _ => none
def hp_firstFold : Nat -> Bool
 | 7 => true
 | _ => false
def VC_firstFold_1 (a : GAsn) : Prop := RL [.s (.c (.fn 96 [])), .s (.c (.ptr 47 0)), .s (.c (.ptr 79 0)), .s (.c (.d (.arr .atom a.atoms))), .s (.c (.d (.val (.int .i64 ((a.atoms.length : Nat) : Int)))))]
def VC_firstFold_2  : Prop := ([.s (.c (.d (.val (.int .i64 (0 : Int)))))] : List S) = [.s (.c (.d (.val (.int .i64 ((0 : Nat) : Int)))))]
def VC_firstFold_3 (a : GAsn) : Prop := (RM [some (.blk [.d (.arr .fact a.facts), .d (.arr .atom a.atoms)]), some (.sl 64 .fact ([] : List GFact)), some (.sl 65 .atom ([] : List GAtom)), some (.blk [.own 64, .own 65])]) /\ (RM []) /\ True /\ TT
def VC_firstFold_4 (i1 : Nat) (a : GAsn) : Prop := RL [.s (.c (.fn 96 [])), .s (.c (.ptr 47 0)), .s (.c (.ptr 79 0)), .s (.c (.d (.val (.int .i64 ((i1 : Nat) : Int))))), .s (.c (.ptr 100127 0)), .s (.c (.d (.arr .atom a.atoms))), .s (.c (.d (.val (.int .i64 ((a.atoms.length : Nat) : Int))))), .s (.c (.d (.val (.int .i64 ((i1 : Nat) : Int))))), .s (.c (.d (.arr .atom a.atoms))), .s (.c (.d (.val (.int .i64 ((a.atoms.length : Nat) : Int)))))]
def VC_firstFold_5 (a : GAsn) (i1 : Nat) : Prop := (RM [some (.blk [.d (.arr .fact a.facts), .d (.arr .atom a.atoms)]), some (.sl 64 .fact ([] : List GFact)), some (.sl 65 .atom ([] : List GAtom)), some (.blk [.own 64, .own 65]), some (.blk [.d (.val (.int .i64 ((a.atoms.getD i1 (⟨0, 0, 0⟩ : GAtom)).kind))), .d (.val (.int .i64 ((a.atoms.getD i1 (⟨0, 0, 0⟩ : GAtom)).a))), .d (.val (.int .i64 ((a.atoms.getD i1 (⟨0, 0, 0⟩ : GAtom)).b)))])]) /\ (RM []) /\ True /\ TT
def VC_firstFold_6 (j2 : Nat) : Prop := ([.s (.c (.d (.val (.int .i64 (((j2 : Nat) : Int) + (1 : Int))))))] : List S) = [.s (.c (.d (.val (.int .i64 (((j2 + 1) : Nat) : Int)))))]
def VC_firstFold_7 (j2 : Nat) (a : GAsn) (i1 : Nat) : Prop := (inK .i64 (((j2 : Nat) : Int) + (1 : Int))) /\ True /\ ((j2 + 1) <= a.atoms.length /\ noK a (((i1 : Nat) : Int)).toNat (j2 + 1) = true) /\ (a.atoms.length - (j2 + 1) < a.atoms.length - j2) /\ TT /\ (VC_firstFold_4 i1 a) /\ (VC_firstFold_6 j2) /\ (VC_firstFold_5 a i1)
def VC_firstFold_8 (j2 : Nat) (a : GAsn) (i1 : Nat) : Prop := True /\ (VC_firstFold_7 j2 a i1)
def VC_firstFold_9 (i1 : Nat) (a : GAsn) : Prop := (True /\ (vcIf (decide (((i1 : Nat) : Int) < ((a.atoms.length : Nat) : Int))) (True /\ (0 <= ((i1 : Nat) : Int) /\ ((i1 : Nat) : Int) < ((a.atoms.length : Nat) : Int)) /\ True /\ (TN /\ True) /\ True /\ (TF /\ TF) /\ True /\ True /\ True /\ True /\ ((0 <= a.atoms.length /\ noK a (((i1 : Nat) : Int)).toNat 0 = true) /\ TT /\ (VC_firstFold_4 i1 a) /\ VC_firstFold_2 /\ (VC_firstFold_5 a i1)) /\ (∀ j2 : Nat, (j2 <= a.atoms.length /\ noK a (((i1 : Nat) : Int)).toNat j2 = true) -> True /\ (vcIf (decide (((j2 : Nat) : Int) < ((a.atoms.length : Nat) : Int))) (True /\ (0 <= ((j2 : Nat) : Int) /\ ((j2 : Nat) : Int) < ((a.atoms.length : Nat) : Int)) /\ True /\ (TN /\ True) /\ True /\ (TF /\ TF) /\ True /\ True /\ True /\ True /\ (vcIf (((i1 : Nat) : Int) == ((j2 : Nat) : Int)) (True /\ True /\ (VC_firstFold_8 j2 a i1)) (True /\ True /\ True /\ True /\ True /\ True /\ True /\ (vcIf (((a.atoms.getD i1 (⟨0, 0, 0⟩ : GAtom)).b) != ((a.atoms.getD j2 (⟨0, 0, 0⟩ : GAtom)).a)) (VC_firstFold_8 j2 a i1) (True /\ True /\ True /\ ((1 : Nat) <= 3) /\ True /\ True /\ True /\ True /\ True /\ True /\ True /\ ((a.facts.length <= 1048576 /\ a.atoms.length <= 1048576 /\ 0 <= ((i1 : Nat) : Int) /\ ((i1 : Nat) : Int) < a.atoms.length /\ 0 <= ((j2 : Nat) : Int) /\ ((j2 : Nat) : Int) < a.atoms.length) /\ True /\ TN /\ TN /\ True) /\ (TN /\ TN /\ TN /\ True) /\ (TF /\ TF) /\ True /\ True /\ ((a.facts.length <= 281474976710656 /\ a.atoms.length <= 281474976710656 /\ (⟨a.facts, ((⟨2, (a.atoms.getD ((i1 : Nat) : Int).toNat ⟨0, 0, 0⟩).a, (a.atoms.getD ((j2 : Nat) : Int).toNat ⟨0, 0, 0⟩).b⟩ : GAtom) :: woF a.atoms ((i1 : Nat) : Int) ((j2 : Nat) : Int) a.atoms.length)⟩ : GAsn).facts.length <= 281474976710656 /\ (⟨a.facts, ((⟨2, (a.atoms.getD ((i1 : Nat) : Int).toNat ⟨0, 0, 0⟩).a, (a.atoms.getD ((j2 : Nat) : Int).toNat ⟨0, 0, 0⟩).b⟩ : GAtom) :: woF a.atoms ((i1 : Nat) : Int) ((j2 : Nat) : Int) a.atoms.length)⟩ : GAsn).atoms.length <= 281474976710656) /\ True /\ True) /\ (vcIf (ENT a (⟨a.facts, ((⟨2, (a.atoms.getD ((i1 : Nat) : Int).toNat ⟨0, 0, 0⟩).a, (a.atoms.getD ((j2 : Nat) : Int).toNat ⟨0, 0, 0⟩).b⟩ : GAtom) :: woF a.atoms ((i1 : Nat) : Int) ((j2 : Nat) : Int) a.atoms.length)⟩ : GAsn)) (True /\ (TF /\ TF) /\ True /\ ((((⟨a.facts, ((⟨2, (a.atoms.getD ((i1 : Nat) : Int).toNat ⟨0, 0, 0⟩).a, (a.atoms.getD ((j2 : Nat) : Int).toNat ⟨0, 0, 0⟩).b⟩ : GAtom) :: woF a.atoms ((i1 : Nat) : Int) ((j2 : Nat) : Int) a.atoms.length)⟩ : GAsn), true, ()) : GAsn × Bool × Unit) = (fcL a, fcB a, ())) /\ ((((200752 : Nat) ≠ 200753) /\ True) /\ True /\ True) /\ ((TF /\ TF) /\ (TF /\ TF) /\ True) /\ True /\ (True /\ True /\ True) /\ TF) (VC_firstFold_7 j2 a i1))))))) ((inK .i64 (((i1 : Nat) : Int) + (1 : Int))) /\ True /\ ((i1 + 1) <= a.atoms.length /\ noI a (i1 + 1) = true) /\ (a.atoms.length - (i1 + 1) < a.atoms.length - i1) /\ TT /\ (VC_firstFold_1 a) /\ (VC_firstFold_6 i1) /\ (VC_firstFold_3 a))))) ((TN /\ TN /\ True) /\ (TF /\ TF) /\ True /\ ((((⟨([] : List GFact), ([] : List GAtom)⟩ : GAsn), false, ()) : GAsn × Bool × Unit) = (fcL a, fcB a, ())) /\ ((((100864 : Nat) ≠ 100865) /\ True) /\ True /\ True) /\ ((TF /\ TF) /\ (TF /\ TF) /\ True) /\ True /\ (True /\ True /\ True) /\ TF)))
def VC_firstFold (a : GAsn) (f : Unit) (k : Nat) : Prop := TN /\ (TN /\ TN /\ TN /\ True) /\ True /\ True /\ True /\ True /\ True /\ ((0 <= a.atoms.length /\ noI a 0 = true) /\ TT /\ (VC_firstFold_1 a) /\ VC_firstFold_2 /\ (VC_firstFold_3 a)) /\ (∀ i1 : Nat, (i1 <= a.atoms.length /\ noI a i1 = true) -> (VC_firstFold_9 i1 a))
theorem vcn_firstFold (a : GAsn) (f : Unit) (k : Nat) (hp : asV a = true) : VC_firstFold a f k := by
 unfold VC_firstFold VC_firstFold_9 VC_firstFold_8 VC_firstFold_7 VC_firstFold_6 VC_firstFold_5 VC_firstFold_4 VC_firstFold_3 VC_firstFold_2 VC_firstFold_1
 simp only [cln, Nat.reduceEqDiff, Nat.reduceLeDiff, Nat.reduceAdd]
 all_goals (try simp only [opn])
 all_goals (repeat' (first | apply And.intro | intro _))
 all_goals (repeat (cases ‹_ /\ _›))
 all_goals (first | (exfalso; contradiction) | omega | with_reducible assumption | with_reducible rfl | skip)
 all_goals (try have h6 := fo_len6 ‹asV a = true›)
 all_goals (first
  | omega
  | with_reducible exact (fo_bad ‹_›).1.symm | with_reducible exact (fo_bad ‹_›).2.symm
  | with_reducible exact noI_zero | with_reducible exact noK_zero
  | with_reducible exact noK_same ‹_› ‹_› | with_reducible exact noK_apart ‹_› ‹_› | with_reducible exact foR_no ‹_› ‹_›
  | (exact woF_bd (by omega))
  | with_reducible exact (foR_hit ‹_› ‹_› ‹_› ‹_› ‹_› ‹_› ‹_› ‹_›).1
  | with_reducible exact (foR_hit ‹_› ‹_› ‹_› ‹_› ‹_› ‹_› ‹_› ‹_›).2
  | with_reducible exact noI_step ‹_› ‹_› ‹_› ‹_›
  | with_reducible exact (fo_end ‹_› ‹_› ‹_›).1.symm | with_reducible exact (fo_end ‹_› ‹_› ‹_›).2.symm
  | skip)
theorem ok_firstFold : FnOk Try.prog E 95 c_firstFold :=
 fn_okQ (l := L_firstFold) (lp := P_firstFold) (hp := hp_firstFold) (gcs := fun _ => none) (perm := fun _ => []) tabOk mix ⟨ok_iEntails, ok_foldAt, trivial⟩ ⟨ptok_foldAny, trivial⟩ Try.func95 rfl (by kernel_rfl) (by decide) (by kernel_rfl) (anns := fun x _ => an_firstFold x.1 x.2.1) (fun ⟨a, f, _⟩ k hp _ => Eq.mp (by kernel_rfl) (vcn_firstFold a f k hp)) tot_fn
abbrev c_iFoldCells : Con := ⟨[.asn], [.asn, .bool], fun (a, _) => a.facts.length <= 281474976710656 /\ a.atoms.length <= 281474976710656, .inl fun (a, _) => (fcL a, fcB a, ()), fun _ => 0⟩
abbrev L_iFoldCells : List (FuncId × Con) := [(33, c_iAssertionValid), (95, c_firstFold)]
abbrev P_iFoldCells : List (FuncId × PT) := [(96, pt_foldAny)]
def hp_iFoldCells : Nat -> Bool
 | 3 => true
 | _ => false
def VC_iFoldCells (a : GAsn) (k : Nat) : Prop := TN /\ (TN /\ TN /\ TN /\ True) /\ True /\ True /\ ((a.facts.length <= 281474976710656 /\ a.atoms.length <= 281474976710656) /\ True /\ True) /\ True /\ (vcIf (!(asV a)) ((TN /\ TN /\ True) /\ (TF /\ TF) /\ True /\ ((((⟨([] : List GFact), ([] : List GAtom)⟩ : GAsn), false, ()) : GAsn × Bool × Unit) = (fcL a, fcB a, ())) /\ ((((112 : Nat) ≠ 113) /\ True) /\ True /\ True) /\ ((TF /\ TF) /\ (TF /\ TF) /\ True) /\ True /\ (True /\ True /\ True) /\ TF) (True /\ ((asV a = true) /\ True /\ TN /\ TN /\ True) /\ True /\ True /\ (TF /\ TF) /\ True /\ ((((fcL a), (fcB a), ()) : GAsn × Bool × Unit) = (fcL a, fcB a, ())) /\ ((((144 : Nat) ≠ 145) /\ True) /\ True /\ True) /\ ((TF /\ TF) /\ (TF /\ TF) /\ True) /\ True /\ (True /\ True /\ True) /\ TF))
theorem vcn_iFoldCells (a : GAsn) (k : Nat) (hp : a.facts.length <= 281474976710656 /\ a.atoms.length <= 281474976710656) : VC_iFoldCells a k := by
 unfold VC_iFoldCells
 simp only [cln, Nat.reduceEqDiff, Nat.reduceLeDiff, Nat.reduceAdd]
 all_goals (try simp only [opn])
 all_goals (repeat' (first | apply And.intro | intro _))
 all_goals (repeat (cases ‹_ /\ _›))
 all_goals (first | (exfalso; contradiction) | omega | with_reducible assumption | with_reducible rfl | skip)
 all_goals (try have h6 := fo_len6 ‹asV a = true›)
 all_goals (first
  | omega
  | with_reducible exact (fo_bad ‹_›).1.symm | with_reducible exact (fo_bad ‹_›).2.symm
  | with_reducible exact noI_zero | with_reducible exact noK_zero
  | with_reducible exact noK_same ‹_› ‹_› | with_reducible exact noK_apart ‹_› ‹_› | with_reducible exact foR_no ‹_› ‹_›
  | (exact woF_bd (by omega))
  | with_reducible exact (foR_hit ‹_› ‹_› ‹_› ‹_› ‹_› ‹_› ‹_› ‹_›).1
  | with_reducible exact (foR_hit ‹_› ‹_› ‹_› ‹_› ‹_› ‹_› ‹_› ‹_›).2
  | with_reducible exact noI_step ‹_› ‹_› ‹_› ‹_›
  | with_reducible exact (fo_end ‹_› ‹_› ‹_›).1.symm | with_reducible exact (fo_end ‹_› ‹_› ‹_›).2.symm
  | skip)
theorem ok_iFoldCells : FnOk Try.prog E 41 c_iFoldCells :=
 fn_okQ (l := L_iFoldCells) (lp := P_iFoldCells) (hp := hp_iFoldCells) (gcs := fun _ => none) (perm := fun _ => []) tabOk mix ⟨ok_iAssertionValid, ok_firstFold, trivial⟩ ⟨ptok_foldAny, trivial⟩ Try.func41 rfl (by kernel_rfl) (by decide) (by kernel_rfl) (anns := fun x _ => fun _ _ => none) (fun ⟨a, _⟩ k hp _ => Eq.mp (by kernel_rfl) (vcn_iFoldCells a k hp)) tot_fn
abbrev c_l1Is : Con := ⟨[.int], [.bool], fun _ => True, .inl fun (t, _) => (isT t, ()), fun _ => 0⟩
abbrev L_l1Is : List (FuncId × Con) := []
abbrev P_l1Is : List (FuncId × PT) := []
def VC_l1Is (t : Int) (k : Nat) : Prop := True /\ True /\ True /\ True /\ (vcIf (decide ((0 : Int) <= t)) (True /\ True /\ True /\ True /\ (((decide (t <= (8 : Int)), ()) : Bool × Unit) = (isT t, ())) /\ True /\ True /\ True /\ True /\ TF) (True /\ True /\ (((false, ()) : Bool × Unit) = (isT t, ())) /\ True /\ True /\ True /\ True /\ TF))
theorem vcn_l1Is (t : Int) (k : Nat) : VC_l1Is t k := by
 unfold VC_l1Is
 simp only [cln, Nat.reduceEqDiff, Nat.reduceLeDiff, Nat.reduceAdd]
 cases h : decide (0 <= t) <;> simp [vcIf, isT, h]
theorem ok_l1Is : FnOk Try.prog E 140 c_l1Is :=
 fn_okQ (l := L_l1Is) (lp := P_l1Is) (hp := fun _ => false) (gcs := fun _ => none) (perm := fun _ => []) tabOk mix trivial trivial Try.func140 rfl (by kernel_rfl) (by decide) (by kernel_rfl) (anns := fun x _ => fun _ _ => none) (fun ⟨t, _⟩ k _ _ => Eq.mp (by kernel_rfl) (vcn_l1Is t k)) tot_fn
abbrev c_l3Atom : Con := ⟨[.atom], [.bool], fun _ => True, .inl fun (x, _) => (atV x, ()), fun _ => 0⟩
abbrev L_l3Atom : List (FuncId × Con) := [(140, c_l1Is)]
abbrev P_l3Atom : List (FuncId × PT) := []
def VC_l3Atom_1 (x : GAtom) : Prop := True /\ True /\ (((false, ()) : Bool × Unit) = (atV x, ())) /\ True /\ True /\ True /\ True /\ TF
def VC_l3Atom_2 (x : GAtom) : Prop := True /\ True /\ (True /\ True /\ True) /\ True /\ True /\ (vcIf (isT x.a) (True /\ True /\ (True /\ True /\ True) /\ True /\ True /\ ((((isT x.b), ()) : Bool × Unit) = (atV x, ())) /\ True /\ True /\ True /\ True /\ TF) (VC_l3Atom_1 x))
def VC_l3Atom (x : GAtom) (k : Nat) : Prop := TN /\ True /\ True /\ True /\ True /\ True /\ (vcIf (x.kind == (1 : Int)) (True /\ True /\ (VC_l3Atom_2 x)) (True /\ True /\ True /\ True /\ True /\ (vcIf (x.kind == (2 : Int)) (VC_l3Atom_2 x) (True /\ True /\ (VC_l3Atom_1 x)))))
theorem vcn_l3Atom (x : GAtom) (k : Nat) : VC_l3Atom x k := by
 unfold VC_l3Atom VC_l3Atom_2 VC_l3Atom_1
 simp only [cln, Nat.reduceEqDiff, Nat.reduceLeDiff, Nat.reduceAdd]
 all_goals (try simp only [opn])
 all_goals (repeat' (first | apply And.intro | intro _))
 all_goals (first | omega | (simp_all; done) | grind [atV])
theorem ok_l3Atom : FnOk Try.prog E 111 c_l3Atom :=
 fn_okQ (l := L_l3Atom) (lp := P_l3Atom) (hp := fun _ => false) (gcs := fun _ => none) (perm := fun _ => []) tabOk mix ⟨ok_l1Is, trivial⟩ trivial Try.func111 rfl (by kernel_rfl) (by decide) (by kernel_rfl) (anns := fun x _ => fun _ _ => none) (fun ⟨x, _⟩ k _ _ => Eq.mp (by kernel_rfl) (vcn_l3Atom x k)) tot_fn
abbrev c_sFactValid : Con := ⟨[.fact], [.bool], fun _ => True, .inl fun (f, _) => (fV f, ()), fun _ => 0⟩
abbrev L_sFactValid : List (FuncId × Con) := [(140, c_l1Is)]
abbrev P_sFactValid : List (FuncId × PT) := []
def VC_sFactValid (f : GFact) (k : Nat) : Prop := TN /\ True /\ True /\ True /\ (True /\ True /\ True) /\ True /\ (vcIf (isT f.a) (True /\ True /\ (True /\ True /\ True) /\ True /\ True /\ ((((isT f.b), ()) : Bool × Unit) = (fV f, ())) /\ True /\ True /\ True /\ True /\ TF) (True /\ True /\ (((false, ()) : Bool × Unit) = (fV f, ())) /\ True /\ True /\ True /\ True /\ TF))
theorem vcn_sFactValid (f : GFact) (k : Nat) : VC_sFactValid f k := by
 unfold VC_sFactValid
 simp only [cln, Nat.reduceEqDiff, Nat.reduceLeDiff, Nat.reduceAdd]
 cases h : isT f.a <;> simp [vcIf, fV, h]
theorem ok_sFactValid : FnOk Try.prog E 91 c_sFactValid :=
 fn_okQ (l := L_sFactValid) (lp := P_sFactValid) (hp := fun _ => false) (gcs := fun _ => none) (perm := fun _ => []) tabOk mix ⟨ok_l1Is, trivial⟩ trivial Try.func91 rfl (by kernel_rfl) (by decide) (by kernel_rfl) (anns := fun x _ => fun _ _ => none) (fun ⟨f, _⟩ k _ _ => Eq.mp (by kernel_rfl) (vcn_sFactValid f k)) tot_fn
abbrev c_sFactsValid : Con := ⟨[.sl .fact], [.bool], fun (l, _) => l.length <= 281474976710656, .inl fun (l, _) => (fsV l, ()), fun _ => 0⟩
abbrev L_sFactsValid : List (FuncId × Con) := [(91, c_sFactValid)]
abbrev P_sFactsValid : List (FuncId × PT) := []
def an_sFactsValid (l : List GFact) : Nat -> St -> Option Ann
 | 2, se => some { α := Nat, ok := fun i => i <= l.length /\ (l.take i).all fV = true, mu := fun i => l.length - i, i0 := fun _ => 0, nx := fun a _ => (fun i => i + 1) a, live := [0], sets := fun i => [(3, sv (.int .i64 i))], mids := [], blks := fun i => [], owns := fun i => [], rd := fun r _ => r, base := 100000 }
 | _, _ => none
def VC_sFactsValid (l : List GFact) (k : Nat) : Prop := True /\ True /\ ((0 <= l.length /\ (l.take 0).all fV = true) /\ TT /\ (RL [.s (.c (.d (.arr .fact l)))]) /\ (([.s (.c (.d (.val (.int .i64 (0 : Int)))))] : List S) = [.s (.c (.d (.val (.int .i64 ((0 : Nat) : Int)))))]) /\ (RM []) /\ (RM []) /\ True /\ TT) /\ (∀ i1 : Nat, (i1 <= l.length /\ (l.take i1).all fV = true) -> True /\ True /\ True /\ True /\ (vcIf (decide (((i1 : Nat) : Int) < ((l.length : Nat) : Int))) (True /\ True /\ (0 <= ((i1 : Nat) : Int) /\ ((i1 : Nat) : Int) < ((l.length : Nat) : Int)) /\ True /\ (True /\ True /\ True) /\ True /\ (vcIf (!(fV (l.getD i1 (⟨false, 0, 0⟩ : GFact)))) (True /\ (((false, ()) : Bool × Unit) = (fsV l, ())) /\ True /\ True /\ True /\ True /\ TF) (True /\ (inK .i64 (((i1 : Nat) : Int) + (1 : Int))) /\ True /\ ((i1 + 1) <= l.length /\ (l.take (i1 + 1)).all fV = true) /\ (l.length - (i1 + 1) < l.length - i1) /\ TT /\ (RL [.s (.c (.d (.arr .fact l)))]) /\ (([.s (.c (.d (.val (.int .i64 (((i1 : Nat) : Int) + (1 : Int))))))] : List S) = [.s (.c (.d (.val (.int .i64 (((i1 + 1) : Nat) : Int)))))]) /\ (RM []) /\ (RM []) /\ True /\ TT))) (True /\ True /\ True /\ True /\ (((decide (((l.length : Nat) : Int) <= (12 : Int)), ()) : Bool × Unit) = (fsV l, ())) /\ True /\ True /\ True /\ True /\ TF)))
theorem vcn_sFactsValid (l : List GFact) (k : Nat) (hp : l.length <= 281474976710656) : VC_sFactsValid l k := by
 unfold VC_sFactsValid
 simp only [cln, Nat.reduceEqDiff, Nat.reduceLeDiff, Nat.reduceAdd]
 all_goals (try simp only [opn])
 all_goals (repeat' (first | apply And.intro | intro _))
 all_goals (first | omega | (simp_all; done) | grind [fsV, take_all, all_take, take_full, Ty.zero])
theorem ok_sFactsValid : FnOk Try.prog E 112 c_sFactsValid :=
 fn_okQ (l := L_sFactsValid) (lp := P_sFactsValid) (hp := fun _ => false) (gcs := fun _ => none) (perm := fun _ => []) tabOk mix ⟨ok_sFactValid, trivial⟩ trivial Try.func112 rfl (by kernel_rfl) (by decide) (by kernel_rfl) (anns := fun x _ => an_sFactsValid x.1) (fun ⟨l, _⟩ k hp _ => Eq.mp (by kernel_rfl) (vcn_sFactsValid l k hp)) tot_fn
abbrev c_sAssertionValid : Con := ⟨[.asn], [.bool], fun (a, _) => a.facts.length <= 281474976710656 /\ a.atoms.length <= 281474976710656, .inl fun (a, _) => (asV a, ()), fun _ => 0⟩
abbrev L_sAssertionValid : List (FuncId × Con) := [(111, c_l3Atom), (112, c_sFactsValid)]
abbrev P_sAssertionValid : List (FuncId × PT) := []
def an_sAssertionValid (a : GAsn) : Nat -> St -> Option Ann
 | 2, se => some { α := Nat, ok := fun i => i <= a.atoms.length /\ (a.atoms.take i).all atV = true, mu := fun i => a.atoms.length - i, i0 := fun _ => 0, nx := fun a _ => (fun i => i + 1) a, live := [1], sets := fun i => [(3, sv (.int .i64 i))], mids := [31], blks := fun i => [], owns := fun i => [], rd := fun r _ => r, base := 100000 }
 | _, _ => none
def VC_sAssertionValid_1 (a : GAsn) : Prop := (RM [some (.blk [.d (.arr .fact a.facts), .d (.arr .atom a.atoms)])]) /\ (RM []) /\ True /\ TT
def VC_sAssertionValid_2 (a : GAsn) : Prop := True /\ (((false, ()) : Bool × Unit) = (asV a, ())) /\ True /\ True /\ True /\ True /\ TF
def VC_sAssertionValid (a : GAsn) (k : Nat) : Prop := TN /\ True /\ True /\ ((0 <= a.atoms.length /\ (a.atoms.take 0).all atV = true) /\ TT /\ (RL [.s (.c (.ptr 31 0))]) /\ (([.s (.c (.d (.val (.int .i64 (0 : Int)))))] : List S) = [.s (.c (.d (.val (.int .i64 ((0 : Nat) : Int)))))]) /\ (VC_sAssertionValid_1 a)) /\ (∀ i1 : Nat, (i1 <= a.atoms.length /\ (a.atoms.take i1).all atV = true) -> True /\ True /\ True /\ True /\ True /\ (vcIf (decide (((i1 : Nat) : Int) < ((a.atoms.length : Nat) : Int))) (True /\ True /\ True /\ (0 <= ((i1 : Nat) : Int) /\ ((i1 : Nat) : Int) < ((a.atoms.length : Nat) : Int)) /\ True /\ (True /\ True /\ True) /\ True /\ (vcIf (!(atV (a.atoms.getD i1 (⟨0, 0, 0⟩ : GAtom)))) (VC_sAssertionValid_2 a) (True /\ (inK .i64 (((i1 : Nat) : Int) + (1 : Int))) /\ True /\ ((i1 + 1) <= a.atoms.length /\ (a.atoms.take (i1 + 1)).all atV = true) /\ (a.atoms.length - (i1 + 1) < a.atoms.length - i1) /\ TT /\ (RL [.s (.c (.ptr 31 0))]) /\ (([.s (.c (.d (.val (.int .i64 (((i1 : Nat) : Int) + (1 : Int))))))] : List S) = [.s (.c (.d (.val (.int .i64 (((i1 + 1) : Nat) : Int)))))]) /\ (VC_sAssertionValid_1 a)))) (True /\ True /\ ((a.facts.length <= 281474976710656) /\ True /\ True) /\ True /\ (vcIf (fsV a.facts) (True /\ True /\ True /\ True /\ True /\ True /\ (((decide (((a.atoms.length : Nat) : Int) <= (6 : Int)), ()) : Bool × Unit) = (asV a, ())) /\ True /\ True /\ True /\ True /\ TF) (True /\ (VC_sAssertionValid_2 a))))))
theorem vcn_sAssertionValid (a : GAsn) (k : Nat) (hp : a.facts.length <= 281474976710656 /\ a.atoms.length <= 281474976710656) : VC_sAssertionValid a k := by
 unfold VC_sAssertionValid VC_sAssertionValid_2 VC_sAssertionValid_1
 simp only [cln, Nat.reduceEqDiff, Nat.reduceLeDiff, Nat.reduceAdd]
 all_goals (try simp only [opn])
 all_goals (repeat' (first | apply And.intro | intro _))
 all_goals (first | omega | (simp_all; done) | grind [asV, take_all, all_take, take_full, Ty.zero])
theorem ok_sAssertionValid : FnOk Try.prog E 56 c_sAssertionValid :=
 fn_okQ (l := L_sAssertionValid) (lp := P_sAssertionValid) (hp := fun _ => false) (gcs := fun _ => none) (perm := fun _ => []) tabOk mix ⟨ok_l3Atom, ok_sFactsValid, trivial⟩ trivial Try.func56 rfl (by kernel_rfl) (by decide) (by kernel_rfl) (anns := fun x _ => an_sAssertionValid x.1) (fun ⟨a, _⟩ k hp _ => Eq.mp (by kernel_rfl) (vcn_sAssertionValid a k hp)) tot_fn
abbrev c_l3Terms : Con := ⟨[.asn], [.sl .bool], fun (a, _) => asV a = true ∨ vA a = true, .inl fun (a, _) => (fl9 (occ a), ()), fun _ => 0⟩
abbrev L_l3Terms : List (FuncId × Con) := []
abbrev P_l3Terms : List (FuncId × PT) := []
def an_l3Terms (a : GAsn) : Nat -> St -> Option Ann
 | 3, se => some { α := Nat, ok := fun i => i <= a.facts.length, mu := fun i => a.facts.length - i, i0 := fun _ => 0, nx := fun a _ => (fun i => i + 1) a, live := [1, 2], sets := fun i => [(4, sv (.int .i64 i))], mids := [31, 32], blks := fun i => [], owns := fun i => [⟨7, .slot 3, .bool, fl9 (occF (a.facts.take i))⟩], rd := fun r _ => r, base := 100000 }
 | 8, se => some { α := Nat, ok := fun i => i <= a.atoms.length, mu := fun i => a.atoms.length - i, i0 := fun _ => 0, nx := fun a _ => (fun i => i + 1) a, live := [1, 2], sets := fun i => [(5, sv (.int .i64 i))], mids := [31, 32], blks := fun i => [], owns := fun i => [⟨7, .slot 3, .bool, fl9 (fun t => occF a.facts t || occG (a.atoms.take i) t)⟩], rd := fun r _ => r, base := 200000 }
 | _, _ => none
def VC_l3Terms_1  : Prop := ([.s (.c (.d (.val (.int .i64 (0 : Int)))))] : List S) = [.s (.c (.d (.val (.int .i64 ((0 : Nat) : Int)))))]
def VC_l3Terms_2 (a : GAsn) : Prop := RM [some (.blk [.d (.arr .fact a.facts), .d (.arr .atom a.atoms)]), some (.sl 32 .bool ([] : List Bool))]
def VC_l3Terms_3 (i1 : Nat) : Prop := ([.s (.c (.d (.val (.int .i64 (((i1 : Nat) : Int) + (1 : Int))))))] : List S) = [.s (.c (.d (.val (.int .i64 (((i1 + 1) : Nat) : Int)))))]
def VC_l3Terms_4 (i1 : Nat) (a : GAsn) : Prop := (True /\ (vcIf (decide (((i1 : Nat) : Int) < ((a.facts.length : Nat) : Int))) (True /\ True /\ True /\ True /\ (0 <= ((i1 : Nat) : Int) /\ ((i1 : Nat) : Int) < ((a.facts.length : Nat) : Int)) /\ True /\ True /\ (0 <= ((a.facts.getD i1 (⟨false, 0, 0⟩ : GFact)).a) /\ ((a.facts.getD i1 (⟨false, 0, 0⟩ : GFact)).a) < (((fl9 (occF (a.facts.take i1))).length : Nat) : Int)) /\ (TF /\ TF /\ True /\ ((7 : Nat) ∉ ([] : List Nat))) /\ True /\ True /\ True /\ True /\ (0 <= ((i1 : Nat) : Int) /\ ((i1 : Nat) : Int) < ((a.facts.length : Nat) : Int)) /\ True /\ True /\ (0 <= ((a.facts.getD i1 (⟨false, 0, 0⟩ : GFact)).b) /\ ((a.facts.getD i1 (⟨false, 0, 0⟩ : GFact)).b) < ((((fl9 (occF (a.facts.take i1))).set ((a.facts.getD i1 (⟨false, 0, 0⟩ : GFact)).a).toNat true).length : Nat) : Int)) /\ (TF /\ TF /\ True /\ ((7 : Nat) ∉ ([] : List Nat))) /\ True /\ (inK .i64 (((i1 : Nat) : Int) + (1 : Int))) /\ True /\ ((i1 + 1) <= a.facts.length) /\ (a.facts.length - (i1 + 1) < a.facts.length - i1) /\ TT /\ (RL [.s (.c (.ptr 31 0)), .s (.c (.own 32))]) /\ (VC_l3Terms_3 i1) /\ (VC_l3Terms_2 a) /\ (RM []) /\ (((some (((fl9 (occF (a.facts.take i1))).set ((a.facts.getD i1 (⟨false, 0, 0⟩ : GFact)).a).toNat true).set ((a.facts.getD i1 (⟨false, 0, 0⟩ : GFact)).b).toNat true) : Option (List Bool)) = some (fl9 (occF (a.facts.take (i1 + 1))))) /\ True) /\ TT) (True /\ ((0 <= a.atoms.length) /\ TT /\ (RL [.s (.c (.ptr 31 0)), .s (.c (.own 32))]) /\ VC_l3Terms_1 /\ (VC_l3Terms_2 a) /\ (RM []) /\ (((some (fl9 (occF (a.facts.take i1))) : Option (List Bool)) = some (fl9 (fun t => occF a.facts t || occG (a.atoms.take 0) t))) /\ True) /\ TT) /\ (∀ i2 : Nat, (i2 <= a.atoms.length) -> True /\ True /\ True /\ True /\ True /\ (vcIf (decide (((i2 : Nat) : Int) < ((a.atoms.length : Nat) : Int))) (True /\ True /\ True /\ True /\ (0 <= ((i2 : Nat) : Int) /\ ((i2 : Nat) : Int) < ((a.atoms.length : Nat) : Int)) /\ True /\ True /\ (0 <= ((a.atoms.getD i2 (⟨0, 0, 0⟩ : GAtom)).a) /\ ((a.atoms.getD i2 (⟨0, 0, 0⟩ : GAtom)).a) < (((fl9 (fun t => occF a.facts t || occG (a.atoms.take i2) t)).length : Nat) : Int)) /\ (TF /\ TF /\ True /\ ((7 : Nat) ∉ ([] : List Nat))) /\ True /\ True /\ True /\ True /\ (0 <= ((i2 : Nat) : Int) /\ ((i2 : Nat) : Int) < ((a.atoms.length : Nat) : Int)) /\ True /\ True /\ (0 <= ((a.atoms.getD i2 (⟨0, 0, 0⟩ : GAtom)).b) /\ ((a.atoms.getD i2 (⟨0, 0, 0⟩ : GAtom)).b) < ((((fl9 (fun t => occF a.facts t || occG (a.atoms.take i2) t)).set ((a.atoms.getD i2 (⟨0, 0, 0⟩ : GAtom)).a).toNat true).length : Nat) : Int)) /\ (TF /\ TF /\ True /\ ((7 : Nat) ∉ ([] : List Nat))) /\ True /\ (inK .i64 (((i2 : Nat) : Int) + (1 : Int))) /\ True /\ ((i2 + 1) <= a.atoms.length) /\ (a.atoms.length - (i2 + 1) < a.atoms.length - i2) /\ TT /\ (RL [.s (.c (.ptr 31 0)), .s (.c (.own 32))]) /\ (VC_l3Terms_3 i2) /\ (VC_l3Terms_2 a) /\ (RM []) /\ (((some (((fl9 (fun t => occF a.facts t || occG (a.atoms.take i2) t)).set ((a.atoms.getD i2 (⟨0, 0, 0⟩ : GAtom)).a).toNat true).set ((a.atoms.getD i2 (⟨0, 0, 0⟩ : GAtom)).b).toNat true) : Option (List Bool)) = some (fl9 (fun t => occF a.facts t || occG (a.atoms.take (i2 + 1)) t))) /\ True) /\ TT) (True /\ True /\ (((fl9 (fun t => occF a.facts t || occG (a.atoms.take i2) t), ()) : (List Bool) × Unit) = (fl9 (occ a), ())) /\ (True /\ True) /\ ((TF /\ TF) /\ True) /\ True /\ (True /\ True) /\ TF))))))
def VC_l3Terms (a : GAsn) (k : Nat) : Prop := TN /\ TN /\ (TN /\ (0 <= (9 : Int) /\ (9 : Int) <= (9 : Int) /\ (9 : Int) <= 4294967296)) /\ True /\ True /\ ((0 <= a.facts.length) /\ TT /\ (RL [.s (.c (.ptr 31 0)), .s (.c (.own 32))]) /\ VC_l3Terms_1 /\ (VC_l3Terms_2 a) /\ (RM []) /\ (((some (List.replicate 9 false) : Option (List Bool)) = some (fl9 (occF (a.facts.take 0)))) /\ True) /\ TT) /\ (∀ i1 : Nat, (i1 <= a.facts.length) -> True /\ True /\ True /\ True /\ (VC_l3Terms_4 i1 a))
theorem vcn_l3Terms (a : GAsn) (k : Nat) (hp : asV a = true ∨ vA a = true) : VC_l3Terms a k := by
 unfold VC_l3Terms VC_l3Terms_4 VC_l3Terms_3 VC_l3Terms_2 VC_l3Terms_1
 simp only [cln, Nat.reduceEqDiff, Nat.reduceLeDiff, Nat.reduceAdd]
 have hl := vA_iff.1 (hp.elim vA_of id)
 have hF := fun i (h : i < a.facts.length) => fV_isT (all_get (d := (⟨false, 0, 0⟩ : GFact)) hl.1 h)
 have hG := fun i (h : i < a.atoms.length) => atV_isT (all_get (d := (⟨0, 0, 0⟩ : GAtom)) hl.2.1 h)
 have hi : ∀ t, isT t = true -> 0 <= t /\ t <= 8 := fun t h => isT_iff.1 h
 have hL := fl9_len
 all_goals (try simp only [opn])
 all_goals (repeat' (first | apply And.intro | intro _))
 all_goals (first | omega | rfl | (simp_all; done) | (exact flF_step ‹_› (hF _ ‹_›).1 (hF _ ‹_›).2) | (exact flG_step ‹_› (hG _ ‹_›).1 (hG _ ‹_›).2) | skip)
 all_goals (first | (have h1 := hF _ ‹_›; have h2 := hi _ h1.1; have h3 := hi _ h1.2; simp only [List.length_set, hL]; omega) | (have h1 := hG _ ‹_›; have h2 := hi _ h1.1; have h3 := hi _ h1.2; simp only [List.length_set, hL]; omega) | (rw [take_full ‹_›]; done) | (rw [take_full ‹_›]; apply fl9_congr; intro t; simp [occF, occG, occ]; done) | (rw [take_full ‹_›]; rfl) | grind)
theorem ok_l3Terms : FnOk Try.prog E 92 c_l3Terms :=
 fn_okQ (l := L_l3Terms) (lp := P_l3Terms) (hp := fun _ => false) (gcs := fun _ => none) (perm := fun _ => []) tabOk mix trivial trivial Try.func92 rfl (by kernel_rfl) (by decide) (by kernel_rfl) (anns := fun x _ => an_l3Terms x.1) (fun ⟨a, _⟩ k hp _ => Eq.mp (by kernel_rfl) (vcn_l3Terms a k hp)) tot_fn
abbrev c_l6Both : Con := ⟨[.asn, .asn], [.sl .bool], fun (a, b, _) => asV a = true /\ asV b = true, .inl fun (a, b, _) => (fl9 (fun t => occ a t || occ b t), ()), fun _ => 0⟩
abbrev L_l6Both : List (FuncId × Con) := [(92, c_l3Terms)]
abbrev P_l6Both : List (FuncId × PT) := []
def VC_l6Both (a : GAsn) (b : GAsn) (k : Nat) : Prop := TN /\ TN /\ TN /\ (TN /\ True) /\ True /\ True /\ (TN /\ TF /\ TF /\ (([] : List GFact).length + a.facts.length <= 4294967296)) /\ True /\ True /\ (TN /\ TF /\ TF /\ ((([] : List GFact) ++ a.facts).length + b.facts.length <= 4294967296)) /\ (TN /\ True) /\ True /\ True /\ (TN /\ TF /\ TF /\ (([] : List GAtom).length + a.atoms.length <= 4294967296)) /\ True /\ True /\ (TN /\ TF /\ TF /\ ((([] : List GAtom) ++ a.atoms).length + b.atoms.length <= 4294967296)) /\ (TN /\ TN /\ True) /\ ((asV (⟨(([] : List GFact) ++ a.facts) ++ b.facts, (([] : List GAtom) ++ a.atoms) ++ b.atoms⟩ : GAsn) = true ∨ vA (⟨(([] : List GFact) ++ a.facts) ++ b.facts, (([] : List GAtom) ++ a.atoms) ++ b.atoms⟩ : GAsn) = true) /\ True /\ TN /\ True) /\ True /\ ((((fl9 (occ (⟨(([] : List GFact) ++ a.facts) ++ b.facts, (([] : List GAtom) ++ a.atoms) ++ b.atoms⟩ : GAsn))), ()) : (List Bool) × Unit) = (fl9 (fun t => occ a t || occ b t), ())) /\ (True /\ True) /\ ((TF /\ TF) /\ True) /\ True /\ (True /\ True) /\ TF
theorem vcn_l6Both (a : GAsn) (b : GAsn) (k : Nat) (hp : asV a = true /\ asV b = true) : VC_l6Both a b k := by
 unfold VC_l6Both
 simp only [cln, Nat.reduceEqDiff, Nat.reduceLeDiff, Nat.reduceAdd]
 have hA := asV_facts hp.1
 have hB := asV_facts hp.2
 have hV := both_vA hp.1 hp.2
 all_goals (try simp only [opn, List.length_append])
 all_goals (repeat' (first | apply And.intro | intro _))
 all_goals (first | omega | rfl | assumption | exact .inr hV | exact both_fl | skip)
theorem ok_l6Both : FnOk Try.prog E 67 c_l6Both :=
 fn_okQ (l := L_l6Both) (lp := P_l6Both) (hp := fun _ => false) (gcs := fun _ => none) (perm := fun _ => []) tabOk mix ⟨ok_l3Terms, trivial⟩ trivial Try.func67 rfl (by kernel_rfl) (by decide) (by kernel_rfl) (anns := fun x _ => fun _ _ => none) (fun ⟨a, b, _⟩ k hp _ => Eq.mp (by kernel_rfl) (vcn_l6Both a b k hp)) tot_fn
abbrev c_l5Open : Con := ⟨[], [.sl .int], fun _ => True, .inl fun _ => (opens, ()), fun _ => 0⟩
abbrev L_l5Open : List (FuncId × Con) := []
abbrev P_l5Open : List (FuncId × PT) := []
def an_l5Open  : Nat -> St -> Option Ann
 | 2, se => some { α := Nat, ok := fun i => i <= 8, mu := fun i => 8 - i, i0 := fun _ => 0, nx := fun a _ => (fun i => i + 1) a, live := [0], sets := fun i => [], mids := [0], blks := fun i => [], owns := fun i => [⟨7, .slot 1, .int, 0 :: List.replicate i (-1)⟩], rd := fun r _ => r, base := 100000 }
 | _, _ => none
def VC_l5Open (k : Nat) : Prop := TN /\ (TN /\ True) /\ True /\ ((0 <= 8) /\ TT /\ (RL [.s (.c (.own 0))]) /\ (RL []) /\ (RM [some (.sl 0 .int ([] : List Int))]) /\ (RM []) /\ (((some ([(0 : Int)] : List Int) : Option (List Int)) = some (0 :: List.replicate 0 (-1))) /\ True) /\ TT) /\ (∀ i1 : Nat, (i1 <= 8) -> True /\ True /\ True /\ (vcIf (decide ((((0 :: List.replicate i1 (-1)).length : Nat) : Int) <= (8 : Int))) (True /\ (TN /\ True) /\ (TN /\ TF /\ TF /\ ((0 :: List.replicate i1 (-1)).length + ([(-1 : Int)] : List Int).length <= 4294967296)) /\ True /\ ((i1 + 1) <= 8) /\ (8 - (i1 + 1) < 8 - i1) /\ TT /\ (RL [.s (.c (.own 0))]) /\ (RL []) /\ (RM [some (.sl 0 .int ([] : List Int))]) /\ (RM []) /\ (((some ((0 :: List.replicate i1 (-1)) ++ ([(-1 : Int)] : List Int)) : Option (List Int)) = some (0 :: List.replicate (i1 + 1) (-1))) /\ True) /\ TT) (True /\ True /\ (((0 :: List.replicate i1 (-1), ()) : (List Int) × Unit) = (opens, ())) /\ (True /\ True) /\ ((TF /\ TF) /\ True) /\ True /\ (True /\ True) /\ TF)))
theorem vcn_l5Open  (k : Nat) : VC_l5Open  k := by
 unfold VC_l5Open
 simp only [cln, Nat.reduceEqDiff, Nat.reduceLeDiff, Nat.reduceAdd]
 all_goals (try simp only [opn])
 all_goals (repeat' (first | apply And.intro | intro _))
 all_goals (repeat (cases ‹_ /\ _›))
 all_goals (first | omega | rfl | assumption | (simp_all; done) | skip)
 all_goals (first
  | exact open_lt ‹_› | (have h1 := open_lt ‹_›; omega) | (rw [List.replicate_succ']; rfl) | exact open_end ‹_› ‹_› | skip)
theorem ok_l5Open : FnOk Try.prog E 94 c_l5Open :=
 fn_okQ (l := L_l5Open) (lp := P_l5Open) (hp := fun _ => false) (gcs := fun _ => none) (perm := fun _ => []) tabOk mix trivial trivial Try.func94 rfl (by kernel_rfl) (by decide) (by kernel_rfl) (anns := fun x _ => an_l5Open ) (fun _ k _ _ => Eq.mp (by kernel_rfl) (vcn_l5Open  k)) tot_fn
abbrev c_l5Fits : Con := ⟨[.sl .fact, .sl .int], [.bool], fun (l, c, _) => l.length <= 1048576 /\ l.all fV = true /\ c.length = 9, .inl fun (l, c, _) => (sFit l c, ()), fun _ => 0⟩
abbrev L_l5Fits : List (FuncId × Con) := []
abbrev P_l5Fits : List (FuncId × PT) := []
def an_l5Fits (l : List GFact) (c : List Int) : Nat -> St -> Option Ann
 | 2, se => some { α := Nat, ok := fun i => i <= l.length /\ sFit (l.take i) c = true, mu := fun i => l.length - i, i0 := fun _ => 0, nx := fun a _ => (fun i => i + 1) a, live := [0, 1], sets := fun i => [(5, sv (.int .i64 i))], mids := [], blks := fun i => [], owns := fun i => [], rd := fun r _ => r, base := 100000 }
 | _, _ => none
def VC_l5Fits_1 (i1 : Nat) (l : List GFact) (c : List Int) : Prop := True /\ (inK .i64 (((i1 : Nat) : Int) + (1 : Int))) /\ True /\ ((i1 + 1) <= l.length /\ sFit (l.take (i1 + 1)) c = true) /\ (l.length - (i1 + 1) < l.length - i1) /\ TT /\ (RL [.s (.c (.d (.arr .fact l))), .s (.c (.d (.arr .int c)))]) /\ (([.s (.c (.d (.val (.int .i64 (((i1 : Nat) : Int) + (1 : Int))))))] : List S) = [.s (.c (.d (.val (.int .i64 (((i1 + 1) : Nat) : Int)))))]) /\ (RM []) /\ (RM []) /\ True /\ TT
def VC_l5Fits_2 (i1 : Nat) (l : List GFact) (c : List Int) : Prop := True /\ (VC_l5Fits_1 i1 l c)
def VC_l5Fits (l : List GFact) (c : List Int) (k : Nat) : Prop := True /\ True /\ ((0 <= l.length /\ sFit (l.take 0) c = true) /\ TT /\ (RL [.s (.c (.d (.arr .fact l))), .s (.c (.d (.arr .int c)))]) /\ (([.s (.c (.d (.val (.int .i64 (0 : Int)))))] : List S) = [.s (.c (.d (.val (.int .i64 ((0 : Nat) : Int)))))]) /\ (RM []) /\ (RM []) /\ True /\ TT) /\ (∀ i1 : Nat, (i1 <= l.length /\ sFit (l.take i1) c = true) -> True /\ True /\ True /\ True /\ (vcIf (decide (((i1 : Nat) : Int) < ((l.length : Nat) : Int))) (True /\ True /\ True /\ (0 <= ((i1 : Nat) : Int) /\ ((i1 : Nat) : Int) < ((l.length : Nat) : Int)) /\ True /\ True /\ (0 <= ((l.getD i1 (⟨false, 0, 0⟩ : GFact)).a) /\ ((l.getD i1 (⟨false, 0, 0⟩ : GFact)).a) < ((c.length : Nat) : Int)) /\ True /\ True /\ True /\ True /\ True /\ (0 <= ((i1 : Nat) : Int) /\ ((i1 : Nat) : Int) < ((l.length : Nat) : Int)) /\ True /\ True /\ (0 <= ((l.getD i1 (⟨false, 0, 0⟩ : GFact)).b) /\ ((l.getD i1 (⟨false, 0, 0⟩ : GFact)).b) < ((c.length : Nat) : Int)) /\ True /\ True /\ True /\ True /\ True /\ (vcIf (decide ((0 : Int) <= (c.getD ((l.getD i1 (⟨false, 0, 0⟩ : GFact)).a).toNat (0 : Int)))) (True /\ True /\ True /\ True /\ (vcIf (decide ((0 : Int) <= (c.getD ((l.getD i1 (⟨false, 0, 0⟩ : GFact)).b).toNat (0 : Int)))) (True /\ True /\ True /\ True /\ True /\ (0 <= ((i1 : Nat) : Int) /\ ((i1 : Nat) : Int) < ((l.length : Nat) : Int)) /\ True /\ True /\ True /\ True /\ (vcIf (((c.getD ((l.getD i1 (⟨false, 0, 0⟩ : GFact)).a).toNat (0 : Int)) == (c.getD ((l.getD i1 (⟨false, 0, 0⟩ : GFact)).b).toNat (0 : Int))) != ((l.getD i1 (⟨false, 0, 0⟩ : GFact)).eq)) (True /\ (((false, ()) : Bool × Unit) = (sFit l c, ())) /\ True /\ True /\ True /\ True /\ TF) (VC_l5Fits_1 i1 l c))) (VC_l5Fits_2 i1 l c))) (True /\ True /\ (VC_l5Fits_2 i1 l c)))) (True /\ (((true, ()) : Bool × Unit) = (sFit l c, ())) /\ True /\ True /\ True /\ True /\ TF)))
theorem vcn_l5Fits (l : List GFact) (c : List Int) (k : Nat) (hp : l.length <= 1048576 /\ l.all fV = true /\ c.length = 9) : VC_l5Fits l c k := by
 unfold VC_l5Fits VC_l5Fits_2 VC_l5Fits_1
 simp only [cln, Nat.reduceEqDiff, Nat.reduceLeDiff, Nat.reduceAdd]
 have hV := hp.2.1
 all_goals (try simp only [opn])
 all_goals (repeat' (first | apply And.intro | intro _))
 all_goals (repeat (cases ‹_ /\ _›))
 all_goals (first | omega | rfl | assumption | (simp_all; done) | skip)
 all_goals (first
  | (have h1 := fact_idx (l := l) hV ‹_›; omega)
  | (symm; exact sFit_no ‹_› ‹_› ‹_› (by unfold fh cl; rw [beq_eq_false_iff_ne]; assumption))
  | (rw [sFit_step (d := ⟨false, 0, 0⟩) ‹_›]; unfold fh cl; simp_all; done)
  | (rw [take_full (l := l) ‹_›] at *; simp_all; done) | skip)
theorem ok_l5Fits : FnOk Try.prog E 122 c_l5Fits :=
 fn_okQ (l := L_l5Fits) (lp := P_l5Fits) (hp := fun _ => false) (gcs := fun _ => none) (perm := fun _ => []) tabOk mix trivial trivial Try.func122 rfl (by kernel_rfl) (by decide) (by kernel_rfl) (anns := fun x _ => an_l5Fits x.1 x.2.1) (fun ⟨l, c, _⟩ k hp _ => Eq.mp (by kernel_rfl) (vcn_l5Fits l c k hp)) tot_fn
abbrev c_l5Filled : Con := ⟨[.sl .atom, .sl .int], [.sl .atom], fun (l, c, _) => l.length <= 1048576 /\ l.all atV = true /\ c.length = 9, .inl fun (l, c, _) => (fL c l, ()), fun _ => 0⟩
abbrev L_l5Filled : List (FuncId × Con) := []
abbrev P_l5Filled : List (FuncId × PT) := []
def an_l5Filled (l : List GAtom) (c : List Int) : Nat -> St -> Option Ann
 | 3, se => some { α := Nat, ok := fun i => i <= l.length, mu := fun i => l.length - i, i0 := fun _ => 0, nx := fun a _ => (fun i => i + 1) a, live := [0, 1, 4], sets := fun i => [(6, sv (.int .i64 i))], mids := [64], blks := fun i => [], owns := fun i => [⟨7, .slot 5, .atom, fL c (l.take i)⟩], rd := fun r _ => r, base := 100000 }
 | _, _ => none
def VC_l5Filled_1 (i1 : Nat) : Prop := ([.s (.c (.d (.val (.int .i64 (((i1 : Nat) : Int) + (1 : Int))))))] : List S) = [.s (.c (.d (.val (.int .i64 (((i1 + 1) : Nat) : Int)))))]
def VC_l5Filled_2 (c : List Int) (l : List GAtom) (i1 : Nat) : Prop := True /\ True /\ (TN /\ True) /\ (TN /\ TF /\ TF /\ ((fL c (l.take i1)).length + ([(⟨(l.getD i1 (⟨0, 0, 0⟩ : GAtom)).kind, (c.getD ((l.getD i1 (⟨0, 0, 0⟩ : GAtom)).a).toNat (0 : Int)), (c.getD ((l.getD i1 (⟨0, 0, 0⟩ : GAtom)).b).toNat (0 : Int))⟩ : GAtom)] : List GAtom).length <= 4294967296)) /\ True /\ True /\ (inK .i64 (((i1 : Nat) : Int) + (1 : Int))) /\ True /\ ((i1 + 1) <= l.length) /\ (l.length - (i1 + 1) < l.length - i1) /\ TT /\ (RL [.s (.c (.d (.arr .atom l))), .s (.c (.d (.arr .int c))), .s (.c (.own 64))]) /\ (VC_l5Filled_1 i1) /\ (RM [some (.sl 64 .atom ([] : List GAtom))]) /\ (RM []) /\ (((some ((fL c (l.take i1)) ++ ([(⟨(l.getD i1 (⟨0, 0, 0⟩ : GAtom)).kind, (c.getD ((l.getD i1 (⟨0, 0, 0⟩ : GAtom)).a).toNat (0 : Int)), (c.getD ((l.getD i1 (⟨0, 0, 0⟩ : GAtom)).b).toNat (0 : Int))⟩ : GAtom)] : List GAtom)) : Option (List GAtom)) = some (fL c (l.take (i1 + 1)))) /\ True) /\ TT
def VC_l5Filled (l : List GAtom) (c : List Int) (k : Nat) : Prop := TN /\ (TN /\ True) /\ True /\ True /\ ((0 <= l.length) /\ TT /\ (RL [.s (.c (.d (.arr .atom l))), .s (.c (.d (.arr .int c))), .s (.c (.own 64))]) /\ (([.s (.c (.d (.val (.int .i64 (0 : Int)))))] : List S) = [.s (.c (.d (.val (.int .i64 ((0 : Nat) : Int)))))]) /\ (RM [some (.sl 64 .atom ([] : List GAtom))]) /\ (RM []) /\ (((some ([] : List GAtom) : Option (List GAtom)) = some (fL c (l.take 0))) /\ True) /\ TT) /\ (∀ i1 : Nat, (i1 <= l.length) -> True /\ True /\ True /\ True /\ (vcIf (decide (((i1 : Nat) : Int) < ((l.length : Nat) : Int))) (True /\ True /\ (0 <= ((i1 : Nat) : Int) /\ ((i1 : Nat) : Int) < ((l.length : Nat) : Int)) /\ True /\ True /\ True /\ True /\ True /\ (0 <= ((i1 : Nat) : Int) /\ ((i1 : Nat) : Int) < ((l.length : Nat) : Int)) /\ True /\ True /\ (0 <= ((l.getD i1 (⟨0, 0, 0⟩ : GAtom)).a) /\ ((l.getD i1 (⟨0, 0, 0⟩ : GAtom)).a) < ((c.length : Nat) : Int)) /\ True /\ True /\ True /\ True /\ (0 <= ((i1 : Nat) : Int) /\ ((i1 : Nat) : Int) < ((l.length : Nat) : Int)) /\ True /\ True /\ (0 <= ((l.getD i1 (⟨0, 0, 0⟩ : GAtom)).b) /\ ((l.getD i1 (⟨0, 0, 0⟩ : GAtom)).b) < ((c.length : Nat) : Int)) /\ True /\ True /\ (TN /\ True) /\ (TF /\ TF) /\ True /\ True /\ True /\ True /\ (vcIf (((l.getD i1 (⟨0, 0, 0⟩ : GAtom)).kind) == (1 : Int)) (True /\ (VC_l5Filled_2 c l i1)) (True /\ True /\ True /\ True /\ True /\ True /\ (vcIf ((c.getD ((l.getD i1 (⟨0, 0, 0⟩ : GAtom)).a).toNat (0 : Int)) != (c.getD ((l.getD i1 (⟨0, 0, 0⟩ : GAtom)).b).toNat (0 : Int))) (VC_l5Filled_2 c l i1) (True /\ (inK .i64 (((i1 : Nat) : Int) + (1 : Int))) /\ True /\ ((i1 + 1) <= l.length) /\ (l.length - (i1 + 1) < l.length - i1) /\ TT /\ (RL [.s (.c (.d (.arr .atom l))), .s (.c (.d (.arr .int c))), .s (.c (.own 64))]) /\ (VC_l5Filled_1 i1) /\ (RM [some (.sl 64 .atom ([] : List GAtom))]) /\ (RM []) /\ (((some (fL c (l.take i1)) : Option (List GAtom)) = some (fL c (l.take (i1 + 1)))) /\ True) /\ TT))))) (True /\ True /\ (((fL c (l.take i1), ()) : (List GAtom) × Unit) = (fL c l, ())) /\ (True /\ True) /\ ((TF /\ TF) /\ True) /\ True /\ (True /\ True) /\ TF)))
theorem vcn_l5Filled (l : List GAtom) (c : List Int) (k : Nat) (hp : l.length <= 1048576 /\ l.all atV = true /\ c.length = 9) : VC_l5Filled l c k := by
 unfold VC_l5Filled VC_l5Filled_2 VC_l5Filled_1
 simp only [cln, Nat.reduceEqDiff, Nat.reduceLeDiff, Nat.reduceAdd]
 have hV := hp.2.1
 have hL : ∀ i, (fL c (l.take i)).length <= 1048576 := fun i => Nat.le_trans (fL_len _ _) (by simp; omega)
 all_goals (try simp only [opn])
 all_goals (repeat' (first | apply And.intro | intro _))
 all_goals (repeat (cases ‹_ /\ _›))
 all_goals (first | omega | rfl | assumption | (simp_all; done) | skip)
 all_goals (first
  | (have h1 := atom_idx (l := l) hV ‹_›; omega)
  | exact Nat.le_trans (hL _) (by decide)
  | (rw [fL_step (d := ⟨0, 0, 0⟩) ‹_›]; unfold filB cl; simp_all; done)
  | (rw [fL_step (d := ⟨0, 0, 0⟩) ‹_›]; unfold filB cl; rw [beq_eq_false_iff_ne.2 (by assumption : ¬ (_ : GAtom).kind = 1), beq_eq_false_iff_ne.2 ‹_›]; rfl)
  | (rw [fL_step (d := ⟨0, 0, 0⟩) ‹_›]; unfold filB cl; rw [beq_eq_false_iff_ne.2 (by assumption : ¬ (_ : GAtom).kind = 1), beq_iff_eq.2 ‹_›]; rfl)
  | (rw [take_full (l := l) ‹_›]; done) | skip)
theorem ok_l5Filled : FnOk Try.prog E 124 c_l5Filled :=
 fn_okQ (l := L_l5Filled) (lp := P_l5Filled) (hp := fun _ => false) (gcs := fun _ => none) (perm := fun _ => []) tabOk mix trivial trivial Try.func124 rfl (by kernel_rfl) (by decide) (by kernel_rfl) (anns := fun x _ => an_l5Filled x.1 x.2.1) (fun ⟨l, c, _⟩ k hp _ => Eq.mp (by kernel_rfl) (vcn_l5Filled l c k hp)) tot_fn
abbrev c_l6Find : Con := ⟨[.sl .atom, .sl .bool, .int], [.int], fun (l, u, q, _) => l.length <= 1048576 /\ u.length = l.length, .inl fun (l, u, q, _) => (fdI l u q, ()), fun _ => 0⟩
abbrev L_l6Find : List (FuncId × Con) := []
abbrev P_l6Find : List (FuncId × PT) := []
def an_l6Find (l : List GAtom) (u : List Bool) (q : Int) : Nat -> St -> Option Ann
 | 2, se => some { α := Nat, ok := fun i => i <= l.length /\ uaN l u q i = true, mu := fun i => l.length - i, i0 := fun _ => 0, nx := fun a _ => (fun i => i + 1) a, live := [0, 1, 2], sets := fun i => [(7, sv (.int .i64 i))], mids := [], blks := fun i => [], owns := fun i => [], rd := fun r _ => r, base := 100000 }
 | _, _ => none
def VC_l6Find_1 (l : List GAtom) (u : List Bool) (q : Int) : Prop := RL [.s (.c (.d (.arr .atom l))), .s (.c (.d (.arr .bool u))), .s (.c (.d (.val (.int .i64 q))))]
def VC_l6Find_2 (i1 : Nat) (l : List GAtom) (u : List Bool) (q : Int) : Prop := True /\ (inK .i64 (((i1 : Nat) : Int) + (1 : Int))) /\ True /\ ((i1 + 1) <= l.length /\ uaN l u q (i1 + 1) = true) /\ (l.length - (i1 + 1) < l.length - i1) /\ TT /\ (VC_l6Find_1 l u q) /\ (([.s (.c (.d (.val (.int .i64 (((i1 : Nat) : Int) + (1 : Int))))))] : List S) = [.s (.c (.d (.val (.int .i64 (((i1 + 1) : Nat) : Int)))))]) /\ (RM []) /\ (RM []) /\ True /\ TT
def VC_l6Find (l : List GAtom) (u : List Bool) (q : Int) (k : Nat) : Prop := True /\ True /\ ((0 <= l.length /\ uaN l u q 0 = true) /\ TT /\ (VC_l6Find_1 l u q) /\ (([.s (.c (.d (.val (.int .i64 (0 : Int)))))] : List S) = [.s (.c (.d (.val (.int .i64 ((0 : Nat) : Int)))))]) /\ (RM []) /\ (RM []) /\ True /\ TT) /\ (∀ i1 : Nat, (i1 <= l.length /\ uaN l u q i1 = true) -> True /\ True /\ True /\ True /\ (vcIf (decide (((i1 : Nat) : Int) < ((l.length : Nat) : Int))) (True /\ True /\ (0 <= ((i1 : Nat) : Int) /\ ((i1 : Nat) : Int) < ((u.length : Nat) : Int)) /\ True /\ True /\ True /\ (vcIf (!(u.getD i1 false)) (True /\ True /\ (0 <= ((i1 : Nat) : Int) /\ ((i1 : Nat) : Int) < ((l.length : Nat) : Int)) /\ True /\ True /\ True /\ True /\ True /\ (vcIf (((l.getD i1 (⟨0, 0, 0⟩ : GAtom)).a) == q) (True /\ True /\ (((((i1 : Nat) : Int), ()) : Int × Unit) = (fdI l u q, ())) /\ True /\ True /\ True /\ True /\ TF) (VC_l6Find_2 i1 l u q))) (True /\ (VC_l6Find_2 i1 l u q)))) (True /\ ((((-1 : Int), ()) : Int × Unit) = (fdI l u q, ())) /\ True /\ True /\ True /\ True /\ TF)))
theorem vcn_l6Find (l : List GAtom) (u : List Bool) (q : Int) (k : Nat) (hp : l.length <= 1048576 /\ u.length = l.length) : VC_l6Find l u q k := by
 unfold VC_l6Find VC_l6Find_2 VC_l6Find_1
 simp only [cln, Nat.reduceEqDiff, Nat.reduceLeDiff, Nat.reduceAdd]
 all_goals (try simp only [opn])
 all_goals (repeat' (first | apply And.intro | intro _))
 all_goals (repeat (cases ‹_ /\ _›))
 all_goals (first | omega | rfl | assumption | (simp_all; done) | skip)
 all_goals (first
  | exact fd_hit ‹_› ‹_› ‹_› ‹_›
  | exact fd_miss ‹_› ‹_› ‹_›
  | exact uaN_s1 ‹_› ‹_›
  | exact uaN_s3 ‹_› ‹_›
  | skip)
theorem ok_l6Find : FnOk Try.prog E 155 c_l6Find :=
 fn_okQ (l := L_l6Find) (lp := P_l6Find) (hp := fun _ => false) (gcs := fun _ => none) (perm := fun _ => []) tabOk mix trivial trivial Try.func155 rfl (by kernel_rfl) (by decide) (by kernel_rfl) (anns := fun x _ => an_l6Find x.1 x.2.1 x.2.2.1) (fun ⟨l, u, q, _⟩ k hp _ => Eq.mp (by kernel_rfl) (vcn_l6Find l u q k hp)) tot_fn
abbrev c_l5Begins : Con := ⟨[.sl .atom, .int], [.bool], fun (l, c, _) => l.length <= 1048576, .inl fun (l, c, _) => (bgn l c, ()), fun _ => 0⟩
abbrev L_l5Begins : List (FuncId × Con) := []
abbrev P_l5Begins : List (FuncId × PT) := []
def an_l5Begins (l : List GAtom) (c : Int) : Nat -> St -> Option Ann
 | 2, se => some { α := Nat, ok := fun i => i <= l.length /\ bgn (l.take i) c = false, mu := fun i => l.length - i, i0 := fun _ => 0, nx := fun a _ => (fun i => i + 1) a, live := [0, 1], sets := fun i => [(5, sv (.int .i64 i))], mids := [], blks := fun i => [], owns := fun i => [], rd := fun r _ => r, base := 100000 }
 | _, _ => none
def VC_l5Begins (l : List GAtom) (c : Int) (k : Nat) : Prop := True /\ True /\ ((0 <= l.length /\ bgn (l.take 0) c = false) /\ TT /\ (RL [.s (.c (.d (.arr .atom l))), .s (.c (.d (.val (.int .i64 c))))]) /\ (([.s (.c (.d (.val (.int .i64 (0 : Int)))))] : List S) = [.s (.c (.d (.val (.int .i64 ((0 : Nat) : Int)))))]) /\ (RM []) /\ (RM []) /\ True /\ TT) /\ (∀ i1 : Nat, (i1 <= l.length /\ bgn (l.take i1) c = false) -> True /\ True /\ True /\ True /\ (vcIf (decide (((i1 : Nat) : Int) < ((l.length : Nat) : Int))) (True /\ True /\ (0 <= ((i1 : Nat) : Int) /\ ((i1 : Nat) : Int) < ((l.length : Nat) : Int)) /\ True /\ True /\ True /\ True /\ (vcIf (((l.getD i1 (⟨0, 0, 0⟩ : GAtom)).a) == c) (True /\ (((true, ()) : Bool × Unit) = (bgn l c, ())) /\ True /\ True /\ True /\ True /\ TF) (True /\ (inK .i64 (((i1 : Nat) : Int) + (1 : Int))) /\ True /\ ((i1 + 1) <= l.length /\ bgn (l.take (i1 + 1)) c = false) /\ (l.length - (i1 + 1) < l.length - i1) /\ TT /\ (RL [.s (.c (.d (.arr .atom l))), .s (.c (.d (.val (.int .i64 c))))]) /\ (([.s (.c (.d (.val (.int .i64 (((i1 : Nat) : Int) + (1 : Int))))))] : List S) = [.s (.c (.d (.val (.int .i64 (((i1 + 1) : Nat) : Int)))))]) /\ (RM []) /\ (RM []) /\ True /\ TT))) (True /\ (((false, ()) : Bool × Unit) = (bgn l c, ())) /\ True /\ True /\ True /\ True /\ TF)))
theorem vcn_l5Begins (l : List GAtom) (c : Int) (k : Nat) (hp : l.length <= 1048576) : VC_l5Begins l c k := by
 unfold VC_l5Begins
 simp only [cln, Nat.reduceEqDiff, Nat.reduceLeDiff, Nat.reduceAdd]
 all_goals (try simp only [opn])
 all_goals (repeat' (first | apply And.intro | intro _))
 all_goals (repeat (cases ‹_ /\ _›))
 all_goals (first | omega | rfl | assumption | (simp_all; done) | skip)
 all_goals (first
  | exact (bgn_yes ‹_› ‹_›).symm
  | exact bgn_step ‹_› ‹_› ‹_›
  | exact (bgn_end ‹_› ‹_›).symm
  | skip)
theorem ok_l5Begins : FnOk Try.prog E 159 c_l5Begins :=
 fn_okQ (l := L_l5Begins) (lp := P_l5Begins) (hp := fun _ => false) (gcs := fun _ => none) (perm := fun _ => []) tabOk mix trivial trivial Try.func159 rfl (by kernel_rfl) (by decide) (by kernel_rfl) (anns := fun x _ => an_l5Begins x.1 x.2.1) (fun ⟨l, c, _⟩ k hp _ => Eq.mp (by kernel_rfl) (vcn_l5Begins l c k hp)) tot_fn
end Go.Proofs.Ytfoioficiffgkaa
