/-
  Contracts of single functions of the program, each shown by the engine: what a call returns for arguments within the contract's bounds.
-/
import Derived.Test.YtfoioficiffgkaaFFnUnfoldLista
import Derived.Test.YtfoioficiffgkaaFFnUnfoldListb
import Derived.Test.YtfoioficiffgkaaEd
import Derived.Test.YtfoioficiffgkaaEe
set_option linter.unusedSimpArgs false
set_option linter.unusedVariables false
set_option linter.unusedSectionVars false

namespace Go.Proofs.Ytfoioficiffgkaa
open Go.SE Go.RowKit
set_option linter.unusedSimpArgs false
set_option linter.unusedVariables false
set_option maxHeartbeats 1000000
set_option maxRecDepth 100000
abbrev c_allocated : Con := ⟨[.state, .int], [.bool], fun (s, n, _) => stV s = true, .inl fun (s, n, _) => (al s n, ()), fun _ => 0⟩
abbrev L_allocated : List (FuncId × Con) := [(152, c_content)]
abbrev P_allocated : List (FuncId × PT) := []
def VC_allocated (s : GState) (n : Int) (k : Nat) : Prop := TN /\ True /\ True /\ True /\ ((stV s = true) /\ True /\ True) /\ True /\ True /\ (((decide ((0 : Int) <= (ct s n)), ()) : Bool × Unit) = (al s n, ())) /\ True /\ True /\ True /\ True /\ TF
theorem vcn_allocated (s : GState) (n : Int) (k : Nat) (hp : stV s = true) : VC_allocated s n k := by
 unfold VC_allocated
 simp only [cln, Nat.reduceEqDiff, Nat.reduceLeDiff, Nat.reduceAdd]
 all_goals (try simp only [opn])
 all_goals (repeat' (first | apply And.intro | intro _))
 all_goals (repeat (cases ‹_ /\ _›))
 all_goals (first | omega | rfl | assumption | (simp_all; done) | skip)
theorem ok_allocated : FnOk Try.prog E 121 c_allocated :=
 fn_okQ (l := L_allocated) (lp := P_allocated) (hp := fun _ => false) (gcs := fun _ => none) (perm := fun _ => []) tabOk mix ⟨ok_content, trivial⟩ trivial Try.func121 rfl (by kernel_rfl) (by decide) (by kernel_rfl) (anns := fun x _ => fun _ _ => none) (fun ⟨s, n, _⟩ k hp _ => Eq.mp (by kernel_rfl) (vcn_allocated s n k hp)) tot_fn
abbrev c_iWalkCells : Con := ⟨[.state, .int, .int], [.sl .int, .bool], fun (s, x, y, _) => s.vals.length <= 281474976710656 /\ s.heap.length <= 281474976710656, .inl fun (s, x, y, _) => (wkL s x y, wkB s x y, ()), fun _ => 0⟩
abbrev L_iWalkCells : List (FuncId × Con) := [(100, c_iStateValid), (101, c_isValue), (121, c_allocated), (152, c_content)]
abbrev P_iWalkCells : List (FuncId × PT) := []
def an_iWalkCells (s : GState) (x : Int) (y : Int) : Nat -> St -> Option Ann
 | 5, se => some { α := List Int × Int, ok := fun p => stV s = true /\ isT x = true /\ isT y = true /\ wkI s x y p.1 p.2, mu := fun p => 9 - p.1.length, i0 := fun st => (slAt .int st (.slot 8), intAt st 9), nx := fun p st => (slAt .int st (.slot 8), intAt st 9), live := [2, 3], sets := fun p => [(9, sv (.int .i64 p.2))], mids := [63], blks := fun p => [], owns := fun p => [⟨7, .slot 8, .int, p.1⟩], rd := fun r _ => r, base := 100000 }
 | _, _ => none
def VC_iWalkCells_1 (s : GState) (x : Int) (y : Int) : Prop := TN /\ True /\ (((([] : List Int), false, ()) : (List Int) × Bool × Unit) = (wkL s x y, wkB s x y, ())) /\ (True /\ True) /\ ((TF /\ TF) /\ True) /\ True /\ (True /\ True) /\ TF
def VC_iWalkCells_2 (s : GState) (x : Int) (y : Int) : Prop := True /\ (VC_iWalkCells_1 s x y)
def VC_iWalkCells (s : GState) (x : Int) (y : Int) (k : Nat) : Prop := TN /\ TN /\ True /\ True /\ ((s.vals.length <= 281474976710656 /\ s.heap.length <= 281474976710656) /\ True /\ True) /\ True /\ True /\ (vcIf (!(stV s)) (True /\ True /\ (VC_iWalkCells_2 s x y)) (True /\ (True /\ True /\ True) /\ True /\ True /\ True /\ (vcIf (!(isT x)) (VC_iWalkCells_2 s x y) (True /\ (True /\ True /\ True) /\ True /\ True /\ (vcIf (!(isT y)) (VC_iWalkCells_1 s x y) (TN /\ True /\ True /\ ((stV s = true /\ isT x = true /\ isT y = true /\ wkI s x y (([] : List Int), x).1 (([] : List Int), x).2) /\ TT /\ (RL [.s (.c (.d (.val (.int .i64 y)))), .s (.c (.ptr 63 0))]) /\ (([.s (.c (.d (.val (.int .i64 x))))] : List S) = [.s (.c (.d (.val (.int .i64 ((([] : List Int), x).2 : Int)))))]) /\ (RM [some (.blk [.d (.arr .int s.vals), .d (.arr .int s.heap)])]) /\ (RM []) /\ (((some ([] : List Int) : Option (List Int)) = some ((([] : List Int), x).1)) /\ True) /\ TT) /\ (∀ p1 : List Int × Int, (stV s = true /\ isT x = true /\ isT y = true /\ wkI s x y p1.1 p1.2) -> True /\ True /\ True /\ (vcIf ((p1.2 : Int) != y) (True /\ True /\ ((stV s = true) /\ True /\ True) /\ True /\ True /\ (vcIf (!(al s (p1.2 : Int))) (VC_iWalkCells_2 s x y) (True /\ True /\ True /\ True /\ (vcIf (((p1.1.length : Nat) : Int) == (8 : Int)) (VC_iWalkCells_1 s x y) (True /\ True /\ (TN /\ True) /\ (TN /\ TF /\ TF /\ (p1.1.length + ([(p1.2 : Int)] : List Int).length <= 4294967296)) /\ True /\ True /\ True /\ ((stV s = true) /\ True /\ True) /\ True /\ (stV s = true /\ isT x = true /\ isT y = true /\ wkI s x y ((p1.1 ++ ([(p1.2 : Int)] : List Int)), (ct s (p1.2 : Int))).1 ((p1.1 ++ ([(p1.2 : Int)] : List Int)), (ct s (p1.2 : Int))).2) /\ (9 - ((p1.1 ++ ([(p1.2 : Int)] : List Int)), (ct s (p1.2 : Int))).1.length < 9 - p1.1.length) /\ TT /\ (RL [.s (.c (.d (.val (.int .i64 y)))), .s (.c (.ptr 63 0))]) /\ (([.s (.c (.d (.val (.int .i64 (ct s (p1.2 : Int))))))] : List S) = [.s (.c (.d (.val (.int .i64 (((p1.1 ++ ([(p1.2 : Int)] : List Int)), (ct s (p1.2 : Int))).2 : Int)))))]) /\ (RM [some (.blk [.d (.arr .int s.vals), .d (.arr .int s.heap)])]) /\ (RM []) /\ (((some (p1.1 ++ ([(p1.2 : Int)] : List Int)) : Option (List Int)) = some (((p1.1 ++ ([(p1.2 : Int)] : List Int)), (ct s (p1.2 : Int))).1)) /\ True) /\ TT))))) (True /\ True /\ True /\ (((p1.1, true, ()) : (List Int) × Bool × Unit) = (wkL s x y, wkB s x y, ())) /\ (True /\ True) /\ ((TF /\ TF) /\ True) /\ True /\ (True /\ True) /\ TF)))))))))
theorem vcn_iWalkCells (s : GState) (x : Int) (y : Int) (k : Nat) (hp : s.vals.length <= 281474976710656 /\ s.heap.length <= 281474976710656) : VC_iWalkCells s x y k := by
 unfold VC_iWalkCells VC_iWalkCells_2 VC_iWalkCells_1
 simp only [cln, Nat.reduceEqDiff, Nat.reduceLeDiff, Nat.reduceAdd]
 all_goals (try simp only [opn])
 all_goals (repeat' (first | apply And.intro | intro _))
 all_goals (repeat (cases ‹_ /\ _›))
 all_goals (try have h7 := ‹wkI _ _ _ _ _›)
 all_goals (try have h8 := h7.le)
 all_goals (first | omega | rfl | assumption | (simp_all; done) | skip)
 all_goals (first
  | exact (wk_bad1 ‹_›).1.symm | exact (wk_bad1 ‹_›).2.symm
  | exact (wk_bad2 ‹_›).1.symm | exact (wk_bad2 ‹_›).2.symm
  | exact (wk_bad3 ‹_›).1.symm | exact (wk_bad3 ‹_›).2.symm
  | exact wkI_zero ‹_›
  | exact (wk_none (wk_no h7 ‹_› ‹_›) ‹_› ‹_› ‹_›).1.symm
  | exact (wk_none (wk_no h7 ‹_› ‹_›) ‹_› ‹_› ‹_›).2.symm
  | exact (wk_none (wk_full h7 ‹_› (by omega)) ‹_› ‹_› ‹_›).1.symm
  | exact (wk_none (wk_full h7 ‹_› (by omega)) ‹_› ‹_› ‹_›).2.symm
  | exact (wk_some (wk_end h7 ‹_›) ‹_› ‹_› ‹_›).1.symm
  | exact (wk_some (wk_end h7 ‹_›) ‹_› ‹_› ‹_›).2.symm
  | exact wk_go ‹_› h7 ‹_› ‹_› (by omega)
  | (rw [List.length_append, List.length_singleton]; omega)
  | skip)
theorem ok_iWalkCells : FnOk Try.prog E 151 c_iWalkCells :=
 fn_okQ (l := L_iWalkCells) (lp := P_iWalkCells) (hp := fun _ => false) (gcs := fun _ => none) (perm := fun _ => []) tabOk mix ⟨ok_iStateValid, ok_isValue, ok_allocated, ok_content, trivial⟩ trivial Try.func151 rfl (by kernel_rfl) (by decide) (by kernel_rfl) (anns := fun x _ => an_iWalkCells x.1 x.2.1 x.2.2.1) (fun ⟨s, x, y, _⟩ k hp _ => Eq.mp (by kernel_rfl) (vcn_iWalkCells s x y k hp)) tot_fn
abbrev c_iAtomCells : Con := ⟨[.state, .atom], [.sl .int, .bool], fun (s, x, _) => s.vals.length <= 281474976710656 /\ s.heap.length <= 281474976710656, .inl fun (s, x, _) => (acL s x, acB s x, ()), fun _ => 0⟩
abbrev L_iAtomCells : List (FuncId × Con) := [(81, c_iAtomValid), (100, c_iStateValid), (117, c_termValue), (151, c_iWalkCells), (152, c_content)]
abbrev P_iAtomCells : List (FuncId × PT) := []
def VC_iAtomCells_1 (s : GState) (x : GAtom) : Prop := TN /\ True /\ (((([] : List Int), false, ()) : (List Int) × Bool × Unit) = (acL s x, acB s x, ())) /\ (True /\ True) /\ ((TF /\ TF) /\ True) /\ True /\ (True /\ True) /\ TF
def VC_iAtomCells (s : GState) (x : GAtom) (k : Nat) : Prop := TN /\ TN /\ TN /\ True /\ True /\ ((s.vals.length <= 281474976710656 /\ s.heap.length <= 281474976710656) /\ True /\ True) /\ True /\ True /\ (vcIf (!(stV s)) (True /\ (VC_iAtomCells_1 s x)) (True /\ (True /\ True /\ True) /\ True /\ True /\ (vcIf (!(atV x)) (VC_iAtomCells_1 s x) (True /\ True /\ True /\ True /\ ((s.vals.length = 8 /\ isT x.a = true) /\ True /\ True) /\ True /\ True /\ True /\ True /\ ((s.vals.length = 8 /\ isT x.b = true) /\ True /\ True) /\ True /\ True /\ True /\ True /\ True /\ (vcIf (x.kind == (2 : Int)) (True /\ True /\ True /\ ((s.vals.length <= 281474976710656 /\ s.heap.length <= 281474976710656) /\ True /\ TN /\ True) /\ True /\ True /\ True /\ True /\ ((((wkL s (tv s.vals x.a) (tv s.vals x.b)), (wkB s (tv s.vals x.a) (tv s.vals x.b)), ()) : (List Int) × Bool × Unit) = (acL s x, acB s x, ())) /\ (True /\ True) /\ ((TF /\ TF) /\ True) /\ True /\ (True /\ True) /\ TF) (True /\ True /\ ((stV s = true) /\ True /\ True) /\ True /\ True /\ (vcIf ((ct s (tv s.vals x.a)) != (tv s.vals x.b)) (VC_iAtomCells_1 s x) (True /\ (TN /\ True) /\ True /\ True /\ (((([(tv s.vals x.a)] : List Int), true, ()) : (List Int) × Bool × Unit) = (acL s x, acB s x, ())) /\ (True /\ True) /\ ((TF /\ TF) /\ True) /\ True /\ (True /\ True) /\ TF))))))))
theorem vcn_iAtomCells (s : GState) (x : GAtom) (k : Nat) (hp : s.vals.length <= 281474976710656 /\ s.heap.length <= 281474976710656) : VC_iAtomCells s x k := by
 unfold VC_iAtomCells VC_iAtomCells_1
 simp only [cln, Nat.reduceEqDiff, Nat.reduceLeDiff, Nat.reduceAdd]
 all_goals (try simp only [opn])
 all_goals (repeat' (first | apply And.intro | intro _))
 all_goals (repeat (cases ‹_ /\ _›))
 all_goals (first | omega | rfl | assumption | (simp_all; done) | skip)
 all_goals (first
  | exact (ac_bad1 ‹_›).1.symm | exact (ac_bad1 ‹_›).2.symm
  | exact (ac_bad2 ‹_›).1.symm | exact (ac_bad2 ‹_›).2.symm
  | exact (stV_all ‹_›).1 | exact (atV_isT ‹_›).1 | exact (atV_isT ‹_›).2
  | exact (ac_list ‹_› ‹_› ‹_›).1.symm | exact (ac_list ‹_› ‹_› ‹_›).2.symm
  | exact (ac_no ‹_› ‹_› ‹_› ‹_›).1.symm | exact (ac_no ‹_› ‹_› ‹_› ‹_›).2.symm
  | exact (ac_yes ‹_› ‹_› ‹_› ‹_›).1.symm | exact (ac_yes ‹_› ‹_› ‹_› ‹_›).2.symm
  | skip)
theorem ok_iAtomCells : FnOk Try.prog E 119 c_iAtomCells :=
 fn_okQ (l := L_iAtomCells) (lp := P_iAtomCells) (hp := fun _ => false) (gcs := fun _ => none) (perm := fun _ => []) tabOk mix ⟨ok_iAtomValid, ok_iStateValid, ok_termValue, ok_iWalkCells, ok_content, trivial⟩ trivial Try.func119 rfl (by kernel_rfl) (by decide) (by kernel_rfl) (anns := fun x _ => fun _ _ => none) (fun ⟨s, x, _⟩ k hp _ => Eq.mp (by kernel_rfl) (vcn_iAtomCells s x k hp)) tot_fn
abbrev c_csHas : Con := ⟨[.u16, .int], [.bool], fun (z, n, _) => 0 <= z /\ z < 512, .inl fun (z, n, _) => (csHas z n, ()), fun _ => 0⟩
abbrev L_csHas : List (FuncId × Con) := [(153, c_isAddr)]
abbrev P_csHas : List (FuncId × PT) := []
def VC_csHas (z : Int) (n : Int) (k : Nat) : Prop := True /\ True /\ (True /\ True /\ True) /\ True /\ (vcIf (isAd n) (True /\ True /\ (0 <= n) /\ True /\ True /\ True /\ True /\ ((((bits .and .u16 (Int.fdiv z (2 ^ (min n.toNat (IntKind.bits .u16)))) (1 : Int)) == (1 : Int), ()) : Bool × Unit) = (csHas z n, ())) /\ True /\ True /\ True /\ True /\ TF) (True /\ True /\ (((false, ()) : Bool × Unit) = (csHas z n, ())) /\ True /\ True /\ True /\ True /\ TF))
theorem vcn_csHas (z : Int) (n : Int) (k : Nat) (hp : 0 <= z /\ z < 512) : VC_csHas z n k := by
 unfold VC_csHas
 simp only [cln, Nat.reduceEqDiff, Nat.reduceLeDiff, Nat.reduceAdd]
 all_goals (try simp only [opn])
 all_goals (repeat' (first | apply And.intro | intro _))
 all_goals (repeat (cases ‹_ /\ _›))
 all_goals (first | omega | rfl | assumption | (simp_all; done) | skip)
 all_goals (first | exact cs_yes hp.1 hp.2 ‹_› | exact cs_no ‹_› | (have h := isAd_iff.1 ‹isAd n = true›; omega) | exact cs_yes ‹_› ‹_› ‹_› | skip)
theorem ok_csHas : FnOk Try.prog E 120 c_csHas :=
 fn_okQ (l := L_csHas) (lp := P_csHas) (hp := fun _ => false) (gcs := fun _ => none) (perm := fun _ => []) tabOk mix ⟨ok_isAddr, trivial⟩ trivial Try.func120 rfl (by kernel_rfl) (by decide) (by kernel_rfl) (anns := fun x _ => fun _ _ => none) (fun ⟨z, n, _⟩ k hp _ => Eq.mp (by kernel_rfl) (vcn_csHas z n k hp)) tot_fn
abbrev c_partOf : Con := ⟨[.state, .asn], [.u16, .bool], fun (s, a, _) => s.vals.length <= 281474976710656 /\ s.heap.length <= 281474976710656 /\ a.facts.length <= 281474976710656 /\ a.atoms.length <= 281474976710656, .inl fun (s, a, _) => (maskS (poL s a), poB s a, ()), fun _ => 0⟩
abbrev L_partOf : List (FuncId × Con) := [(33, c_iAssertionValid), (100, c_iStateValid), (118, c_iFactsHold), (119, c_iAtomCells), (120, c_csHas)]
abbrev P_partOf : List (FuncId × PT) := []
def an_partOf (s : GState) (a : GAsn) : Nat -> St -> Option Ann
 | 5, se => some { α := Nat, ok := fun i => stV s = true /\ asV a = true /\ fctB s a.facts = true /\ ptI s a.atoms i, mu := fun i => a.atoms.length - i, i0 := fun _ => 0, nx := fun a _ => (fun i => i + 1) a, live := [2, 30, 31], sets := fun i => [(32, sv (.int .i64 i)), (6, sv (.int .u16 (maskS (ptL s a.atoms i))))], mids := [47], blks := fun i => [], owns := fun i => [], rd := fun r _ => r, base := 100000 }
 | 11, se => some { α := Nat, ok := fun j => j <= (slAt .int se (.slot 44)).length /\ nw (ptL s a.atoms (intAt se 32).toNat) (slAt .int se (.slot 44)) j, mu := fun j => (slAt .int se (.slot 44)).length - j, i0 := fun _ => 0, nx := fun a _ => (fun j => j + 1) a, live := [2, 30, 31, 32, 44, 45], sets := fun j => [(46, sv (.int .i64 j)), (6, sv (.int .u16 (maskS (ptL s a.atoms (intAt se 32).toNat ++ (slAt .int se (.slot 44)).take j))))], mids := [47, 100624], blks := fun j => [], owns := fun j => [], rd := fun r _ => r, base := 200000 }
 | _, _ => none
def VC_partOf_1 (s : GState) (a : GAsn) : Prop := True /\ True /\ ((((0 : Int), false, ()) : Int × Bool × Unit) = (maskS (poL s a), poB s a, ())) /\ True /\ True /\ True /\ True /\ TF
def VC_partOf_2 (s : GState) (a : GAsn) : Prop := True /\ (VC_partOf_1 s a)
def VC_partOf_3 (a : GAsn) : Prop := RL [.s (.c (.ptr 47 0)), .s (.c (.d (.arr .atom a.atoms))), .s (.c (.d (.val (.int .i64 ((a.atoms.length : Nat) : Int)))))]
def VC_partOf_4 (a : GAsn) (i1 : Nat) (s : GState) : Prop := RL [.s (.c (.ptr 47 0)), .s (.c (.d (.arr .atom a.atoms))), .s (.c (.d (.val (.int .i64 ((a.atoms.length : Nat) : Int))))), .s (.c (.d (.val (.int .i64 ((i1 : Nat) : Int))))), .s (.c (.own 100624)), .s (.c (.d (.val (.int .i64 (((acL s (a.atoms.getD i1 (⟨0, 0, 0⟩ : GAtom))).length : Nat) : Int)))))]
def VC_partOf_5 (s : GState) (a : GAsn) (i1 : Nat) : Prop := (RM [some (.blk [.d (.arr .int s.vals), .d (.arr .int s.heap)]), some (.sl 100624 .int (acL s (a.atoms.getD i1 (⟨0, 0, 0⟩ : GAtom))))]) /\ (RM []) /\ True /\ TT
def VC_partOf_6 (s : GState) (a : GAsn) (i1 : Nat) : Prop := (((0 <= ((acL s (a.atoms.getD i1 (⟨0, 0, 0⟩ : GAtom)))).length /\ nw (ptL s a.atoms (((i1 : Nat) : Int)).toNat) ((acL s (a.atoms.getD i1 (⟨0, 0, 0⟩ : GAtom)))) 0) /\ TT /\ (VC_partOf_4 a i1 s) /\ (([.s (.c (.d (.val (.int .i64 (0 : Int))))), .s (.c (.d (.val (.int .u16 (maskS (ptL s a.atoms i1) : Int)))))] : List S) = [.s (.c (.d (.val (.int .i64 ((0 : Nat) : Int))))), .s (.c (.d (.val (.int .u16 (maskS (ptL s a.atoms (((i1 : Nat) : Int)).toNat ++ ((acL s (a.atoms.getD i1 (⟨0, 0, 0⟩ : GAtom)))).take 0) : Int)))))]) /\ (VC_partOf_5 s a i1)) /\ (∀ j2 : Nat, (j2 <= ((acL s (a.atoms.getD i1 (⟨0, 0, 0⟩ : GAtom)))).length /\ nw (ptL s a.atoms (((i1 : Nat) : Int)).toNat) ((acL s (a.atoms.getD i1 (⟨0, 0, 0⟩ : GAtom)))) j2) -> True /\ (vcIf (decide (((j2 : Nat) : Int) < (((acL s (a.atoms.getD i1 (⟨0, 0, 0⟩ : GAtom))).length : Nat) : Int))) ((0 <= ((j2 : Nat) : Int) /\ ((j2 : Nat) : Int) < (((acL s (a.atoms.getD i1 (⟨0, 0, 0⟩ : GAtom))).length : Nat) : Int)) /\ True /\ True /\ True /\ True /\ ((0 <= (maskS (ptL s a.atoms (((i1 : Nat) : Int)).toNat ++ ((acL s (a.atoms.getD i1 (⟨0, 0, 0⟩ : GAtom)))).take j2) : Int) /\ (maskS (ptL s a.atoms (((i1 : Nat) : Int)).toNat ++ ((acL s (a.atoms.getD i1 (⟨0, 0, 0⟩ : GAtom)))).take j2) : Int) < 512) /\ True /\ True) /\ (vcIf (csHas (maskS (ptL s a.atoms (((i1 : Nat) : Int)).toNat ++ ((acL s (a.atoms.getD i1 (⟨0, 0, 0⟩ : GAtom)))).take j2) : Int) ((acL s (a.atoms.getD i1 (⟨0, 0, 0⟩ : GAtom))).getD j2 (0 : Int))) (VC_partOf_1 s a) (True /\ True /\ (0 <= ((acL s (a.atoms.getD i1 (⟨0, 0, 0⟩ : GAtom))).getD j2 (0 : Int))) /\ True /\ True /\ (inK .i64 (((j2 : Nat) : Int) + (1 : Int))) /\ True /\ ((j2 + 1) <= ((acL s (a.atoms.getD i1 (⟨0, 0, 0⟩ : GAtom)))).length /\ nw (ptL s a.atoms (((i1 : Nat) : Int)).toNat) ((acL s (a.atoms.getD i1 (⟨0, 0, 0⟩ : GAtom)))) (j2 + 1)) /\ (((acL s (a.atoms.getD i1 (⟨0, 0, 0⟩ : GAtom)))).length - (j2 + 1) < ((acL s (a.atoms.getD i1 (⟨0, 0, 0⟩ : GAtom)))).length - j2) /\ TT /\ (VC_partOf_4 a i1 s) /\ (([.s (.c (.d (.val (.int .i64 (((j2 : Nat) : Int) + (1 : Int)))))), .s (.c (.d (.val (.int .u16 (bits .or .u16 (maskS (ptL s a.atoms (((i1 : Nat) : Int)).toNat ++ ((acL s (a.atoms.getD i1 (⟨0, 0, 0⟩ : GAtom)))).take j2) : Int) (IntKind.wrap .u16 ((1 : Int) * 2 ^ (min ((acL s (a.atoms.getD i1 (⟨0, 0, 0⟩ : GAtom))).getD j2 (0 : Int)).toNat (IntKind.bits .u16)))))))))] : List S) = [.s (.c (.d (.val (.int .i64 (((j2 + 1) : Nat) : Int))))), .s (.c (.d (.val (.int .u16 (maskS (ptL s a.atoms (((i1 : Nat) : Int)).toNat ++ ((acL s (a.atoms.getD i1 (⟨0, 0, 0⟩ : GAtom)))).take (j2 + 1)) : Int)))))]) /\ (VC_partOf_5 s a i1)))) ((inK .i64 (((i1 : Nat) : Int) + (1 : Int))) /\ True /\ (stV s = true /\ asV a = true /\ fctB s a.facts = true /\ ptI s a.atoms (i1 + 1)) /\ (a.atoms.length - (i1 + 1) < a.atoms.length - i1) /\ TT /\ (VC_partOf_3 a) /\ (([.s (.c (.d (.val (.int .i64 (((i1 : Nat) : Int) + (1 : Int)))))), .s (.c (.d (.val (.int .u16 (maskS (ptL s a.atoms (((i1 : Nat) : Int)).toNat ++ ((acL s (a.atoms.getD i1 (⟨0, 0, 0⟩ : GAtom)))).take j2) : Int)))))] : List S) = [.s (.c (.d (.val (.int .i64 (((i1 + 1) : Nat) : Int))))), .s (.c (.d (.val (.int .u16 (maskS (ptL s a.atoms (i1 + 1)) : Int)))))]) /\ (RM [some (.blk [.d (.arr .int s.vals), .d (.arr .int s.heap)])]) /\ (RM []) /\ True /\ TT))))
def VC_partOf (s : GState) (a : GAsn) (k : Nat) : Prop := TN /\ TN /\ True /\ True /\ True /\ ((s.vals.length <= 281474976710656 /\ s.heap.length <= 281474976710656) /\ True /\ True) /\ True /\ True /\ (vcIf (!(stV s)) (True /\ True /\ (VC_partOf_2 s a)) (True /\ ((a.facts.length <= 281474976710656 /\ a.atoms.length <= 281474976710656) /\ True /\ True) /\ True /\ True /\ True /\ (vcIf (!(asV a)) (VC_partOf_2 s a) (True /\ True /\ True /\ True /\ ((a.facts.length <= 281474976710656 /\ s.vals.length <= 281474976710656) /\ True /\ True) /\ True /\ True /\ (vcIf (!(fsV a.facts && (s.vals.length == 8 && a.facts.all (holdF s.vals)))) (VC_partOf_1 s a) (True /\ True /\ True /\ True /\ True /\ ((stV s = true /\ asV a = true /\ fctB s a.facts = true /\ ptI s a.atoms 0) /\ TT /\ (VC_partOf_3 a) /\ (([.s (.c (.d (.val (.int .i64 (0 : Int))))), .s (.c (.d (.val (.int .u16 (0 : Int)))))] : List S) = [.s (.c (.d (.val (.int .i64 ((0 : Nat) : Int))))), .s (.c (.d (.val (.int .u16 (maskS (ptL s a.atoms 0) : Int)))))]) /\ (RM [some (.blk [.d (.arr .int s.vals), .d (.arr .int s.heap)])]) /\ (RM []) /\ True /\ TT) /\ (∀ i1 : Nat, (stV s = true /\ asV a = true /\ fctB s a.facts = true /\ ptI s a.atoms i1) -> True /\ (vcIf (decide (((i1 : Nat) : Int) < ((a.atoms.length : Nat) : Int))) ((0 <= ((i1 : Nat) : Int) /\ ((i1 : Nat) : Int) < ((a.atoms.length : Nat) : Int)) /\ True /\ (TN /\ True) /\ (TF /\ TF) /\ True /\ True /\ ((s.vals.length <= 281474976710656 /\ s.heap.length <= 281474976710656) /\ True /\ TN /\ True) /\ True /\ True /\ True /\ True /\ True /\ True /\ True /\ (vcIf (!(acB s (a.atoms.getD i1 (⟨0, 0, 0⟩ : GAtom)))) (VC_partOf_1 s a) (True /\ True /\ True /\ (VC_partOf_6 s a i1)))) (True /\ True /\ True /\ ((((maskS (ptL s a.atoms i1) : Int), true, ()) : Int × Bool × Unit) = (maskS (poL s a), poB s a, ())) /\ True /\ True /\ True /\ True /\ TF)))))))))
theorem vcn_partOf (s : GState) (a : GAsn) (k : Nat) (hp : s.vals.length <= 281474976710656 /\ s.heap.length <= 281474976710656 /\ a.facts.length <= 281474976710656 /\ a.atoms.length <= 281474976710656) : VC_partOf s a k := by
 unfold VC_partOf VC_partOf_6 VC_partOf_5 VC_partOf_4 VC_partOf_3 VC_partOf_2 VC_partOf_1
 simp only [cln, Nat.reduceEqDiff, Nat.reduceLeDiff, Nat.reduceAdd]
 all_goals (try simp only [opn])
 all_goals (repeat' (first | apply And.intro | intro _))
 all_goals (repeat (cases ‹_ /\ _›))
 all_goals (try have h7 := ‹ptI _ _ _›)
 all_goals (first | omega | assumption | skip)
 all_goals (first
  | exact (po_q1 ‹_›).1 | exact (po_q1 ‹_›).2
  | exact (po_q2 ‹_›).1 | exact (po_q2 ‹_›).2
  | exact (po_q3 ‹_› ‹_› ‹_›).1 | exact (po_q3 ‹_› ‹_› ‹_›).2
  | exact ptI_zero | exact nw_zero | (rw [← fct_iff ‹_› ‹_›]; assumption)
  | exact (po_q4 ‹_› ‹_› ‹_› h7 ‹_› ‹_›).1 | exact (po_q4 ‹_› ‹_› ‹_› h7 ‹_› ‹_›).2
  | exact (po_q5 ‹_› ‹_› ‹_› h7 ‹_› ‹_› ‹_›).1 | exact (po_q5 ‹_› ‹_› ‹_› h7 ‹_› ‹_› ‹_›).2
  | with_reducible exact (maskS_bd _).1 | with_reducible exact (maskS_bd _).2
  | exact po_g1 ‹_› ‹_› ‹_› ‹_›
  | exact po_g2 ‹_› ‹_›
  | exact (po_n ‹_› ‹_› h7 ‹_› ‹_› ‹_› ‹_› ‹_›).1
  | exact (po_n ‹_› ‹_› h7 ‹_› ‹_› ‹_› ‹_› ‹_›).2
  | exact (po_e ‹_› ‹_› ‹_› h7 ‹_›).1 | exact (po_e ‹_› ‹_› ‹_› h7 ‹_›).2
  | (have h := isAd_iff.1 (ac_get ‹_› ‹_›); omega)
  | exact jb ‹_› | exact po_g1 ‹_› ‹_› ‹_› ‹_› _ ‹_›
  | (rw [List.take_zero, List.append_nil]; done)
  | exact maskS_zero | exact maskS_zero.symm | rfl
  | skip)
theorem ok_partOf : FnOk Try.prog E 62 c_partOf :=
 fn_okQ (l := L_partOf) (lp := P_partOf) (hp := fun _ => false) (gcs := fun _ => none) (perm := fun _ => []) tabOk mix ⟨ok_iAssertionValid, ok_iStateValid, ok_iFactsHold, ok_iAtomCells, ok_csHas, trivial⟩ trivial Try.func62 rfl (by kernel_rfl) (by decide) (by kernel_rfl) (anns := fun x _ => an_partOf x.1 x.2.1) (fun ⟨s, a, _⟩ k hp _ => Eq.mp (by kernel_rfl) (vcn_partOf s a k hp)) tot_fn
abbrev c_usedIn : Con := ⟨[.state], [.u16], fun (s, _) => stV s = true, .inl fun (s, _) => (maskS (usL s 8), ()), fun _ => 0⟩
abbrev L_usedIn : List (FuncId × Con) := [(121, c_allocated)]
abbrev P_usedIn : List (FuncId × PT) := []
def an_usedIn (s : GState) : Nat -> St -> Option Ann
 | 3, se => some { α := Nat, ok := fun i => i <= 8, mu := fun i => 8 - i, i0 := fun _ => 0, nx := fun a _ => (fun i => i + 1) a, live := [1, 2], sets := fun i => [(4, sv (.int .i64 ((i : Int) + 1))), (3, sv (.int .u16 (maskS (usL s i))))], mids := [31], blks := fun i => [], owns := fun i => [], rd := fun r _ => r, base := 100000 }
 | _, _ => none
def VC_usedIn (s : GState) (k : Nat) : Prop := TN /\ True /\ True /\ True /\ ((0 <= 8) /\ TT /\ (RL [.s (.c (.ptr 31 0)), .s (.c (.d (.val (.int .u16 (0 : Int)))))]) /\ (([.s (.c (.d (.val (.int .i64 (1 : Int))))), .s (.c (.d (.val (.int .u16 (0 : Int)))))] : List S) = [.s (.c (.d (.val (.int .i64 ((0 : Int) + 1 : Int))))), .s (.c (.d (.val (.int .u16 (maskS (usL s 0) : Int)))))]) /\ (RM [some (.blk [.d (.arr .int s.vals), .d (.arr .int s.heap)])]) /\ (RM []) /\ True /\ TT) /\ (∀ i1 : Nat, (i1 <= 8) -> True /\ True /\ (vcIf (decide (((i1 : Int) + 1 : Int) <= (8 : Int))) (True /\ True /\ ((stV s = true) /\ True /\ True) /\ (vcIf (al s ((i1 : Int) + 1 : Int)) (True /\ True /\ (0 <= ((i1 : Int) + 1 : Int)) /\ True /\ True /\ True /\ (inK .i64 (((i1 : Int) + 1 : Int) + (1 : Int))) /\ True /\ ((i1 + 1) <= 8) /\ (8 - (i1 + 1) < 8 - i1) /\ TT /\ (RL [.s (.c (.ptr 31 0)), .s (.c (.d (.val (.int .u16 (0 : Int)))))]) /\ (([.s (.c (.d (.val (.int .i64 (((i1 : Int) + 1 : Int) + (1 : Int)))))), .s (.c (.d (.val (.int .u16 (bits .or .u16 (maskS (usL s i1) : Int) (IntKind.wrap .u16 ((1 : Int) * 2 ^ (min ((i1 : Int) + 1 : Int).toNat (IntKind.bits .u16)))))))))] : List S) = [.s (.c (.d (.val (.int .i64 (((i1 + 1) : Int) + 1 : Int))))), .s (.c (.d (.val (.int .u16 (maskS (usL s (i1 + 1)) : Int)))))]) /\ (RM [some (.blk [.d (.arr .int s.vals), .d (.arr .int s.heap)])]) /\ (RM []) /\ True /\ TT) (True /\ (inK .i64 (((i1 : Int) + 1 : Int) + (1 : Int))) /\ True /\ ((i1 + 1) <= 8) /\ (8 - (i1 + 1) < 8 - i1) /\ TT /\ (RL [.s (.c (.ptr 31 0)), .s (.c (.d (.val (.int .u16 (0 : Int)))))]) /\ (([.s (.c (.d (.val (.int .i64 (((i1 : Int) + 1 : Int) + (1 : Int)))))), .s (.c (.d (.val (.int .u16 (maskS (usL s i1) : Int)))))] : List S) = [.s (.c (.d (.val (.int .i64 (((i1 + 1) : Int) + 1 : Int))))), .s (.c (.d (.val (.int .u16 (maskS (usL s (i1 + 1)) : Int)))))]) /\ (RM [some (.blk [.d (.arr .int s.vals), .d (.arr .int s.heap)])]) /\ (RM []) /\ True /\ TT))) (True /\ True /\ ((((maskS (usL s i1) : Int), ()) : Int × Unit) = (maskS (usL s 8), ())) /\ True /\ True /\ True /\ True /\ TF)))
theorem vcn_usedIn (s : GState) (k : Nat) (hp : stV s = true) : VC_usedIn s k := by
 unfold VC_usedIn
 simp only [cln, Nat.reduceEqDiff, Nat.reduceLeDiff, Nat.reduceAdd]
 all_goals (try simp only [opn])
 all_goals (repeat' (first | apply And.intro | intro _))
 all_goals (repeat (cases ‹_ /\ _›))
 all_goals (first | omega | rfl | assumption | (simp_all; done) | skip)
 all_goals (first | exact us1 ‹_› ‹_› | exact us2 ‹_› ‹_› | exact us3 ‹_› ‹_› | skip)
theorem ok_usedIn : FnOk Try.prog E 63 c_usedIn :=
 fn_okQ (l := L_usedIn) (lp := P_usedIn) (hp := fun _ => false) (gcs := fun _ => none) (perm := fun _ => []) tabOk mix ⟨ok_allocated, trivial⟩ trivial Try.func63 rfl (by kernel_rfl) (by decide) (by kernel_rfl) (anns := fun x _ => an_usedIn x.1) (fun ⟨s, _⟩ k hp _ => Eq.mp (by kernel_rfl) (vcn_usedIn s k hp)) tot_fn
abbrev c_iHolds : Con := ⟨[.state, .asn], [.bool], fun (s, a, _) => s.vals.length <= 281474976710656 /\ s.heap.length <= 281474976710656 /\ a.facts.length <= 281474976710656 /\ a.atoms.length <= 281474976710656, .inl fun (s, a, _) => (HOL s a, ()), fun _ => 0⟩
abbrev L_iHolds : List (FuncId × Con) := [(62, c_partOf), (63, c_usedIn)]
abbrev P_iHolds : List (FuncId × PT) := []
def VC_iHolds (s : GState) (a : GAsn) (k : Nat) : Prop := TN /\ TN /\ True /\ True /\ True /\ ((s.vals.length <= 281474976710656 /\ s.heap.length <= 281474976710656 /\ a.facts.length <= 281474976710656 /\ a.atoms.length <= 281474976710656) /\ True /\ True) /\ True /\ True /\ True /\ True /\ True /\ True /\ True /\ (vcIf (poB s a) (True /\ True /\ ((stV s = true) /\ True /\ True) /\ True /\ True /\ True /\ ((((maskS (poL s a)) == (maskS (usL s 8)), ()) : Bool × Unit) = (HOL s a, ())) /\ True /\ True /\ True /\ True /\ TF) (True /\ True /\ (((false, ()) : Bool × Unit) = (HOL s a, ())) /\ True /\ True /\ True /\ True /\ TF))
theorem vcn_iHolds (s : GState) (a : GAsn) (k : Nat) (hp : s.vals.length <= 281474976710656 /\ s.heap.length <= 281474976710656 /\ a.facts.length <= 281474976710656 /\ a.atoms.length <= 281474976710656) : VC_iHolds s a k := by
 unfold VC_iHolds
 simp only [cln, Nat.reduceEqDiff, Nat.reduceLeDiff, Nat.reduceAdd]
 all_goals (try simp only [opn])
 all_goals (repeat' (first | apply And.intro | intro _))
 all_goals (repeat (cases ‹_ /\ _›))
 all_goals (first | omega | rfl | assumption | (simp_all; done) | skip)
 all_goals (first | exact (po_v ‹_›).1 | exact hol_mask ‹_› | exact (hol_poF ‹_›).symm | skip)
theorem ok_iHolds : FnOk Try.prog E 21 c_iHolds :=
 fn_okQ (l := L_iHolds) (lp := P_iHolds) (hp := fun _ => false) (gcs := fun _ => none) (perm := fun _ => []) tabOk mix ⟨ok_partOf, ok_usedIn, trivial⟩ trivial Try.func21 rfl (by kernel_rfl) (by decide) (by kernel_rfl) (anns := fun x _ => fun _ _ => none) (fun ⟨s, a, _⟩ k hp _ => Eq.mp (by kernel_rfl) (vcn_iHolds s a k hp)) tot_fn
abbrev c_factsHold : Con := ⟨[.pkase, .sl .fact], [.bool], fun (c, l, _) => c.length = 9 /\ l.all fV = true /\ l.length <= 1048576, .inl fun (c, l, _) => (l.all (fh c), ()), fun _ => 0⟩
abbrev L_factsHold : List (FuncId × Con) := [(88, c_factHolds)]
abbrev P_factsHold : List (FuncId × PT) := []
def an_factsHold (c : List Int) (l : List GFact) : Nat -> St -> Option Ann
 | 2, se => some { α := Nat, ok := fun i => i <= l.length /\ (l.take i).all (fh c) = true, mu := fun i => l.length - i, i0 := fun _ => 0, nx := fun a _ => (fun i => i + 1) a, live := [0, 7, 8], sets := fun i => [(9, sv (.int .i64 i))], mids := [], blks := fun i => [], owns := fun i => [], rd := fun r _ => r, base := 100000 }
 | _, _ => none
def VC_factsHold_1 (c : List Int) (l : List GFact) : Prop := RL [.s (.c (.rv .int c)), .s (.c (.d (.arr .fact l))), .s (.c (.d (.val (.int .i64 ((l.length : Nat) : Int)))))]
def VC_factsHold (c : List Int) (l : List GFact) (k : Nat) : Prop := True /\ True /\ True /\ True /\ ((0 <= l.length /\ (l.take 0).all (fh c) = true) /\ TT /\ (VC_factsHold_1 c l) /\ (([.s (.c (.d (.val (.int .i64 (0 : Int)))))] : List S) = [.s (.c (.d (.val (.int .i64 ((0 : Nat) : Int)))))]) /\ (RM []) /\ (RM []) /\ True /\ TT) /\ (∀ i1 : Nat, (i1 <= l.length /\ (l.take i1).all (fh c) = true) -> True /\ (vcIf (decide (((i1 : Nat) : Int) < ((l.length : Nat) : Int))) ((0 <= ((i1 : Nat) : Int) /\ ((i1 : Nat) : Int) < ((l.length : Nat) : Int)) /\ True /\ (TN /\ True) /\ (TF /\ TF) /\ True /\ True /\ ((c.length = 9 /\ fV (l.getD i1 (⟨false, 0, 0⟩ : GFact)) = true) /\ True /\ True) /\ True /\ (vcIf (!(fh c (l.getD i1 (⟨false, 0, 0⟩ : GFact)))) (True /\ (((false, ()) : Bool × Unit) = (l.all (fh c), ())) /\ True /\ True /\ True /\ True /\ TF) ((inK .i64 (((i1 : Nat) : Int) + (1 : Int))) /\ True /\ ((i1 + 1) <= l.length /\ (l.take (i1 + 1)).all (fh c) = true) /\ (l.length - (i1 + 1) < l.length - i1) /\ TT /\ (VC_factsHold_1 c l) /\ (([.s (.c (.d (.val (.int .i64 (((i1 : Nat) : Int) + (1 : Int))))))] : List S) = [.s (.c (.d (.val (.int .i64 (((i1 + 1) : Nat) : Int)))))]) /\ (RM []) /\ (RM []) /\ True /\ TT))) (True /\ (((true, ()) : Bool × Unit) = (l.all (fh c), ())) /\ True /\ True /\ True /\ True /\ TF)))
theorem vcn_factsHold (c : List Int) (l : List GFact) (k : Nat) (hp : c.length = 9 /\ l.all fV = true /\ l.length <= 1048576) : VC_factsHold c l k := by
 unfold VC_factsHold VC_factsHold_1
 simp only [cln, Nat.reduceEqDiff, Nat.reduceLeDiff, Nat.reduceAdd]
 have hV := hp.2.1
 all_goals (try simp only [opn])
 all_goals (repeat' (first | apply And.intro | intro _))
 all_goals (repeat (cases ‹_ /\ _›))
 all_goals (first | omega | rfl | assumption | (simp_all; done) | grind [take_all, all_take, take_full, Ty.zero])
theorem ok_factsHold : FnOk Try.prog E 130 c_factsHold :=
 fn_okQ (l := L_factsHold) (lp := P_factsHold) (hp := fun _ => false) (gcs := fun _ => none) (perm := fun _ => []) tabOk mix ⟨ok_factHolds, trivial⟩ trivial Try.func130 rfl (by kernel_rfl) (by decide) (by kernel_rfl) (anns := fun x _ => an_factsHold x.1 x.2.1) (fun ⟨c, l, _⟩ k hp _ => Eq.mp (by kernel_rfl) (vcn_factsHold c l k hp)) tot_fn
abbrev m_cmUnused : BCon := ⟨[.int], [.int, .bool], fun l u n (q, _) => l.length <= 6 /\ u.length = 6 /\ n = cnt u, fun l u n (q, _) => u, fun l u n (q, _) => n, fun l u n (q, _) => (uaI l u q, uaB l u q, ())⟩
abbrev pt_cmUnused : PT := ptB m_cmUnused
abbrev L_cmUnused : List (FuncId × Con) := []
abbrev P_cmUnused : List (FuncId × PT) := []
def an_cmUnused (l : List GAtom) (u : List Bool) (n : Int) (q : Int) (v : Value) : Nat -> St -> Option Ann
 | 2, se => some { α := Nat, ok := fun i => i <= l.length /\ uaN l u q i = true, mu := fun i => l.length - i, i0 := fun _ => 0, nx := fun a _ => (fun i => i + 1) a, live := [0, 1, 11, 12], sets := fun i => [(13, sv (.int .i64 i))], mids := [7], blks := fun i => [], owns := fun i => [], rd := fun r _ => r, base := 100000 }
 | _, _ => none
def hp_cmUnused : Nat -> Bool
 | 4 => true
 | _ => false
def VC_cmUnused_1 (q : Int) (l : List GAtom) : Prop := RL [.s (.c (.ptr 7 0)), .s (.c (.d (.val (.int .i64 q)))), .s (.c (.d (.arr .atom l))), .s (.c (.d (.val (.int .i64 ((l.length : Nat) : Int)))))]
def VC_cmUnused_2 (l : List GAtom) (v : Value) (u : List Bool) (n : Int) : Prop := (RM [some (.blk [.d (.fix .atom l v), .d (.val (.bool (u.getD 0 false))), .d (.val (.bool (u.getD 1 false))), .d (.val (.bool (u.getD 2 false))), .d (.val (.bool (u.getD 3 false))), .d (.val (.bool (u.getD 4 false))), .d (.val (.bool (u.getD 5 false))), .d (.val (.int .i64 n))])]) /\ (RM []) /\ True /\ TT
def VC_cmUnused_3 (i1 : Nat) (l : List GAtom) (u : List Bool) (q : Int) (v : Value) (n : Int) : Prop := True /\ True /\ True /\ (((((i1 : Nat) : Int), true, ()) : Int × Bool × Unit) = (uaI l u q, uaB l u q, ())) /\ True /\ True /\ True /\ (TF /\ TF) /\ ((v : Value) = v) /\ (sx6 u = u) /\ ((n : Int) = n)
def VC_cmUnused_4 (i1 : Nat) (l : List GAtom) (u : List Bool) (q : Int) (v : Value) (n : Int) : Prop := (inK .i64 (((i1 : Nat) : Int) + (1 : Int))) /\ True /\ ((i1 + 1) <= l.length /\ uaN l u q (i1 + 1) = true) /\ (l.length - (i1 + 1) < l.length - i1) /\ TT /\ (VC_cmUnused_1 q l) /\ (([.s (.c (.d (.val (.int .i64 (((i1 : Nat) : Int) + (1 : Int))))))] : List S) = [.s (.c (.d (.val (.int .i64 (((i1 + 1) : Nat) : Int)))))]) /\ (VC_cmUnused_2 l v u n)
def VC_cmUnused (l : List GAtom) (u : List Bool) (n : Int) (q : Int) (v : Value) (k : Nat) : Prop := True /\ True /\ True /\ True /\ True /\ True /\ True /\ True /\ ((0 <= l.length /\ uaN l u q 0 = true) /\ TT /\ (VC_cmUnused_1 q l) /\ (([.s (.c (.d (.val (.int .i64 (0 : Int)))))] : List S) = [.s (.c (.d (.val (.int .i64 ((0 : Nat) : Int)))))]) /\ (VC_cmUnused_2 l v u n)) /\ (∀ i1 : Nat, (i1 <= l.length /\ uaN l u q i1 = true) -> True /\ (vcIf (decide (((i1 : Nat) : Int) < ((l.length : Nat) : Int))) (True /\ (0 <= ((i1 : Nat) : Int) /\ ((i1 : Nat) : Int) < ((l.length : Nat) : Int)) /\ True /\ (TN /\ True) /\ True /\ (TF /\ TF) /\ True /\ True /\ True /\ True /\ True /\ (vcIf (((l.getD i1 (⟨0, 0, 0⟩ : GAtom)).a) == q) (True /\ True /\ True /\ True /\ ((0 <= ((i1 : Nat) : Int)) /\ (((i1 : Nat) : Int) < ((6 : Nat) : Int))) /\ (((((True /\ ((((i1 : Nat) : Int) = ((0 : Nat) : Int)) -> True /\ True /\ True /\ True /\ (vcIf (!(u.getD 0 false)) (VC_cmUnused_3 i1 l u q v n) (VC_cmUnused_4 i1 l u q v n)))) /\ ((((i1 : Nat) : Int) = ((1 : Nat) : Int)) -> True /\ True /\ True /\ True /\ (vcIf (!(u.getD 1 false)) (VC_cmUnused_3 i1 l u q v n) (VC_cmUnused_4 i1 l u q v n)))) /\ ((((i1 : Nat) : Int) = ((2 : Nat) : Int)) -> True /\ True /\ True /\ True /\ (vcIf (!(u.getD 2 false)) (VC_cmUnused_3 i1 l u q v n) (VC_cmUnused_4 i1 l u q v n)))) /\ ((((i1 : Nat) : Int) = ((3 : Nat) : Int)) -> True /\ True /\ True /\ True /\ (vcIf (!(u.getD 3 false)) (VC_cmUnused_3 i1 l u q v n) (VC_cmUnused_4 i1 l u q v n)))) /\ ((((i1 : Nat) : Int) = ((4 : Nat) : Int)) -> True /\ True /\ True /\ True /\ (vcIf (!(u.getD 4 false)) (VC_cmUnused_3 i1 l u q v n) (VC_cmUnused_4 i1 l u q v n)))) /\ ((((i1 : Nat) : Int) = ((5 : Nat) : Int)) -> True /\ True /\ True /\ True /\ (vcIf (!(u.getD 5 false)) (VC_cmUnused_3 i1 l u q v n) (VC_cmUnused_4 i1 l u q v n)))) (True /\ (VC_cmUnused_4 i1 l u q v n)))) (True /\ True /\ ((((0 : Int), false, ()) : Int × Bool × Unit) = (uaI l u q, uaB l u q, ())) /\ True /\ True /\ True /\ (TF /\ TF) /\ ((v : Value) = v) /\ (sx6 u = u) /\ ((n : Int) = n))))
theorem vcn_cmUnused (l : List GAtom) (u : List Bool) (n : Int) (q : Int) (v : Value) (k : Nat) (hp : l.length <= 6 /\ u.length = 6 /\ n = cnt u) : VC_cmUnused l u n q v k := by
 unfold VC_cmUnused VC_cmUnused_4 VC_cmUnused_3 VC_cmUnused_2 VC_cmUnused_1
 simp only [cln, Nat.reduceEqDiff, Nat.reduceLeDiff, Nat.reduceAdd]
 obtain ⟨hl, hu, hn⟩ := hp
 have h6 := sx6_eta hu
 all_goals (try simp only [vcIf_iff, decide_eq_true_eq, decide_eq_false_iff_not, bne_iff_ne, ne_eq, beq_iff_eq, beq_eq_false_iff_ne, bne_eq_false_iff_eq, Bool.not_eq_true', Bool.not_eq_false', Int.ofNat_lt])
 all_goals (repeat' (first | apply And.intro | intro _))
 all_goals (repeat (cases ‹_ /\ _›))
 all_goals (first | omega | rfl | assumption | exact h6 | (simp_all; done) | skip)
 all_goals (first
  | exact (ua_hit ‹_› ‹_› ‹_› ‹_› ‹_›).1
  | exact (ua_hit ‹_› ‹_› ‹_› ‹_› ‹_›).2
  | exact (ua_miss ‹_› ‹_› ‹_›).1
  | exact (ua_miss ‹_› ‹_› ‹_›).2
  | exact uaN_s1 ‹_› ‹_›
  | exact uaN_s2 ‹_› ‹_› ‹_›
  | skip)
theorem ptok_cmUnused : PTOk Try.prog E 156 pt_cmUnused :=
 blk_ok (c := m_cmUnused) (fn := Try.f156) (l := L_cmUnused) (lp := P_cmUnused) (hp := hp_cmUnused) (perm := fun _ => []) tabOk mix trivial trivial Try.func156 rfl (by kernel_rfl) rfl (show m_cmUnused.k2.length + 1 <= Try.f156.ntmps by decide) (by kernel_rfl) (anns := fun l u n y v => an_cmUnused l u n y.1 v) (fun l u n ⟨q, _⟩ v hp => Eq.mp (by kernel_rfl) (vcn_cmUnused l u n q v 0 hp))
abbrev m_cmTake : BCon := ⟨[.int], [], fun l u n (i, _) => l.length <= 6 /\ u.length = 6 /\ n = cnt u /\ 0 <= i /\ i < 6 /\ u.getD i.toNat false = false, fun l u n (i, _) => u.set i.toNat true, fun l u n (i, _) => n + 1, fun l u n (i, _) => ()⟩
abbrev pt_cmTake : PT := ptB m_cmTake
abbrev L_cmTake : List (FuncId × Con) := []
abbrev P_cmTake : List (FuncId × PT) := []
def hp_cmTake : Nat -> Bool
 | 0 => true
 | _ => false
def VC_cmTake (l : List GAtom) (u : List Bool) (n : Int) (i : Int) (v : Value) (k : Nat) : Prop := True /\ True /\ True /\ True /\ ((0 <= i) /\ (i < ((6 : Nat) : Int))) /\ (((((True /\ ((i = ((0 : Nat) : Int)) -> True /\ (TF /\ TF) /\ True /\ True /\ True /\ True /\ (inK .i64 (n + (1 : Int))) /\ True /\ True /\ (TF /\ TF) /\ ((() : Unit) = ()) /\ True /\ True /\ True /\ (TF /\ TF) /\ ((v : Value) = v) /\ (six true (u.getD 1 false) (u.getD 2 false) (u.getD 3 false) (u.getD 4 false) (u.getD 5 false) = u.set i.toNat true) /\ ((n + (1 : Int) : Int) = n + 1))) /\ ((i = ((1 : Nat) : Int)) -> True /\ (TF /\ TF) /\ True /\ True /\ True /\ True /\ (inK .i64 (n + (1 : Int))) /\ True /\ True /\ (TF /\ TF) /\ ((() : Unit) = ()) /\ True /\ True /\ True /\ (TF /\ TF) /\ ((v : Value) = v) /\ (six (u.getD 0 false) true (u.getD 2 false) (u.getD 3 false) (u.getD 4 false) (u.getD 5 false) = u.set i.toNat true) /\ ((n + (1 : Int) : Int) = n + 1))) /\ ((i = ((2 : Nat) : Int)) -> True /\ (TF /\ TF) /\ True /\ True /\ True /\ True /\ (inK .i64 (n + (1 : Int))) /\ True /\ True /\ (TF /\ TF) /\ ((() : Unit) = ()) /\ True /\ True /\ True /\ (TF /\ TF) /\ ((v : Value) = v) /\ (six (u.getD 0 false) (u.getD 1 false) true (u.getD 3 false) (u.getD 4 false) (u.getD 5 false) = u.set i.toNat true) /\ ((n + (1 : Int) : Int) = n + 1))) /\ ((i = ((3 : Nat) : Int)) -> True /\ (TF /\ TF) /\ True /\ True /\ True /\ True /\ (inK .i64 (n + (1 : Int))) /\ True /\ True /\ (TF /\ TF) /\ ((() : Unit) = ()) /\ True /\ True /\ True /\ (TF /\ TF) /\ ((v : Value) = v) /\ (six (u.getD 0 false) (u.getD 1 false) (u.getD 2 false) true (u.getD 4 false) (u.getD 5 false) = u.set i.toNat true) /\ ((n + (1 : Int) : Int) = n + 1))) /\ ((i = ((4 : Nat) : Int)) -> True /\ (TF /\ TF) /\ True /\ True /\ True /\ True /\ (inK .i64 (n + (1 : Int))) /\ True /\ True /\ (TF /\ TF) /\ ((() : Unit) = ()) /\ True /\ True /\ True /\ (TF /\ TF) /\ ((v : Value) = v) /\ (six (u.getD 0 false) (u.getD 1 false) (u.getD 2 false) (u.getD 3 false) true (u.getD 5 false) = u.set i.toNat true) /\ ((n + (1 : Int) : Int) = n + 1))) /\ ((i = ((5 : Nat) : Int)) -> True /\ (TF /\ TF) /\ True /\ True /\ True /\ True /\ (inK .i64 (n + (1 : Int))) /\ True /\ True /\ (TF /\ TF) /\ ((() : Unit) = ()) /\ True /\ True /\ True /\ (TF /\ TF) /\ ((v : Value) = v) /\ (six (u.getD 0 false) (u.getD 1 false) (u.getD 2 false) (u.getD 3 false) (u.getD 4 false) true = u.set i.toNat true) /\ ((n + (1 : Int) : Int) = n + 1))
theorem vcn_cmTake (l : List GAtom) (u : List Bool) (n : Int) (i : Int) (v : Value) (k : Nat) (hp : l.length <= 6 /\ u.length = 6 /\ n = cnt u /\ 0 <= i /\ i < 6 /\ u.getD i.toNat false = false) : VC_cmTake l u n i v k := by
 unfold VC_cmTake
 simp only [cln, Nat.reduceEqDiff, Nat.reduceLeDiff, Nat.reduceAdd]
 have hb := cnt_bd u
 obtain ⟨hl, hu, hn, h0, h6, hd⟩ := hp
 obtain ⟨s0, s1, s2, s3, s4, s5⟩ := sx hu
 all_goals (repeat' (first | apply And.intro | intro _))
 all_goals (first
  | omega
  | (subst ‹i = _›; first | exact s0 | exact s1 | exact s2 | exact s3 | exact s4 | exact s5)
  | skip)
theorem ptok_cmTake : PTOk Try.prog E 157 pt_cmTake :=
 blk_ok (c := m_cmTake) (fn := Try.f157) (l := L_cmTake) (lp := P_cmTake) (hp := hp_cmTake) (perm := fun _ => []) tabOk mix trivial trivial Try.func157 rfl (by kernel_rfl) rfl (show m_cmTake.k2.length + 1 <= Try.f157.ntmps by decide) (by kernel_rfl) (anns := fun l u n y v => fun _ _ => none) (fun l u n ⟨i, _⟩ v hp => Eq.mp (by kernel_rfl) (vcn_cmTake l u n i v 0 hp))
abbrev m_cmCell : BCon := ⟨[.atom], [.sl .int, .bool], fun l u n (x, _) => l.length <= 6 /\ u.length = 6 /\ n = cnt u, fun l u n (x, _) => ucU l u x, fun l u n (x, _) => cnt (ucU l u x), fun l u n (x, _) => (ucL l u x, ucB l u x, ())⟩
abbrev pt_cmCell : PT := ptB m_cmCell
abbrev L_cmCell : List (FuncId × Con) := []
abbrev P_cmCell : List (FuncId × PT) := [(156, pt_cmUnused), (157, pt_cmTake)]
def hp_cmCell : Nat -> Bool
 | 1 => true
 | 4 => true
 | _ => false
def VC_cmCell_1 (l : List GAtom) (u : List Bool) (x : GAtom) (v : Value) (n : Int) : Prop := TN /\ True /\ (((([] : List Int), false, ()) : (List Int) × Bool × Unit) = (ucL l u x, ucB l u x, ())) /\ (True /\ True) /\ ((TF /\ TF) /\ True) /\ True /\ (TF /\ TF) /\ ((v : Value) = v) /\ (sx6 u = ucU l u x) /\ ((n : Int) = cnt (ucU l u x))
def VC_cmCell (l : List GAtom) (u : List Bool) (n : Int) (x : GAtom) (v : Value) (k : Nat) : Prop := TN /\ TN /\ True /\ True /\ True /\ True /\ TF /\ TF /\ True /\ True /\ (l.length <= 6 /\ (sx6 u).length = 6 /\ n = cnt (sx6 u)) /\ True /\ True /\ True /\ True /\ True /\ True /\ True /\ True /\ (vcIf (!(uaB l (sx6 u) x.a)) (True /\ (VC_cmCell_1 l u x v n)) (True /\ True /\ True /\ True /\ True /\ (0 <= (uaI l (sx6 u) x.a) /\ (uaI l (sx6 u) x.a) < ((l.length : Nat) : Int)) /\ True /\ True /\ True /\ True /\ (vcIf (!((((l.getD (uaI l (sx6 u) x.a).toNat (⟨0, 0, 0⟩ : GAtom)).kind) == x.kind) && ((((l.getD (uaI l (sx6 u) x.a).toNat (⟨0, 0, 0⟩ : GAtom)).a) == x.a) && ((((l.getD (uaI l (sx6 u) x.a).toNat (⟨0, 0, 0⟩ : GAtom)).b) == x.b) && true)))) (VC_cmCell_1 l u x v n) (True /\ True /\ TF /\ TF /\ True /\ True /\ (l.length <= 6 /\ (sx6 u).length = 6 /\ n = cnt (sx6 u) /\ 0 <= (uaI l (sx6 u) x.a) /\ (uaI l (sx6 u) x.a) < 6 /\ (sx6 u).getD (uaI l (sx6 u) x.a).toNat false = false) /\ True /\ (TN /\ True) /\ True /\ True /\ (((([(uaI l (sx6 u) x.a)] : List Int), true, ()) : (List Int) × Bool × Unit) = (ucL l u x, ucB l u x, ())) /\ (True /\ True) /\ ((TF /\ TF) /\ True) /\ True /\ (TF /\ TF) /\ ((v : Value) = v) /\ (sx6 ((sx6 u).set (uaI l (sx6 u) x.a).toNat true) = ucU l u x) /\ ((n + 1 : Int) = cnt (ucU l u x))))))
theorem vcn_cmCell (l : List GAtom) (u : List Bool) (n : Int) (x : GAtom) (v : Value) (k : Nat) (hp : l.length <= 6 /\ u.length = 6 /\ n = cnt u) : VC_cmCell l u n x v k := by
 unfold VC_cmCell VC_cmCell_1
 simp only [cln, Nat.reduceEqDiff, Nat.reduceLeDiff, Nat.reduceAdd]
 obtain ⟨hl, hu, hn⟩ := hp
 subst hn
 have h6 := sx6_eta hu
 simp only [h6, atom_beq]
 all_goals (try simp only [opn])
 all_goals (repeat' (first | apply And.intro | intro _))
 all_goals (repeat (cases ‹_ /\ _›))
 all_goals (first | omega | rfl | assumption | (simp_all; done) | skip)
 all_goals (first
  | exact (uc_no (uc_no1 ‹_›)).1.symm | exact (uc_no (uc_no1 ‹_›)).2.1.symm | exact (uc_no (uc_no1 ‹_›)).2.2.symm
  | exact (uc_no (uc_no2 ‹_› ‹_›)).1.symm | exact (uc_no (uc_no2 ‹_› ‹_›)).2.1.symm | exact (uc_no (uc_no2 ‹_› ‹_›)).2.2.symm
  | (rw [(uc_no (uc_no1 ‹_›)).2.2]; done) | (rw [(uc_no (uc_no2 ‹_› ‹_›)).2.2]; done)
  | exact (uc_yes ‹_› ‹_›).1.symm | exact (uc_yes ‹_› ‹_›).2.1.symm
  | (rw [sx6_eta (by rw [List.length_set]; exact hu)]; exact (uc_yes ‹_› ‹_›).2.2.symm)
  | (have h := uaB_bd hl ‹_›; first | omega | exact h.2.2.2)
  | (rw [(uc_yes ‹_› ‹_›).2.2, cnt_set (by have h := uaB_bd hl ‹_›; omega) (uaB_bd hl ‹_›).2.2.2]; done)
  | skip)
theorem ptok_cmCell : PTOk Try.prog E 131 pt_cmCell :=
 blk_ok (c := m_cmCell) (fn := Try.f131) (l := L_cmCell) (lp := P_cmCell) (hp := hp_cmCell) (perm := fun _ => []) tabOk mix trivial ⟨ptok_cmUnused, ptok_cmTake, trivial⟩ Try.func131 rfl (by kernel_rfl) rfl (show m_cmCell.k2.length + 1 <= Try.f131.ntmps by decide) (by kernel_rfl) (anns := fun l u n y v => fun _ _ => none) (fun l u n ⟨x, _⟩ v hp => Eq.mp (by kernel_rfl) (vcn_cmCell l u n x v 0 hp))
abbrev c_beginsAt : Con := ⟨[.sl .atom, .int], [.bool], fun (l, c, _) => l.length <= 1048576, .inl fun (l, c, _) => (bgn l c, ()), fun _ => 0⟩
abbrev L_beginsAt : List (FuncId × Con) := []
abbrev P_beginsAt : List (FuncId × PT) := []
def an_beginsAt (l : List GAtom) (c : Int) : Nat -> St -> Option Ann
 | 2, se => some { α := Nat, ok := fun i => i <= l.length /\ bgn (l.take i) c = false, mu := fun i => l.length - i, i0 := fun _ => 0, nx := fun a _ => (fun i => i + 1) a, live := [1, 7, 8], sets := fun i => [(9, sv (.int .i64 i))], mids := [], blks := fun i => [], owns := fun i => [], rd := fun r _ => r, base := 100000 }
 | _, _ => none
def VC_beginsAt_1 (c : Int) (l : List GAtom) : Prop := RL [.s (.c (.d (.val (.int .i64 c)))), .s (.c (.d (.arr .atom l))), .s (.c (.d (.val (.int .i64 ((l.length : Nat) : Int)))))]
def VC_beginsAt (l : List GAtom) (c : Int) (k : Nat) : Prop := True /\ True /\ True /\ True /\ ((0 <= l.length /\ bgn (l.take 0) c = false) /\ TT /\ (VC_beginsAt_1 c l) /\ (([.s (.c (.d (.val (.int .i64 (0 : Int)))))] : List S) = [.s (.c (.d (.val (.int .i64 ((0 : Nat) : Int)))))]) /\ (RM []) /\ (RM []) /\ True /\ TT) /\ (∀ i1 : Nat, (i1 <= l.length /\ bgn (l.take i1) c = false) -> True /\ (vcIf (decide (((i1 : Nat) : Int) < ((l.length : Nat) : Int))) ((0 <= ((i1 : Nat) : Int) /\ ((i1 : Nat) : Int) < ((l.length : Nat) : Int)) /\ True /\ (TN /\ True) /\ (TF /\ TF) /\ True /\ True /\ True /\ True /\ (vcIf (((l.getD i1 (⟨0, 0, 0⟩ : GAtom)).a) == c) (True /\ (((true, ()) : Bool × Unit) = (bgn l c, ())) /\ True /\ True /\ True /\ True /\ TF) ((inK .i64 (((i1 : Nat) : Int) + (1 : Int))) /\ True /\ ((i1 + 1) <= l.length /\ bgn (l.take (i1 + 1)) c = false) /\ (l.length - (i1 + 1) < l.length - i1) /\ TT /\ (VC_beginsAt_1 c l) /\ (([.s (.c (.d (.val (.int .i64 (((i1 : Nat) : Int) + (1 : Int))))))] : List S) = [.s (.c (.d (.val (.int .i64 (((i1 + 1) : Nat) : Int)))))]) /\ (RM []) /\ (RM []) /\ True /\ TT))) (True /\ (((false, ()) : Bool × Unit) = (bgn l c, ())) /\ True /\ True /\ True /\ True /\ TF)))
theorem vcn_beginsAt (l : List GAtom) (c : Int) (k : Nat) (hp : l.length <= 1048576) : VC_beginsAt l c k := by
 unfold VC_beginsAt VC_beginsAt_1
 simp only [cln, Nat.reduceEqDiff, Nat.reduceLeDiff, Nat.reduceAdd]
 all_goals (try simp only [opn])
 all_goals (repeat' (first | apply And.intro | intro _))
 all_goals (repeat (cases ‹_ /\ _›))
 all_goals (first | omega | rfl | assumption | (simp_all; done) | skip)
 all_goals (first
  | exact (bgn_yes ‹_› ‹_›).symm
  | exact bgn_step ‹_› ‹_› ‹_›
  | exact (bgn_end ‹_› ‹_›).symm
  | skip)
theorem ok_beginsAt : FnOk Try.prog E 158 c_beginsAt :=
 fn_okQ (l := L_beginsAt) (lp := P_beginsAt) (hp := fun _ => false) (gcs := fun _ => none) (perm := fun _ => []) tabOk mix trivial trivial Try.func158 rfl (by kernel_rfl) (by decide) (by kernel_rfl) (anns := fun x _ => an_beginsAt x.1 x.2.1) (fun ⟨l, c, _⟩ k hp _ => Eq.mp (by kernel_rfl) (vcn_beginsAt l c k hp)) tot_fn
end Go.Proofs.Ytfoioficiffgkaa
