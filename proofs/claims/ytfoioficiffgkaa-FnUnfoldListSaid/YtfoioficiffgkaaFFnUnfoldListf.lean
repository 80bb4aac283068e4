/-
  Contracts of single functions of the program, each shown by the engine: what a call returns for arguments within the contract's bounds.
-/
import Derived.Test.YtfoioficiffgkaaFFnUnfoldLista
import Derived.Test.YtfoioficiffgkaaEd
import Derived.Test.YtfoioficiffgkaaEe
import Derived.Test.YtfoioficiffgkaaFFnUnfoldListe
import Derived.Test.YtfoioficiffgkaaEf
import Derived.Test.YtfoioficiffgkaaFFnUnfoldListb
import Derived.Test.YtfoioficiffgkaaFFnUnfoldListc
import Derived.Test.YtfoioficiffgkaaFFnUnfoldListd
set_option linter.unusedSimpArgs false
set_option linter.unusedVariables false
set_option linter.unusedSectionVars false

namespace Go.Proofs.Ytfoioficiffgkaa
open Go.SE Go.RowKit
set_option linter.unusedSimpArgs false
set_option linter.unusedVariables false
set_option maxHeartbeats 1000000
set_option maxRecDepth 100000
abbrev c_l3Terms : Con := ⟨[.asn], [.sl .bool], fun (a, _) => asV a = true ∨ vA a = true, .inl fun (a, _) => (fl9 (occ a), ()), fun _ => 0⟩
abbrev L_l3Terms : List (FuncId × Con) := []
abbrev P_l3Terms : List (FuncId × PT) := []
def an_l3Terms (a : GAsn) : Nat -> St -> Option Ann
 | 3, se => some { α := Nat, ok := fun i => i <= a.facts.length, mu := fun i => a.facts.length - i, i0 := fun _ => 0, nx := fun a _ => (fun i => i + 1) a, live := [1, 2], sets := fun i => [(4, sv (.int .i64 i))], mids := [31, 32], blks := fun i => [], owns := fun i => [⟨7, .slot 3, .bool, fl9 (occF (a.facts.take i))⟩], rd := fun r _ => r, base := 100000 }
 | 8, se => some { α := Nat, ok := fun i => i <= a.atoms.length, mu := fun i => a.atoms.length - i, i0 := fun _ => 0, nx := fun a _ => (fun i => i + 1) a, live := [1, 2], sets := fun i => [(5, sv (.int .i64 i))], mids := [31, 32], blks := fun i => [], owns := fun i => [⟨7, .slot 3, .bool, fl9 (fun t => occF a.facts t || occG (a.atoms.take i) t)⟩], rd := fun r _ => r, base := 200000 }
 | _, _ => none
def VC_l3Terms_1  : Prop := ([.s (.c (.d (.val (.int .i64 (0 : Int)))))] : List S) = [.s (.c (.d (.val (.int .i64 ((0 : Nat) : Int)))))]
def VC_l3Terms_2 (a : GAsn) : Prop := RM [some (.blk [.d (.arr .fact a.facts), .d (.arr .atom a.atoms)]), some (.sl 32 .bool ([] : List Bool))]
def VC_l3Terms_3 (i1 : Nat) : Prop := ([.s (.c (.d (.val (.int .i64 (((i1 : Nat) : Int) + (1 : Int))))))] : List S) = [.s (.c (.d (.val (.int .i64 (((i1 + 1) : Nat) : Int)))))]
def VC_l3Terms_4 (i1 : Nat) (a : GAsn) : Prop := (True /\ (vcIf (decide (((i1 : Nat) : Int) < ((a.facts.length : Nat) : Int))) (True /\ True /\ True /\ True /\ (0 <= ((i1 : Nat) : Int) /\ ((i1 : Nat) : Int) < ((a.facts.length : Nat) : Int)) /\ True /\ True /\ (0 <= ((a.facts.getD i1 (⟨false, 0, 0⟩ : GFact)).a) /\ ((a.facts.getD i1 (⟨false, 0, 0⟩ : GFact)).a) < (((fl9 (occF (a.facts.take i1))).length : Nat) : Int)) /\ (TF /\ TF /\ True /\ ((7 : Nat) ∉ ([] : List Nat))) /\ True /\ True /\ True /\ True /\ (0 <= ((i1 : Nat) : Int) /\ ((i1 : Nat) : Int) < ((a.facts.length : Nat) : Int)) /\ True /\ True /\ (0 <= ((a.facts.getD i1 (⟨false, 0, 0⟩ : GFact)).b) /\ ((a.facts.getD i1 (⟨false, 0, 0⟩ : GFact)).b) < ((((fl9 (occF (a.facts.take i1))).set ((a.facts.getD i1 (⟨false, 0, 0⟩ : GFact)).a).toNat true).length : Nat) : Int)) /\ (TF /\ TF /\ True /\ ((7 : Nat) ∉ ([] : List Nat))) /\ True /\ (inK .i64 (((i1 : Nat) : Int) + (1 : Int))) /\ True /\ ((i1 + 1) <= a.facts.length) /\ (a.facts.length - (i1 + 1) < a.facts.length - i1) /\ TT /\ (RL [.s (.c (.ptr 31 0)), .s (.c (.own 32))]) /\ (VC_l3Terms_3 i1) /\ (VC_l3Terms_2 a) /\ (RM []) /\ (((some (((fl9 (occF (a.facts.take i1))).set ((a.facts.getD i1 (⟨false, 0, 0⟩ : GFact)).a).toNat true).set ((a.facts.getD i1 (⟨false, 0, 0⟩ : GFact)).b).toNat true) : Option (List Bool)) = some (fl9 (occF (a.facts.take (i1 + 1))))) /\ True) /\ TT) (True /\ ((0 <= a.atoms.length) /\ TT /\ (RL [.s (.c (.ptr 31 0)), .s (.c (.own 32))]) /\ VC_l3Terms_1 /\ (VC_l3Terms_2 a) /\ (RM []) /\ (((some (fl9 (occF (a.facts.take i1))) : Option (List Bool)) = some (fl9 (fun t => occF a.facts t || occG (a.atoms.take 0) t))) /\ True) /\ TT) /\ (∀ i2 : Nat, (i2 <= a.atoms.length) -> True /\ True /\ True /\ True /\ True /\ (vcIf (decide (((i2 : Nat) : Int) < ((a.atoms.length : Nat) : Int))) (True /\ True /\ True /\ True /\ (0 <= ((i2 : Nat) : Int) /\ ((i2 : Nat) : Int) < ((a.atoms.length : Nat) : Int)) /\ True /\ True /\ (0 <= ((a.atoms.getD i2 (⟨0, 0, 0⟩ : GAtom)).a) /\ ((a.atoms.getD i2 (⟨0, 0, 0⟩ : GAtom)).a) < (((fl9 (fun t => occF a.facts t || occG (a.atoms.take i2) t)).length : Nat) : Int)) /\ (TF /\ TF /\ True /\ ((7 : Nat) ∉ ([] : List Nat))) /\ True /\ True /\ True /\ True /\ (0 <= ((i2 : Nat) : Int) /\ ((i2 : Nat) : Int) < ((a.atoms.length : Nat) : Int)) /\ True /\ True /\ (0 <= ((a.atoms.getD i2 (⟨0, 0, 0⟩ : GAtom)).b) /\ ((a.atoms.getD i2 (⟨0, 0, 0⟩ : GAtom)).b) < ((((fl9 (fun t => occF a.facts t || occG (a.atoms.take i2) t)).set ((a.atoms.getD i2 (⟨0, 0, 0⟩ : GAtom)).a).toNat true).length : Nat) : Int)) /\ (TF /\ TF /\ True /\ ((7 : Nat) ∉ ([] : List Nat))) /\ True /\ (inK .i64 (((i2 : Nat) : Int) + (1 : Int))) /\ True /\ ((i2 + 1) <= a.atoms.length) /\ (a.atoms.length - (i2 + 1) < a.atoms.length - i2) /\ TT /\ (RL [.s (.c (.ptr 31 0)), .s (.c (.own 32))]) /\ (VC_l3Terms_3 i2) /\ (VC_l3Terms_2 a) /\ (RM []) /\ (((some (((fl9 (fun t => occF a.facts t || occG (a.atoms.take i2) t)).set ((a.atoms.getD i2 (⟨0, 0, 0⟩ : GAtom)).a).toNat true).set ((a.atoms.getD i2 (⟨0, 0, 0⟩ : GAtom)).b).toNat true) : Option (List Bool)) = some (fl9 (fun t => occF a.facts t || occG (a.atoms.take (i2 + 1)) t))) /\ True) /\ TT) (True /\ True /\ (((fl9 (fun t => occF a.facts t || occG (a.atoms.take i2) t), ()) : (List Bool) × Unit) = (fl9 (occ a), ())) /\ (True /\ True) /\ ((TF /\ TF) /\ True) /\ True /\ (True /\ True) /\ TF))))))
def VC_l3Terms (a : GAsn) (k : Nat) : Prop := TN /\ TN /\ (TN /\ (0 <= (9 : Int) /\ (9 : Int) <= (9 : Int) /\ (9 : Int) <= 4294967296)) /\ True /\ True /\ ((0 <= a.facts.length) /\ TT /\ (RL [.s (.c (.ptr 31 0)), .s (.c (.own 32))]) /\ VC_l3Terms_1 /\ (VC_l3Terms_2 a) /\ (RM []) /\ (((some (List.replicate 9 false) : Option (List Bool)) = some (fl9 (occF (a.facts.take 0)))) /\ True) /\ TT) /\ (∀ i1 : Nat, (i1 <= a.facts.length) -> True /\ True /\ True /\ True /\ (VC_l3Terms_4 i1 a))
theorem vcn_l3Terms (a : GAsn) (k : Nat) (hp : asV a = true ∨ vA a = true) : VC_l3Terms a k := by
 unfold VC_l3Terms VC_l3Terms_4 VC_l3Terms_3 VC_l3Terms_2 VC_l3Terms_1
 simp only [cln, Nat.reduceEqDiff, Nat.reduceLeDiff, Nat.reduceAdd]
 have hl := vA_iff.1 (hp.elim vA_of id)
 have hF := fun i (h : i < a.facts.length) => fV_isT (all_get (d := (⟨false, 0, 0⟩ : GFact)) hl.1 h)
 have hG := fun i (h : i < a.atoms.length) => atV_isT (all_get (d := (⟨0, 0, 0⟩ : GAtom)) hl.2.1 h)
 have hi : ∀ t, isT t = true -> 0 <= t /\ t <= 8 := fun t h => isT_iff.1 h
 have hL := fl9_len
 all_goals (try simp only [opn])
 all_goals (repeat' (first | apply And.intro | intro _))
 all_goals (first | omega | rfl | (simp_all; done) | (exact flF_step ‹_› (hF _ ‹_›).1 (hF _ ‹_›).2) | (exact flG_step ‹_› (hG _ ‹_›).1 (hG _ ‹_›).2) | skip)
 all_goals (first | (have h1 := hF _ ‹_›; have h2 := hi _ h1.1; have h3 := hi _ h1.2; simp only [List.length_set, hL]; omega) | (have h1 := hG _ ‹_›; have h2 := hi _ h1.1; have h3 := hi _ h1.2; simp only [List.length_set, hL]; omega) | (rw [take_full ‹_›]; done) | (rw [take_full ‹_›]; apply fl9_congr; intro t; simp [occF, occG, occ]; done) | (rw [take_full ‹_›]; rfl) | grind)
theorem ok_l3Terms : FnOk Try.prog E 92 c_l3Terms :=
 fn_okQ (l := L_l3Terms) (lp := P_l3Terms) (hp := fun _ => false) (gcs := fun _ => none) (perm := fun _ => []) tabOk mix trivial trivial Try.func92 rfl (by kernel_rfl) (by decide) (by kernel_rfl) (anns := fun x _ => an_l3Terms x.1) (fun ⟨a, _⟩ k hp _ => Eq.mp (by kernel_rfl) (vcn_l3Terms a k hp)) tot_fn
abbrev c_sFreshTerm : Con := ⟨[.asn], [.int, .bool], fun (a, _) => a.facts.length <= 281474976710656 /\ a.atoms.length <= 281474976710656, .inl fun (a, _) => (frL a, frB a, ()), fun _ => 0⟩
abbrev L_sFreshTerm : List (FuncId × Con) := [(56, c_sAssertionValid), (92, c_l3Terms)]
abbrev P_sFreshTerm : List (FuncId × PT) := []
def an_sFreshTerm (a : GAsn) : Nat -> St -> Option Ann
 | 5, se => some { α := Nat, ok := fun i => i <= 4 /\ frI (occ a) i /\ asV a = true, mu := fun i => 4 - i, i0 := fun _ => 0, nx := fun a _ => (fun i => i + 1) a, live := [], sets := fun i => [(5, sv (.int .i64 (5 + (i : Int))))], mids := [], blks := fun i => [], owns := fun i => [⟨7, .slot 4, .bool, fl9 (occ a)⟩], rd := fun r _ => r, base := 100000 }
 | _, _ => none
def VC_sFreshTerm_1 (a : GAsn) : Prop := True /\ True /\ ((((0 : Int), false, ()) : Int × Bool × Unit) = (frL a, frB a, ())) /\ True /\ True /\ True /\ True /\ TF
def VC_sFreshTerm_2 (a : GAsn) : Prop := (RM []) /\ (RM []) /\ (((some (fl9 (occ a)) : Option (List Bool)) = some (fl9 (occ a))) /\ True) /\ TT
def VC_sFreshTerm (a : GAsn) (k : Nat) : Prop := TN /\ True /\ True /\ True /\ ((a.facts.length <= 281474976710656 /\ a.atoms.length <= 281474976710656) /\ True /\ True) /\ True /\ (vcIf (!(asV a)) (VC_sFreshTerm_1 a) (True /\ ((asV a = true ∨ vA a = true) /\ True /\ TN /\ True) /\ True /\ True /\ ((0 <= 4 /\ frI (occ a) 0 /\ asV a = true) /\ TT /\ (RL []) /\ (([.s (.c (.d (.val (.int .i64 (5 : Int)))))] : List S) = [.s (.c (.d (.val (.int .i64 (5 + (0 : Int) : Int)))))]) /\ (VC_sFreshTerm_2 a)) /\ (∀ i1 : Nat, (i1 <= 4 /\ frI (occ a) i1 /\ asV a = true) -> True /\ True /\ (vcIf (decide ((5 + (i1 : Int) : Int) <= (8 : Int))) (True /\ True /\ (0 <= (5 + (i1 : Int) : Int) /\ (5 + (i1 : Int) : Int) < (((fl9 (occ a)).length : Nat) : Int)) /\ True /\ True /\ (vcIf (!((fl9 (occ a)).getD (5 + (i1 : Int) : Int).toNat false)) (True /\ True /\ True /\ ((((5 + (i1 : Int) : Int), true, ()) : Int × Bool × Unit) = (frL a, frB a, ())) /\ True /\ True /\ True /\ True /\ TF) (True /\ (inK .i64 ((5 + (i1 : Int) : Int) + (1 : Int))) /\ True /\ ((i1 + 1) <= 4 /\ frI (occ a) (i1 + 1) /\ asV a = true) /\ (4 - (i1 + 1) < 4 - i1) /\ TT /\ (RL []) /\ (([.s (.c (.d (.val (.int .i64 ((5 + (i1 : Int) : Int) + (1 : Int))))))] : List S) = [.s (.c (.d (.val (.int .i64 (5 + ((i1 + 1) : Int) : Int)))))]) /\ (VC_sFreshTerm_2 a)))) (VC_sFreshTerm_1 a)))))
theorem vcn_sFreshTerm (a : GAsn) (k : Nat) (hp : a.facts.length <= 281474976710656 /\ a.atoms.length <= 281474976710656) : VC_sFreshTerm a k := by
 unfold VC_sFreshTerm VC_sFreshTerm_2 VC_sFreshTerm_1
 simp only [cln, Nat.reduceEqDiff, Nat.reduceLeDiff, Nat.reduceAdd]
 have hL := fl9_len
 have hg : ∀ i : Nat, i <= 3 -> (fl9 (occ a)).getD (5 + (i : Int)).toNat false = occ a (5 + (i : Int)) := fun i h => fl9_get (isT_iff.2 ⟨by omega, by omega⟩)
 all_goals (try simp only [opn])
 all_goals (repeat' (first | apply And.intro | intro _))
 all_goals (repeat (cases ‹_ /\ _›))
 all_goals (first | omega | exact frI_zero _ | rfl | (simp_all [frL, frB]; done) | skip)
 all_goals (first | (simp only [hL]; omega) | skip)
 all_goals (first | (rw [hg _ (by omega)] at *; first | exact frI_step ‹_› ‹_› | (have := fr_found' ‹_› ‹_› ‹_›; simp_all [frL, frB]; done)) | (have := fr_none' ‹_› ‹_› ‹_›; simp_all [frL, frB]; done) | grind)
theorem ok_sFreshTerm : FnOk Try.prog E 98 c_sFreshTerm :=
 fn_okQ (l := L_sFreshTerm) (lp := P_sFreshTerm) (hp := fun _ => false) (gcs := fun _ => none) (perm := fun _ => []) tabOk mix ⟨ok_sAssertionValid, ok_l3Terms, trivial⟩ trivial Try.func98 rfl (by kernel_rfl) (by decide) (by kernel_rfl) (anns := fun x _ => an_sFreshTerm x.1) (fun ⟨a, _⟩ k hp _ => Eq.mp (by kernel_rfl) (vcn_sFreshTerm a k hp)) tot_fn
abbrev c_sUnfoldList : Con := ⟨[.asn, .int], [.asn, .asn, .bool], fun (a, i, _) => a.facts.length <= 281474976710656 /\ a.atoms.length <= 281474976710656, .inl fun (a, i, _) => (ufE a i, ufF a i, ufOk a i, ()), fun _ => 0⟩
abbrev L_sUnfoldList : List (FuncId × Con) := [(56, c_sAssertionValid), (98, c_sFreshTerm)]
abbrev P_sUnfoldList : List (FuncId × PT) := []
def hp_sUnfoldList : Nat -> Bool
 | 12 => true
 | 13 => true
 | _ => false
def perm_sUnfoldList : Nat -> List (List Nat)
 | 16 => [[0, 1, 2, 3, 4], [0, 2, 1, 3, 4], [1, 0, 2, 3, 4]]
 | _ => []
def VC_sUnfoldList_1 (a : GAsn) (i : Int) : Prop := (((⟨([] : List GFact), ([] : List GAtom)⟩ : GAsn), (⟨([] : List GFact), ([] : List GAtom)⟩ : GAsn), false, ()) : GAsn × GAsn × Bool × Unit) = (ufE a i, ufF a i, ufOk a i, ())
def VC_sUnfoldList_2  : Prop := ((TF /\ TF) /\ (TF /\ TF) /\ (TF /\ TF) /\ (TF /\ TF) /\ True) /\ True /\ (True /\ True /\ True /\ True /\ True) /\ TF
def VC_sUnfoldList_3 (a : GAsn) (i : Int) : Prop := TT /\ (TN /\ TN /\ True) /\ (TN /\ TN /\ True) /\ (TF /\ TF) /\ (TF /\ TF) /\ True /\ ((none : Option Nat) = none) /\ (VC_sUnfoldList_1 a i) /\ ((((640 : Nat) ≠ 641) /\ ((640 : Nat) ≠ 656) /\ ((640 : Nat) ≠ 657) /\ True) /\ (((641 : Nat) ≠ 656) /\ ((641 : Nat) ≠ 657) /\ True) /\ (((656 : Nat) ≠ 657) /\ True) /\ True /\ True) /\ VC_sUnfoldList_2
def VC_sUnfoldList_4 (a : GAsn) (i : Int) : Prop := True /\ (VC_sUnfoldList_3 a i)
def VC_sUnfoldList_5 (a : GAsn) (i : Int) : Prop := True /\ True /\ (VC_sUnfoldList_4 a i)
def VC_sUnfoldList_6 (i : Int) : Prop := RL [.s (.c (.d (.val (.int .i64 i)))), .s (.c (.ptr 47 0)), .s (.c (.ptr 79 0)), .s (.c (.ptr 95 0)), .s (.c (.d (.val (.bool false)))), .s (.c (.ptr 175 0)), .s (.c (.ptr 191 0))]
def VC_sUnfoldList_7 (a : GAsn) : Prop := RM [some (.blk [.d (.arr .fact a.facts), .d (.arr .atom a.atoms)]), some (.sl 64 .fact ([] : List GFact)), some (.sl 65 .atom ([] : List GAtom)), some (.blk [.own 64, .own 65]), some (.sl 80 .fact ([] : List GFact)), some (.sl 81 .atom ([] : List GAtom)), some (.blk [.own 80, .own 81])]
def VC_sUnfoldList_8 (j1 : Nat) : Prop := ([.s (.c (.d (.val (.int .i64 (((j1 : Nat) : Int) + (1 : Int))))))] : List S) = [.s (.c (.d (.val (.int .i64 (((j1 + 1) : Nat) : Int)))))]
def VC_sUnfoldList_9 (a : GAsn) (i : Int) : Prop := (some (a.facts ++ [(⟨true, (ufX a i).a, (ufX a i).b⟩ : GFact)]) : Option (List GFact)) = some (a.facts ++ [(⟨true, (ufX a i).a, (ufX a i).b⟩ : GFact)])
def VC_sUnfoldList_10 (a : GAsn) (i : Int) : Prop := (some (a.facts ++ [(⟨false, (ufX a i).a, (ufX a i).b⟩ : GFact)]) : Option (List GFact)) = some (a.facts ++ [(⟨false, (ufX a i).a, (ufX a i).b⟩ : GFact)])
def VC_sUnfoldList_11 (a : GAsn) (i : Int) : Prop := TT /\ (TN /\ TN /\ True) /\ (TN /\ TN /\ True) /\ (TF /\ TF) /\ (TF /\ TF) /\ True /\ ((none : Option Nat) = none) /\ (VC_sUnfoldList_1 a i) /\ ((((101952 : Nat) ≠ 101953) /\ ((101952 : Nat) ≠ 101968) /\ ((101952 : Nat) ≠ 101969) /\ True) /\ (((101953 : Nat) ≠ 101968) /\ ((101953 : Nat) ≠ 101969) /\ True) /\ (((101968 : Nat) ≠ 101969) /\ True) /\ True /\ True) /\ VC_sUnfoldList_2
def VC_sUnfoldList_12 (a : GAsn) (i : Int) (j1 : Nat) : Prop := (TF /\ TF) /\ True /\ ((none : Option Nat) = none) /\ ((((⟨a.facts ++ [(⟨true, (ufX a i).a, (ufX a i).b⟩ : GFact)], woK a.atoms i j1⟩ : GAsn), (⟨a.facts ++ [(⟨false, (ufX a i).a, (ufX a i).b⟩ : GFact)], [(⟨1, (ufX a i).a, frL a⟩ : GAtom), (⟨2, frL a, (ufX a i).b⟩ : GAtom)] ++ woK a.atoms i j1⟩ : GAsn), true, ()) : GAsn × GAsn × Bool × Unit) = (ufE a i, ufF a i, ufOk a i, ())) /\ ((((7 : Nat) ≠ 8) /\ ((7 : Nat) ≠ 9) /\ ((7 : Nat) ≠ 10) /\ True) /\ (((8 : Nat) ≠ 9) /\ ((8 : Nat) ≠ 10) /\ True) /\ (((9 : Nat) ≠ 10) /\ True) /\ True /\ True) /\ VC_sUnfoldList_2
def VC_sUnfoldList_13 (a : GAsn) (i : Int) (j1 : Nat) : Prop := True /\ True /\ (TF /\ TF) /\ (VC_sUnfoldList_12 a i j1)
def VC_sUnfoldList_14 (j1 : Nat) (a : GAsn) (i : Int) : Prop := (True /\ (vcIf (decide (((j1 : Nat) : Int) < ((a.atoms.length : Nat) : Int))) (TT /\ True /\ True /\ True /\ (vcIf (((j1 : Nat) : Int) != i) (TT /\ True /\ True /\ True /\ True /\ True /\ (0 <= ((j1 : Nat) : Int) /\ ((j1 : Nat) : Int) < ((a.atoms.length : Nat) : Int)) /\ True /\ (TN /\ True) /\ (TN /\ TF /\ TF /\ ((woK a.atoms i j1).length + ([(a.atoms.getD j1 (⟨0, 0, 0⟩ : GAtom))] : List GAtom).length <= 4294967296)) /\ True /\ (TF /\ TF) /\ TT /\ True /\ True /\ True /\ True /\ True /\ (0 <= ((j1 : Nat) : Int) /\ ((j1 : Nat) : Int) < ((a.atoms.length : Nat) : Int)) /\ True /\ (TN /\ True) /\ (TN /\ TF /\ TF /\ (([(⟨1, (ufX a i).a, frL a⟩ : GAtom), (⟨2, frL a, (ufX a i).b⟩ : GAtom)] ++ woK a.atoms i j1).length + ([(a.atoms.getD j1 (⟨0, 0, 0⟩ : GAtom))] : List GAtom).length <= 4294967296)) /\ True /\ (TF /\ TF) /\ TT /\ True /\ (inK .i64 (((j1 : Nat) : Int) + (1 : Int))) /\ True /\ ((j1 + 1) <= a.atoms.length) /\ ((false : Bool) = false) /\ (a.atoms.length - (j1 + 1) < a.atoms.length - j1) /\ TT /\ (VC_sUnfoldList_6 i) /\ (VC_sUnfoldList_8 j1) /\ (VC_sUnfoldList_7 a) /\ (RM [some (.blk [.own 7, .own 101632]), some (.blk [.own 9, .own 101792])]) /\ ((VC_sUnfoldList_9 a i) /\ ((some ((woK a.atoms i j1) ++ ([(a.atoms.getD j1 (⟨0, 0, 0⟩ : GAtom))] : List GAtom)) : Option (List GAtom)) = some (woK a.atoms i (j1 + 1))) /\ (VC_sUnfoldList_10 a i) /\ ((some (([(⟨1, (ufX a i).a, frL a⟩ : GAtom), (⟨2, frL a, (ufX a i).b⟩ : GAtom)] ++ woK a.atoms i j1) ++ ([(a.atoms.getD j1 (⟨0, 0, 0⟩ : GAtom))] : List GAtom)) : Option (List GAtom)) = some ([(⟨1, (ufX a i).a, frL a⟩ : GAtom), (⟨2, frL a, (ufX a i).b⟩ : GAtom)] ++ woK a.atoms i (j1 + 1))) /\ True) /\ TT) (TT /\ True /\ (inK .i64 (((j1 : Nat) : Int) + (1 : Int))) /\ True /\ ((j1 + 1) <= a.atoms.length) /\ ((false : Bool) = false) /\ (a.atoms.length - (j1 + 1) < a.atoms.length - j1) /\ TT /\ (VC_sUnfoldList_6 i) /\ (VC_sUnfoldList_8 j1) /\ (VC_sUnfoldList_7 a) /\ (RM [some (.blk [.own 7, .own 8]), some (.blk [.own 9, .own 10])]) /\ ((VC_sUnfoldList_9 a i) /\ ((some (woK a.atoms i j1) : Option (List GAtom)) = some (woK a.atoms i (j1 + 1))) /\ (VC_sUnfoldList_10 a i) /\ ((some ([(⟨1, (ufX a i).a, frL a⟩ : GAtom), (⟨2, frL a, (ufX a i).b⟩ : GAtom)] ++ woK a.atoms i j1) : Option (List GAtom)) = some ([(⟨1, (ufX a i).a, frL a⟩ : GAtom), (⟨2, frL a, (ufX a i).b⟩ : GAtom)] ++ woK a.atoms i (j1 + 1))) /\ True) /\ TT))) (TT /\ True /\ (((⟨a.facts ++ [(⟨true, (ufX a i).a, (ufX a i).b⟩ : GFact)], woK a.atoms i j1⟩ : GAsn).facts.length <= 281474976710656 /\ (⟨a.facts ++ [(⟨true, (ufX a i).a, (ufX a i).b⟩ : GFact)], woK a.atoms i j1⟩ : GAsn).atoms.length <= 281474976710656) /\ True /\ True) /\ True /\ True /\ (vcIf (!(asV (⟨a.facts ++ [(⟨true, (ufX a i).a, (ufX a i).b⟩ : GFact)], woK a.atoms i j1⟩ : GAsn))) (True /\ (VC_sUnfoldList_11 a i)) (True /\ (((⟨a.facts ++ [(⟨false, (ufX a i).a, (ufX a i).b⟩ : GFact)], [(⟨1, (ufX a i).a, frL a⟩ : GAtom), (⟨2, frL a, (ufX a i).b⟩ : GAtom)] ++ woK a.atoms i j1⟩ : GAsn).facts.length <= 281474976710656 /\ (⟨a.facts ++ [(⟨false, (ufX a i).a, (ufX a i).b⟩ : GFact)], [(⟨1, (ufX a i).a, frL a⟩ : GAtom), (⟨2, frL a, (ufX a i).b⟩ : GAtom)] ++ woK a.atoms i j1⟩ : GAsn).atoms.length <= 281474976710656) /\ True /\ True) /\ True /\ True /\ (vcIf (!(asV (⟨a.facts ++ [(⟨false, (ufX a i).a, (ufX a i).b⟩ : GFact)], [(⟨1, (ufX a i).a, frL a⟩ : GAtom), (⟨2, frL a, (ufX a i).b⟩ : GAtom)] ++ woK a.atoms i j1⟩ : GAsn))) (VC_sUnfoldList_11 a i) (True /\ (VC_sUnfoldList_13 a i j1) /\ (True /\ (TF /\ TF) /\ True /\ (VC_sUnfoldList_12 a i j1)) /\ (VC_sUnfoldList_13 a i j1) /\ True)))))))
def VC_sUnfoldList_15 (i : Int) (a : GAsn) : Prop := (True /\ (vcIf (decide (i < (0 : Int))) (VC_sUnfoldList_5 a i) (True /\ True /\ True /\ True /\ True /\ True /\ True /\ (vcIf (decide (((a.atoms.length : Nat) : Int) <= i)) (VC_sUnfoldList_4 a i) (True /\ True /\ True /\ (0 <= i /\ i < ((a.atoms.length : Nat) : Int)) /\ True /\ True /\ True /\ True /\ (vcIf (((a.atoms.getD i.toNat (⟨0, 0, 0⟩ : GAtom)).kind) != (2 : Int)) (VC_sUnfoldList_3 a i) (TT /\ True /\ True /\ True /\ (0 <= i /\ i < ((a.atoms.length : Nat) : Int)) /\ True /\ (TN /\ True) /\ (TF /\ TF) /\ TT /\ (TN /\ True) /\ True /\ True /\ (TN /\ TF /\ TF /\ (([] : List GFact).length + a.facts.length <= 4294967296)) /\ True /\ True /\ True /\ True /\ True /\ (TN /\ True) /\ (TN /\ TF /\ TF /\ ((([] : List GFact) ++ a.facts).length + ([(⟨true, (a.atoms.getD i.toNat (⟨0, 0, 0⟩ : GAtom)).a, (a.atoms.getD i.toNat (⟨0, 0, 0⟩ : GAtom)).b⟩ : GFact)] : List GFact).length <= 4294967296)) /\ (TN /\ TN /\ True) /\ (TN /\ TN /\ TN /\ True) /\ (TF /\ TF) /\ TT /\ (TN /\ True) /\ True /\ True /\ (TN /\ TF /\ TF /\ (([] : List GFact).length + a.facts.length <= 4294967296)) /\ True /\ True /\ True /\ True /\ True /\ (TN /\ True) /\ (TN /\ TF /\ TF /\ ((([] : List GFact) ++ a.facts).length + ([(⟨false, (a.atoms.getD i.toNat (⟨0, 0, 0⟩ : GAtom)).a, (a.atoms.getD i.toNat (⟨0, 0, 0⟩ : GAtom)).b⟩ : GFact)] : List GFact).length <= 4294967296)) /\ (TN /\ TN /\ True) /\ (TN /\ TN /\ TN /\ True) /\ (TF /\ TF) /\ TT /\ True /\ True /\ True /\ True /\ True /\ True /\ True /\ True /\ True /\ True /\ (TN /\ True) /\ (TN /\ TF /\ TF /\ (([] : List GAtom).length + ([(⟨(1 : Int), (a.atoms.getD i.toNat (⟨0, 0, 0⟩ : GAtom)).a, (frL a)⟩ : GAtom), (⟨(2 : Int), (frL a), (a.atoms.getD i.toNat (⟨0, 0, 0⟩ : GAtom)).b⟩ : GAtom)] : List GAtom).length <= 4294967296)) /\ True /\ (TF /\ TF) /\ TT /\ True /\ ((0 <= a.atoms.length) /\ ((false : Bool) = false) /\ TT /\ (VC_sUnfoldList_6 i) /\ (([.s (.c (.d (.val (.int .i64 (0 : Int)))))] : List S) = [.s (.c (.d (.val (.int .i64 ((0 : Nat) : Int)))))]) /\ (VC_sUnfoldList_7 a) /\ (RM [some (.blk [.own 912, .own 929]), some (.blk [.own 1104, .own 1312])]) /\ (((some ((([] : List GFact) ++ a.facts) ++ ([(⟨true, (a.atoms.getD i.toNat (⟨0, 0, 0⟩ : GAtom)).a, (a.atoms.getD i.toNat (⟨0, 0, 0⟩ : GAtom)).b⟩ : GFact)] : List GFact)) : Option (List GFact)) = some (a.facts ++ [(⟨true, (ufX a i).a, (ufX a i).b⟩ : GFact)])) /\ ((some ([] : List GAtom) : Option (List GAtom)) = some (woK a.atoms i 0)) /\ ((some ((([] : List GFact) ++ a.facts) ++ ([(⟨false, (a.atoms.getD i.toNat (⟨0, 0, 0⟩ : GAtom)).a, (a.atoms.getD i.toNat (⟨0, 0, 0⟩ : GAtom)).b⟩ : GFact)] : List GFact)) : Option (List GFact)) = some (a.facts ++ [(⟨false, (ufX a i).a, (ufX a i).b⟩ : GFact)])) /\ ((some (([] : List GAtom) ++ ([(⟨(1 : Int), (a.atoms.getD i.toNat (⟨0, 0, 0⟩ : GAtom)).a, (frL a)⟩ : GAtom), (⟨(2 : Int), (frL a), (a.atoms.getD i.toNat (⟨0, 0, 0⟩ : GAtom)).b⟩ : GAtom)] : List GAtom)) : Option (List GAtom)) = some ([(⟨1, (ufX a i).a, frL a⟩ : GAtom), (⟨2, frL a, (ufX a i).b⟩ : GAtom)] ++ woK a.atoms i 0)) /\ True) /\ TT) /\ (∀ j1 : Nat, (j1 <= a.atoms.length) -> TT /\ True /\ True /\ True /\ True /\ (VC_sUnfoldList_14 j1 a i)))))))))
def VC_sUnfoldList (a : GAsn) (i : Int) (k : Nat) : Prop := TT /\ TN /\ (TN /\ TN /\ TN /\ True) /\ (TN /\ TN /\ TN /\ True) /\ True /\ TT /\ True /\ ((a.facts.length <= 281474976710656 /\ a.atoms.length <= 281474976710656) /\ True /\ True) /\ True /\ True /\ True /\ True /\ True /\ TT /\ True /\ True /\ True /\ (vcIf (!(frB a)) (True /\ True /\ (VC_sUnfoldList_5 a i)) (True /\ True /\ True /\ (VC_sUnfoldList_15 i a)))
theorem vcn_sUnfoldList (a : GAsn) (i : Int) (k : Nat) (hp : a.facts.length <= 281474976710656 /\ a.atoms.length <= 281474976710656) : VC_sUnfoldList a i k := by
 unfold VC_sUnfoldList VC_sUnfoldList_15 VC_sUnfoldList_14 VC_sUnfoldList_13 VC_sUnfoldList_12 VC_sUnfoldList_11 VC_sUnfoldList_10 VC_sUnfoldList_9 VC_sUnfoldList_8 VC_sUnfoldList_7 VC_sUnfoldList_6 VC_sUnfoldList_5 VC_sUnfoldList_4 VC_sUnfoldList_3 VC_sUnfoldList_2 VC_sUnfoldList_1
 simp only [cln, Nat.reduceEqDiff, Nat.reduceLeDiff, Nat.reduceAdd]
 all_goals (try simp only [opn])
 all_goals (repeat' (first | apply And.intro | intro _))
 all_goals (repeat (cases ‹_ /\ _›))
 all_goals (first | omega | rfl | assumption | (simp_all; done) | skip)
 all_goals (first
  | (rw [ul_skip ‹_›]; done)
  | (rw [ul_take ‹_›]; done)
  | (rw [ul_take ‹_›, List.append_assoc]; done)
  | skip)
 all_goals (try simp only [ul_full (l := a.atoms) (i := i) ‹¬ i < 0› ‹¬ (a.atoms.length : Int) <= i› ‹_ <= a.atoms.length› ‹¬ _ < a.atoms.length›] at *)
 all_goals (first
  | (have hn : ufOk a i = false := (by first | exact ul_no2 ‹_› | exact ul_no3 ‹_› | exact ul_no4 ‹_› | exact ul_no5 ‹_› | exact ul_no6 ‹_› | exact ul_no7 ‹_›); first | exact ul_nE hn | exact ul_nF hn | exact hn.symm)
  | (have hy : ufOk a i = true := ul_yes (ul_as ‹_›) ‹_› ‹_› ‹_› ‹_› ‹_› ‹_›
     first | exact ul_yE hy | exact ul_yF hy | exact hy.symm)
  | (have hs := asV_facts (ul_as ‹frB a = true›); first | omega | exact woA_le (by omega) | (rw [List.length_append]; simp only [List.length_cons, List.length_nil]; omega) | (have hw := woA_le (l := a.atoms) (i := i) (n := 1000) (by omega); rw [List.length_append]; simp only [List.length_cons, List.length_nil]; omega) | (refine Nat.le_trans (woK_len _ _ _) ?_; omega) | (have hw := woK_len a.atoms i ‹Nat›; rw [List.length_append]; simp only [List.length_cons, List.length_nil]; omega))
  | skip)
def an_sUnfoldList (a : GAsn) (i : Int) : Nat -> St -> Bool -> Option (AnnY Bool)
 | 9, se, _ => some ⟨{ α := Nat, ok := fun j => j <= a.atoms.length, mu := fun j => a.atoms.length - j, i0 := fun _ => 0, nx := fun a _ => (fun j => j + 1) a, live := [1, 2, 4, 5, 6, 10, 11], sets := fun j => [(12, sv (.int .i64 j))], mids := [47, 64, 65, 79, 80, 81, 95], blks := fun j => [(175, .blk [.own 7, .own 8]), (191, .blk [.own 9, .own 10])], owns := fun j => [⟨7, .cell 175 0, .fact, a.facts ++ [(⟨true, (ufX a i).a, (ufX a i).b⟩ : GFact)]⟩, ⟨8, .cell 175 1, .atom, woK a.atoms i j⟩, ⟨9, .cell 191 0, .fact, a.facts ++ [(⟨false, (ufX a i).a, (ufX a i).b⟩ : GFact)]⟩, ⟨10, .cell 191 1, .atom, [(⟨1, (ufX a i).a, frL a⟩ : GAtom), (⟨2, frL a, (ufX a i).b⟩ : GAtom)] ++ woK a.atoms i j⟩], rd := fun r _ => r, base := 100000 }, fun _ => false⟩
 | _, _, _ => none
abbrev spc_sUnfoldList (a : GAsn) (i : Int) : SpCode Bool := (fun _ _ _ _ _ _ => none)
theorem spcok_sUnfoldList (a : GAsn) (i : Int) (wE : World) (ro0 : Nat -> Option (Array Value)) (ρ : Nat) : SpcOk Fence.wide 0 Try.prog E (AC wE ro0 ρ) Try.f44.ntmps (spc_sUnfoldList a i) :=
 fun _ _ _ _ _ _ _ h => by cases h
theorem vcr_sUnfoldList : ∀ x : Args c_sUnfoldList.aks, c_sUnfoldList.pre x -> vcY tab (lookF L_sUnfoldList) (lookP P_sUnfoldList) noSpB (spc_sUnfoldList x.1 x.2.1) (fun b => !b) hp_sUnfoldList (fun _ => none) (an_sUnfoldList x.1 x.2.1) (perm_sUnfoldList) (bodyOf Try.f44) (entry (encs c_sUnfoldList.aks x) none) false (retR tab c_sUnfoldList Try.f44.results.toList x) :=
 fun ⟨a, i, _⟩ hp => Eq.mp (by kernel_rfl) (vcn_sUnfoldList a i 0 hp)
theorem ok_sUnfoldList : FnOk Try.prog E 44 c_sUnfoldList :=
 fnR_ok (con := c_sUnfoldList) (fn := Try.f44) (l := L_sUnfoldList) (lp := P_sUnfoldList) (hp := hp_sUnfoldList) (gcs := fun _ => none) (perm := perm_sUnfoldList) (spc := fun x => spc_sUnfoldList x.1 x.2.1) (anns := fun x => (an_sUnfoldList x.1 x.2.1)) tabOk mix ⟨ok_sAssertionValid, ok_sFreshTerm, trivial⟩ trivial rfl Try.func44 rfl (by kernel_rfl) (by decide) (by kernel_rfl) (fun x _ => spcok_sUnfoldList x.1 x.2.1) vcr_sUnfoldList tot_fn
abbrev c_copyInts : Con := ⟨[.sl .int], [.sl .int], fun (l, _) => l.length <= 1048576, .inl fun (l, _) => (l, ()), fun _ => 0⟩
abbrev L_copyInts : List (FuncId × Con) := []
abbrev P_copyInts : List (FuncId × PT) := []
def VC_copyInts (l : List Int) (k : Nat) : Prop := TN /\ True /\ True /\ (TN /\ (0 <= ((l.length : Nat) : Int) /\ ((l.length : Nat) : Int) <= ((l.length : Nat) : Int) /\ ((l.length : Nat) : Int) <= 4294967296)) /\ True /\ True /\ True /\ (TF /\ TF) /\ True /\ True /\ (((l.take (List.replicate l.length (0 : Int)).length ++ (List.replicate l.length (0 : Int)).drop l.length, ()) : (List Int) × Unit) = (l, ())) /\ (True /\ True) /\ ((TF /\ TF) /\ True) /\ True /\ (True /\ True) /\ TF
theorem vcn_copyInts (l : List Int) (k : Nat) (hp : l.length <= 1048576) : VC_copyInts l k := by
 unfold VC_copyInts
 simp only [cln, Nat.reduceEqDiff, Nat.reduceLeDiff, Nat.reduceAdd]
 all_goals (try simp only [opn])
 all_goals (repeat' (first | apply And.intro | intro _))
 all_goals (first | omega | (simp_all; done) | grind [])
theorem ok_copyInts : FnOk Try.prog E 143 c_copyInts :=
 fn_okQ (l := L_copyInts) (lp := P_copyInts) (hp := fun _ => false) (gcs := fun _ => none) (perm := fun _ => []) tabOk mix trivial trivial Try.func143 rfl (by kernel_rfl) (by decide) (by kernel_rfl) (anns := fun x _ => fun _ _ => none) (fun ⟨l, _⟩ k hp _ => Eq.mp (by kernel_rfl) (vcn_copyInts l k hp)) tot_fn
abbrev c_copyState : Con := ⟨[.state], [.state], fun (s, _) => s.vals.length <= 1048576 /\ s.heap.length <= 1048576, .inl fun (s, _) => (s, ()), fun _ => 0⟩
abbrev L_copyState : List (FuncId × Con) := [(143, c_copyInts)]
abbrev P_copyState : List (FuncId × PT) := []
def VC_copyState (s : GState) (k : Nat) : Prop := TN /\ (TN /\ TN /\ TN /\ True) /\ True /\ True /\ ((s.vals.length <= 1048576) /\ True /\ TN /\ True) /\ True /\ True /\ ((s.heap.length <= 1048576) /\ True /\ TN /\ True) /\ (TN /\ TN /\ True) /\ (TF /\ TF) /\ (((s, ()) : GState × Unit) = (s, ())) /\ ((((80 : Nat) ≠ 128) /\ True) /\ True /\ True) /\ ((TF /\ TF) /\ (TF /\ TF) /\ True) /\ True /\ (True /\ True /\ True) /\ TF
theorem vcn_copyState (s : GState) (k : Nat) (hp : s.vals.length <= 1048576 /\ s.heap.length <= 1048576) : VC_copyState s k := by
 unfold VC_copyState
 simp only [cln, Nat.reduceEqDiff, Nat.reduceLeDiff, Nat.reduceAdd]
 all_goals (try simp only [opn])
 all_goals (repeat' (first | apply And.intro | intro _))
 all_goals (repeat (cases ‹_ /\ _›))
 all_goals (first | trivial | (exfalso; contradiction) | omega | with_reducible assumption | with_reducible rfl | skip)
 all_goals (first
  | (with_reducible refine Nat.le_trans (m := 200) ?_ (by decide); first
   | with_reducible exact starL_one (by omega) | with_reducible exact starL_oneA (by omega)
   | with_reducible exact starL_bdF (by omega) (by omega) | with_reducible exact starL_bdA (by omega) (by omega)
   | with_reducible exact sub1F (by omega) | with_reducible exact sub1A (by omega)
   | with_reducible exact subL200F (by omega) | with_reducible exact subL200A (by omega)
   | with_reducible exact nf200F (by omega) | with_reducible exact nf200A (by omega)
   | with_reducible exact md200V | with_reducible exact md200H | with_reducible exact rev200 (by omega)
   | with_reducible exact fc200F (by omega) | with_reducible exact fc200A (by omega))
  | with_reducible exact (en_cons ‹_› ‹_› ‹_›).elim | with_reducible exact (en_none ‹_› ‹_› ‹_› ‹_›).elim
  | with_reducible exact en_star ‹_› ‹_› ‹_›
  | with_reducible exact en_fact1 ‹_› ‹_› ‹_› | with_reducible exact en_fact0 ‹_› ‹_› ‹_›
  | with_reducible exact en_sub ‹_› ‹_› ‹_›
  | with_reducible exact en_refl | with_reducible exact (en_refl0 ‹_› ‹_›).elim
  | with_reducible exact rev_step ‹_› | with_reducible exact (rev_no ‹_› ‹_› ‹_›).elim
  | with_reducible exact en_nf ‹_›
  | with_reducible exact ent_hol ‹_› ‹_› | with_reducible exact (en_mdN ‹_› ‹_› ‹_›).elim
  | (simp_all; done)
  | skip)
theorem ok_copyState : FnOk Try.prog E 102 c_copyState :=
 fn_okQ (l := L_copyState) (lp := P_copyState) (hp := fun _ => false) (gcs := fun _ => none) (perm := fun _ => []) tabOk mix ⟨ok_copyInts, trivial⟩ trivial Try.func102 rfl (by kernel_rfl) (by decide) (by kernel_rfl) (anns := fun x _ => fun _ _ => none) (fun ⟨s, _⟩ k hp _ => Eq.mp (by kernel_rfl) (vcn_copyState s k hp)) tot_fn
abbrev c_SetTerm : Con := ⟨[.state, .int, .int], [.state, .bool], fun (s, t, v, _) => s.vals.length <= 281474976710656 /\ s.heap.length <= 281474976710656, .inl fun (s, t, v, _) => (stL s t v, stO s t v, ()), fun _ => 0⟩
abbrev L_SetTerm : List (FuncId × Con) := [(89, c_isTerm), (100, c_iStateValid), (101, c_isValue), (102, c_copyState)]
abbrev P_SetTerm : List (FuncId × PT) := []
def VC_SetTerm_1 (s : GState) (t : Int) (v : Int) : Prop := (TN /\ TN /\ True) /\ (TF /\ TF) /\ True /\ ((((⟨([] : List Int), ([] : List Int)⟩ : GState), false, ()) : GState × Bool × Unit) = (stL s t v, stO s t v, ())) /\ ((((416 : Nat) ≠ 417) /\ True) /\ True /\ True) /\ ((TF /\ TF) /\ (TF /\ TF) /\ True) /\ True /\ (True /\ True /\ True) /\ TF
def VC_SetTerm_2 (s : GState) (t : Int) (v : Int) : Prop := True /\ (VC_SetTerm_1 s t v)
def VC_SetTerm_3 (s : GState) (t : Int) (v : Int) : Prop := True /\ True /\ (VC_SetTerm_2 s t v)
def VC_SetTerm (s : GState) (t : Int) (v : Int) (k : Nat) : Prop := TN /\ (TN /\ TN /\ TN /\ True) /\ True /\ True /\ ((s.vals.length <= 281474976710656 /\ s.heap.length <= 281474976710656) /\ True /\ True) /\ True /\ True /\ (vcIf (!(stV s)) (True /\ True /\ (VC_SetTerm_3 s t v)) (True /\ (True /\ True /\ True) /\ True /\ True /\ True /\ (vcIf (!(isT t)) (VC_SetTerm_3 s t v) (True /\ True /\ True /\ True /\ (vcIf (t == (0 : Int)) (VC_SetTerm_2 s t v) (True /\ (True /\ True /\ True) /\ True /\ True /\ (vcIf (!(isT v)) (VC_SetTerm_1 s t v) (True /\ ((s.vals.length <= 1048576 /\ s.heap.length <= 1048576) /\ True /\ TN /\ TN /\ True) /\ (TN /\ TN /\ TN /\ True) /\ (TF /\ TF) /\ True /\ True /\ True /\ (inK .i64 (t - (1 : Int))) /\ True /\ (0 <= (t - (1 : Int)) /\ (t - (1 : Int)) < ((s.vals.length : Nat) : Int)) /\ (TF /\ TF /\ True /\ ((448 : Nat) ∉ ([] : List Nat))) /\ True /\ (TF /\ TF) /\ True /\ ((((⟨s.vals.set (t - (1 : Int)).toNat v, s.heap⟩ : GState), true, ()) : GState × Bool × Unit) = (stL s t v, stO s t v, ())) /\ ((((448 : Nat) ≠ 449) /\ True) /\ True /\ True) /\ ((TF /\ TF) /\ (TF /\ TF) /\ True) /\ True /\ (True /\ True /\ True) /\ TF))))))))
theorem vcn_SetTerm (s : GState) (t : Int) (v : Int) (k : Nat) (hp : s.vals.length <= 281474976710656 /\ s.heap.length <= 281474976710656) : VC_SetTerm s t v k := by
 unfold VC_SetTerm VC_SetTerm_3 VC_SetTerm_2 VC_SetTerm_1
 simp only [cln, Nat.reduceEqDiff, Nat.reduceLeDiff, Nat.reduceAdd]
 all_goals (try simp only [opn])
 all_goals (repeat' (first | apply And.intro | intro _))
 all_goals (repeat (cases ‹_ /\ _›))
 all_goals (first | trivial | (exfalso; contradiction) | omega | with_reducible assumption | with_reducible rfl | skip)
 all_goals (try have h8 := stv_len ‹stV s = true›)
 all_goals (try have ht := isT_iff.1 ‹isT t = true›)
 all_goals (first
  | omega
  | with_reducible exact stl_n (sto_1 ‹_›) | with_reducible exact stl_n (sto_2 ‹_›) | with_reducible exact stl_n (sto_3 ‹_›) | with_reducible exact stl_n (sto_4 ‹_›)
  | with_reducible exact (sto_1 ‹_›).symm | with_reducible exact (sto_2 ‹_›).symm | with_reducible exact (sto_3 ‹_›).symm | with_reducible exact (sto_4 ‹_›).symm
  | with_reducible exact stl_y (sto_y ‹_› ‹_› ‹_› ‹_›) | with_reducible exact (sto_y ‹_› ‹_› ‹_› ‹_›).symm
  | skip)
theorem ok_SetTerm : FnOk Try.prog E 46 c_SetTerm :=
 fn_okQ (l := L_SetTerm) (lp := P_SetTerm) (hp := fun _ => false) (gcs := fun _ => none) (perm := fun _ => []) tabOk mix ⟨ok_isTerm, ok_iStateValid, ok_isValue, ok_copyState, trivial⟩ trivial Try.func46 rfl (by kernel_rfl) (by decide) (by kernel_rfl) (anns := fun x _ => fun _ _ => none) (fun ⟨s, t, v, _⟩ k hp _ => Eq.mp (by kernel_rfl) (vcn_SetTerm s t v k hp)) tot_fn
abbrev c_FnUnfoldList : Con := ⟨[.sl .u8], [.bool], fun (code, _) => code.length <= 281474976710656, .inl fun (code, _) => (true, ()), fun _ => 0⟩
abbrev L_FnUnfoldList : List (FuncId × Con) := [(18, c_iAssertionSame), (20, c_iModelOf), (21, c_iHolds), (31, c_iEntails), (42, c_DrawUnfoldList), (43, c_iUnfoldList), (44, c_sUnfoldList), (45, c_iFreshTerm), (46, c_SetTerm)]
abbrev P_FnUnfoldList : List (FuncId × PT) := []
def an_FnUnfoldList (code : List UInt8) : Nat -> St -> Option Ann
 | 12, se => some { α := Nat × Bool, ok := fun p => p.1 <= 9 /\ ufN (⟨slAt .fact se (.cell 63 0), slAt .atom se (.cell 63 1)⟩ : GAsn) (intAt se 4) p.2 p.1 = true, mu := fun p => 9 - p.1, i0 := fun st => (0, boolAt st 15), nx := fun p st => (p.1 + 1, boolAt st 15), live := [2, 3, 5, 6, 11, 13], sets := fun p => [(16, sv (.int .i64 p.1)), (15, sv (.bool p.2))], mids := [63, 95, 111, 223, 384, 385, 480, 481, 482, 483, 1280, 1281], blks := fun p => [], owns := fun p => [], rd := fun r _ => r, base := 100000 }
 | _, _ => none
def VC_FnUnfoldList_1 (r1 : GAsn × Int × Unit) : Prop := (r1.1.facts.length <= 281474976710656 /\ r1.1.atoms.length <= 281474976710656) /\ True /\ TN /\ TN /\ TN /\ TN /\ True
def VC_FnUnfoldList_2 (r1 : GAsn × Int × Unit) : Prop := ((ufE r1.1 r1.2.1).facts.length <= 281474976710656 /\ (ufE r1.1 r1.2.1).atoms.length <= 281474976710656 /\ (ufE r1.1 r1.2.1).facts.length <= 281474976710656 /\ (ufE r1.1 r1.2.1).atoms.length <= 281474976710656) /\ True /\ True
def VC_FnUnfoldList_3 (r1 : GAsn × Int × Unit) : Prop := ((ufF r1.1 r1.2.1).facts.length <= 281474976710656 /\ (ufF r1.1 r1.2.1).atoms.length <= 281474976710656 /\ (ufF r1.1 r1.2.1).facts.length <= 281474976710656 /\ (ufF r1.1 r1.2.1).atoms.length <= 281474976710656) /\ True /\ True
def VC_FnUnfoldList_4  : Prop := True /\ True /\ (((false, ()) : Bool × Unit) = (true, ())) /\ True /\ True /\ True /\ True /\ TF
def VC_FnUnfoldList_5  : Prop := True /\ True /\ VC_FnUnfoldList_4
def VC_FnUnfoldList_6 (r1 : GAsn × Int × Unit) : Prop := True /\ True /\ True /\ True /\ (vcIf ((ufOk r1.1 r1.2.1) == (ufOk r1.1 r1.2.1)) (True /\ True /\ (VC_FnUnfoldList_2 r1) /\ True /\ True /\ (vcIf (decide ((ufE r1.1 r1.2.1) = (ufE r1.1 r1.2.1))) (True /\ True /\ (VC_FnUnfoldList_3 r1) /\ True /\ True /\ ((((decide ((ufF r1.1 r1.2.1) = (ufF r1.1 r1.2.1))), ()) : Bool × Unit) = (true, ())) /\ True /\ True /\ True /\ True /\ TF) VC_FnUnfoldList_4)) VC_FnUnfoldList_5)
def VC_FnUnfoldList_7 (r1 : GAsn × Int × Unit) : Prop := True /\ (VC_FnUnfoldList_6 r1)
def VC_FnUnfoldList_8 (r1 : GAsn × Int × Unit) : Prop := True /\ True /\ (VC_FnUnfoldList_7 r1)
def VC_FnUnfoldList_9 (r1 : GAsn × Int × Unit) : Prop := RL [.s (.c (.d (.val (.bool false)))), .s (.c (.ptr 63 0)), .s (.c (.ptr 95 0)), .s (.c (.ptr 111 0)), .s (.c (.d (.val (.int .i64 (frL r1.1))))), .s (.c (.ptr 223 0))]
def VC_FnUnfoldList_10 (r1 : GAsn × Int × Unit) : Prop := (RM [some (.blk [.own 384, .own 385]), some (.blk [.own 480, .own 481]), some (.blk [.own 482, .own 483]), some (.blk [.own 1280, .own 1281]), some (.sl 384 .fact r1.1.facts), some (.sl 385 .atom r1.1.atoms), some (.sl 480 .fact ((ufE r1.1 r1.2.1).facts)), some (.sl 481 .atom ((ufE r1.1 r1.2.1).atoms)), some (.sl 482 .fact ((ufF r1.1 r1.2.1).facts)), some (.sl 483 .atom ((ufF r1.1 r1.2.1).atoms)), some (.sl 1280 .int ((mdL r1.1).vals)), some (.sl 1281 .int ((mdL r1.1).heap))]) /\ (RM []) /\ True /\ TT
def VC_FnUnfoldList_11 (p2 : Nat × Bool) (r1 : GAsn × Int × Unit) : Prop := True /\ True /\ (vcIf p2.2 (True /\ True /\ (((ufE r1.1 r1.2.1).facts.length <= 281474976710656 /\ (ufE r1.1 r1.2.1).atoms.length <= 281474976710656 /\ r1.1.facts.length <= 281474976710656 /\ r1.1.atoms.length <= 281474976710656) /\ True /\ True) /\ True /\ True /\ (vcIf (ENT (ufE r1.1 r1.2.1) r1.1) (True /\ True /\ (((ufF r1.1 r1.2.1).facts.length <= 281474976710656 /\ (ufF r1.1 r1.2.1).atoms.length <= 281474976710656 /\ r1.1.facts.length <= 281474976710656 /\ r1.1.atoms.length <= 281474976710656) /\ True /\ True) /\ True /\ True /\ ((((ENT (ufF r1.1 r1.2.1) r1.1), ()) : Bool × Unit) = (true, ())) /\ True /\ True /\ True /\ True /\ TF) VC_FnUnfoldList_4)) VC_FnUnfoldList_5)
def VC_FnUnfoldList_12 (r1 : GAsn × Int × Unit) : Prop := ∀ p2 : Nat × Bool, (p2.1 <= 9 /\ ufN (⟨r1.1.facts, r1.1.atoms⟩ : GAsn) (r1.2.1) p2.2 p2.1 = true) -> True /\ True /\ True /\ (vcIf (decide ((p2.1 : Int) <= (8 : Int))) (True /\ True /\ True /\ (vcIf (!p2.2) (True /\ True /\ True /\ (((mdL r1.1).vals.length <= 281474976710656 /\ (mdL r1.1).heap.length <= 281474976710656) /\ True /\ TN /\ TN /\ True) /\ True /\ True /\ True /\ (TN /\ TN /\ TN /\ True) /\ (TF /\ TF) /\ True /\ True /\ True /\ (vcIf (stO (mdL r1.1) (frL r1.1) (p2.1 : Int)) (True /\ True /\ (((stL (mdL r1.1) (frL r1.1) (p2.1 : Int)).vals.length <= 281474976710656 /\ (stL (mdL r1.1) (frL r1.1) (p2.1 : Int)).heap.length <= 281474976710656 /\ (ufF r1.1 r1.2.1).facts.length <= 281474976710656 /\ (ufF r1.1 r1.2.1).atoms.length <= 281474976710656) /\ True /\ True) /\ True /\ True /\ True /\ (inK .i64 ((p2.1 : Int) + (1 : Int))) /\ True /\ ((p2.1 + 1, (HOL (stL (mdL r1.1) (frL r1.1) (p2.1 : Int)) (ufF r1.1 r1.2.1))).1 <= 9 /\ ufN (⟨r1.1.facts, r1.1.atoms⟩ : GAsn) (r1.2.1) (p2.1 + 1, (HOL (stL (mdL r1.1) (frL r1.1) (p2.1 : Int)) (ufF r1.1 r1.2.1))).2 (p2.1 + 1, (HOL (stL (mdL r1.1) (frL r1.1) (p2.1 : Int)) (ufF r1.1 r1.2.1))).1 = true) /\ (9 - (p2.1 + 1, (HOL (stL (mdL r1.1) (frL r1.1) (p2.1 : Int)) (ufF r1.1 r1.2.1))).1 < 9 - p2.1) /\ TT /\ (VC_FnUnfoldList_9 r1) /\ (([.s (.c (.d (.val (.int .i64 ((p2.1 : Int) + (1 : Int)))))), .s (.c (.d (.val (.bool (HOL (stL (mdL r1.1) (frL r1.1) (p2.1 : Int)) (ufF r1.1 r1.2.1))))))] : List S) = [.s (.c (.d (.val (.int .i64 ((p2.1 + 1, (HOL (stL (mdL r1.1) (frL r1.1) (p2.1 : Int)) (ufF r1.1 r1.2.1))).1 : Int))))), .s (.c (.d (.val (.bool ((p2.1 + 1, (HOL (stL (mdL r1.1) (frL r1.1) (p2.1 : Int)) (ufF r1.1 r1.2.1))).2)))))]) /\ (VC_FnUnfoldList_10 r1)) (True /\ True /\ True /\ (inK .i64 ((p2.1 : Int) + (1 : Int))) /\ True /\ ((p2.1 + 1, false).1 <= 9 /\ ufN (⟨r1.1.facts, r1.1.atoms⟩ : GAsn) (r1.2.1) (p2.1 + 1, false).2 (p2.1 + 1, false).1 = true) /\ (9 - (p2.1 + 1, false).1 < 9 - p2.1) /\ TT /\ (VC_FnUnfoldList_9 r1) /\ (([.s (.c (.d (.val (.int .i64 ((p2.1 : Int) + (1 : Int)))))), .s (.c (.d (.val (.bool false))))] : List S) = [.s (.c (.d (.val (.int .i64 ((p2.1 + 1, false).1 : Int))))), .s (.c (.d (.val (.bool ((p2.1 + 1, false).2)))))]) /\ (VC_FnUnfoldList_10 r1)))) (VC_FnUnfoldList_11 p2 r1))) (True /\ (VC_FnUnfoldList_11 p2 r1)))
def VC_FnUnfoldList (code : List UInt8) (k : Nat) : Prop := True /\ True /\ True /\ True /\ (vcIf (decide ((1048576 : Int) < ((code.length : Nat) : Int))) (True /\ (((true, ()) : Bool × Unit) = (true, ())) /\ True /\ True /\ True /\ True /\ TF) (True /\ (True /\ True /\ TN /\ TN /\ True) /\ (∀ r1 : GAsn × Int × Unit, (r1.1.facts.length <= 40 /\ r1.1.atoms.length <= 40) -> True /\ True /\ True /\ (TN /\ TN /\ TN /\ True) /\ (TF /\ TF) /\ True /\ True /\ True /\ (VC_FnUnfoldList_1 r1) /\ True /\ True /\ True /\ True /\ (TN /\ TN /\ TN /\ True) /\ (TN /\ TN /\ TN /\ True) /\ (TF /\ TF) /\ (TF /\ TF) /\ True /\ True /\ True /\ (VC_FnUnfoldList_1 r1) /\ True /\ True /\ True /\ True /\ (TN /\ TN /\ TN /\ True) /\ (TN /\ TN /\ TN /\ True) /\ (TF /\ TF) /\ (TF /\ TF) /\ True /\ True /\ True /\ True /\ True /\ (vcIf ((ufOk r1.1 r1.2.1) != (ufOk r1.1 r1.2.1)) (True /\ True /\ (VC_FnUnfoldList_8 r1)) (True /\ True /\ (VC_FnUnfoldList_2 r1) /\ True /\ True /\ True /\ (vcIf (!(decide ((ufE r1.1 r1.2.1) = (ufE r1.1 r1.2.1)))) (VC_FnUnfoldList_8 r1) (True /\ True /\ (VC_FnUnfoldList_3 r1) /\ True /\ True /\ True /\ (vcIf (!(decide ((ufF r1.1 r1.2.1) = (ufF r1.1 r1.2.1)))) (VC_FnUnfoldList_7 r1) (True /\ True /\ True /\ (vcIf (!(ufOk r1.1 r1.2.1)) (VC_FnUnfoldList_6 r1) (True /\ ((r1.1.facts.length <= 281474976710656 /\ r1.1.atoms.length <= 281474976710656) /\ True /\ True) /\ True /\ True /\ True /\ True /\ True /\ True /\ ((r1.1.facts.length <= 281474976710656 /\ r1.1.atoms.length <= 281474976710656) /\ True /\ TN /\ TN /\ True) /\ True /\ True /\ True /\ (TN /\ TN /\ TN /\ True) /\ (TF /\ TF) /\ True /\ True /\ True /\ True /\ (vcIf (!(asV r1.1 && !(casesF r1.1).isEmpty)) (True /\ True /\ True /\ (((0, true).1 <= 9 /\ ufN (⟨r1.1.facts, r1.1.atoms⟩ : GAsn) (r1.2.1) (0, true).2 (0, true).1 = true) /\ TT /\ (VC_FnUnfoldList_9 r1) /\ (([.s (.c (.d (.val (.int .i64 (0 : Int))))), .s (.c (.d (.val (.bool true))))] : List S) = [.s (.c (.d (.val (.int .i64 ((0, true).1 : Int))))), .s (.c (.d (.val (.bool ((0, true).2)))))]) /\ (VC_FnUnfoldList_10 r1)) /\ (VC_FnUnfoldList_12 r1)) (True /\ True /\ (((mdL r1.1).vals.length <= 281474976710656 /\ (mdL r1.1).heap.length <= 281474976710656 /\ (ufE r1.1 r1.2.1).facts.length <= 281474976710656 /\ (ufE r1.1 r1.2.1).atoms.length <= 281474976710656) /\ True /\ True) /\ True /\ True /\ True /\ (((0, (HOL (mdL r1.1) (ufE r1.1 r1.2.1))).1 <= 9 /\ ufN (⟨r1.1.facts, r1.1.atoms⟩ : GAsn) (r1.2.1) (0, (HOL (mdL r1.1) (ufE r1.1 r1.2.1))).2 (0, (HOL (mdL r1.1) (ufE r1.1 r1.2.1))).1 = true) /\ TT /\ (VC_FnUnfoldList_9 r1) /\ (([.s (.c (.d (.val (.int .i64 (0 : Int))))), .s (.c (.d (.val (.bool (HOL (mdL r1.1) (ufE r1.1 r1.2.1))))))] : List S) = [.s (.c (.d (.val (.int .i64 ((0, (HOL (mdL r1.1) (ufE r1.1 r1.2.1))).1 : Int))))), .s (.c (.d (.val (.bool ((0, (HOL (mdL r1.1) (ufE r1.1 r1.2.1))).2)))))]) /\ (VC_FnUnfoldList_10 r1)) /\ (VC_FnUnfoldList_12 r1))))))))))))))
theorem vcn_FnUnfoldList (code : List UInt8) (k : Nat) (hp : code.length <= 281474976710656) : VC_FnUnfoldList code k := by
 unfold VC_FnUnfoldList VC_FnUnfoldList_12 VC_FnUnfoldList_11 VC_FnUnfoldList_10 VC_FnUnfoldList_9 VC_FnUnfoldList_8 VC_FnUnfoldList_7 VC_FnUnfoldList_6 VC_FnUnfoldList_5 VC_FnUnfoldList_4 VC_FnUnfoldList_3 VC_FnUnfoldList_2 VC_FnUnfoldList_1
 simp only [cln, Nat.reduceEqDiff, Nat.reduceLeDiff, Nat.reduceAdd, bne_self_eq_false, beq_self_eq_true, decide_true, eq_self, Bool.not_true, Bool.not_false, vcIf_true, vcIf_false, Bool.false_and, Bool.true_and, Bool.or_false, Bool.or_true]
 all_goals (try simp only [opn])
 all_goals (repeat' (first | apply And.intro | intro _))
 all_goals (repeat (cases ‹_ /\ _›))
 all_goals (first | with_reducible exact True.intro | (exfalso; contradiction) | omega | with_reducible assumption | with_reducible rfl | skip)
 all_goals (first
  | (with_reducible refine Nat.le_trans (m := 200) ?_ (by decide); first
   | with_reducible exact (uf200 (by omega) (by omega)).1 | with_reducible exact (uf200 (by omega) (by omega)).2.1 | with_reducible exact (uf200 (by omega) (by omega)).2.2.1 | with_reducible exact (uf200 (by omega) (by omega)).2.2.2
   | with_reducible exact md200V | with_reducible exact md200H | with_reducible exact st200 md200V md200H | with_reducible exact st200h md200V md200H)
  | with_reducible exact uf_t | with_reducible exact uf_i0 ‹_›
  | with_reducible exact uf_s1 ‹_› ‹_› ‹_› | with_reducible exact uf_s0 ‹_› ‹_› ‹_›
  | with_reducible exact ent_ufE ‹_› | with_reducible exact ent_ufF ‹_›
  | with_reducible exact (uf_eN ‹_› ‹_›).elim | with_reducible exact (uf_fN ‹_› ‹_›).elim
  | with_reducible exact (uf_last ‹_› ‹_› ‹_› ‹_› ‹_›).elim
  | (simp_all; done)
  | skip)
theorem ok_FnUnfoldList : FnOk Try.prog E 12 c_FnUnfoldList :=
 fn_okQ (l := L_FnUnfoldList) (lp := P_FnUnfoldList) (hp := fun _ => false) (gcs := fun _ => none) (perm := fun _ => []) tabOk mix ⟨ok_iAssertionSame, ok_iModelOf, ok_iHolds, ok_iEntails, ok_DrawUnfoldList, ok_iUnfoldList, ok_sUnfoldList, ok_iFreshTerm, ok_SetTerm, trivial⟩ trivial Try.func12 rfl (by kernel_rfl) (by decide) (by kernel_rfl) (anns := fun x _ => an_FnUnfoldList x.1) (fun ⟨code, _⟩ k hp _ => Eq.mp (by kernel_rfl) (vcn_FnUnfoldList code k hp)) tot_fn
end Go.Proofs.Ytfoioficiffgkaa
