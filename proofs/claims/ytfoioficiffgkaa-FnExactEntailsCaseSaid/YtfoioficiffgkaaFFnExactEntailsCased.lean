/-
  Contracts of single functions of the program, each shown by the engine: what a call returns for arguments within the contract's bounds.
-/
import Derived.Test.YtfoioficiffgkaaFFnExactEntailsCasea
import Derived.Test.YtfoioficiffgkaaFFnExactEntailsCasec
import Derived.Test.YtfoioficiffgkaaEe
import Derived.Test.YtfoioficiffgkaaEf
set_option linter.unusedSimpArgs false
set_option linter.unusedVariables false
set_option linter.unusedSectionVars false

namespace Go.Proofs.Ytfoioficiffgkaa
open Go.SE Go.RowKit
set_option linter.unusedSimpArgs false
set_option linter.unusedVariables false
set_option maxHeartbeats 1000000
set_option maxRecDepth 100000
/-! readCase -/
abbrev c_readCase : Con := ⟨[.asn, .u16, .sl .int], [.kase, .bool], fun (a, tm, c, _) => asV a = true ∧ 0 ≤ tm ∧ tm < 512 ∧ c.length ≤ 281474976710656, .inr fun (a, tm, c, _) r => r.2.1 = rcB a (bits .or .u16 (tsWith (tsA a) 0) tm) c ∧ (r.2.1 = true → r.1 = c) ∧ r.1.length = 9, fun _ => 0⟩
abbrev L_readCase : List (FuncId × Con) := [(72, c_termsIn), (87, c_tsWith), (128, c_tsHas), (129, c_possible)]
abbrev P_readCase : List (FuncId × PT) := []
def an_readCase (a : GAsn) (tm : Int) (c : List Int) : Nat → St → Option Ann
  | 6, se => some { α := Nat × List Int, ok := fun p => c.length = 9 ∧ rdI a (bits .or .u16 (tsWith (tsA a) 0) tm) c p.1 p.2, mu := fun p => 9 - p.1, i0 := fun st => (0, vecAt st 143), nx := fun p st => (p.1 + 1, vecAt st 143), live := [3, 6, 8, 9, 21, 22], sets := fun p => [(23, sv (.int .i64 p.1))], mids := [63, 111], blks := fun p => [(143, .vec .int p.2)], owns := fun p => [], rd := fun r _ => r, base := 100000 }
  | _, _ => none
def hp_readCase : Nat → Bool
  | 12 => true
  | _ => false
def VC_readCase_1 (a : GAsn) (tm : Int) (c : List Int) (k : Nat) (p1 : Nat × List Int) : Prop := (True ∧ (vcIf (decide ((c.getD (p1.1 : Int).toNat (0 : Int)) < (0 : Int))) (True ∧ True ∧ True ∧ (9 = (p1.2.set (p1.1 : Int).toNat (c.getD (p1.1 : Int).toNat (0 : Int))).length * 1) ∧ (((p1.2.set (p1.1 : Int).toNat (c.getD (p1.1 : Int).toNat (0 : Int))).length = (List.replicate 9 (0 : Int)).length) ∧ TF ∧ TF) ∧ True ∧ ((9 = (p1.2.set (p1.1 : Int).toNat (c.getD (p1.1 : Int).toNat (0 : Int))).length * 1) ∧ True) ∧ (false = rcB a (bits .or .u16 (tsWith (tsA a) 0) tm) c ∧ (false = true → (p1.2.set (p1.1 : Int).toNat (c.getD (p1.1 : Int).toNat (0 : Int))) = c) ∧ (p1.2.set (p1.1 : Int).toNat (c.getD (p1.1 : Int).toNat (0 : Int))).length = 9) ∧ True ∧ True ∧ True ∧ True ∧ TF) (True ∧ True ∧ True ∧ True ∧ True ∧ (vcIf (decide ((p1.1 : Int) < (c.getD (p1.1 : Int).toNat (0 : Int)))) (True ∧ (9 = (p1.2.set (p1.1 : Int).toNat (c.getD (p1.1 : Int).toNat (0 : Int))).length * 1) ∧ (((p1.2.set (p1.1 : Int).toNat (c.getD (p1.1 : Int).toNat (0 : Int))).length = (List.replicate 9 (0 : Int)).length) ∧ TF ∧ TF) ∧ True ∧ ((9 = (p1.2.set (p1.1 : Int).toNat (c.getD (p1.1 : Int).toNat (0 : Int))).length * 1) ∧ True) ∧ (false = rcB a (bits .or .u16 (tsWith (tsA a) 0) tm) c ∧ (false = true → (p1.2.set (p1.1 : Int).toNat (c.getD (p1.1 : Int).toNat (0 : Int))) = c) ∧ (p1.2.set (p1.1 : Int).toNat (c.getD (p1.1 : Int).toNat (0 : Int))).length = 9) ∧ True ∧ True ∧ True ∧ True ∧ TF) (True ∧ (0 ≤ (c.getD (p1.1 : Int).toNat (0 : Int)) ∧ (c.getD (p1.1 : Int).toNat (0 : Int)) < ((9 : Nat) : Int) ∧ (p1.2.set (p1.1 : Int).toNat (c.getD (p1.1 : Int).toNat (0 : Int))).length = 9) ∧ True ∧ True ∧ True ∧ True ∧ (vcIf (((p1.2.set (p1.1 : Int).toNat (c.getD (p1.1 : Int).toNat (0 : Int))).getD (c.getD (p1.1 : Int).toNat (0 : Int)).toNat (0 : Int)) != (c.getD (p1.1 : Int).toNat (0 : Int))) ((9 = (p1.2.set (p1.1 : Int).toNat (c.getD (p1.1 : Int).toNat (0 : Int))).length * 1) ∧ (((p1.2.set (p1.1 : Int).toNat (c.getD (p1.1 : Int).toNat (0 : Int))).length = (List.replicate 9 (0 : Int)).length) ∧ TF ∧ TF) ∧ True ∧ ((9 = (p1.2.set (p1.1 : Int).toNat (c.getD (p1.1 : Int).toNat (0 : Int))).length * 1) ∧ True) ∧ (false = rcB a (bits .or .u16 (tsWith (tsA a) 0) tm) c ∧ (false = true → (p1.2.set (p1.1 : Int).toNat (c.getD (p1.1 : Int).toNat (0 : Int))) = c) ∧ (p1.2.set (p1.1 : Int).toNat (c.getD (p1.1 : Int).toNat (0 : Int))).length = 9) ∧ True ∧ True ∧ True ∧ True ∧ TF) ((inK .i64 ((p1.1 : Int) + (1 : Int))) ∧ True ∧ (c.length = 9 ∧ rdI a (bits .or .u16 (tsWith (tsA a) 0) tm) c (p1.1 + 1, (p1.2.set (p1.1 : Int).toNat (c.getD (p1.1 : Int).toNat (0 : Int)))).1 (p1.1 + 1, (p1.2.set (p1.1 : Int).toNat (c.getD (p1.1 : Int).toNat (0 : Int)))).2) ∧ (9 - (p1.1 + 1, (p1.2.set (p1.1 : Int).toNat (c.getD (p1.1 : Int).toNat (0 : Int)))).1 < 9 - p1.1) ∧ TT ∧ (RL [.s (.c (.ptr 63 0)), .s (.c (.ptr 111 0)), .s (.c (.ptr 143 0)), .s (.c (.d (.val (.int .u16 (bits .or .u16 (tsWith (tsA a) (0 : Int)) tm))))), .s (.c (.d (.arr .int c))), .s (.c (.d (.val (.int .i64 ((c.length : Nat) : Int)))))]) ∧ (([.s (.c (.d (.val (.int .i64 ((p1.1 : Int) + (1 : Int))))))] : List S) = [.s (.c (.d (.val (.int .i64 ((p1.1 + 1, (p1.2.set (p1.1 : Int).toNat (c.getD (p1.1 : Int).toNat (0 : Int)))).1 : Int)))))]) ∧ (RM [some (.blk [.d (.arr .fact a.facts), .d (.arr .atom a.atoms)]), some (.vec .int (List.replicate 9 (0 : Int)))]) ∧ (([some (.vec .int (p1.2.set (p1.1 : Int).toNat (c.getD (p1.1 : Int).toNat (0 : Int))))] : List (Option Res)) = [some (.vec .int ((p1.1 + 1, (p1.2.set (p1.1 : Int).toNat (c.getD (p1.1 : Int).toNat (0 : Int)))).2))]) ∧ True ∧ TT)))))))
def VC_readCase_2 (a : GAsn) (tm : Int) (c : List Int) (k : Nat) : Prop := (((c.length = 9 ∧ rdI a (bits .or .u16 (tsWith (tsA a) 0) tm) c (0, (List.replicate 9 (0 : Int))).1 (0, (List.replicate 9 (0 : Int))).2) ∧ TT ∧ (RL [.s (.c (.ptr 63 0)), .s (.c (.ptr 111 0)), .s (.c (.ptr 143 0)), .s (.c (.d (.val (.int .u16 (bits .or .u16 (tsWith (tsA a) (0 : Int)) tm))))), .s (.c (.d (.arr .int c))), .s (.c (.d (.val (.int .i64 ((c.length : Nat) : Int)))))]) ∧ (([.s (.c (.d (.val (.int .i64 (0 : Int)))))] : List S) = [.s (.c (.d (.val (.int .i64 ((0, (List.replicate 9 (0 : Int))).1 : Int)))))]) ∧ (RM [some (.blk [.d (.arr .fact a.facts), .d (.arr .atom a.atoms)]), some (.vec .int (List.replicate 9 (0 : Int)))]) ∧ (([some (.vec .int (List.replicate 9 (0 : Int)))] : List (Option Res)) = [some (.vec .int ((0, (List.replicate 9 (0 : Int))).2))]) ∧ True ∧ TT) ∧ (∀ p1 : Nat × List Int, (c.length = 9 ∧ rdI a (bits .or .u16 (tsWith (tsA a) 0) tm) c p1.1 p1.2) → True ∧ (vcIf (decide ((p1.1 : Int) < ((c.length : Nat) : Int))) (True ∧ (0 ≤ (p1.1 : Int) ∧ (p1.1 : Int) < ((c.length : Nat) : Int)) ∧ True ∧ True ∧ True ∧ True ∧ True ∧ (0 ≤ (p1.1 : Int) ∧ (p1.1 : Int) < ((9 : Nat) : Int) ∧ p1.2.length = 9) ∧ (TF ∧ TF ∧ True) ∧ True ∧ True ∧ ((0 ≤ (bits .or .u16 (tsWith (tsA a) (0 : Int)) tm) ∧ (bits .or .u16 (tsWith (tsA a) (0 : Int)) tm) < 512) ∧ True ∧ True) ∧ True ∧ (vcIf (!(tsHas (bits .or .u16 (tsWith (tsA a) (0 : Int)) tm) (p1.1 : Int))) (True ∧ True ∧ (vcIf ((c.getD (p1.1 : Int).toNat (0 : Int)) != (-1 : Int)) ((9 = (p1.2.set (p1.1 : Int).toNat (c.getD (p1.1 : Int).toNat (0 : Int))).length * 1) ∧ (((p1.2.set (p1.1 : Int).toNat (c.getD (p1.1 : Int).toNat (0 : Int))).length = (List.replicate 9 (0 : Int)).length) ∧ TF ∧ TF) ∧ True ∧ ((9 = (p1.2.set (p1.1 : Int).toNat (c.getD (p1.1 : Int).toNat (0 : Int))).length * 1) ∧ True) ∧ (false = rcB a (bits .or .u16 (tsWith (tsA a) 0) tm) c ∧ (false = true → (p1.2.set (p1.1 : Int).toNat (c.getD (p1.1 : Int).toNat (0 : Int))) = c) ∧ (p1.2.set (p1.1 : Int).toNat (c.getD (p1.1 : Int).toNat (0 : Int))).length = 9) ∧ True ∧ True ∧ True ∧ True ∧ TF) ((inK .i64 ((p1.1 : Int) + (1 : Int))) ∧ True ∧ (c.length = 9 ∧ rdI a (bits .or .u16 (tsWith (tsA a) 0) tm) c (p1.1 + 1, (p1.2.set (p1.1 : Int).toNat (c.getD (p1.1 : Int).toNat (0 : Int)))).1 (p1.1 + 1, (p1.2.set (p1.1 : Int).toNat (c.getD (p1.1 : Int).toNat (0 : Int)))).2) ∧ (9 - (p1.1 + 1, (p1.2.set (p1.1 : Int).toNat (c.getD (p1.1 : Int).toNat (0 : Int)))).1 < 9 - p1.1) ∧ TT ∧ (RL [.s (.c (.ptr 63 0)), .s (.c (.ptr 111 0)), .s (.c (.ptr 143 0)), .s (.c (.d (.val (.int .u16 (bits .or .u16 (tsWith (tsA a) (0 : Int)) tm))))), .s (.c (.d (.arr .int c))), .s (.c (.d (.val (.int .i64 ((c.length : Nat) : Int)))))]) ∧ (([.s (.c (.d (.val (.int .i64 ((p1.1 : Int) + (1 : Int))))))] : List S) = [.s (.c (.d (.val (.int .i64 ((p1.1 + 1, (p1.2.set (p1.1 : Int).toNat (c.getD (p1.1 : Int).toNat (0 : Int)))).1 : Int)))))]) ∧ (RM [some (.blk [.d (.arr .fact a.facts), .d (.arr .atom a.atoms)]), some (.vec .int (List.replicate 9 (0 : Int)))]) ∧ (([some (.vec .int (p1.2.set (p1.1 : Int).toNat (c.getD (p1.1 : Int).toNat (0 : Int))))] : List (Option Res)) = [some (.vec .int ((p1.1 + 1, (p1.2.set (p1.1 : Int).toNat (c.getD (p1.1 : Int).toNat (0 : Int)))).2))]) ∧ True ∧ TT))) (True ∧ True ∧ (VC_readCase_1 a tm c k p1)))) ((9 = p1.2.length * 1) ∧ True ∧ ((p1.2.length = 9 ∧ asV a = true ∧ 0 ≤ (8 : Int) ∧ (8 : Int) ≤ 8) ∧ True ∧ True) ∧ ((p1.2.length = (List.replicate 9 (0 : Int)).length) ∧ TF ∧ TF) ∧ True ∧ ((9 = p1.2.length * 1) ∧ True) ∧ ((possI a p1.2 (8 : Int)) = rcB a (bits .or .u16 (tsWith (tsA a) 0) tm) c ∧ ((possI a p1.2 (8 : Int)) = true → p1.2 = c) ∧ p1.2.length = 9) ∧ True ∧ True ∧ True ∧ True ∧ TF))))
def VC_readCase (a : GAsn) (tm : Int) (c : List Int) (k : Nat) : Prop := TN ∧ (TN ∧ True) ∧ True ∧ (TN ∧ True) ∧ True ∧ True ∧ True ∧ (vcIf (((c.length : Nat) : Int) != (9 : Int)) ((9 = (List.replicate 9 (0 : Int)).length * 1) ∧ (((List.replicate 9 (0 : Int)).length = (List.replicate 9 (0 : Int)).length) ∧ TF ∧ TF) ∧ True ∧ ((9 = (List.replicate 9 (0 : Int)).length * 1) ∧ True) ∧ (false = rcB a (bits .or .u16 (tsWith (tsA a) 0) tm) c ∧ (false = true → (List.replicate 9 (0 : Int)) = c) ∧ (List.replicate 9 (0 : Int)).length = 9) ∧ True ∧ True ∧ True ∧ True ∧ TF) (True ∧ ((a.facts.length ≤ 281474976710656 ∧ a.atoms.length ≤ 281474976710656) ∧ True ∧ True) ∧ ((0 ≤ (tsA a) ∧ (tsA a) < 512) ∧ True ∧ True) ∧ True ∧ True ∧ True ∧ True ∧ True ∧ True ∧ (VC_readCase_2 a tm c k)))
theorem vcn_readCase (a : GAsn) (tm : Int) (c : List Int) (k : Nat) (hp : asV a = true ∧ 0 ≤ tm ∧ tm < 512 ∧ c.length ≤ 281474976710656) : VC_readCase a tm c k := by
  unfold VC_readCase VC_readCase_2 VC_readCase_1
  simp only [cln, Nat.reduceEqDiff, Nat.reduceLeDiff, Nat.reduceAdd]
  all_goals (try simp only [opn])
  all_goals (repeat' (first | apply And.intro | intro _))
  all_goals (repeat (cases ‹_ ∧ _›))
  all_goals (first | (exfalso; contradiction) | omega | with_reducible assumption | skip)
  all_goals (try have h7 := ‹rdI _ _ _ _ _›)
  all_goals (try have h8 := ‹c.length = 9›)
  all_goals (first
   | rfl
   | with_reducible exact rd_s1 h7 h8 | with_reducible exact rd_s2 h7 h8 | with_reducible exact rd_s3 h7 h8 | with_reducible exact rd_p1 h7 h8 | with_reducible exact rd_p2 h7 h8 | with_reducible exact rd_plen h7 h8
   | with_reducible exact (rd_bd (by assumption) (by assumption)).1 | with_reducible exact (rd_bd (by assumption) (by assumption)).2 | with_reducible exact (tsA_bd _).1 | with_reducible exact (tsA_bd _).2
   | with_reducible exact (rd_asn (by assumption)).1 | with_reducible exact (rd_asn (by assumption)).2
   | with_reducible exact rdI_zero
   | with_reducible exact rd_bad0 (by omega)
   | with_reducible exact rdx1 (by assumption) h8 (by assumption) (by assumption) | with_reducible exact rdx2 (by assumption) h8 (by assumption) (by assumption) | with_reducible exact rdx3 (by assumption) h8 (by assumption) (by assumption) | with_reducible exact rd_bad4 h7 h8 (by omega) (by assumption) (by assumption) (by assumption) (by assumption)
   | with_reducible exact rd_go1 h7 h8 (by omega) (by assumption) (by assumption) | with_reducible exact rd_go2 h7 h8 (by omega) (by assumption) (by assumption) (by assumption) (by assumption)
   | with_reducible exact (rd_end h7 h8 (by omega)).1 | with_reducible exact (rd_end h7 h8 (by omega)).2
   | skip)
theorem vce_readCase (a : GAsn) (tm : Int) (c : List Int) (k : Nat) : VC_readCase a tm c k = vcQ tab (lookF L_readCase) (lookP P_readCase) (hp_readCase) (fun _ => none) (an_readCase a tm c) (fun _ => []) (bodyOf Try.f71) (entry (encs c_readCase.aks (a, tm, c, ())) (rdOf false k)) (retOkV tab c_readCase Try.f71.results.toList (a, tm, c, ()) k) := by kernel_rfl
theorem ok_readCase : FnOk Try.prog E 71 c_readCase :=
  fn_okV (l := L_readCase) (lp := P_readCase) (hp := hp_readCase) (gcs := fun _ => none) (perm := fun _ => []) tabOk mix ⟨ok_termsIn, ok_tsWith, ok_tsHas, ok_possible, trivial⟩ trivial Try.func71 rfl (by kernel_rfl) (by decide) (by kernel_rfl) (anns := fun x _ => an_readCase x.1 x.2.1 x.2.2.1) (fun ⟨a, tm, c, _⟩ k hp _ => (vce_readCase a tm c k).mp (vcn_readCase a tm c k hp)) (fun ⟨a, tm, c, _⟩ _ => ⟨(cond (rcB a (bits .or .u16 (tsWith (tsA a) 0) tm) c) c (List.replicate 9 0), rcB a (bits .or .u16 (tsWith (tsA a) 0) tm) c, ()), tot_rc⟩)
end Go.Proofs.Ytfoioficiffgkaa

namespace Go.Proofs.Ytfoioficiffgkaa
open Go.SE Go.RowKit
set_option linter.unusedSimpArgs false
set_option linter.unusedVariables false
set_option maxHeartbeats 1000000
set_option maxRecDepth 100000
/-! iFilled -/
abbrev c_iFilled : Con := ⟨[.pkase, .sl .atom], [.sl .atom], fun (c, l, _) => l.length ≤ 1048576 ∧ l.all atV = true ∧ c.length = 9, .inl fun (c, l, _) => (fL c l, ()), fun _ => 0⟩
abbrev L_iFilled : List (FuncId × Con) := [(150, c_isFilled)]
abbrev P_iFilled : List (FuncId × PT) := []
def an_iFilled (c : List Int) (l : List GAtom) : Nat → St → Option Ann
  | 3, se => some { α := Nat, ok := fun i => i ≤ l.length, mu := fun i => l.length - i, i0 := fun _ => 0, nx := fun a _ => (fun i => i + 1) a, live := [0, 4, 8, 9], sets := fun i => [(10, sv (.int .i64 i))], mids := [64], blks := fun i => [], owns := fun i => [⟨7, .slot 5, .atom, fL c (l.take i)⟩], rd := fun r _ => r, base := 100000 }
  | _, _ => none
def VC_iFilled (c : List Int) (l : List GAtom) (k : Nat) : Prop := TN ∧ TN ∧ True ∧ True ∧ True ∧ ((0 ≤ l.length) ∧ TT ∧ (RL [.s (.c (.rv .int c)), .s (.c (.own 64)), .s (.c (.d (.arr .atom l))), .s (.c (.d (.val (.int .i64 ((l.length : Nat) : Int)))))]) ∧ (([.s (.c (.d (.val (.int .i64 (0 : Int)))))] : List S) = [.s (.c (.d (.val (.int .i64 ((0 : Nat) : Int)))))]) ∧ (RM [some (.sl 64 .atom ([] : List GAtom))]) ∧ (RM []) ∧ (((some ([] : List GAtom) : Option (List GAtom)) = some (fL c (l.take 0))) ∧ True) ∧ TT) ∧ (∀ i1 : Nat, (i1 ≤ l.length) → True ∧ (vcIf (decide (((i1 : Nat) : Int) < ((l.length : Nat) : Int))) ((0 ≤ ((i1 : Nat) : Int) ∧ ((i1 : Nat) : Int) < ((l.length : Nat) : Int)) ∧ True ∧ (TN ∧ True) ∧ (TF ∧ TF) ∧ True ∧ True ∧ ((c.length = 9 ∧ atV (l.getD i1 (⟨0, 0, 0⟩ : GAtom)) = true) ∧ True ∧ True) ∧ (vcIf (filB c (l.getD i1 (⟨0, 0, 0⟩ : GAtom))) (True ∧ True ∧ True ∧ True ∧ True ∧ True ∧ True ∧ (0 ≤ ((l.getD i1 (⟨0, 0, 0⟩ : GAtom)).a) ∧ ((l.getD i1 (⟨0, 0, 0⟩ : GAtom)).a) < ((9 : Nat) : Int) ∧ c.length = 9) ∧ True ∧ True ∧ True ∧ True ∧ True ∧ (0 ≤ ((l.getD i1 (⟨0, 0, 0⟩ : GAtom)).b) ∧ ((l.getD i1 (⟨0, 0, 0⟩ : GAtom)).b) < ((9 : Nat) : Int) ∧ c.length = 9) ∧ True ∧ True ∧ (TN ∧ True) ∧ (TN ∧ TF ∧ TF ∧ ((fL c (l.take i1)).length + ([(⟨(l.getD i1 (⟨0, 0, 0⟩ : GAtom)).kind, (c.getD ((l.getD i1 (⟨0, 0, 0⟩ : GAtom)).a).toNat (0 : Int)), (c.getD ((l.getD i1 (⟨0, 0, 0⟩ : GAtom)).b).toNat (0 : Int))⟩ : GAtom)] : List GAtom).length ≤ 4294967296)) ∧ True ∧ (inK .i64 (((i1 : Nat) : Int) + (1 : Int))) ∧ True ∧ ((i1 + 1) ≤ l.length) ∧ (l.length - (i1 + 1) < l.length - i1) ∧ TT ∧ (RL [.s (.c (.rv .int c)), .s (.c (.own 64)), .s (.c (.d (.arr .atom l))), .s (.c (.d (.val (.int .i64 ((l.length : Nat) : Int)))))]) ∧ (([.s (.c (.d (.val (.int .i64 (((i1 : Nat) : Int) + (1 : Int))))))] : List S) = [.s (.c (.d (.val (.int .i64 (((i1 + 1) : Nat) : Int)))))]) ∧ (RM [some (.sl 64 .atom ([] : List GAtom))]) ∧ (RM []) ∧ (((some ((fL c (l.take i1)) ++ ([(⟨(l.getD i1 (⟨0, 0, 0⟩ : GAtom)).kind, (c.getD ((l.getD i1 (⟨0, 0, 0⟩ : GAtom)).a).toNat (0 : Int)), (c.getD ((l.getD i1 (⟨0, 0, 0⟩ : GAtom)).b).toNat (0 : Int))⟩ : GAtom)] : List GAtom)) : Option (List GAtom)) = some (fL c (l.take (i1 + 1)))) ∧ True) ∧ TT) ((inK .i64 (((i1 : Nat) : Int) + (1 : Int))) ∧ True ∧ ((i1 + 1) ≤ l.length) ∧ (l.length - (i1 + 1) < l.length - i1) ∧ TT ∧ (RL [.s (.c (.rv .int c)), .s (.c (.own 64)), .s (.c (.d (.arr .atom l))), .s (.c (.d (.val (.int .i64 ((l.length : Nat) : Int)))))]) ∧ (([.s (.c (.d (.val (.int .i64 (((i1 : Nat) : Int) + (1 : Int))))))] : List S) = [.s (.c (.d (.val (.int .i64 (((i1 + 1) : Nat) : Int)))))]) ∧ (RM [some (.sl 64 .atom ([] : List GAtom))]) ∧ (RM []) ∧ (((some (fL c (l.take i1)) : Option (List GAtom)) = some (fL c (l.take (i1 + 1)))) ∧ True) ∧ TT))) (True ∧ True ∧ (((fL c (l.take i1), ()) : (List GAtom) × Unit) = (fL c l, ())) ∧ (True ∧ True) ∧ ((TF ∧ TF) ∧ True) ∧ True ∧ (True ∧ True) ∧ TF)))
theorem vcn_iFilled (c : List Int) (l : List GAtom) (k : Nat) (hp : l.length ≤ 1048576 ∧ l.all atV = true ∧ c.length = 9) : VC_iFilled c l k := by
  unfold VC_iFilled
  simp only [cln, Nat.reduceEqDiff, Nat.reduceLeDiff, Nat.reduceAdd]
  have hV := hp.2.1
  have hL : ∀ i, (fL c (l.take i)).length ≤ 1048576 := fun i => Nat.le_trans (fL_len _ _) (by simp; omega)
  all_goals (try simp only [opn])
  all_goals (repeat' (first | apply And.intro | intro _))
  all_goals (repeat (cases ‹_ ∧ _›))
  all_goals (first | omega | rfl | assumption | (simp_all; done) | skip)
  all_goals (first
   | (have h1 := atom_idx (l := l) hV (by assumption); omega)
   | exact Nat.le_trans (hL _) (by decide)
   | (rw [fL_step (d := ⟨0, 0, 0⟩) (by assumption), (by assumption : filB c _ = true)]; rfl)
   | (rw [fL_step (d := ⟨0, 0, 0⟩) (by assumption), (by assumption : filB c _ = false)]; rfl)
   | (rw [take_full (l := l) (by assumption)]; done) | skip)
theorem vce_iFilled (c : List Int) (l : List GAtom) (k : Nat) : VC_iFilled c l k = vcQ tab (lookF L_iFilled) (lookP P_iFilled) (fun _ => false) (fun _ => none) (an_iFilled c l) (fun _ => []) (bodyOf Try.f116) (entry (encs c_iFilled.aks (c, l, ())) (rdOf false k)) (retOk tab c_iFilled Try.f116.results.toList (c, l, ()) k) := by kernel_rfl
theorem ok_iFilled : FnOk Try.prog E 116 c_iFilled :=
  fn_okQ (l := L_iFilled) (lp := P_iFilled) (hp := fun _ => false) (gcs := fun _ => none) (perm := fun _ => []) tabOk mix ⟨ok_isFilled, trivial⟩ trivial Try.func116 rfl (by kernel_rfl) (by decide) (by kernel_rfl) (anns := fun x _ => an_iFilled x.1 x.2.1) (fun ⟨c, l, _⟩ k hp _ => (vce_iFilled c l k).mp (vcn_iFilled c l k hp)) tot_fn
end Go.Proofs.Ytfoioficiffgkaa

namespace Go.Proofs.Ytfoioficiffgkaa
open Go.SE Go.RowKit
set_option linter.unusedSimpArgs false
set_option linter.unusedVariables false
set_option maxHeartbeats 1000000
set_option maxRecDepth 100000
/-! factsHold -/
abbrev c_factsHold : Con := ⟨[.pkase, .sl .fact], [.bool], fun (c, l, _) => c.length = 9 ∧ l.all fV = true ∧ l.length ≤ 1048576, .inl fun (c, l, _) => (l.all (fh c), ()), fun _ => 0⟩
abbrev L_factsHold : List (FuncId × Con) := [(88, c_factHolds)]
abbrev P_factsHold : List (FuncId × PT) := []
def an_factsHold (c : List Int) (l : List GFact) : Nat → St → Option Ann
  | 2, se => some { α := Nat, ok := fun i => i ≤ l.length ∧ (l.take i).all (fh c) = true, mu := fun i => l.length - i, i0 := fun _ => 0, nx := fun a _ => (fun i => i + 1) a, live := [0, 7, 8], sets := fun i => [(9, sv (.int .i64 i))], mids := [], blks := fun i => [], owns := fun i => [], rd := fun r _ => r, base := 100000 }
  | _, _ => none
def VC_factsHold (c : List Int) (l : List GFact) (k : Nat) : Prop := True ∧ True ∧ True ∧ True ∧ ((0 ≤ l.length ∧ (l.take 0).all (fh c) = true) ∧ TT ∧ (RL [.s (.c (.rv .int c)), .s (.c (.d (.arr .fact l))), .s (.c (.d (.val (.int .i64 ((l.length : Nat) : Int)))))]) ∧ (([.s (.c (.d (.val (.int .i64 (0 : Int)))))] : List S) = [.s (.c (.d (.val (.int .i64 ((0 : Nat) : Int)))))]) ∧ (RM []) ∧ (RM []) ∧ True ∧ TT) ∧ (∀ i1 : Nat, (i1 ≤ l.length ∧ (l.take i1).all (fh c) = true) → True ∧ (vcIf (decide (((i1 : Nat) : Int) < ((l.length : Nat) : Int))) ((0 ≤ ((i1 : Nat) : Int) ∧ ((i1 : Nat) : Int) < ((l.length : Nat) : Int)) ∧ True ∧ (TN ∧ True) ∧ (TF ∧ TF) ∧ True ∧ True ∧ ((c.length = 9 ∧ fV (l.getD i1 (⟨false, 0, 0⟩ : GFact)) = true) ∧ True ∧ True) ∧ True ∧ (vcIf (!(fh c (l.getD i1 (⟨false, 0, 0⟩ : GFact)))) (True ∧ (((false, ()) : Bool × Unit) = (l.all (fh c), ())) ∧ True ∧ True ∧ True ∧ True ∧ TF) ((inK .i64 (((i1 : Nat) : Int) + (1 : Int))) ∧ True ∧ ((i1 + 1) ≤ l.length ∧ (l.take (i1 + 1)).all (fh c) = true) ∧ (l.length - (i1 + 1) < l.length - i1) ∧ TT ∧ (RL [.s (.c (.rv .int c)), .s (.c (.d (.arr .fact l))), .s (.c (.d (.val (.int .i64 ((l.length : Nat) : Int)))))]) ∧ (([.s (.c (.d (.val (.int .i64 (((i1 : Nat) : Int) + (1 : Int))))))] : List S) = [.s (.c (.d (.val (.int .i64 (((i1 + 1) : Nat) : Int)))))]) ∧ (RM []) ∧ (RM []) ∧ True ∧ TT))) (True ∧ (((true, ()) : Bool × Unit) = (l.all (fh c), ())) ∧ True ∧ True ∧ True ∧ True ∧ TF)))
theorem vcn_factsHold (c : List Int) (l : List GFact) (k : Nat) (hp : c.length = 9 ∧ l.all fV = true ∧ l.length ≤ 1048576) : VC_factsHold c l k := by
  unfold VC_factsHold
  simp only [cln, Nat.reduceEqDiff, Nat.reduceLeDiff, Nat.reduceAdd]
  have hV := hp.2.1
  all_goals (try simp only [opn])
  all_goals (repeat' (first | apply And.intro | intro _))
  all_goals (repeat (cases ‹_ ∧ _›))
  all_goals (first | omega | rfl | assumption | (simp_all; done) | grind [take_all, all_take, take_full, Ty.zero])
theorem vce_factsHold (c : List Int) (l : List GFact) (k : Nat) : VC_factsHold c l k = vcQ tab (lookF L_factsHold) (lookP P_factsHold) (fun _ => false) (fun _ => none) (an_factsHold c l) (fun _ => []) (bodyOf Try.f130) (entry (encs c_factsHold.aks (c, l, ())) (rdOf false k)) (retOk tab c_factsHold Try.f130.results.toList (c, l, ()) k) := by kernel_rfl
theorem ok_factsHold : FnOk Try.prog E 130 c_factsHold :=
  fn_okQ (l := L_factsHold) (lp := P_factsHold) (hp := fun _ => false) (gcs := fun _ => none) (perm := fun _ => []) tabOk mix ⟨ok_factHolds, trivial⟩ trivial Try.func130 rfl (by kernel_rfl) (by decide) (by kernel_rfl) (anns := fun x _ => an_factsHold x.1 x.2.1) (fun ⟨c, l, _⟩ k hp _ => (vce_factsHold c l k).mp (vcn_factsHold c l k hp)) tot_fn
end Go.Proofs.Ytfoioficiffgkaa

namespace Go.Proofs.Ytfoioficiffgkaa
open Go.SE Go.RowKit
set_option linter.unusedSimpArgs false
set_option linter.unusedVariables false
set_option maxHeartbeats 1000000
set_option maxRecDepth 100000
/-! cmUnused -/
abbrev m_cmUnused : BCon := ⟨[.int], [.int, .bool], fun l u n (q, _) => l.length ≤ 6 ∧ u.length = 6 ∧ n = cnt u, fun l u n (q, _) => u, fun l u n (q, _) => n, fun l u n (q, _) => (uaI l u q, uaB l u q, ())⟩
abbrev pt_cmUnused : PT := ptB m_cmUnused
abbrev L_cmUnused : List (FuncId × Con) := []
abbrev P_cmUnused : List (FuncId × PT) := []
def an_cmUnused (l : List GAtom) (u : List Bool) (n : Int) (q : Int) (v : Value) : Nat → St → Option Ann
  | 2, se => some { α := Nat, ok := fun i => i ≤ l.length ∧ uaN l u q i = true, mu := fun i => l.length - i, i0 := fun _ => 0, nx := fun a _ => (fun i => i + 1) a, live := [0, 1, 11, 12], sets := fun i => [(13, sv (.int .i64 i))], mids := [7], blks := fun i => [], owns := fun i => [], rd := fun r _ => r, base := 100000 }
  | _, _ => none
def hp_cmUnused : Nat → Bool
  | 4 => true
  | _ => false
def VC_cmUnused_1 (l : List GAtom) (u : List Bool) (n : Int) (q : Int) (v : Value) (k : Nat) (i1 : Nat) : Prop := (((True ∧ ((((i1 : Nat) : Int) = ((0 : Nat) : Int)) → True ∧ True ∧ True ∧ True ∧ (vcIf (!(u.getD 0 false)) (True ∧ True ∧ True ∧ (((((i1 : Nat) : Int), true, ()) : Int × Bool × Unit) = (uaI l u q, uaB l u q, ())) ∧ True ∧ True ∧ True ∧ (TF ∧ TF) ∧ ((v : Value) = v) ∧ (sx6 u = u) ∧ ((n : Int) = n)) ((inK .i64 (((i1 : Nat) : Int) + (1 : Int))) ∧ True ∧ ((i1 + 1) ≤ l.length ∧ uaN l u q (i1 + 1) = true) ∧ (l.length - (i1 + 1) < l.length - i1) ∧ TT ∧ (RL [.s (.c (.ptr 7 0)), .s (.c (.d (.val (.int .i64 q)))), .s (.c (.d (.arr .atom l))), .s (.c (.d (.val (.int .i64 ((l.length : Nat) : Int)))))]) ∧ (([.s (.c (.d (.val (.int .i64 (((i1 : Nat) : Int) + (1 : Int))))))] : List S) = [.s (.c (.d (.val (.int .i64 (((i1 + 1) : Nat) : Int)))))]) ∧ (RM [some (.blk [.d (.fix .atom l v), .d (.val (.bool (u.getD 0 false))), .d (.val (.bool (u.getD 1 false))), .d (.val (.bool (u.getD 2 false))), .d (.val (.bool (u.getD 3 false))), .d (.val (.bool (u.getD 4 false))), .d (.val (.bool (u.getD 5 false))), .d (.val (.int .i64 n))])]) ∧ (RM []) ∧ True ∧ TT)))) ∧ ((((i1 : Nat) : Int) = ((1 : Nat) : Int)) → True ∧ True ∧ True ∧ True ∧ (vcIf (!(u.getD 1 false)) (True ∧ True ∧ True ∧ (((((i1 : Nat) : Int), true, ()) : Int × Bool × Unit) = (uaI l u q, uaB l u q, ())) ∧ True ∧ True ∧ True ∧ (TF ∧ TF) ∧ ((v : Value) = v) ∧ (sx6 u = u) ∧ ((n : Int) = n)) ((inK .i64 (((i1 : Nat) : Int) + (1 : Int))) ∧ True ∧ ((i1 + 1) ≤ l.length ∧ uaN l u q (i1 + 1) = true) ∧ (l.length - (i1 + 1) < l.length - i1) ∧ TT ∧ (RL [.s (.c (.ptr 7 0)), .s (.c (.d (.val (.int .i64 q)))), .s (.c (.d (.arr .atom l))), .s (.c (.d (.val (.int .i64 ((l.length : Nat) : Int)))))]) ∧ (([.s (.c (.d (.val (.int .i64 (((i1 : Nat) : Int) + (1 : Int))))))] : List S) = [.s (.c (.d (.val (.int .i64 (((i1 + 1) : Nat) : Int)))))]) ∧ (RM [some (.blk [.d (.fix .atom l v), .d (.val (.bool (u.getD 0 false))), .d (.val (.bool (u.getD 1 false))), .d (.val (.bool (u.getD 2 false))), .d (.val (.bool (u.getD 3 false))), .d (.val (.bool (u.getD 4 false))), .d (.val (.bool (u.getD 5 false))), .d (.val (.int .i64 n))])]) ∧ (RM []) ∧ True ∧ TT)))) ∧ ((((i1 : Nat) : Int) = ((2 : Nat) : Int)) → True ∧ True ∧ True ∧ True ∧ (vcIf (!(u.getD 2 false)) (True ∧ True ∧ True ∧ (((((i1 : Nat) : Int), true, ()) : Int × Bool × Unit) = (uaI l u q, uaB l u q, ())) ∧ True ∧ True ∧ True ∧ (TF ∧ TF) ∧ ((v : Value) = v) ∧ (sx6 u = u) ∧ ((n : Int) = n)) ((inK .i64 (((i1 : Nat) : Int) + (1 : Int))) ∧ True ∧ ((i1 + 1) ≤ l.length ∧ uaN l u q (i1 + 1) = true) ∧ (l.length - (i1 + 1) < l.length - i1) ∧ TT ∧ (RL [.s (.c (.ptr 7 0)), .s (.c (.d (.val (.int .i64 q)))), .s (.c (.d (.arr .atom l))), .s (.c (.d (.val (.int .i64 ((l.length : Nat) : Int)))))]) ∧ (([.s (.c (.d (.val (.int .i64 (((i1 : Nat) : Int) + (1 : Int))))))] : List S) = [.s (.c (.d (.val (.int .i64 (((i1 + 1) : Nat) : Int)))))]) ∧ (RM [some (.blk [.d (.fix .atom l v), .d (.val (.bool (u.getD 0 false))), .d (.val (.bool (u.getD 1 false))), .d (.val (.bool (u.getD 2 false))), .d (.val (.bool (u.getD 3 false))), .d (.val (.bool (u.getD 4 false))), .d (.val (.bool (u.getD 5 false))), .d (.val (.int .i64 n))])]) ∧ (RM []) ∧ True ∧ TT))))
def VC_cmUnused_2 (l : List GAtom) (u : List Bool) (n : Int) (q : Int) (v : Value) (k : Nat) (i1 : Nat) : Prop := (((((VC_cmUnused_1 l u n q v k i1)) ∧ ((((i1 : Nat) : Int) = ((3 : Nat) : Int)) → True ∧ True ∧ True ∧ True ∧ (vcIf (!(u.getD 3 false)) (True ∧ True ∧ True ∧ (((((i1 : Nat) : Int), true, ()) : Int × Bool × Unit) = (uaI l u q, uaB l u q, ())) ∧ True ∧ True ∧ True ∧ (TF ∧ TF) ∧ ((v : Value) = v) ∧ (sx6 u = u) ∧ ((n : Int) = n)) ((inK .i64 (((i1 : Nat) : Int) + (1 : Int))) ∧ True ∧ ((i1 + 1) ≤ l.length ∧ uaN l u q (i1 + 1) = true) ∧ (l.length - (i1 + 1) < l.length - i1) ∧ TT ∧ (RL [.s (.c (.ptr 7 0)), .s (.c (.d (.val (.int .i64 q)))), .s (.c (.d (.arr .atom l))), .s (.c (.d (.val (.int .i64 ((l.length : Nat) : Int)))))]) ∧ (([.s (.c (.d (.val (.int .i64 (((i1 : Nat) : Int) + (1 : Int))))))] : List S) = [.s (.c (.d (.val (.int .i64 (((i1 + 1) : Nat) : Int)))))]) ∧ (RM [some (.blk [.d (.fix .atom l v), .d (.val (.bool (u.getD 0 false))), .d (.val (.bool (u.getD 1 false))), .d (.val (.bool (u.getD 2 false))), .d (.val (.bool (u.getD 3 false))), .d (.val (.bool (u.getD 4 false))), .d (.val (.bool (u.getD 5 false))), .d (.val (.int .i64 n))])]) ∧ (RM []) ∧ True ∧ TT)))) ∧ ((((i1 : Nat) : Int) = ((4 : Nat) : Int)) → True ∧ True ∧ True ∧ True ∧ (vcIf (!(u.getD 4 false)) (True ∧ True ∧ True ∧ (((((i1 : Nat) : Int), true, ()) : Int × Bool × Unit) = (uaI l u q, uaB l u q, ())) ∧ True ∧ True ∧ True ∧ (TF ∧ TF) ∧ ((v : Value) = v) ∧ (sx6 u = u) ∧ ((n : Int) = n)) ((inK .i64 (((i1 : Nat) : Int) + (1 : Int))) ∧ True ∧ ((i1 + 1) ≤ l.length ∧ uaN l u q (i1 + 1) = true) ∧ (l.length - (i1 + 1) < l.length - i1) ∧ TT ∧ (RL [.s (.c (.ptr 7 0)), .s (.c (.d (.val (.int .i64 q)))), .s (.c (.d (.arr .atom l))), .s (.c (.d (.val (.int .i64 ((l.length : Nat) : Int)))))]) ∧ (([.s (.c (.d (.val (.int .i64 (((i1 : Nat) : Int) + (1 : Int))))))] : List S) = [.s (.c (.d (.val (.int .i64 (((i1 + 1) : Nat) : Int)))))]) ∧ (RM [some (.blk [.d (.fix .atom l v), .d (.val (.bool (u.getD 0 false))), .d (.val (.bool (u.getD 1 false))), .d (.val (.bool (u.getD 2 false))), .d (.val (.bool (u.getD 3 false))), .d (.val (.bool (u.getD 4 false))), .d (.val (.bool (u.getD 5 false))), .d (.val (.int .i64 n))])]) ∧ (RM []) ∧ True ∧ TT)))) ∧ ((((i1 : Nat) : Int) = ((5 : Nat) : Int)) → True ∧ True ∧ True ∧ True ∧ (vcIf (!(u.getD 5 false)) (True ∧ True ∧ True ∧ (((((i1 : Nat) : Int), true, ()) : Int × Bool × Unit) = (uaI l u q, uaB l u q, ())) ∧ True ∧ True ∧ True ∧ (TF ∧ TF) ∧ ((v : Value) = v) ∧ (sx6 u = u) ∧ ((n : Int) = n)) ((inK .i64 (((i1 : Nat) : Int) + (1 : Int))) ∧ True ∧ ((i1 + 1) ≤ l.length ∧ uaN l u q (i1 + 1) = true) ∧ (l.length - (i1 + 1) < l.length - i1) ∧ TT ∧ (RL [.s (.c (.ptr 7 0)), .s (.c (.d (.val (.int .i64 q)))), .s (.c (.d (.arr .atom l))), .s (.c (.d (.val (.int .i64 ((l.length : Nat) : Int)))))]) ∧ (([.s (.c (.d (.val (.int .i64 (((i1 : Nat) : Int) + (1 : Int))))))] : List S) = [.s (.c (.d (.val (.int .i64 (((i1 + 1) : Nat) : Int)))))]) ∧ (RM [some (.blk [.d (.fix .atom l v), .d (.val (.bool (u.getD 0 false))), .d (.val (.bool (u.getD 1 false))), .d (.val (.bool (u.getD 2 false))), .d (.val (.bool (u.getD 3 false))), .d (.val (.bool (u.getD 4 false))), .d (.val (.bool (u.getD 5 false))), .d (.val (.int .i64 n))])]) ∧ (RM []) ∧ True ∧ TT))))
def VC_cmUnused (l : List GAtom) (u : List Bool) (n : Int) (q : Int) (v : Value) (k : Nat) : Prop := True ∧ True ∧ True ∧ True ∧ True ∧ True ∧ True ∧ True ∧ ((0 ≤ l.length ∧ uaN l u q 0 = true) ∧ TT ∧ (RL [.s (.c (.ptr 7 0)), .s (.c (.d (.val (.int .i64 q)))), .s (.c (.d (.arr .atom l))), .s (.c (.d (.val (.int .i64 ((l.length : Nat) : Int)))))]) ∧ (([.s (.c (.d (.val (.int .i64 (0 : Int)))))] : List S) = [.s (.c (.d (.val (.int .i64 ((0 : Nat) : Int)))))]) ∧ (RM [some (.blk [.d (.fix .atom l v), .d (.val (.bool (u.getD 0 false))), .d (.val (.bool (u.getD 1 false))), .d (.val (.bool (u.getD 2 false))), .d (.val (.bool (u.getD 3 false))), .d (.val (.bool (u.getD 4 false))), .d (.val (.bool (u.getD 5 false))), .d (.val (.int .i64 n))])]) ∧ (RM []) ∧ True ∧ TT) ∧ (∀ i1 : Nat, (i1 ≤ l.length ∧ uaN l u q i1 = true) → True ∧ (vcIf (decide (((i1 : Nat) : Int) < ((l.length : Nat) : Int))) (True ∧ (0 ≤ ((i1 : Nat) : Int) ∧ ((i1 : Nat) : Int) < ((l.length : Nat) : Int)) ∧ True ∧ (TN ∧ True) ∧ True ∧ (TF ∧ TF) ∧ True ∧ True ∧ True ∧ True ∧ True ∧ (vcIf (((l.getD i1 (⟨0, 0, 0⟩ : GAtom)).a) == q) (True ∧ True ∧ True ∧ True ∧ ((0 ≤ ((i1 : Nat) : Int)) ∧ (((i1 : Nat) : Int) < ((6 : Nat) : Int))) ∧ (VC_cmUnused_2 l u n q v k i1)) (True ∧ (inK .i64 (((i1 : Nat) : Int) + (1 : Int))) ∧ True ∧ ((i1 + 1) ≤ l.length ∧ uaN l u q (i1 + 1) = true) ∧ (l.length - (i1 + 1) < l.length - i1) ∧ TT ∧ (RL [.s (.c (.ptr 7 0)), .s (.c (.d (.val (.int .i64 q)))), .s (.c (.d (.arr .atom l))), .s (.c (.d (.val (.int .i64 ((l.length : Nat) : Int)))))]) ∧ (([.s (.c (.d (.val (.int .i64 (((i1 : Nat) : Int) + (1 : Int))))))] : List S) = [.s (.c (.d (.val (.int .i64 (((i1 + 1) : Nat) : Int)))))]) ∧ (RM [some (.blk [.d (.fix .atom l v), .d (.val (.bool (u.getD 0 false))), .d (.val (.bool (u.getD 1 false))), .d (.val (.bool (u.getD 2 false))), .d (.val (.bool (u.getD 3 false))), .d (.val (.bool (u.getD 4 false))), .d (.val (.bool (u.getD 5 false))), .d (.val (.int .i64 n))])]) ∧ (RM []) ∧ True ∧ TT))) (True ∧ True ∧ ((((0 : Int), false, ()) : Int × Bool × Unit) = (uaI l u q, uaB l u q, ())) ∧ True ∧ True ∧ True ∧ (TF ∧ TF) ∧ ((v : Value) = v) ∧ (sx6 u = u) ∧ ((n : Int) = n))))
theorem vcn_cmUnused (l : List GAtom) (u : List Bool) (n : Int) (q : Int) (v : Value) (k : Nat) (hp : l.length ≤ 6 ∧ u.length = 6 ∧ n = cnt u) : VC_cmUnused l u n q v k := by
  unfold VC_cmUnused VC_cmUnused_2 VC_cmUnused_1
  simp only [cln, Nat.reduceEqDiff, Nat.reduceLeDiff, Nat.reduceAdd]
  obtain ⟨hl, hu, hn⟩ := hp
  have h6 := sx6_eta hu
  all_goals (try simp only [vcIf_iff, decide_eq_true_eq, decide_eq_false_iff_not, bne_iff_ne, ne_eq, beq_iff_eq, beq_eq_false_iff_ne, bne_eq_false_iff_eq, Bool.not_eq_true', Bool.not_eq_false', Int.ofNat_lt])
  all_goals (repeat' (first | apply And.intro | intro _))
  all_goals (repeat (cases ‹_ ∧ _›))
  all_goals (first | omega | rfl | assumption | exact h6 | (simp_all; done) | skip)
  all_goals (first
   | exact (ua_hit (by assumption) (by assumption) (by assumption) (by assumption) (by assumption)).1
   | exact (ua_hit (by assumption) (by assumption) (by assumption) (by assumption) (by assumption)).2
   | exact (ua_miss (by assumption) (by assumption) (by assumption)).1
   | exact (ua_miss (by assumption) (by assumption) (by assumption)).2
   | exact uaN_s1 (by assumption) (by assumption)
   | exact uaN_s2 (by assumption) (by assumption) (by assumption)
   | skip)
theorem vce_cmUnused (l : List GAtom) (u : List Bool) (n : Int) (q : Int) (v : Value) (k : Nat) : VC_cmUnused l u n q v k = vcR tab (lookF L_cmUnused) (lookP P_cmUnused) (hp_cmUnused) (an_cmUnused l u n q v) (fun _ => []) [7] (bodyOf Try.f156) (isoStB m_cmUnused l u n (q, ()) v) (retB tab m_cmUnused Try.f156.results.toList l u n (q, ()) v) := by kernel_rfl
theorem ptok_cmUnused : PTOk Try.prog E 156 pt_cmUnused :=
  blk_ok (c := m_cmUnused) (fn := Try.f156) (l := L_cmUnused) (lp := P_cmUnused) (hp := hp_cmUnused) (perm := fun _ => []) tabOk mix trivial trivial Try.func156 rfl (by kernel_rfl) rfl (show m_cmUnused.k2.length + 1 ≤ Try.f156.ntmps by decide) (by kernel_rfl) (anns := fun l u n y v => an_cmUnused l u n y.1 v) (fun l u n ⟨q, _⟩ v hp => (vce_cmUnused l u n q v 0).mp (vcn_cmUnused l u n q v 0 hp))
end Go.Proofs.Ytfoioficiffgkaa

namespace Go.Proofs.Ytfoioficiffgkaa
open Go.SE Go.RowKit
set_option linter.unusedSimpArgs false
set_option linter.unusedVariables false
set_option maxHeartbeats 1000000
set_option maxRecDepth 100000
/-! cmTake -/
abbrev m_cmTake : BCon := ⟨[.int], [], fun l u n (i, _) => l.length ≤ 6 ∧ u.length = 6 ∧ n = cnt u ∧ 0 ≤ i ∧ i < 6 ∧ u.getD i.toNat false = false, fun l u n (i, _) => u.set i.toNat true, fun l u n (i, _) => n + 1, fun l u n (i, _) => ()⟩
abbrev pt_cmTake : PT := ptB m_cmTake
abbrev L_cmTake : List (FuncId × Con) := []
abbrev P_cmTake : List (FuncId × PT) := []
def hp_cmTake : Nat → Bool
  | 0 => true
  | _ => false
def VC_cmTake (l : List GAtom) (u : List Bool) (n : Int) (i : Int) (v : Value) (k : Nat) : Prop := True ∧ True ∧ True ∧ True ∧ ((0 ≤ i) ∧ (i < ((6 : Nat) : Int))) ∧ (((((True ∧ ((i = ((0 : Nat) : Int)) → True ∧ (TF ∧ TF) ∧ True ∧ True ∧ True ∧ True ∧ (inK .i64 (n + (1 : Int))) ∧ True ∧ True ∧ (TF ∧ TF) ∧ ((() : Unit) = ()) ∧ True ∧ True ∧ True ∧ (TF ∧ TF) ∧ ((v : Value) = v) ∧ (six true (u.getD 1 false) (u.getD 2 false) (u.getD 3 false) (u.getD 4 false) (u.getD 5 false) = u.set i.toNat true) ∧ ((n + (1 : Int) : Int) = n + 1))) ∧ ((i = ((1 : Nat) : Int)) → True ∧ (TF ∧ TF) ∧ True ∧ True ∧ True ∧ True ∧ (inK .i64 (n + (1 : Int))) ∧ True ∧ True ∧ (TF ∧ TF) ∧ ((() : Unit) = ()) ∧ True ∧ True ∧ True ∧ (TF ∧ TF) ∧ ((v : Value) = v) ∧ (six (u.getD 0 false) true (u.getD 2 false) (u.getD 3 false) (u.getD 4 false) (u.getD 5 false) = u.set i.toNat true) ∧ ((n + (1 : Int) : Int) = n + 1))) ∧ ((i = ((2 : Nat) : Int)) → True ∧ (TF ∧ TF) ∧ True ∧ True ∧ True ∧ True ∧ (inK .i64 (n + (1 : Int))) ∧ True ∧ True ∧ (TF ∧ TF) ∧ ((() : Unit) = ()) ∧ True ∧ True ∧ True ∧ (TF ∧ TF) ∧ ((v : Value) = v) ∧ (six (u.getD 0 false) (u.getD 1 false) true (u.getD 3 false) (u.getD 4 false) (u.getD 5 false) = u.set i.toNat true) ∧ ((n + (1 : Int) : Int) = n + 1))) ∧ ((i = ((3 : Nat) : Int)) → True ∧ (TF ∧ TF) ∧ True ∧ True ∧ True ∧ True ∧ (inK .i64 (n + (1 : Int))) ∧ True ∧ True ∧ (TF ∧ TF) ∧ ((() : Unit) = ()) ∧ True ∧ True ∧ True ∧ (TF ∧ TF) ∧ ((v : Value) = v) ∧ (six (u.getD 0 false) (u.getD 1 false) (u.getD 2 false) true (u.getD 4 false) (u.getD 5 false) = u.set i.toNat true) ∧ ((n + (1 : Int) : Int) = n + 1))) ∧ ((i = ((4 : Nat) : Int)) → True ∧ (TF ∧ TF) ∧ True ∧ True ∧ True ∧ True ∧ (inK .i64 (n + (1 : Int))) ∧ True ∧ True ∧ (TF ∧ TF) ∧ ((() : Unit) = ()) ∧ True ∧ True ∧ True ∧ (TF ∧ TF) ∧ ((v : Value) = v) ∧ (six (u.getD 0 false) (u.getD 1 false) (u.getD 2 false) (u.getD 3 false) true (u.getD 5 false) = u.set i.toNat true) ∧ ((n + (1 : Int) : Int) = n + 1))) ∧ ((i = ((5 : Nat) : Int)) → True ∧ (TF ∧ TF) ∧ True ∧ True ∧ True ∧ True ∧ (inK .i64 (n + (1 : Int))) ∧ True ∧ True ∧ (TF ∧ TF) ∧ ((() : Unit) = ()) ∧ True ∧ True ∧ True ∧ (TF ∧ TF) ∧ ((v : Value) = v) ∧ (six (u.getD 0 false) (u.getD 1 false) (u.getD 2 false) (u.getD 3 false) (u.getD 4 false) true = u.set i.toNat true) ∧ ((n + (1 : Int) : Int) = n + 1))
theorem vcn_cmTake (l : List GAtom) (u : List Bool) (n : Int) (i : Int) (v : Value) (k : Nat) (hp : l.length ≤ 6 ∧ u.length = 6 ∧ n = cnt u ∧ 0 ≤ i ∧ i < 6 ∧ u.getD i.toNat false = false) : VC_cmTake l u n i v k := by
  unfold VC_cmTake
  simp only [cln, Nat.reduceEqDiff, Nat.reduceLeDiff, Nat.reduceAdd]
  have hb := cnt_bd u
  obtain ⟨hl, hu, hn, h0, h6, hd⟩ := hp
  obtain ⟨s0, s1, s2, s3, s4, s5⟩ := sx hu
  all_goals (repeat' (first | apply And.intro | intro _))
  all_goals (first
   | omega
   | (subst ‹i = _›; first | exact s0 | exact s1 | exact s2 | exact s3 | exact s4 | exact s5)
   | skip)
theorem vce_cmTake (l : List GAtom) (u : List Bool) (n : Int) (i : Int) (v : Value) (k : Nat) : VC_cmTake l u n i v k = vcR tab (lookF L_cmTake) (lookP P_cmTake) (hp_cmTake) (fun _ _ => none) (fun _ => []) [7] (bodyOf Try.f157) (isoStB m_cmTake l u n (i, ()) v) (retB tab m_cmTake Try.f157.results.toList l u n (i, ()) v) := by kernel_rfl
theorem ptok_cmTake : PTOk Try.prog E 157 pt_cmTake :=
  blk_ok (c := m_cmTake) (fn := Try.f157) (l := L_cmTake) (lp := P_cmTake) (hp := hp_cmTake) (perm := fun _ => []) tabOk mix trivial trivial Try.func157 rfl (by kernel_rfl) rfl (show m_cmTake.k2.length + 1 ≤ Try.f157.ntmps by decide) (by kernel_rfl) (anns := fun l u n y v => fun _ _ => none) (fun l u n ⟨i, _⟩ v hp => (vce_cmTake l u n i v 0).mp (vcn_cmTake l u n i v 0 hp))
end Go.Proofs.Ytfoioficiffgkaa

namespace Go.Proofs.Ytfoioficiffgkaa
open Go.SE Go.RowKit
set_option linter.unusedSimpArgs false
set_option linter.unusedVariables false
set_option maxHeartbeats 1000000
set_option maxRecDepth 100000
/-! cmCell -/
abbrev m_cmCell : BCon := ⟨[.atom], [.sl .int, .bool], fun l u n (x, _) => l.length ≤ 6 ∧ u.length = 6 ∧ n = cnt u, fun l u n (x, _) => ucU l u x, fun l u n (x, _) => cnt (ucU l u x), fun l u n (x, _) => (ucL l u x, ucB l u x, ())⟩
abbrev pt_cmCell : PT := ptB m_cmCell
abbrev L_cmCell : List (FuncId × Con) := []
abbrev P_cmCell : List (FuncId × PT) := [(156, pt_cmUnused), (157, pt_cmTake)]
def hp_cmCell : Nat → Bool
  | 1 => true
  | 4 => true
  | _ => false
def VC_cmCell (l : List GAtom) (u : List Bool) (n : Int) (x : GAtom) (v : Value) (k : Nat) : Prop := TN ∧ TN ∧ True ∧ True ∧ True ∧ True ∧ TF ∧ TF ∧ True ∧ True ∧ (l.length ≤ 6 ∧ (sx6 u).length = 6 ∧ n = cnt (sx6 u)) ∧ True ∧ True ∧ True ∧ True ∧ True ∧ True ∧ True ∧ True ∧ (vcIf (!(uaB l (sx6 u) x.a)) (True ∧ TN ∧ True ∧ (((([] : List Int), false, ()) : (List Int) × Bool × Unit) = (ucL l u x, ucB l u x, ())) ∧ (True ∧ True) ∧ ((TF ∧ TF) ∧ True) ∧ True ∧ (TF ∧ TF) ∧ ((v : Value) = v) ∧ (sx6 u = ucU l u x) ∧ ((n : Int) = cnt (ucU l u x))) (True ∧ True ∧ True ∧ True ∧ True ∧ (0 ≤ (uaI l (sx6 u) x.a) ∧ (uaI l (sx6 u) x.a) < ((l.length : Nat) : Int)) ∧ True ∧ True ∧ True ∧ True ∧ (vcIf (!((((l.getD (uaI l (sx6 u) x.a).toNat (⟨0, 0, 0⟩ : GAtom)).kind) == x.kind) && ((((l.getD (uaI l (sx6 u) x.a).toNat (⟨0, 0, 0⟩ : GAtom)).a) == x.a) && ((((l.getD (uaI l (sx6 u) x.a).toNat (⟨0, 0, 0⟩ : GAtom)).b) == x.b) && true)))) (TN ∧ True ∧ (((([] : List Int), false, ()) : (List Int) × Bool × Unit) = (ucL l u x, ucB l u x, ())) ∧ (True ∧ True) ∧ ((TF ∧ TF) ∧ True) ∧ True ∧ (TF ∧ TF) ∧ ((v : Value) = v) ∧ (sx6 u = ucU l u x) ∧ ((n : Int) = cnt (ucU l u x))) (True ∧ True ∧ TF ∧ TF ∧ True ∧ True ∧ (l.length ≤ 6 ∧ (sx6 u).length = 6 ∧ n = cnt (sx6 u) ∧ 0 ≤ (uaI l (sx6 u) x.a) ∧ (uaI l (sx6 u) x.a) < 6 ∧ (sx6 u).getD (uaI l (sx6 u) x.a).toNat false = false) ∧ True ∧ (TN ∧ True) ∧ True ∧ True ∧ (((([(uaI l (sx6 u) x.a)] : List Int), true, ()) : (List Int) × Bool × Unit) = (ucL l u x, ucB l u x, ())) ∧ (True ∧ True) ∧ ((TF ∧ TF) ∧ True) ∧ True ∧ (TF ∧ TF) ∧ ((v : Value) = v) ∧ (sx6 ((sx6 u).set (uaI l (sx6 u) x.a).toNat true) = ucU l u x) ∧ ((n + 1 : Int) = cnt (ucU l u x))))))
theorem vcn_cmCell (l : List GAtom) (u : List Bool) (n : Int) (x : GAtom) (v : Value) (k : Nat) (hp : l.length ≤ 6 ∧ u.length = 6 ∧ n = cnt u) : VC_cmCell l u n x v k := by
  unfold VC_cmCell
  simp only [cln, Nat.reduceEqDiff, Nat.reduceLeDiff, Nat.reduceAdd]
  obtain ⟨hl, hu, hn⟩ := hp
  subst hn
  have h6 := sx6_eta hu
  simp only [h6, atom_beq]
  all_goals (try simp only [opn])
  all_goals (repeat' (first | apply And.intro | intro _))
  all_goals (repeat (cases ‹_ ∧ _›))
  all_goals (first | omega | rfl | assumption | (simp_all; done) | skip)
  all_goals (first
   | exact (uc_no (uc_no1 (by assumption))).1.symm | exact (uc_no (uc_no1 (by assumption))).2.1.symm | exact (uc_no (uc_no1 (by assumption))).2.2.symm
   | exact (uc_no (uc_no2 (by assumption) (by assumption))).1.symm | exact (uc_no (uc_no2 (by assumption) (by assumption))).2.1.symm | exact (uc_no (uc_no2 (by assumption) (by assumption))).2.2.symm
   | (rw [(uc_no (uc_no1 (by assumption))).2.2]; done) | (rw [(uc_no (uc_no2 (by assumption) (by assumption))).2.2]; done)
   | exact (uc_yes (by assumption) (by assumption)).1.symm | exact (uc_yes (by assumption) (by assumption)).2.1.symm
   | (rw [sx6_eta (by rw [List.length_set]; exact hu)]; exact (uc_yes (by assumption) (by assumption)).2.2.symm)
   | (have h := uaB_bd hl (by assumption); first | omega | exact h.2.2.2)
   | (rw [(uc_yes (by assumption) (by assumption)).2.2, cnt_set (by have h := uaB_bd hl (by assumption); omega) (uaB_bd hl (by assumption)).2.2.2]; done)
   | skip)
theorem vce_cmCell (l : List GAtom) (u : List Bool) (n : Int) (x : GAtom) (v : Value) (k : Nat) : VC_cmCell l u n x v k = vcR tab (lookF L_cmCell) (lookP P_cmCell) (hp_cmCell) (fun _ _ => none) (fun _ => []) [7] (bodyOf Try.f131) (isoStB m_cmCell l u n (x, ()) v) (retB tab m_cmCell Try.f131.results.toList l u n (x, ()) v) := by kernel_rfl
theorem ptok_cmCell : PTOk Try.prog E 131 pt_cmCell :=
  blk_ok (c := m_cmCell) (fn := Try.f131) (l := L_cmCell) (lp := P_cmCell) (hp := hp_cmCell) (perm := fun _ => []) tabOk mix trivial ⟨ptok_cmUnused, ptok_cmTake, trivial⟩ Try.func131 rfl (by kernel_rfl) rfl (show m_cmCell.k2.length + 1 ≤ Try.f131.ntmps by decide) (by kernel_rfl) (anns := fun l u n y v => fun _ _ => none) (fun l u n ⟨x, _⟩ v hp => (vce_cmCell l u n x v 0).mp (vcn_cmCell l u n x v 0 hp))
end Go.Proofs.Ytfoioficiffgkaa

namespace Go.Proofs.Ytfoioficiffgkaa
open Go.SE Go.RowKit
set_option linter.unusedSimpArgs false
set_option linter.unusedVariables false
set_option maxHeartbeats 1000000
set_option maxRecDepth 100000
/-! beginsAt -/
abbrev c_beginsAt : Con := ⟨[.sl .atom, .int], [.bool], fun (l, c, _) => l.length ≤ 1048576, .inl fun (l, c, _) => (bgn l c, ()), fun _ => 0⟩
abbrev L_beginsAt : List (FuncId × Con) := []
abbrev P_beginsAt : List (FuncId × PT) := []
def an_beginsAt (l : List GAtom) (c : Int) : Nat → St → Option Ann
  | 2, se => some { α := Nat, ok := fun i => i ≤ l.length ∧ bgn (l.take i) c = false, mu := fun i => l.length - i, i0 := fun _ => 0, nx := fun a _ => (fun i => i + 1) a, live := [1, 7, 8], sets := fun i => [(9, sv (.int .i64 i))], mids := [], blks := fun i => [], owns := fun i => [], rd := fun r _ => r, base := 100000 }
  | _, _ => none
def VC_beginsAt (l : List GAtom) (c : Int) (k : Nat) : Prop := True ∧ True ∧ True ∧ True ∧ ((0 ≤ l.length ∧ bgn (l.take 0) c = false) ∧ TT ∧ (RL [.s (.c (.d (.val (.int .i64 c)))), .s (.c (.d (.arr .atom l))), .s (.c (.d (.val (.int .i64 ((l.length : Nat) : Int)))))]) ∧ (([.s (.c (.d (.val (.int .i64 (0 : Int)))))] : List S) = [.s (.c (.d (.val (.int .i64 ((0 : Nat) : Int)))))]) ∧ (RM []) ∧ (RM []) ∧ True ∧ TT) ∧ (∀ i1 : Nat, (i1 ≤ l.length ∧ bgn (l.take i1) c = false) → True ∧ (vcIf (decide (((i1 : Nat) : Int) < ((l.length : Nat) : Int))) ((0 ≤ ((i1 : Nat) : Int) ∧ ((i1 : Nat) : Int) < ((l.length : Nat) : Int)) ∧ True ∧ (TN ∧ True) ∧ (TF ∧ TF) ∧ True ∧ True ∧ True ∧ True ∧ (vcIf (((l.getD i1 (⟨0, 0, 0⟩ : GAtom)).a) == c) (True ∧ (((true, ()) : Bool × Unit) = (bgn l c, ())) ∧ True ∧ True ∧ True ∧ True ∧ TF) ((inK .i64 (((i1 : Nat) : Int) + (1 : Int))) ∧ True ∧ ((i1 + 1) ≤ l.length ∧ bgn (l.take (i1 + 1)) c = false) ∧ (l.length - (i1 + 1) < l.length - i1) ∧ TT ∧ (RL [.s (.c (.d (.val (.int .i64 c)))), .s (.c (.d (.arr .atom l))), .s (.c (.d (.val (.int .i64 ((l.length : Nat) : Int)))))]) ∧ (([.s (.c (.d (.val (.int .i64 (((i1 : Nat) : Int) + (1 : Int))))))] : List S) = [.s (.c (.d (.val (.int .i64 (((i1 + 1) : Nat) : Int)))))]) ∧ (RM []) ∧ (RM []) ∧ True ∧ TT))) (True ∧ (((false, ()) : Bool × Unit) = (bgn l c, ())) ∧ True ∧ True ∧ True ∧ True ∧ TF)))
theorem vcn_beginsAt (l : List GAtom) (c : Int) (k : Nat) (hp : l.length ≤ 1048576) : VC_beginsAt l c k := by
  unfold VC_beginsAt
  simp only [cln, Nat.reduceEqDiff, Nat.reduceLeDiff, Nat.reduceAdd]
  all_goals (try simp only [opn])
  all_goals (repeat' (first | apply And.intro | intro _))
  all_goals (repeat (cases ‹_ ∧ _›))
  all_goals (first | omega | rfl | assumption | (simp_all; done) | skip)
  all_goals (first
   | exact (bgn_yes (by assumption) (by assumption)).symm
   | exact bgn_step (by assumption) (by assumption) (by assumption)
   | exact (bgn_end (by assumption) (by assumption)).symm
   | skip)
theorem vce_beginsAt (l : List GAtom) (c : Int) (k : Nat) : VC_beginsAt l c k = vcQ tab (lookF L_beginsAt) (lookP P_beginsAt) (fun _ => false) (fun _ => none) (an_beginsAt l c) (fun _ => []) (bodyOf Try.f158) (entry (encs c_beginsAt.aks (l, c, ())) (rdOf false k)) (retOk tab c_beginsAt Try.f158.results.toList (l, c, ()) k) := by kernel_rfl
theorem ok_beginsAt : FnOk Try.prog E 158 c_beginsAt :=
  fn_okQ (l := L_beginsAt) (lp := P_beginsAt) (hp := fun _ => false) (gcs := fun _ => none) (perm := fun _ => []) tabOk mix trivial trivial Try.func158 rfl (by kernel_rfl) (by decide) (by kernel_rfl) (anns := fun x _ => an_beginsAt x.1 x.2.1) (fun ⟨l, c, _⟩ k hp _ => (vce_beginsAt l c k).mp (vcn_beginsAt l c k hp)) tot_fn
end Go.Proofs.Ytfoioficiffgkaa
