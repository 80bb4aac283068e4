/-
  Contracts of single functions of the program, each shown by the engine: what a call returns for arguments within the contract's bounds.
-/
import Derived.Test.YtejcmcbpfnmlaaaFFnAllocateda
import Derived.Test.YtejcmcbpfnmlaaaFFnAllocatedg
import Derived.Test.YtejcmcbpfnmlaaaFFnAllocatedh
import Derived.Test.YtejcmcbpfnmlaaaEe
import Derived.Test.YtejcmcbpfnmlaaaEf
import Derived.Test.YtejcmcbpfnmlaaaEg
import Derived.Test.YtejcmcbpfnmlaaaFFnAllocatedd
import Derived.Test.YtejcmcbpfnmlaaaFFnAllocatede
set_option linter.unusedSimpArgs false
set_option linter.unusedVariables false
set_option linter.unusedSectionVars false

namespace Go.Proofs.Ytejcmcbpfnmlaaa
open Go.SE Go.RowKit
set_option linter.unusedSimpArgs false
set_option linter.unusedVariables false
set_option maxHeartbeats 1000000
set_option maxRecDepth 100000
/-! sAllocated -/
abbrev c_sAllocated : Con := ⟨[.asn, .int], [.bool], fun (a, t, _) => a.facts.length ≤ 281474976710656 ∧ a.atoms.length ≤ 281474976710656, .inl fun (a, t, _) => (ALC a t, ()), fun _ => 0⟩
abbrev L_sAllocated : List (FuncId × Con) := [(73, c_sAssertionValid), (74, c_l5All), (75, c_l3Terms), (104, c_l1Is), (105, c_l5Begins), (106, c_l5Filled)]
abbrev P_sAllocated : List (FuncId × PT) := []
def an_sAllocated (a : GAsn) (t : Int) : Nat → St → Option Ann
  | 7, se => some { α := Nat, ok := fun i => i ≤ List.length (casesB a (hz a (qT t))) ∧ (List.take i (casesB a (hz a (qT t)))).all (fun c => bgn (fL c a.atoms) (c.getD t.toNat 0)) = true, mu := fun i => List.length (casesB a (hz a (qT t))) - i, i0 := fun _ => 0, nx := fun a _ => (fun i => i + 1) a, live := [1, 2, 6], sets := fun i => [(7, sv (.int .i64 i))], mids := [47, 368], blks := fun i => [], owns := fun i => [], rd := fun r _ => r, base := 100000 }
  | _, _ => none
def VC_sAllocated_1 (a : GAsn) (t : Int) (k : Nat) : Prop := (((asV a = true ∨ vA a = true) ∧ True ∧ TN ∧ True) ∧ True ∧ True ∧ True ∧ (0 ≤ t ∧ t < (((fl9 (occ a)).length : Nat) : Int)) ∧ (TF ∧ TF ∧ True ∧ ((272 : Nat) ∉ ([] : List Nat))) ∧ True ∧ True ∧ ((vA a = true ∧ ((fl9 (occ a)).set t.toNat true).length = 9) ∧ (TF ∧ True) ∧ True ∧ TN ∧ True) ∧ True ∧ True ∧ ((0 ≤ List.length (casesB a (hz a (qT t))) ∧ (List.take 0 (casesB a (hz a (qT t)))).all (fun c => bgn (fL c a.atoms) (c.getD t.toNat 0)) = true) ∧ TT ∧ (RL [.s (.c (.d (.val (.int .i64 t)))), .s (.c (.ptr 47 0)), .s (.c (.own 368))]) ∧ (([.s (.c (.d (.val (.int .i64 (0 : Int)))))] : List S) = [.s (.c (.d (.val (.int .i64 ((0 : Nat) : Int)))))]) ∧ (RM [some (.blk [.d (.arr .fact a.facts), .d (.arr .atom a.atoms)]), some (.sl 368 .ints (sQ (sFin a) a ((fl9 (occ a)).set t.toNat true) opens 1))]) ∧ (RM []) ∧ True ∧ TT) ∧ (∀ i1 : Nat, (i1 ≤ List.length (casesB a (hz a (qT t))) ∧ (List.take i1 (casesB a (hz a (qT t)))).all (fun c => bgn (fL c a.atoms) (c.getD t.toNat 0)) = true) → True ∧ True ∧ True ∧ True ∧ (vcIf (decide (((i1 : Nat) : Int) < (((sQ (sFin a) a ((fl9 (occ a)).set t.toNat true) opens 1).length : Nat) : Int))) (True ∧ True ∧ True ∧ True ∧ (0 ≤ ((i1 : Nat) : Int) ∧ ((i1 : Nat) : Int) < (((sQ (sFin a) a ((fl9 (occ a)).set t.toNat true) opens 1).length : Nat) : Int)) ∧ True ∧ ((a.atoms.length ≤ 1048576 ∧ a.atoms.all atV = true ∧ ((sQ (sFin a) a ((fl9 (occ a)).set t.toNat true) opens 1).getD i1 ([] : List Int)).length = 9) ∧ True ∧ TN ∧ True) ∧ True ∧ True ∧ (0 ≤ ((i1 : Nat) : Int) ∧ ((i1 : Nat) : Int) < (((sQ (sFin a) a ((fl9 (occ a)).set t.toNat true) opens 1).length : Nat) : Int)) ∧ True ∧ True ∧ (0 ≤ t ∧ t < ((((sQ (sFin a) a ((fl9 (occ a)).set t.toNat true) opens 1).getD i1 ([] : List Int)).length : Nat) : Int)) ∧ True ∧ (((fL ((sQ (sFin a) a ((fl9 (occ a)).set t.toNat true) opens 1).getD i1 ([] : List Int)) a.atoms).length ≤ 1048576) ∧ True ∧ True) ∧ True ∧ (vcIf (!(bgn (fL ((sQ (sFin a) a ((fl9 (occ a)).set t.toNat true) opens 1).getD i1 ([] : List Int)) a.atoms) (((sQ (sFin a) a ((fl9 (occ a)).set t.toNat true) opens 1).getD i1 ([] : List Int)).getD t.toNat (0 : Int)))) (True ∧ (((false, ()) : Bool × Unit) = (ALC a t, ())) ∧ True ∧ True ∧ True ∧ True ∧ TF) (True ∧ (inK .i64 (((i1 : Nat) : Int) + (1 : Int))) ∧ True ∧ ((i1 + 1) ≤ List.length (casesB a (hz a (qT t))) ∧ (List.take (i1 + 1) (casesB a (hz a (qT t)))).all (fun c => bgn (fL c a.atoms) (c.getD t.toNat 0)) = true) ∧ (List.length (casesB a (hz a (qT t))) - (i1 + 1) < List.length (casesB a (hz a (qT t))) - i1) ∧ TT ∧ (RL [.s (.c (.d (.val (.int .i64 t)))), .s (.c (.ptr 47 0)), .s (.c (.own 368))]) ∧ (([.s (.c (.d (.val (.int .i64 (((i1 : Nat) : Int) + (1 : Int))))))] : List S) = [.s (.c (.d (.val (.int .i64 (((i1 + 1) : Nat) : Int)))))]) ∧ (RM [some (.blk [.d (.arr .fact a.facts), .d (.arr .atom a.atoms)]), some (.sl 368 .ints (sQ (sFin a) a ((fl9 (occ a)).set t.toNat true) opens 1))]) ∧ (RM []) ∧ True ∧ TT))) (True ∧ (((true, ()) : Bool × Unit) = (ALC a t, ())) ∧ True ∧ True ∧ True ∧ True ∧ TF))))
def VC_sAllocated (a : GAsn) (t : Int) (k : Nat) : Prop := TN ∧ True ∧ True ∧ ((a.facts.length ≤ 281474976710656 ∧ a.atoms.length ≤ 281474976710656) ∧ True ∧ True) ∧ True ∧ True ∧ (vcIf (!(asV a)) (True ∧ True ∧ (((false, ()) : Bool × Unit) = (ALC a t, ())) ∧ True ∧ True ∧ True ∧ True ∧ TF) (True ∧ (True ∧ True ∧ True) ∧ True ∧ True ∧ (vcIf (!(isT t)) (True ∧ (((false, ()) : Bool × Unit) = (ALC a t, ())) ∧ True ∧ True ∧ True ∧ True ∧ TF) (True ∧ (VC_sAllocated_1 a t k)))))
theorem vcn_sAllocated (a : GAsn) (t : Int) (k : Nat) (hp : a.facts.length ≤ 281474976710656 ∧ a.atoms.length ≤ 281474976710656) : VC_sAllocated a t k := by
  unfold VC_sAllocated VC_sAllocated_1
  simp only [cln, Nat.reduceEqDiff, Nat.reduceLeDiff, Nat.reduceAdd]
  all_goals (try simp only [opn])
  all_goals (repeat' (first | apply And.intro | intro _))
  all_goals (repeat (cases ‹_ ∧ _›))
  all_goals (first | omega | rfl | assumption | (simp_all; done) | skip)
  all_goals (first | (exact (alc_bad1 (by assumption)).symm) | (exact (alc_bad2 (by assumption)).symm) | skip)
  all_goals (have ha := ‹asV a = true›; have ht := ‹isT t = true›; have hs := asV_facts ha; have h1 := isT_iff.1 ht; have hl := fl9_len (occ a); have hm := alc_max ha ht; try rw [sAlc ha ht] at *)
  all_goals (first
   | omega
   | exact vA_of ha
   | exact hs.2.2.1
   | (rw [List.length_set]; exact hl)
   | exact alc_len ha ht (by assumption)
   | (have h9 := alc_len ha ht (i := _) (by assumption); omega)
   | (rw [alc_len ha ht (by assumption)]; omega)
   | exact Nat.le_trans (fL_len _ _) (by omega)
   | exact (alc_no ha ht (alc_get (by assumption)) (by assumption)).symm
   | exact alc_step (by assumption) (by assumption) (by assumption)
   | exact (alc_all ha ht (alc_end (by assumption) (by assumption))).symm
   | skip)
theorem vce_sAllocated (a : GAsn) (t : Int) (k : Nat) : VC_sAllocated a t k = vcQ tab (lookF L_sAllocated) (lookP P_sAllocated) (fun _ => false) (fun _ => none) (an_sAllocated a t) (fun _ => []) (bodyOf Try.f46) (entry (encs c_sAllocated.aks (a, t, ())) (rdOf false k)) (retOk tab c_sAllocated Try.f46.results.toList (a, t, ()) k) := by kernel_rfl
theorem ok_sAllocated : FnOk Try.prog E 46 c_sAllocated :=
  fn_okQ (l := L_sAllocated) (lp := P_sAllocated) (hp := fun _ => false) (gcs := fun _ => none) (perm := fun _ => []) tabOk mix ⟨ok_sAssertionValid, ok_l5All, ok_l3Terms, ok_l1Is, ok_l5Begins, ok_l5Filled, trivial⟩ trivial Try.func46 rfl (by kernel_rfl) (by decide) (by kernel_rfl) (anns := fun x _ => an_sAllocated x.1 x.2.1) (fun ⟨a, t, _⟩ k hp _ => (vce_sAllocated a t k).mp (vcn_sAllocated a t k hp)) tot_fn
end Go.Proofs.Ytejcmcbpfnmlaaa

namespace Go.Proofs.Ytejcmcbpfnmlaaa
open Go.SE Go.RowKit
set_option linter.unusedSimpArgs false
set_option linter.unusedVariables false
set_option maxHeartbeats 1000000
set_option maxRecDepth 100000
/-! iReadCell -/
abbrev c_iReadCell : Con := ⟨[.state, .int], [.int, .bool], fun (s, n, _) => s.vals.length ≤ 281474976710656 ∧ s.heap.length ≤ 281474976710656, .inl fun (s, n, _) => (cond (stV s && al s n) (ct s n) 0, stV s && al s n, ()), fun _ => 0⟩
abbrev L_iReadCell : List (FuncId × Con) := [(35, c_iStateValid), (107, c_allocated), (108, c_content)]
abbrev P_iReadCell : List (FuncId × PT) := []
def VC_iReadCell (s : GState) (n : Int) (k : Nat) : Prop := TN ∧ True ∧ True ∧ True ∧ ((s.vals.length ≤ 281474976710656 ∧ s.heap.length ≤ 281474976710656) ∧ True ∧ True) ∧ True ∧ True ∧ (vcIf (!(stV s)) (True ∧ True ∧ True ∧ ((((0 : Int), false, ()) : Int × Bool × Unit) = (cond (stV s && al s n) (ct s n) 0, stV s && al s n, ())) ∧ True ∧ True ∧ True ∧ True ∧ TF) (True ∧ True ∧ ((stV s = true) ∧ True ∧ True) ∧ True ∧ True ∧ (vcIf (!(al s n)) (True ∧ True ∧ ((((0 : Int), false, ()) : Int × Bool × Unit) = (cond (stV s && al s n) (ct s n) 0, stV s && al s n, ())) ∧ True ∧ True ∧ True ∧ True ∧ TF) (True ∧ True ∧ ((stV s = true) ∧ True ∧ True) ∧ True ∧ True ∧ ((((ct s n), true, ()) : Int × Bool × Unit) = (cond (stV s && al s n) (ct s n) 0, stV s && al s n, ())) ∧ True ∧ True ∧ True ∧ True ∧ TF))))
theorem vcn_iReadCell (s : GState) (n : Int) (k : Nat) (hp : s.vals.length ≤ 281474976710656 ∧ s.heap.length ≤ 281474976710656) : VC_iReadCell s n k := by
  unfold VC_iReadCell
  simp only [cln, Nat.reduceEqDiff, Nat.reduceLeDiff, Nat.reduceAdd]
  all_goals (try simp only [opn])
  all_goals (repeat' (first | apply And.intro | intro _))
  all_goals (repeat (cases ‹_ ∧ _›))
  all_goals (first | omega | assumption | exact (stV_all (by assumption)).1 | (simp_all; done) | skip)
theorem vce_iReadCell (s : GState) (n : Int) (k : Nat) : VC_iReadCell s n k = vcQ tab (lookF L_iReadCell) (lookP P_iReadCell) (fun _ => false) (fun _ => none) (fun _ _ => none) (fun _ => []) (bodyOf Try.f47) (entry (encs c_iReadCell.aks (s, n, ())) (rdOf false k)) (retOk tab c_iReadCell Try.f47.results.toList (s, n, ()) k) := by kernel_rfl
theorem ok_iReadCell : FnOk Try.prog E 47 c_iReadCell :=
  fn_okQ (l := L_iReadCell) (lp := P_iReadCell) (hp := fun _ => false) (gcs := fun _ => none) (perm := fun _ => []) tabOk mix ⟨ok_iStateValid, ok_allocated, ok_content, trivial⟩ trivial Try.func47 rfl (by kernel_rfl) (by decide) (by kernel_rfl) (anns := fun x _ => fun _ _ => none) (fun ⟨s, n, _⟩ k hp _ => (vce_iReadCell s n k).mp (vcn_iReadCell s n k hp)) tot_fn
end Go.Proofs.Ytejcmcbpfnmlaaa

namespace Go.Proofs.Ytejcmcbpfnmlaaa
open Go.SE Go.RowKit
set_option linter.unusedSimpArgs false
set_option linter.unusedVariables false
set_option maxHeartbeats 1000000
set_option maxRecDepth 100000
/-! FnAllocated -/
abbrev c_FnAllocated : Con := ⟨[.sl .u8, .sl .u8], [.bool], fun (code, more, _) => code.length ≤ 281474976710656 ∧ more.length ≤ 281474976710656, .inl fun (code, more, _) => (true, ()), fun _ => 0⟩
abbrev L_FnAllocated : List (FuncId × Con) := [(31, c_DrawHolds), (33, c_iHolds), (37, c_iValueOf), (44, c_DrawAllocated), (45, c_iAllocated), (46, c_sAllocated), (47, c_iReadCell)]
abbrev P_FnAllocated : List (FuncId × PT) := []
def VC_FnAllocated_1 (code : List UInt8) (more : List UInt8) (k : Nat) (r1 : GAsn × Int × Unit) (r2 : GState × GAsn × Unit) : Prop := (True ∧ (vcIf (ALC r1.1 r1.2.1) (True ∧ True ∧ ((r2.1.vals.length ≤ 281474976710656 ∧ r2.1.heap.length ≤ 281474976710656 ∧ r1.1.facts.length ≤ 281474976710656 ∧ r1.1.atoms.length ≤ 281474976710656) ∧ True ∧ True) ∧ True ∧ True ∧ (vcIf (HOL r2.1 r1.1) (True ∧ True ∧ True ∧ (vcIf (!(stV r2.1 && isT r1.2.1)) (True ∧ True ∧ True ∧ (((false, ()) : Bool × Unit) = (true, ())) ∧ True ∧ True ∧ True ∧ True ∧ TF) (True ∧ True ∧ True ∧ True ∧ (vcIf (!(stV r2.1 && al r2.1 (cond (stV r2.1 && isT r1.2.1) (tv r2.1.vals r1.2.1) 0))) (True ∧ (((false, ()) : Bool × Unit) = (true, ())) ∧ True ∧ True ∧ True ∧ True ∧ TF) (True ∧ True ∧ ((r2.2.1.facts.length ≤ 281474976710656 ∧ r2.2.1.atoms.length ≤ 281474976710656) ∧ True ∧ True) ∧ True ∧ True ∧ (vcIf (!(ALC r2.2.1 r1.2.1)) (True ∧ True ∧ True ∧ True ∧ (((true, ()) : Bool × Unit) = (true, ())) ∧ True ∧ True ∧ True ∧ True ∧ TF) (True ∧ True ∧ ((r2.1.vals.length ≤ 281474976710656 ∧ r2.1.heap.length ≤ 281474976710656 ∧ r2.2.1.facts.length ≤ 281474976710656 ∧ r2.2.1.atoms.length ≤ 281474976710656) ∧ True ∧ True) ∧ True ∧ True ∧ True ∧ (vcIf (!(HOL r2.1 r2.2.1)) (True ∧ True ∧ (((true, ()) : Bool × Unit) = (true, ())) ∧ True ∧ True ∧ True ∧ True ∧ TF) (True ∧ True ∧ (vcIf (stV r2.1 && isT r1.2.1) (True ∧ True ∧ True ∧ True ∧ ((((stV r2.1 && al r2.1 (cond (stV r2.1 && isT r1.2.1) (tv r2.1.vals r1.2.1) 0)), ()) : Bool × Unit) = (true, ())) ∧ True ∧ True ∧ True ∧ True ∧ TF) (True ∧ True ∧ True ∧ (((false, ()) : Bool × Unit) = (true, ())) ∧ True ∧ True ∧ True ∧ True ∧ TF))))))))))) (True ∧ True ∧ True ∧ ((r2.2.1.facts.length ≤ 281474976710656 ∧ r2.2.1.atoms.length ≤ 281474976710656) ∧ True ∧ True) ∧ True ∧ True ∧ (vcIf (!(ALC r2.2.1 r1.2.1)) (True ∧ True ∧ True ∧ True ∧ (((true, ()) : Bool × Unit) = (true, ())) ∧ True ∧ True ∧ True ∧ True ∧ TF) (True ∧ True ∧ ((r2.1.vals.length ≤ 281474976710656 ∧ r2.1.heap.length ≤ 281474976710656 ∧ r2.2.1.facts.length ≤ 281474976710656 ∧ r2.2.1.atoms.length ≤ 281474976710656) ∧ True ∧ True) ∧ True ∧ True ∧ True ∧ (vcIf (!(HOL r2.1 r2.2.1)) (True ∧ True ∧ (((true, ()) : Bool × Unit) = (true, ())) ∧ True ∧ True ∧ True ∧ True ∧ TF) (True ∧ True ∧ (vcIf (stV r2.1 && isT r1.2.1) (True ∧ True ∧ True ∧ True ∧ ((((stV r2.1 && al r2.1 (cond (stV r2.1 && isT r1.2.1) (tv r2.1.vals r1.2.1) 0)), ()) : Bool × Unit) = (true, ())) ∧ True ∧ True ∧ True ∧ True ∧ TF) (True ∧ True ∧ True ∧ (((false, ()) : Bool × Unit) = (true, ())) ∧ True ∧ True ∧ True ∧ True ∧ TF))))))))) (True ∧ True ∧ True ∧ True ∧ True ∧ ((r2.2.1.facts.length ≤ 281474976710656 ∧ r2.2.1.atoms.length ≤ 281474976710656) ∧ True ∧ True) ∧ True ∧ True ∧ (vcIf (!(ALC r2.2.1 r1.2.1)) (True ∧ True ∧ True ∧ True ∧ (((true, ()) : Bool × Unit) = (true, ())) ∧ True ∧ True ∧ True ∧ True ∧ TF) (True ∧ True ∧ ((r2.1.vals.length ≤ 281474976710656 ∧ r2.1.heap.length ≤ 281474976710656 ∧ r2.2.1.facts.length ≤ 281474976710656 ∧ r2.2.1.atoms.length ≤ 281474976710656) ∧ True ∧ True) ∧ True ∧ True ∧ True ∧ (vcIf (!(HOL r2.1 r2.2.1)) (True ∧ True ∧ (((true, ()) : Bool × Unit) = (true, ())) ∧ True ∧ True ∧ True ∧ True ∧ TF) (True ∧ True ∧ (vcIf (stV r2.1 && isT r1.2.1) (True ∧ True ∧ True ∧ True ∧ ((((stV r2.1 && al r2.1 (cond (stV r2.1 && isT r1.2.1) (tv r2.1.vals r1.2.1) 0)), ()) : Bool × Unit) = (true, ())) ∧ True ∧ True ∧ True ∧ True ∧ TF) (True ∧ True ∧ True ∧ (((false, ()) : Bool × Unit) = (true, ())) ∧ True ∧ True ∧ True ∧ True ∧ TF)))))))))
def VC_FnAllocated (code : List UInt8) (more : List UInt8) (k : Nat) : Prop := True ∧ True ∧ True ∧ True ∧ True ∧ (vcIf (decide ((1048576 : Int) < ((code.length : Nat) : Int))) (True ∧ True ∧ (((true, ()) : Bool × Unit) = (true, ())) ∧ True ∧ True ∧ True ∧ True ∧ TF) (True ∧ True ∧ True ∧ True ∧ (vcIf (decide ((1048576 : Int) < ((more.length : Nat) : Int))) (True ∧ (((true, ()) : Bool × Unit) = (true, ())) ∧ True ∧ True ∧ True ∧ True ∧ TF) (True ∧ (True ∧ True ∧ TN ∧ TN ∧ True) ∧ (∀ r1 : GAsn × Int × Unit, (r1.1.facts.length ≤ 40 ∧ r1.1.atoms.length ≤ 40) → True ∧ True ∧ True ∧ (TN ∧ TN ∧ TN ∧ True) ∧ (TF ∧ TF) ∧ True ∧ True ∧ (True ∧ True ∧ TN ∧ TN ∧ TN ∧ TN ∧ True) ∧ (∀ r2 : GState × GAsn × Unit, (r2.1.vals.length ≤ 8 ∧ r2.1.heap.length ≤ 9 ∧ r2.2.1.facts.length ≤ 40 ∧ r2.2.1.atoms.length ≤ 40) → True ∧ True ∧ True ∧ (TN ∧ TN ∧ TN ∧ True) ∧ (TN ∧ TN ∧ TN ∧ True) ∧ (TF ∧ TF) ∧ (TF ∧ TF) ∧ True ∧ True ∧ ((r1.1.facts.length ≤ 281474976710656 ∧ r1.1.atoms.length ≤ 281474976710656) ∧ True ∧ True) ∧ True ∧ True ∧ True ∧ True ∧ ((r1.1.facts.length ≤ 281474976710656 ∧ r1.1.atoms.length ≤ 281474976710656) ∧ True ∧ True) ∧ True ∧ (vcIf ((ALC r1.1 r1.2.1) != (ALC r1.1 r1.2.1)) (True ∧ (((false, ()) : Bool × Unit) = (true, ())) ∧ True ∧ True ∧ True ∧ True ∧ TF) (True ∧ True ∧ ((r2.1.vals.length ≤ 281474976710656 ∧ r2.1.heap.length ≤ 281474976710656) ∧ True ∧ True) ∧ True ∧ True ∧ True ∧ True ∧ True ∧ True ∧ True ∧ ((r2.1.vals.length ≤ 281474976710656 ∧ r2.1.heap.length ≤ 281474976710656) ∧ True ∧ True) ∧ True ∧ True ∧ True ∧ True ∧ True ∧ True ∧ (VC_FnAllocated_1 code more k r1 r2)))))))))
theorem vcn_FnAllocated (code : List UInt8) (more : List UInt8) (k : Nat) (hp : code.length ≤ 281474976710656 ∧ more.length ≤ 281474976710656) : VC_FnAllocated code more k := by
  unfold VC_FnAllocated VC_FnAllocated_1
  simp only [cln, Nat.reduceEqDiff, Nat.reduceLeDiff, Nat.reduceAdd, bne_self_eq_false, beq_self_eq_true, decide_true, eq_self, Bool.not_true, Bool.not_false, vcIf_true, vcIf_false, Bool.false_and, Bool.true_and, Bool.or_false, Bool.or_true]
  all_goals (try simp only [opn])
  all_goals (repeat' (first | apply And.intro | intro _))
  all_goals (repeat (cases ‹_ ∧ _›))
  all_goals (first | omega | with_reducible assumption | (simp_all; done) | skip)
  all_goals (first
   | exact Nat.le_trans (starL_lenF _ _) (by simp only [List.length_cons, List.length_nil]; omega) | exact Nat.le_trans (starL_lenA _ _) (by simp only [List.length_cons, List.length_nil]; omega)
   | exact Nat.le_trans (subL_lenF _ _ _) (by omega) | exact Nat.le_trans (subL_lenA _ _ _) (by omega)
   | with_reducible exact hol_star1 (by assumption) (by assumption) (by assumption) | with_reducible exact hol_star0 (by assumption) (by assumption) | with_reducible exact hol_starI (by assumption) (by assumption)
   | with_reducible exact (imp_fh2 (by assumption) (by assumption) (by assumption)).elim | with_reducible exact imp_fh (by assumption) (by assumption)
   | with_reducible exact cons_neg (by assumption)
   | with_reducible exact hol_subV (by assumption) (by assumption) (by assumption) (by assumption)
   | with_reducible exact (alc_q1 (by assumption) (by assumption) (by assumption)).elim | with_reducible exact (alc_q3 (by assumption) (by assumption) (by assumption)).elim | with_reducible exact alc_q2 (by assumption) (by assumption)
   | skip)
theorem vce_FnAllocated (code : List UInt8) (more : List UInt8) (k : Nat) : VC_FnAllocated code more k = vcQ tab (lookF L_FnAllocated) (lookP P_FnAllocated) (fun _ => false) (fun _ => none) (fun _ _ => none) (fun _ => []) (bodyOf Try.f11) (entry (encs c_FnAllocated.aks (code, more, ())) (rdOf false k)) (retOk tab c_FnAllocated Try.f11.results.toList (code, more, ()) k) := by kernel_rfl
theorem ok_FnAllocated : FnOk Try.prog E 11 c_FnAllocated :=
  fn_okQ (l := L_FnAllocated) (lp := P_FnAllocated) (hp := fun _ => false) (gcs := fun _ => none) (perm := fun _ => []) tabOk mix ⟨ok_DrawHolds, ok_iHolds, ok_iValueOf, ok_DrawAllocated, ok_iAllocated, ok_sAllocated, ok_iReadCell, trivial⟩ trivial Try.func11 rfl (by kernel_rfl) (by decide) (by kernel_rfl) (anns := fun x _ => fun _ _ => none) (fun ⟨code, more, _⟩ k hp _ => (vce_FnAllocated code more k).mp (vcn_FnAllocated code more k hp)) tot_fn
end Go.Proofs.Ytejcmcbpfnmlaaa
