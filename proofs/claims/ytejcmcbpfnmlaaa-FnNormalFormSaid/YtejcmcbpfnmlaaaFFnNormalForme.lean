/-
  Contracts of single functions of the program, each shown by the engine: what a call returns for arguments within the contract's bounds.
-/
import Derived.Test.YtejcmcbpfnmlaaaFFnNormalForma
import Derived.Test.YtejcmcbpfnmlaaaFFnNormalFormc
import Derived.Test.YtejcmcbpfnmlaaaFFnNormalFormb
import Derived.Test.YtejcmcbpfnmlaaaFFnNormalFormd
import Derived.Test.YtejcmcbpfnmlaaaEe
import Derived.Test.YtejcmcbpfnmlaaaEf
import Derived.Test.YtejcmcbpfnmlaaaEg
set_option linter.unusedSimpArgs false
set_option linter.unusedVariables false
set_option linter.unusedSectionVars false

namespace Go.Proofs.Ytejcmcbpfnmlaaa
open Go.SE Go.RowKit
set_option linter.unusedSimpArgs false
set_option linter.unusedVariables false
set_option maxHeartbeats 1000000
set_option maxRecDepth 100000
/-! l4Args -/
abbrev c_l4Args : Con := ⟨[.rdr], [.state, .asn], fun _ => True, .inr fun (rr, _) r => r.1.vals.length ≤ 8 ∧ r.1.heap.length ≤ 9 ∧ r.2.1.facts.length ≤ 40 ∧ r.2.1.atoms.length ≤ 40, fun (rr, _) => 78⟩
abbrev L_l4Args : List (FuncId × Con) := [(80, c_l3Mutate), (81, c_l3Draw), (82, c_pick), (87, c_l2Mutate), (88, c_l2Draw), (133, c_l4Build)]
abbrev P_l4Args : List (FuncId × PT) := []
def VC_l4Args (rr : Unit) (k : Nat) : Prop := (TN ∧ TN ∧ TN ∧ True) ∧ (TN ∧ TN ∧ TN ∧ True) ∧ True ∧ (True ∧ (k + 20 ≤ 1099511627776) ∧ TN ∧ TN ∧ True) ∧ (∀ r1 : GAsn × Unit, (asV r1.1 = true) → (TN ∧ TN ∧ TN ∧ True) ∧ (TF ∧ TF) ∧ True ∧ True ∧ ((asV r1.1 = true) ∧ (k + 20 + 25 ≤ 1099511627776) ∧ TN ∧ TN ∧ True) ∧ (∀ r2 : GState × Unit, (r2.1.vals.length = 8 ∧ r2.1.heap.length = 8) → (TN ∧ TN ∧ TN ∧ True) ∧ (TF ∧ TF) ∧ True ∧ (True ∧ (k + 20 + 25 + 1 ≤ 1099511627776) ∧ True) ∧ (∀ r3 : Int × Unit, (pickP (8 : Int) r3.1) → True ∧ (vcIf (r3.1 == (0 : Int)) (True ∧ (True ∧ (k + 20 + 25 + 1 + 25 ≤ 1099511627776) ∧ TN ∧ TN ∧ True) ∧ (∀ r4 : GState × Unit, (r4.1.vals.length = 8 ∧ r4.1.heap.length = 8) → (TF ∧ TF) ∧ True ∧ True ∧ ((r4.1.vals.length ≤ 1048576 ∧ r4.1.heap.length ≤ 1048576) ∧ (k + 20 + 25 + 1 + 25 + 2 ≤ 1099511627776) ∧ TN ∧ TN ∧ True) ∧ (∀ r5 : GState × Unit, (r5.1.vals.length ≤ r4.1.vals.length ∧ r5.1.heap.length ≤ r4.1.heap.length + 1) → True ∧ True ∧ ((r1.1.facts.length ≤ 100000 ∧ r1.1.atoms.length ≤ 100000) ∧ (k + 20 + 25 + 1 + 25 + 2 + 4 ≤ 1099511627776) ∧ TN ∧ TN ∧ True) ∧ (∀ r6 : GAsn × Unit, (r6.1.facts.length ≤ r1.1.facts.length + 14 ∧ r6.1.atoms.length ≤ r1.1.atoms.length + 7) → (TF ∧ TF) ∧ (TF ∧ TF) ∧ (r5.1.vals.length ≤ 8 ∧ r5.1.heap.length ≤ 9 ∧ r6.1.facts.length ≤ 40 ∧ r6.1.atoms.length ≤ 40) ∧ ((((288 : Nat) ≠ 289) ∧ ((288 : Nat) ≠ 336) ∧ ((288 : Nat) ≠ 337) ∧ True) ∧ (((289 : Nat) ≠ 336) ∧ ((289 : Nat) ≠ 337) ∧ True) ∧ (((336 : Nat) ≠ 337) ∧ True) ∧ True ∧ True) ∧ ((TF ∧ TF) ∧ (TF ∧ TF) ∧ (TF ∧ TF) ∧ (TF ∧ TF) ∧ True) ∧ True ∧ (True ∧ True ∧ True ∧ True ∧ True) ∧ (k + 20 + 25 + 1 + 25 + 2 + 4 ≤ k + 78))))) (True ∧ True ∧ ((r2.1.vals.length ≤ 1048576 ∧ r2.1.heap.length ≤ 1048576) ∧ (k + 20 + 25 + 1 + 2 ≤ 1099511627776) ∧ TN ∧ TN ∧ True) ∧ (∀ r7 : GState × Unit, (r7.1.vals.length ≤ r2.1.vals.length ∧ r7.1.heap.length ≤ r2.1.heap.length + 1) → True ∧ True ∧ ((r1.1.facts.length ≤ 100000 ∧ r1.1.atoms.length ≤ 100000) ∧ (k + 20 + 25 + 1 + 2 + 4 ≤ 1099511627776) ∧ TN ∧ TN ∧ True) ∧ (∀ r8 : GAsn × Unit, (r8.1.facts.length ≤ r1.1.facts.length + 14 ∧ r8.1.atoms.length ≤ r1.1.atoms.length + 7) → (TF ∧ TF) ∧ (TF ∧ TF) ∧ (r7.1.vals.length ≤ 8 ∧ r7.1.heap.length ≤ 9 ∧ r8.1.facts.length ≤ 40 ∧ r8.1.atoms.length ≤ 40) ∧ ((((288 : Nat) ≠ 289) ∧ ((288 : Nat) ≠ 336) ∧ ((288 : Nat) ≠ 337) ∧ True) ∧ (((289 : Nat) ≠ 336) ∧ ((289 : Nat) ≠ 337) ∧ True) ∧ (((336 : Nat) ≠ 337) ∧ True) ∧ True ∧ True) ∧ ((TF ∧ TF) ∧ (TF ∧ TF) ∧ (TF ∧ TF) ∧ (TF ∧ TF) ∧ True) ∧ True ∧ (True ∧ True ∧ True ∧ True ∧ True) ∧ (k + 20 + 25 + 1 + 2 + 4 ≤ k + 78))))))))
theorem vcn_l4Args (rr : Unit) (k : Nat) (hk : k + (78) ≤ 1099511627776) : VC_l4Args rr k := by
  unfold VC_l4Args
  simp only [cln, Nat.reduceEqDiff, Nat.reduceLeDiff, Nat.reduceAdd]
  all_goals (try simp only [opn])
  all_goals (repeat' (first | apply And.intro | intro _))
  all_goals (first | omega | ((simp only [upd]; (repeat' split) <;> rfl); done) | (rename_i h; simp only [upd] at h; (repeat' split at h) <;> (first | (injection h with h; subst h; rfl) | (cases h))) | (simp_all; done) | grind [asV, fsV, pickP])
theorem vce_l4Args (rr : Unit) (k : Nat) : VC_l4Args rr k = vcQ tab (lookF L_l4Args) (lookP P_l4Args) (fun _ => false) (fun _ => none) (fun _ _ => none) (fun _ => []) (bodyOf Try.f86) (entry (encs c_l4Args.aks (rr, ())) (rdOf true k)) (retOk tab c_l4Args Try.f86.results.toList (rr, ()) k) := by kernel_rfl
theorem ok_l4Args : FnOk Try.prog E 86 c_l4Args :=
  fn_okQ (l := L_l4Args) (lp := P_l4Args) (hp := fun _ => false) (gcs := fun _ => none) (perm := fun _ => []) tabOk mix ⟨ok_l3Mutate, ok_l3Draw, ok_pick, ok_l2Mutate, ok_l2Draw, ok_l4Build, trivial⟩ trivial Try.func86 rfl (by kernel_rfl) (by decide) (by kernel_rfl) (anns := fun x _ => fun _ _ => none) (fun ⟨rr, _⟩ k _ hk => (vce_l4Args rr k).mp (vcn_l4Args rr k (hk rfl))) (fun _ _ => ⟨((⟨[], []⟩ : GState), (⟨[], []⟩ : GAsn), ()), ⟨Nat.zero_le _, Nat.zero_le _, Nat.zero_le _, Nat.zero_le _⟩⟩)
end Go.Proofs.Ytejcmcbpfnmlaaa

namespace Go.Proofs.Ytejcmcbpfnmlaaa
open Go.SE Go.RowKit
set_option linter.unusedSimpArgs false
set_option linter.unusedVariables false
set_option maxHeartbeats 1000000
set_option maxRecDepth 100000
/-! DrawHolds -/
abbrev c_DrawHolds : Con := ⟨[.sl .u8], [.state, .asn], fun _ => True, .inr fun (code, _) r => r.1.vals.length ≤ 8 ∧ r.1.heap.length ≤ 9 ∧ r.2.1.facts.length ≤ 40 ∧ r.2.1.atoms.length ≤ 40, fun (code, _) => 78⟩
abbrev L_DrawHolds : List (FuncId × Con) := [(86, c_l4Args)]
abbrev P_DrawHolds : List (FuncId × PT) := []
def VC_DrawHolds (code : List UInt8) (k : Nat) : Prop := (TN ∧ TN ∧ TN ∧ True) ∧ (TN ∧ TN ∧ TN ∧ True) ∧ (((4 : Nat) < 9) ∧ ((5 : Nat) < 9) ∧ ((4 : Nat) ≠ 0)) ∧ ((none : Option Nat) = none) ∧ TT ∧ TT ∧ True ∧ (True ∧ (0 + 78 ≤ 1099511627776) ∧ TN ∧ TN ∧ TN ∧ TN ∧ True) ∧ (∀ r1 : GState × GAsn × Unit, (r1.1.vals.length ≤ 8 ∧ r1.1.heap.length ≤ 9 ∧ r1.2.1.facts.length ≤ 40 ∧ r1.2.1.atoms.length ≤ 40) → True ∧ True ∧ (TF ∧ TF) ∧ (TF ∧ TF) ∧ (r1.1.vals.length ≤ 8 ∧ r1.1.heap.length ≤ 9 ∧ r1.2.1.facts.length ≤ 40 ∧ r1.2.1.atoms.length ≤ 40) ∧ ((((96 : Nat) ≠ 97) ∧ ((96 : Nat) ≠ 98) ∧ ((96 : Nat) ≠ 99) ∧ True) ∧ (((97 : Nat) ≠ 98) ∧ ((97 : Nat) ≠ 99) ∧ True) ∧ (((98 : Nat) ≠ 99) ∧ True) ∧ True ∧ True) ∧ ((TF ∧ TF) ∧ (TF ∧ TF) ∧ (TF ∧ TF) ∧ (TF ∧ TF) ∧ True) ∧ True ∧ (True ∧ True ∧ True ∧ True ∧ True) ∧ (0 + 78 ≤ 0 + 78))
theorem vcn_DrawHolds (code : List UInt8) (k : Nat) : VC_DrawHolds code k := by
  unfold VC_DrawHolds
  simp only [cln, Nat.reduceEqDiff, Nat.reduceLeDiff, Nat.reduceAdd]
  all_goals (try simp only [opn])
  all_goals (repeat' (first | apply And.intro | intro _))
  all_goals (first | omega | ((simp only [upd]; (repeat' split) <;> rfl); done) | (rename_i h; simp only [upd] at h; (repeat' split at h) <;> (first | (injection h with h; subst h; rfl) | (cases h))) | (simp_all; done) | grind [asV, fsV, pickP])
theorem vce_DrawHolds (code : List UInt8) (k : Nat) : VC_DrawHolds code k = vcOpenX tab (lookF L_DrawHolds) (lookP P_DrawHolds) (fun _ => false) (fun _ _ => none) (fun _ => []) ([0, 2, 3], [32, 33, 47, 48, 49, 63]) 79 Try.f31.ntmps (bodyOf Try.f31) (entry (encs c_DrawHolds.aks (code, ())) none) (retOk tab c_DrawHolds Try.f31.results.toList (code, ()) 0) := by kernel_rfl
theorem ok_DrawHolds : FnOk Try.prog E 31 c_DrawHolds :=
  draw_fnX (hp := fun _ => false) (perm := fun _ => []) (gl := ([0, 2, 3], [32, 33, 47, 48, 49, 63])) tabOk mix (kall_of (l := L_DrawHolds) ⟨ok_l4Args, trivial⟩) (pall_of (l := P_DrawHolds) trivial) open_l18Open fn_l18Open Try.func31 rfl (by kernel_rfl) (by decide) (by kernel_rfl) rfl rfl (anns := fun x => fun _ _ => none) (fun ⟨code, _⟩ _ => (vce_DrawHolds code 0).mp (vcn_DrawHolds code 0)) (fun _ _ => ⟨((⟨[], []⟩ : GState), (⟨[], []⟩ : GAsn), ()), ⟨Nat.zero_le _, Nat.zero_le _, Nat.zero_le _, Nat.zero_le _⟩⟩)
end Go.Proofs.Ytejcmcbpfnmlaaa

namespace Go.Proofs.Ytejcmcbpfnmlaaa
open Go.SE Go.RowKit
set_option linter.unusedSimpArgs false
set_option linter.unusedVariables false
set_option maxHeartbeats 1000000
set_option maxRecDepth 100000
/-! isValue -/
abbrev c_isValue : Con := ⟨[.int], [.bool], fun _ => True, .inl fun (t, _) => (isT t, ()), fun _ => 0⟩
abbrev L_isValue : List (FuncId × Con) := []
abbrev P_isValue : List (FuncId × PT) := []
def VC_isValue (t : Int) (k : Nat) : Prop := True ∧ True ∧ True ∧ True ∧ (vcIf (decide ((0 : Int) ≤ t)) (True ∧ True ∧ True ∧ True ∧ (((decide (t ≤ (8 : Int)), ()) : Bool × Unit) = (isT t, ())) ∧ True ∧ True ∧ True ∧ True ∧ TF) (True ∧ True ∧ (((false, ()) : Bool × Unit) = (isT t, ())) ∧ True ∧ True ∧ True ∧ True ∧ TF))
theorem vcn_isValue (t : Int) (k : Nat) : VC_isValue t k := by
  unfold VC_isValue
  simp only [cln, Nat.reduceEqDiff, Nat.reduceLeDiff, Nat.reduceAdd]
  cases h : decide (0 ≤ t) <;> simp [vcIf, isT, h]
theorem vce_isValue (t : Int) (k : Nat) : VC_isValue t k = vcQ tab (lookF L_isValue) (lookP P_isValue) (fun _ => false) (fun _ => none) (fun _ _ => none) (fun _ => []) (bodyOf Try.f94) (entry (encs c_isValue.aks (t, ())) (rdOf false k)) (retOk tab c_isValue Try.f94.results.toList (t, ()) k) := by kernel_rfl
theorem ok_isValue : FnOk Try.prog E 94 c_isValue :=
  fn_okQ (l := L_isValue) (lp := P_isValue) (hp := fun _ => false) (gcs := fun _ => none) (perm := fun _ => []) tabOk mix trivial trivial Try.func94 rfl (by kernel_rfl) (by decide) (by kernel_rfl) (anns := fun x _ => fun _ _ => none) (fun ⟨t, _⟩ k _ _ => (vce_isValue t k).mp (vcn_isValue t k)) tot_fn
end Go.Proofs.Ytejcmcbpfnmlaaa

namespace Go.Proofs.Ytejcmcbpfnmlaaa
open Go.SE Go.RowKit
set_option linter.unusedSimpArgs false
set_option linter.unusedVariables false
set_option maxHeartbeats 1000000
set_option maxRecDepth 100000
/-! iStateValid -/
abbrev c_iStateValid : Con := ⟨[.state], [.bool], fun (s, _) => s.vals.length ≤ 281474976710656 ∧ s.heap.length ≤ 281474976710656, .inl fun (s, _) => (stV s, ()), fun _ => 0⟩
abbrev L_iStateValid : List (FuncId × Con) := [(94, c_isValue)]
abbrev P_iStateValid : List (FuncId × PT) := []
def an_iStateValid (s : GState) : Nat → St → Option Ann
  | 4, se => some { α := Nat, ok := fun i => i ≤ s.vals.length ∧ s.vals.length = 8 ∧ s.heap.length = 8 ∧ (s.vals.take i).all isT = true, mu := fun i => s.vals.length - i, i0 := fun _ => 0, nx := fun a _ => (fun i => i + 1) a, live := [1, 18, 19], sets := fun i => [(20, sv (.int .i64 i))], mids := [31], blks := fun i => [], owns := fun i => [], rd := fun r _ => r, base := 100000 }
  | 10, se => some { α := Nat, ok := fun i => i ≤ s.heap.length ∧ s.vals.length = 8 ∧ s.heap.length = 8 ∧ s.vals.all isT = true ∧ (s.heap.take i).all hv = true, mu := fun i => s.heap.length - i, i0 := fun _ => 0, nx := fun a _ => (fun i => i + 1) a, live := [29, 30], sets := fun i => [(31, sv (.int .i64 i))], mids := [], blks := fun i => [], owns := fun i => [], rd := fun r _ => r, base := 200000 }
  | _, _ => none
def VC_iStateValid_1 (s : GState) (k : Nat) (i1 : Nat) : Prop := (i1 ≤ s.vals.length ∧ s.vals.length = 8 ∧ s.heap.length = 8 ∧ (s.vals.take i1).all isT = true) → True ∧ (vcIf (decide (((i1 : Nat) : Int) < ((s.vals.length : Nat) : Int))) ((0 ≤ ((i1 : Nat) : Int) ∧ ((i1 : Nat) : Int) < ((s.vals.length : Nat) : Int)) ∧ True ∧ True ∧ True ∧ (True ∧ True ∧ True) ∧ True ∧ (vcIf (!(isT (s.vals.getD i1 (0 : Int)))) (True ∧ (((false, ()) : Bool × Unit) = (stV s, ())) ∧ True ∧ True ∧ True ∧ True ∧ TF) ((inK .i64 (((i1 : Nat) : Int) + (1 : Int))) ∧ True ∧ ((i1 + 1) ≤ s.vals.length ∧ s.vals.length = 8 ∧ s.heap.length = 8 ∧ (s.vals.take (i1 + 1)).all isT = true) ∧ (s.vals.length - (i1 + 1) < s.vals.length - i1) ∧ TT ∧ (RL [.s (.c (.ptr 31 0)), .s (.c (.d (.arr .int s.vals))), .s (.c (.d (.val (.int .i64 ((s.vals.length : Nat) : Int)))))]) ∧ (([.s (.c (.d (.val (.int .i64 (((i1 : Nat) : Int) + (1 : Int))))))] : List S) = [.s (.c (.d (.val (.int .i64 (((i1 + 1) : Nat) : Int)))))]) ∧ (RM [some (.blk [.d (.arr .int s.vals), .d (.arr .int s.heap)])]) ∧ (RM []) ∧ True ∧ TT))) (True ∧ True ∧ True ∧ True ∧ ((0 ≤ s.heap.length ∧ s.vals.length = 8 ∧ s.heap.length = 8 ∧ s.vals.all isT = true ∧ (s.heap.take 0).all hv = true) ∧ TT ∧ (RL [.s (.c (.d (.arr .int s.heap))), .s (.c (.d (.val (.int .i64 ((s.heap.length : Nat) : Int)))))]) ∧ (([.s (.c (.d (.val (.int .i64 (0 : Int)))))] : List S) = [.s (.c (.d (.val (.int .i64 ((0 : Nat) : Int)))))]) ∧ (RM []) ∧ (RM []) ∧ True ∧ TT) ∧ (∀ i2 : Nat, (i2 ≤ s.heap.length ∧ s.vals.length = 8 ∧ s.heap.length = 8 ∧ s.vals.all isT = true ∧ (s.heap.take i2).all hv = true) → True ∧ (vcIf (decide (((i2 : Nat) : Int) < ((s.heap.length : Nat) : Int))) ((0 ≤ ((i2 : Nat) : Int) ∧ ((i2 : Nat) : Int) < ((s.heap.length : Nat) : Int)) ∧ True ∧ True ∧ True ∧ True ∧ True ∧ (vcIf ((s.heap.getD i2 (0 : Int)) != (-1 : Int)) (True ∧ (True ∧ True ∧ True) ∧ True ∧ True ∧ (vcIf (!(isT (s.heap.getD i2 (0 : Int)))) (True ∧ (((false, ()) : Bool × Unit) = (stV s, ())) ∧ True ∧ True ∧ True ∧ True ∧ TF) ((inK .i64 (((i2 : Nat) : Int) + (1 : Int))) ∧ True ∧ ((i2 + 1) ≤ s.heap.length ∧ s.vals.length = 8 ∧ s.heap.length = 8 ∧ s.vals.all isT = true ∧ (s.heap.take (i2 + 1)).all hv = true) ∧ (s.heap.length - (i2 + 1) < s.heap.length - i2) ∧ TT ∧ (RL [.s (.c (.d (.arr .int s.heap))), .s (.c (.d (.val (.int .i64 ((s.heap.length : Nat) : Int)))))]) ∧ (([.s (.c (.d (.val (.int .i64 (((i2 : Nat) : Int) + (1 : Int))))))] : List S) = [.s (.c (.d (.val (.int .i64 (((i2 + 1) : Nat) : Int)))))]) ∧ (RM []) ∧ (RM []) ∧ True ∧ TT))) (True ∧ (inK .i64 (((i2 : Nat) : Int) + (1 : Int))) ∧ True ∧ ((i2 + 1) ≤ s.heap.length ∧ s.vals.length = 8 ∧ s.heap.length = 8 ∧ s.vals.all isT = true ∧ (s.heap.take (i2 + 1)).all hv = true) ∧ (s.heap.length - (i2 + 1) < s.heap.length - i2) ∧ TT ∧ (RL [.s (.c (.d (.arr .int s.heap))), .s (.c (.d (.val (.int .i64 ((s.heap.length : Nat) : Int)))))]) ∧ (([.s (.c (.d (.val (.int .i64 (((i2 : Nat) : Int) + (1 : Int))))))] : List S) = [.s (.c (.d (.val (.int .i64 (((i2 + 1) : Nat) : Int)))))]) ∧ (RM []) ∧ (RM []) ∧ True ∧ TT))) (True ∧ (((true, ()) : Bool × Unit) = (stV s, ())) ∧ True ∧ True ∧ True ∧ True ∧ TF)))))
def VC_iStateValid (s : GState) (k : Nat) : Prop := TN ∧ True ∧ True ∧ True ∧ True ∧ True ∧ True ∧ (vcIf (((s.vals.length : Nat) : Int) != (8 : Int)) (True ∧ True ∧ (((false, ()) : Bool × Unit) = (stV s, ())) ∧ True ∧ True ∧ True ∧ True ∧ TF) (True ∧ True ∧ True ∧ True ∧ True ∧ (vcIf (((s.heap.length : Nat) : Int) != (8 : Int)) (True ∧ (((false, ()) : Bool × Unit) = (stV s, ())) ∧ True ∧ True ∧ True ∧ True ∧ TF) (True ∧ True ∧ True ∧ True ∧ ((0 ≤ s.vals.length ∧ s.vals.length = 8 ∧ s.heap.length = 8 ∧ (s.vals.take 0).all isT = true) ∧ TT ∧ (RL [.s (.c (.ptr 31 0)), .s (.c (.d (.arr .int s.vals))), .s (.c (.d (.val (.int .i64 ((s.vals.length : Nat) : Int)))))]) ∧ (([.s (.c (.d (.val (.int .i64 (0 : Int)))))] : List S) = [.s (.c (.d (.val (.int .i64 ((0 : Nat) : Int)))))]) ∧ (RM [some (.blk [.d (.arr .int s.vals), .d (.arr .int s.heap)])]) ∧ (RM []) ∧ True ∧ TT) ∧ (∀ i1 : Nat, (VC_iStateValid_1 s k i1))))))
theorem vcn_iStateValid (s : GState) (k : Nat) (hp : s.vals.length ≤ 281474976710656 ∧ s.heap.length ≤ 281474976710656) : VC_iStateValid s k := by
  unfold VC_iStateValid VC_iStateValid_1
  simp only [cln, Nat.reduceEqDiff, Nat.reduceLeDiff, Nat.reduceAdd]
  all_goals (try simp only [opn])
  all_goals (repeat' (first | apply And.intro | intro _))
  all_goals (first | omega | (simp_all; done) | grind [stV, hv, take_all, all_take, take_full])
theorem vce_iStateValid (s : GState) (k : Nat) : VC_iStateValid s k = vcQ tab (lookF L_iStateValid) (lookP P_iStateValid) (fun _ => false) (fun _ => none) (an_iStateValid s) (fun _ => []) (bodyOf Try.f35) (entry (encs c_iStateValid.aks (s, ())) (rdOf false k)) (retOk tab c_iStateValid Try.f35.results.toList (s, ()) k) := by kernel_rfl
theorem ok_iStateValid : FnOk Try.prog E 35 c_iStateValid :=
  fn_okQ (l := L_iStateValid) (lp := P_iStateValid) (hp := fun _ => false) (gcs := fun _ => none) (perm := fun _ => []) tabOk mix ⟨ok_isValue, trivial⟩ trivial Try.func35 rfl (by kernel_rfl) (by decide) (by kernel_rfl) (anns := fun x _ => an_iStateValid x.1) (fun ⟨s, _⟩ k hp _ => (vce_iStateValid s k).mp (vcn_iStateValid s k hp)) tot_fn
end Go.Proofs.Ytejcmcbpfnmlaaa

namespace Go.Proofs.Ytejcmcbpfnmlaaa
open Go.SE Go.RowKit
set_option linter.unusedSimpArgs false
set_option linter.unusedVariables false
set_option maxHeartbeats 1000000
set_option maxRecDepth 100000
/-! termValue -/
abbrev c_termValue : Con := ⟨[.sl .int, .int], [.int], fun (l, t, _) => l.length = 8 ∧ isT t = true, .inl fun (l, t, _) => (tv l t, ()), fun _ => 0⟩
abbrev L_termValue : List (FuncId × Con) := []
abbrev P_termValue : List (FuncId × PT) := []
def VC_termValue (l : List Int) (t : Int) (k : Nat) : Prop := True ∧ True ∧ True ∧ (vcIf (t == (0 : Int)) (True ∧ ((((0 : Int), ()) : Int × Unit) = (tv l t, ())) ∧ True ∧ True ∧ True ∧ True ∧ TF) (True ∧ True ∧ (inK .i64 (t - (1 : Int))) ∧ (0 ≤ (t - (1 : Int)) ∧ (t - (1 : Int)) < ((l.length : Nat) : Int)) ∧ True ∧ True ∧ ((((l.getD (t - (1 : Int)).toNat (0 : Int)), ()) : Int × Unit) = (tv l t, ())) ∧ True ∧ True ∧ True ∧ True ∧ TF))
theorem vcn_termValue (l : List Int) (t : Int) (k : Nat) (hp : l.length = 8 ∧ isT t = true) : VC_termValue l t k := by
  unfold VC_termValue
  simp only [cln, Nat.reduceEqDiff, Nat.reduceLeDiff, Nat.reduceAdd]
  have h := isT_iff.1 hp.2
  by_cases h0 : t = 0 <;> simp [vcIf, tv, h0, inK_i64] <;> omega
theorem vce_termValue (l : List Int) (t : Int) (k : Nat) : VC_termValue l t k = vcQ tab (lookF L_termValue) (lookP P_termValue) (fun _ => false) (fun _ => none) (fun _ _ => none) (fun _ => []) (bodyOf Try.f95) (entry (encs c_termValue.aks (l, t, ())) (rdOf false k)) (retOk tab c_termValue Try.f95.results.toList (l, t, ()) k) := by kernel_rfl
theorem ok_termValue : FnOk Try.prog E 95 c_termValue :=
  fn_okQ (l := L_termValue) (lp := P_termValue) (hp := fun _ => false) (gcs := fun _ => none) (perm := fun _ => []) tabOk mix trivial trivial Try.func95 rfl (by kernel_rfl) (by decide) (by kernel_rfl) (anns := fun x _ => fun _ _ => none) (fun ⟨l, t, _⟩ k hp _ => (vce_termValue l t k).mp (vcn_termValue l t k hp)) tot_fn
end Go.Proofs.Ytejcmcbpfnmlaaa

namespace Go.Proofs.Ytejcmcbpfnmlaaa
open Go.SE Go.RowKit
set_option linter.unusedSimpArgs false
set_option linter.unusedVariables false
set_option maxHeartbeats 1000000
set_option maxRecDepth 100000
/-! iFactsHold -/
abbrev c_iFactsHold : Con := ⟨[.sl .fact, .sl .int], [.bool], fun (l, v, _) => l.length ≤ 281474976710656 ∧ v.length ≤ 281474976710656, .inl fun (l, v, _) => (fsV l && (v.length == 8 && l.all (holdF v)), ()), fun _ => 0⟩
abbrev L_iFactsHold : List (FuncId × Con) := [(64, c_iFactsValid), (95, c_termValue)]
abbrev P_iFactsHold : List (FuncId × PT) := []
def an_iFactsHold (l : List GFact) (v : List Int) : Nat → St → Option Ann
  | 4, se => some { α := Nat, ok := fun i => i ≤ l.length ∧ fsV l = true ∧ v.length = 8 ∧ (l.take i).all (holdF v) = true, mu := fun i => l.length - i, i0 := fun _ => 0, nx := fun a _ => (fun i => i + 1) a, live := [1, 15, 16], sets := fun i => [(17, sv (.int .i64 i))], mids := [], blks := fun i => [], owns := fun i => [], rd := fun r _ => r, base := 100000 }
  | _, _ => none
def VC_iFactsHold (l : List GFact) (v : List Int) (k : Nat) : Prop := True ∧ True ∧ ((l.length ≤ 281474976710656) ∧ True ∧ True) ∧ True ∧ True ∧ (vcIf (!(fsV l)) (True ∧ True ∧ (((false, ()) : Bool × Unit) = (fsV l && (v.length == 8 && l.all (holdF v)), ())) ∧ True ∧ True ∧ True ∧ True ∧ TF) (True ∧ True ∧ True ∧ True ∧ (vcIf (((v.length : Nat) : Int) != (8 : Int)) (True ∧ (((false, ()) : Bool × Unit) = (fsV l && (v.length == 8 && l.all (holdF v)), ())) ∧ True ∧ True ∧ True ∧ True ∧ TF) (True ∧ True ∧ True ∧ ((0 ≤ l.length ∧ fsV l = true ∧ v.length = 8 ∧ (l.take 0).all (holdF v) = true) ∧ TT ∧ (RL [.s (.c (.d (.arr .int v))), .s (.c (.d (.arr .fact l))), .s (.c (.d (.val (.int .i64 ((l.length : Nat) : Int)))))]) ∧ (([.s (.c (.d (.val (.int .i64 (0 : Int)))))] : List S) = [.s (.c (.d (.val (.int .i64 ((0 : Nat) : Int)))))]) ∧ (RM []) ∧ (RM []) ∧ True ∧ TT) ∧ (∀ i1 : Nat, (i1 ≤ l.length ∧ fsV l = true ∧ v.length = 8 ∧ (l.take i1).all (holdF v) = true) → True ∧ (vcIf (decide (((i1 : Nat) : Int) < ((l.length : Nat) : Int))) ((0 ≤ ((i1 : Nat) : Int) ∧ ((i1 : Nat) : Int) < ((l.length : Nat) : Int)) ∧ True ∧ (TN ∧ True) ∧ (TF ∧ TF) ∧ True ∧ True ∧ True ∧ ((v.length = 8 ∧ isT ((l.getD i1 (⟨false, 0, 0⟩ : GFact)).a) = true) ∧ True ∧ True) ∧ True ∧ True ∧ True ∧ ((v.length = 8 ∧ isT ((l.getD i1 (⟨false, 0, 0⟩ : GFact)).b) = true) ∧ True ∧ True) ∧ True ∧ True ∧ True ∧ True ∧ (vcIf (((tv v ((l.getD i1 (⟨false, 0, 0⟩ : GFact)).a)) == (tv v ((l.getD i1 (⟨false, 0, 0⟩ : GFact)).b))) != ((l.getD i1 (⟨false, 0, 0⟩ : GFact)).eq)) (True ∧ (((false, ()) : Bool × Unit) = (fsV l && (v.length == 8 && l.all (holdF v)), ())) ∧ True ∧ True ∧ True ∧ True ∧ TF) ((inK .i64 (((i1 : Nat) : Int) + (1 : Int))) ∧ True ∧ ((i1 + 1) ≤ l.length ∧ fsV l = true ∧ v.length = 8 ∧ (l.take (i1 + 1)).all (holdF v) = true) ∧ (l.length - (i1 + 1) < l.length - i1) ∧ TT ∧ (RL [.s (.c (.d (.arr .int v))), .s (.c (.d (.arr .fact l))), .s (.c (.d (.val (.int .i64 ((l.length : Nat) : Int)))))]) ∧ (([.s (.c (.d (.val (.int .i64 (((i1 : Nat) : Int) + (1 : Int))))))] : List S) = [.s (.c (.d (.val (.int .i64 (((i1 + 1) : Nat) : Int)))))]) ∧ (RM []) ∧ (RM []) ∧ True ∧ TT))) (True ∧ (((true, ()) : Bool × Unit) = (fsV l && (v.length == 8 && l.all (holdF v)), ())) ∧ True ∧ True ∧ True ∧ True ∧ TF)))))))
theorem vcn_iFactsHold (l : List GFact) (v : List Int) (k : Nat) (hp : l.length ≤ 281474976710656 ∧ v.length ≤ 281474976710656) : VC_iFactsHold l v k := by
  unfold VC_iFactsHold
  simp only [cln, Nat.reduceEqDiff, Nat.reduceLeDiff, Nat.reduceAdd]
  all_goals (try simp only [opn])
  all_goals (repeat' (first | apply And.intro | intro _))
  all_goals (repeat (cases ‹_ ∧ _›))
  all_goals (first | omega | rfl | assumption | skip)
  all_goals (first
   | exact fho_no1 (by assumption) | exact fho_no2 (by assumption) | exact fho_no3 (by assumption) (by assumption)
   | exact (fho_idx (by assumption) (by assumption)).1 | exact (fho_idx (by assumption) (by assumption)).2
   | exact fho_step (by assumption) (by assumption) (by assumption) | exact fho_end (by assumption) (by assumption) (by assumption) (by assumption)
   | (simp_all; done) | skip)
theorem vce_iFactsHold (l : List GFact) (v : List Int) (k : Nat) : VC_iFactsHold l v k = vcQ tab (lookF L_iFactsHold) (lookP P_iFactsHold) (fun _ => false) (fun _ => none) (an_iFactsHold l v) (fun _ => []) (bodyOf Try.f36) (entry (encs c_iFactsHold.aks (l, v, ())) (rdOf false k)) (retOk tab c_iFactsHold Try.f36.results.toList (l, v, ()) k) := by kernel_rfl
theorem ok_iFactsHold : FnOk Try.prog E 36 c_iFactsHold :=
  fn_okQ (l := L_iFactsHold) (lp := P_iFactsHold) (hp := fun _ => false) (gcs := fun _ => none) (perm := fun _ => []) tabOk mix ⟨ok_iFactsValid, ok_termValue, trivial⟩ trivial Try.func36 rfl (by kernel_rfl) (by decide) (by kernel_rfl) (anns := fun x _ => an_iFactsHold x.1 x.2.1) (fun ⟨l, v, _⟩ k hp _ => (vce_iFactsHold l v k).mp (vcn_iFactsHold l v k hp)) tot_fn
end Go.Proofs.Ytejcmcbpfnmlaaa

namespace Go.Proofs.Ytejcmcbpfnmlaaa
open Go.SE Go.RowKit
set_option linter.unusedSimpArgs false
set_option linter.unusedVariables false
set_option maxHeartbeats 1000000
set_option maxRecDepth 100000
/-! isAddr -/
abbrev c_isAddr : Con := ⟨[.int], [.bool], fun _ => True, .inl fun (n, _) => (isAd n, ()), fun _ => 0⟩
abbrev L_isAddr : List (FuncId × Con) := []
abbrev P_isAddr : List (FuncId × PT) := []
def VC_isAddr (n : Int) (k : Nat) : Prop := True ∧ True ∧ True ∧ True ∧ (vcIf (decide ((1 : Int) ≤ n)) (True ∧ True ∧ True ∧ True ∧ (((decide (n ≤ (8 : Int)), ()) : Bool × Unit) = (isAd n, ())) ∧ True ∧ True ∧ True ∧ True ∧ TF) (True ∧ True ∧ (((false, ()) : Bool × Unit) = (isAd n, ())) ∧ True ∧ True ∧ True ∧ True ∧ TF))
theorem vcn_isAddr (n : Int) (k : Nat) : VC_isAddr n k := by
  unfold VC_isAddr
  simp only [cln, Nat.reduceEqDiff, Nat.reduceLeDiff, Nat.reduceAdd]
  all_goals (cases h : decide (1 ≤ n) <;> simp [vcIf, isAd, h])
theorem vce_isAddr (n : Int) (k : Nat) : VC_isAddr n k = vcQ tab (lookF L_isAddr) (lookP P_isAddr) (fun _ => false) (fun _ => none) (fun _ _ => none) (fun _ => []) (bodyOf Try.f149) (entry (encs c_isAddr.aks (n, ())) (rdOf false k)) (retOk tab c_isAddr Try.f149.results.toList (n, ()) k) := by kernel_rfl
theorem ok_isAddr : FnOk Try.prog E 149 c_isAddr :=
  fn_okQ (l := L_isAddr) (lp := P_isAddr) (hp := fun _ => false) (gcs := fun _ => none) (perm := fun _ => []) tabOk mix trivial trivial Try.func149 rfl (by kernel_rfl) (by decide) (by kernel_rfl) (anns := fun x _ => fun _ _ => none) (fun ⟨n, _⟩ k _ _ => (vce_isAddr n k).mp (vcn_isAddr n k)) tot_fn
end Go.Proofs.Ytejcmcbpfnmlaaa

namespace Go.Proofs.Ytejcmcbpfnmlaaa
open Go.SE Go.RowKit
set_option linter.unusedSimpArgs false
set_option linter.unusedVariables false
set_option maxHeartbeats 1000000
set_option maxRecDepth 100000
/-! content -/
abbrev c_content : Con := ⟨[.state, .int], [.int], fun (s, n, _) => stV s = true, .inl fun (s, n, _) => (ct s n, ()), fun _ => 0⟩
abbrev L_content : List (FuncId × Con) := [(149, c_isAddr)]
abbrev P_content : List (FuncId × PT) := []
def VC_content (s : GState) (n : Int) (k : Nat) : Prop := TN ∧ True ∧ True ∧ (True ∧ True ∧ True) ∧ True ∧ (vcIf (!(isAd n)) (True ∧ ((((-1 : Int), ()) : Int × Unit) = (ct s n, ())) ∧ True ∧ True ∧ True ∧ True ∧ TF) (True ∧ True ∧ True ∧ (inK .i64 (n - (1 : Int))) ∧ (0 ≤ (n - (1 : Int)) ∧ (n - (1 : Int)) < ((s.heap.length : Nat) : Int)) ∧ True ∧ True ∧ ((((s.heap.getD (n - (1 : Int)).toNat (0 : Int)), ()) : Int × Unit) = (ct s n, ())) ∧ True ∧ True ∧ True ∧ True ∧ TF))
theorem vcn_content (s : GState) (n : Int) (k : Nat) (hp : stV s = true) : VC_content s n k := by
  unfold VC_content
  simp only [cln, Nat.reduceEqDiff, Nat.reduceLeDiff, Nat.reduceAdd]
  all_goals (try simp only [opn])
  all_goals (repeat' (first | apply And.intro | intro _))
  all_goals (repeat (cases ‹_ ∧ _›))
  all_goals (first | omega | rfl | assumption | (simp_all; done) | skip)
  all_goals (first
   | exact (ct_no (by assumption)).symm
   | exact (ct_yes (by assumption)).symm
   | (have h := isAd_iff.1 ‹isAd n = true›; have h2 := stV_all hp; omega)
   | skip)
theorem vce_content (s : GState) (n : Int) (k : Nat) : VC_content s n k = vcQ tab (lookF L_content) (lookP P_content) (fun _ => false) (fun _ => none) (fun _ _ => none) (fun _ => []) (bodyOf Try.f108) (entry (encs c_content.aks (s, n, ())) (rdOf false k)) (retOk tab c_content Try.f108.results.toList (s, n, ()) k) := by kernel_rfl
theorem ok_content : FnOk Try.prog E 108 c_content :=
  fn_okQ (l := L_content) (lp := P_content) (hp := fun _ => false) (gcs := fun _ => none) (perm := fun _ => []) tabOk mix ⟨ok_isAddr, trivial⟩ trivial Try.func108 rfl (by kernel_rfl) (by decide) (by kernel_rfl) (anns := fun x _ => fun _ _ => none) (fun ⟨s, n, _⟩ k hp _ => (vce_content s n k).mp (vcn_content s n k hp)) tot_fn
end Go.Proofs.Ytejcmcbpfnmlaaa

namespace Go.Proofs.Ytejcmcbpfnmlaaa
open Go.SE Go.RowKit
set_option linter.unusedSimpArgs false
set_option linter.unusedVariables false
set_option maxHeartbeats 1000000
set_option maxRecDepth 100000
/-! allocated -/
abbrev c_allocated : Con := ⟨[.state, .int], [.bool], fun (s, n, _) => stV s = true, .inl fun (s, n, _) => (al s n, ()), fun _ => 0⟩
abbrev L_allocated : List (FuncId × Con) := [(108, c_content)]
abbrev P_allocated : List (FuncId × PT) := []
def VC_allocated (s : GState) (n : Int) (k : Nat) : Prop := TN ∧ True ∧ True ∧ True ∧ ((stV s = true) ∧ True ∧ True) ∧ True ∧ True ∧ (((decide ((0 : Int) ≤ (ct s n)), ()) : Bool × Unit) = (al s n, ())) ∧ True ∧ True ∧ True ∧ True ∧ TF
theorem vcn_allocated (s : GState) (n : Int) (k : Nat) (hp : stV s = true) : VC_allocated s n k := by
  unfold VC_allocated
  simp only [cln, Nat.reduceEqDiff, Nat.reduceLeDiff, Nat.reduceAdd]
  all_goals (try simp only [opn])
  all_goals (repeat' (first | apply And.intro | intro _))
  all_goals (repeat (cases ‹_ ∧ _›))
  all_goals (first | omega | rfl | assumption | (simp_all; done) | skip)
theorem vce_allocated (s : GState) (n : Int) (k : Nat) : VC_allocated s n k = vcQ tab (lookF L_allocated) (lookP P_allocated) (fun _ => false) (fun _ => none) (fun _ _ => none) (fun _ => []) (bodyOf Try.f107) (entry (encs c_allocated.aks (s, n, ())) (rdOf false k)) (retOk tab c_allocated Try.f107.results.toList (s, n, ()) k) := by kernel_rfl
theorem ok_allocated : FnOk Try.prog E 107 c_allocated :=
  fn_okQ (l := L_allocated) (lp := P_allocated) (hp := fun _ => false) (gcs := fun _ => none) (perm := fun _ => []) tabOk mix ⟨ok_content, trivial⟩ trivial Try.func107 rfl (by kernel_rfl) (by decide) (by kernel_rfl) (anns := fun x _ => fun _ _ => none) (fun ⟨s, n, _⟩ k hp _ => (vce_allocated s n k).mp (vcn_allocated s n k hp)) tot_fn
end Go.Proofs.Ytejcmcbpfnmlaaa

namespace Go.Proofs.Ytejcmcbpfnmlaaa
open Go.SE Go.RowKit
set_option linter.unusedSimpArgs false
set_option linter.unusedVariables false
set_option maxHeartbeats 1000000
set_option maxRecDepth 100000
/-! iWalkCells -/
abbrev c_iWalkCells : Con := ⟨[.state, .int, .int], [.sl .int, .bool], fun (s, x, y, _) => s.vals.length ≤ 281474976710656 ∧ s.heap.length ≤ 281474976710656, .inl fun (s, x, y, _) => (wkL s x y, wkB s x y, ()), fun _ => 0⟩
abbrev L_iWalkCells : List (FuncId × Con) := [(35, c_iStateValid), (94, c_isValue), (107, c_allocated), (108, c_content)]
abbrev P_iWalkCells : List (FuncId × PT) := []
def an_iWalkCells (s : GState) (x : Int) (y : Int) : Nat → St → Option Ann
  | 5, se => some { α := List Int × Int, ok := fun p => stV s = true ∧ isT x = true ∧ isT y = true ∧ wkI s x y p.1 p.2, mu := fun p => 9 - p.1.length, i0 := fun st => (slAt .int st (.slot 8), intAt st 9), nx := fun p st => (slAt .int st (.slot 8), intAt st 9), live := [2, 3], sets := fun p => [(9, sv (.int .i64 p.2))], mids := [63], blks := fun p => [], owns := fun p => [⟨7, .slot 8, .int, p.1⟩], rd := fun r _ => r, base := 100000 }
  | _, _ => none
def VC_iWalkCells_1 (s : GState) (x : Int) (y : Int) (k : Nat) : Prop := (((s.vals.length ≤ 281474976710656 ∧ s.heap.length ≤ 281474976710656) ∧ True ∧ True) ∧ True ∧ True ∧ (vcIf (!(stV s)) (True ∧ True ∧ True ∧ TN ∧ True ∧ (((([] : List Int), false, ()) : (List Int) × Bool × Unit) = (wkL s x y, wkB s x y, ())) ∧ (True ∧ True) ∧ ((TF ∧ TF) ∧ True) ∧ True ∧ (True ∧ True) ∧ TF) (True ∧ (True ∧ True ∧ True) ∧ True ∧ True ∧ True ∧ (vcIf (!(isT x)) (True ∧ TN ∧ True ∧ (((([] : List Int), false, ()) : (List Int) × Bool × Unit) = (wkL s x y, wkB s x y, ())) ∧ (True ∧ True) ∧ ((TF ∧ TF) ∧ True) ∧ True ∧ (True ∧ True) ∧ TF) (True ∧ (True ∧ True ∧ True) ∧ True ∧ True ∧ (vcIf (!(isT y)) (TN ∧ True ∧ (((([] : List Int), false, ()) : (List Int) × Bool × Unit) = (wkL s x y, wkB s x y, ())) ∧ (True ∧ True) ∧ ((TF ∧ TF) ∧ True) ∧ True ∧ (True ∧ True) ∧ TF) (TN ∧ True ∧ True ∧ ((stV s = true ∧ isT x = true ∧ isT y = true ∧ wkI s x y (([] : List Int), x).1 (([] : List Int), x).2) ∧ TT ∧ (RL [.s (.c (.d (.val (.int .i64 y)))), .s (.c (.ptr 63 0))]) ∧ (([.s (.c (.d (.val (.int .i64 x))))] : List S) = [.s (.c (.d (.val (.int .i64 ((([] : List Int), x).2 : Int)))))]) ∧ (RM [some (.blk [.d (.arr .int s.vals), .d (.arr .int s.heap)])]) ∧ (RM []) ∧ (((some ([] : List Int) : Option (List Int)) = some ((([] : List Int), x).1)) ∧ True) ∧ TT) ∧ (∀ p1 : List Int × Int, (stV s = true ∧ isT x = true ∧ isT y = true ∧ wkI s x y p1.1 p1.2) → True ∧ True ∧ True ∧ (vcIf ((p1.2 : Int) != y) (True ∧ True ∧ ((stV s = true) ∧ True ∧ True) ∧ True ∧ True ∧ (vcIf (!(al s (p1.2 : Int))) (True ∧ TN ∧ True ∧ (((([] : List Int), false, ()) : (List Int) × Bool × Unit) = (wkL s x y, wkB s x y, ())) ∧ (True ∧ True) ∧ ((TF ∧ TF) ∧ True) ∧ True ∧ (True ∧ True) ∧ TF) (True ∧ True ∧ True ∧ True ∧ (vcIf (((p1.1.length : Nat) : Int) == (8 : Int)) (TN ∧ True ∧ (((([] : List Int), false, ()) : (List Int) × Bool × Unit) = (wkL s x y, wkB s x y, ())) ∧ (True ∧ True) ∧ ((TF ∧ TF) ∧ True) ∧ True ∧ (True ∧ True) ∧ TF) (True ∧ True ∧ (TN ∧ True) ∧ (TN ∧ TF ∧ TF ∧ (p1.1.length + ([(p1.2 : Int)] : List Int).length ≤ 4294967296)) ∧ True ∧ True ∧ True ∧ ((stV s = true) ∧ True ∧ True) ∧ True ∧ (stV s = true ∧ isT x = true ∧ isT y = true ∧ wkI s x y ((p1.1 ++ ([(p1.2 : Int)] : List Int)), (ct s (p1.2 : Int))).1 ((p1.1 ++ ([(p1.2 : Int)] : List Int)), (ct s (p1.2 : Int))).2) ∧ (9 - ((p1.1 ++ ([(p1.2 : Int)] : List Int)), (ct s (p1.2 : Int))).1.length < 9 - p1.1.length) ∧ TT ∧ (RL [.s (.c (.d (.val (.int .i64 y)))), .s (.c (.ptr 63 0))]) ∧ (([.s (.c (.d (.val (.int .i64 (ct s (p1.2 : Int))))))] : List S) = [.s (.c (.d (.val (.int .i64 (((p1.1 ++ ([(p1.2 : Int)] : List Int)), (ct s (p1.2 : Int))).2 : Int)))))]) ∧ (RM [some (.blk [.d (.arr .int s.vals), .d (.arr .int s.heap)])]) ∧ (RM []) ∧ (((some (p1.1 ++ ([(p1.2 : Int)] : List Int)) : Option (List Int)) = some (((p1.1 ++ ([(p1.2 : Int)] : List Int)), (ct s (p1.2 : Int))).1)) ∧ True) ∧ TT))))) (True ∧ True ∧ True ∧ (((p1.1, true, ()) : (List Int) × Bool × Unit) = (wkL s x y, wkB s x y, ())) ∧ (True ∧ True) ∧ ((TF ∧ TF) ∧ True) ∧ True ∧ (True ∧ True) ∧ TF))))))))))
def VC_iWalkCells (s : GState) (x : Int) (y : Int) (k : Nat) : Prop := TN ∧ TN ∧ True ∧ True ∧ (VC_iWalkCells_1 s x y k)
theorem vcn_iWalkCells (s : GState) (x : Int) (y : Int) (k : Nat) (hp : s.vals.length ≤ 281474976710656 ∧ s.heap.length ≤ 281474976710656) : VC_iWalkCells s x y k := by
  unfold VC_iWalkCells VC_iWalkCells_1
  simp only [cln, Nat.reduceEqDiff, Nat.reduceLeDiff, Nat.reduceAdd]
  all_goals (try simp only [opn])
  all_goals (repeat' (first | apply And.intro | intro _))
  all_goals (repeat (cases ‹_ ∧ _›))
  all_goals (try have h7 := ‹wkI _ _ _ _ _›)
  all_goals (try have h8 := h7.le)
  all_goals (first | omega | rfl | assumption | (simp_all; done) | skip)
  all_goals (first
   | exact (wk_bad1 (by assumption)).1.symm | exact (wk_bad1 (by assumption)).2.symm
   | exact (wk_bad2 (by assumption)).1.symm | exact (wk_bad2 (by assumption)).2.symm
   | exact (wk_bad3 (by assumption)).1.symm | exact (wk_bad3 (by assumption)).2.symm
   | exact wkI_zero (by assumption)
   | exact (wk_none (wk_no h7 (by assumption) (by assumption)) (by assumption) (by assumption) (by assumption)).1.symm
   | exact (wk_none (wk_no h7 (by assumption) (by assumption)) (by assumption) (by assumption) (by assumption)).2.symm
   | exact (wk_none (wk_full h7 (by assumption) (by omega)) (by assumption) (by assumption) (by assumption)).1.symm
   | exact (wk_none (wk_full h7 (by assumption) (by omega)) (by assumption) (by assumption) (by assumption)).2.symm
   | exact (wk_some (wk_end h7 (by assumption)) (by assumption) (by assumption) (by assumption)).1.symm
   | exact (wk_some (wk_end h7 (by assumption)) (by assumption) (by assumption) (by assumption)).2.symm
   | exact wk_go (by assumption) h7 (by assumption) (by assumption) (by omega)
   | (rw [List.length_append, List.length_singleton]; omega)
   | skip)
theorem vce_iWalkCells (s : GState) (x : Int) (y : Int) (k : Nat) : VC_iWalkCells s x y k = vcQ tab (lookF L_iWalkCells) (lookP P_iWalkCells) (fun _ => false) (fun _ => none) (an_iWalkCells s x y) (fun _ => []) (bodyOf Try.f163) (entry (encs c_iWalkCells.aks (s, x, y, ())) (rdOf false k)) (retOk tab c_iWalkCells Try.f163.results.toList (s, x, y, ()) k) := by kernel_rfl
theorem ok_iWalkCells : FnOk Try.prog E 163 c_iWalkCells :=
  fn_okQ (l := L_iWalkCells) (lp := P_iWalkCells) (hp := fun _ => false) (gcs := fun _ => none) (perm := fun _ => []) tabOk mix ⟨ok_iStateValid, ok_isValue, ok_allocated, ok_content, trivial⟩ trivial Try.func163 rfl (by kernel_rfl) (by decide) (by kernel_rfl) (anns := fun x _ => an_iWalkCells x.1 x.2.1 x.2.2.1) (fun ⟨s, x, y, _⟩ k hp _ => (vce_iWalkCells s x y k).mp (vcn_iWalkCells s x y k hp)) tot_fn
end Go.Proofs.Ytejcmcbpfnmlaaa

namespace Go.Proofs.Ytejcmcbpfnmlaaa
open Go.SE Go.RowKit
set_option linter.unusedSimpArgs false
set_option linter.unusedVariables false
set_option maxHeartbeats 1000000
set_option maxRecDepth 100000
/-! iAtomCells -/
abbrev c_iAtomCells : Con := ⟨[.state, .atom], [.sl .int, .bool], fun (s, x, _) => s.vals.length ≤ 281474976710656 ∧ s.heap.length ≤ 281474976710656, .inl fun (s, x, _) => (acL s x, acB s x, ()), fun _ => 0⟩
abbrev L_iAtomCells : List (FuncId × Con) := [(35, c_iStateValid), (65, c_iAtomValid), (95, c_termValue), (108, c_content), (163, c_iWalkCells)]
abbrev P_iAtomCells : List (FuncId × PT) := []
def VC_iAtomCells (s : GState) (x : GAtom) (k : Nat) : Prop := TN ∧ TN ∧ TN ∧ True ∧ True ∧ ((s.vals.length ≤ 281474976710656 ∧ s.heap.length ≤ 281474976710656) ∧ True ∧ True) ∧ True ∧ True ∧ (vcIf (!(stV s)) (True ∧ TN ∧ True ∧ (((([] : List Int), false, ()) : (List Int) × Bool × Unit) = (acL s x, acB s x, ())) ∧ (True ∧ True) ∧ ((TF ∧ TF) ∧ True) ∧ True ∧ (True ∧ True) ∧ TF) (True ∧ (True ∧ True ∧ True) ∧ True ∧ True ∧ (vcIf (!(atV x)) (TN ∧ True ∧ (((([] : List Int), false, ()) : (List Int) × Bool × Unit) = (acL s x, acB s x, ())) ∧ (True ∧ True) ∧ ((TF ∧ TF) ∧ True) ∧ True ∧ (True ∧ True) ∧ TF) (True ∧ True ∧ True ∧ True ∧ ((s.vals.length = 8 ∧ isT x.a = true) ∧ True ∧ True) ∧ True ∧ True ∧ True ∧ True ∧ ((s.vals.length = 8 ∧ isT x.b = true) ∧ True ∧ True) ∧ True ∧ True ∧ True ∧ True ∧ True ∧ (vcIf (x.kind == (2 : Int)) (True ∧ True ∧ True ∧ ((s.vals.length ≤ 281474976710656 ∧ s.heap.length ≤ 281474976710656) ∧ True ∧ TN ∧ True) ∧ True ∧ True ∧ True ∧ True ∧ ((((wkL s (tv s.vals x.a) (tv s.vals x.b)), (wkB s (tv s.vals x.a) (tv s.vals x.b)), ()) : (List Int) × Bool × Unit) = (acL s x, acB s x, ())) ∧ (True ∧ True) ∧ ((TF ∧ TF) ∧ True) ∧ True ∧ (True ∧ True) ∧ TF) (True ∧ True ∧ ((stV s = true) ∧ True ∧ True) ∧ True ∧ True ∧ (vcIf ((ct s (tv s.vals x.a)) != (tv s.vals x.b)) (TN ∧ True ∧ (((([] : List Int), false, ()) : (List Int) × Bool × Unit) = (acL s x, acB s x, ())) ∧ (True ∧ True) ∧ ((TF ∧ TF) ∧ True) ∧ True ∧ (True ∧ True) ∧ TF) (True ∧ (TN ∧ True) ∧ True ∧ True ∧ (((([(tv s.vals x.a)] : List Int), true, ()) : (List Int) × Bool × Unit) = (acL s x, acB s x, ())) ∧ (True ∧ True) ∧ ((TF ∧ TF) ∧ True) ∧ True ∧ (True ∧ True) ∧ TF))))))))
theorem vcn_iAtomCells (s : GState) (x : GAtom) (k : Nat) (hp : s.vals.length ≤ 281474976710656 ∧ s.heap.length ≤ 281474976710656) : VC_iAtomCells s x k := by
  unfold VC_iAtomCells
  simp only [cln, Nat.reduceEqDiff, Nat.reduceLeDiff, Nat.reduceAdd]
  all_goals (try simp only [opn])
  all_goals (repeat' (first | apply And.intro | intro _))
  all_goals (repeat (cases ‹_ ∧ _›))
  all_goals (first | omega | rfl | assumption | (simp_all; done) | skip)
  all_goals (first
   | exact (ac_bad1 (by assumption)).1.symm | exact (ac_bad1 (by assumption)).2.symm
   | exact (ac_bad2 (by assumption)).1.symm | exact (ac_bad2 (by assumption)).2.symm
   | exact (stV_all (by assumption)).1 | exact (atV_isT (by assumption)).1 | exact (atV_isT (by assumption)).2
   | exact (ac_list (by assumption) (by assumption) (by assumption)).1.symm | exact (ac_list (by assumption) (by assumption) (by assumption)).2.symm
   | exact (ac_no (by assumption) (by assumption) (by assumption) (by assumption)).1.symm | exact (ac_no (by assumption) (by assumption) (by assumption) (by assumption)).2.symm
   | exact (ac_yes (by assumption) (by assumption) (by assumption) (by assumption)).1.symm | exact (ac_yes (by assumption) (by assumption) (by assumption) (by assumption)).2.symm
   | skip)
theorem vce_iAtomCells (s : GState) (x : GAtom) (k : Nat) : VC_iAtomCells s x k = vcQ tab (lookF L_iAtomCells) (lookP P_iAtomCells) (fun _ => false) (fun _ => none) (fun _ _ => none) (fun _ => []) (bodyOf Try.f137) (entry (encs c_iAtomCells.aks (s, x, ())) (rdOf false k)) (retOk tab c_iAtomCells Try.f137.results.toList (s, x, ()) k) := by kernel_rfl
theorem ok_iAtomCells : FnOk Try.prog E 137 c_iAtomCells :=
  fn_okQ (l := L_iAtomCells) (lp := P_iAtomCells) (hp := fun _ => false) (gcs := fun _ => none) (perm := fun _ => []) tabOk mix ⟨ok_iStateValid, ok_iAtomValid, ok_termValue, ok_content, ok_iWalkCells, trivial⟩ trivial Try.func137 rfl (by kernel_rfl) (by decide) (by kernel_rfl) (anns := fun x _ => fun _ _ => none) (fun ⟨s, x, _⟩ k hp _ => (vce_iAtomCells s x k).mp (vcn_iAtomCells s x k hp)) tot_fn
end Go.Proofs.Ytejcmcbpfnmlaaa

namespace Go.Proofs.Ytejcmcbpfnmlaaa
open Go.SE Go.RowKit
set_option linter.unusedSimpArgs false
set_option linter.unusedVariables false
set_option maxHeartbeats 1000000
set_option maxRecDepth 100000
/-! csHas -/
abbrev c_csHas : Con := ⟨[.u16, .int], [.bool], fun (z, n, _) => 0 ≤ z ∧ z < 512, .inl fun (z, n, _) => (csHas z n, ()), fun _ => 0⟩
abbrev L_csHas : List (FuncId × Con) := [(149, c_isAddr)]
abbrev P_csHas : List (FuncId × PT) := []
def VC_csHas (z : Int) (n : Int) (k : Nat) : Prop := True ∧ True ∧ (True ∧ True ∧ True) ∧ True ∧ (vcIf (isAd n) (True ∧ True ∧ (0 ≤ n) ∧ True ∧ True ∧ True ∧ True ∧ ((((bits .and .u16 (Int.fdiv z (2 ^ (min n.toNat (IntKind.bits .u16)))) (1 : Int)) == (1 : Int), ()) : Bool × Unit) = (csHas z n, ())) ∧ True ∧ True ∧ True ∧ True ∧ TF) (True ∧ True ∧ (((false, ()) : Bool × Unit) = (csHas z n, ())) ∧ True ∧ True ∧ True ∧ True ∧ TF))
theorem vcn_csHas (z : Int) (n : Int) (k : Nat) (hp : 0 ≤ z ∧ z < 512) : VC_csHas z n k := by
  unfold VC_csHas
  simp only [cln, Nat.reduceEqDiff, Nat.reduceLeDiff, Nat.reduceAdd]
  all_goals (try simp only [opn])
  all_goals (repeat' (first | apply And.intro | intro _))
  all_goals (repeat (cases ‹_ ∧ _›))
  all_goals (first | omega | rfl | assumption | (simp_all; done) | skip)
  all_goals (first | exact cs_yes hp.1 hp.2 (by assumption) | exact cs_no (by assumption) | (have h := isAd_iff.1 ‹isAd n = true›; omega) | exact cs_yes (by assumption) (by assumption) (by assumption) | skip)
theorem vce_csHas (z : Int) (n : Int) (k : Nat) : VC_csHas z n k = vcQ tab (lookF L_csHas) (lookP P_csHas) (fun _ => false) (fun _ => none) (fun _ _ => none) (fun _ => []) (bodyOf Try.f138) (entry (encs c_csHas.aks (z, n, ())) (rdOf false k)) (retOk tab c_csHas Try.f138.results.toList (z, n, ()) k) := by kernel_rfl
theorem ok_csHas : FnOk Try.prog E 138 c_csHas :=
  fn_okQ (l := L_csHas) (lp := P_csHas) (hp := fun _ => false) (gcs := fun _ => none) (perm := fun _ => []) tabOk mix ⟨ok_isAddr, trivial⟩ trivial Try.func138 rfl (by kernel_rfl) (by decide) (by kernel_rfl) (anns := fun x _ => fun _ _ => none) (fun ⟨z, n, _⟩ k hp _ => (vce_csHas z n k).mp (vcn_csHas z n k hp)) tot_fn
end Go.Proofs.Ytejcmcbpfnmlaaa

namespace Go.Proofs.Ytejcmcbpfnmlaaa
open Go.SE Go.RowKit
set_option linter.unusedSimpArgs false
set_option linter.unusedVariables false
set_option maxHeartbeats 1000000
set_option maxRecDepth 100000
/-! partOf -/
abbrev c_partOf : Con := ⟨[.state, .asn], [.u16, .bool], fun (s, a, _) => s.vals.length ≤ 281474976710656 ∧ s.heap.length ≤ 281474976710656 ∧ a.facts.length ≤ 281474976710656 ∧ a.atoms.length ≤ 281474976710656, .inl fun (s, a, _) => (maskS (poL s a), poB s a, ()), fun _ => 0⟩
abbrev L_partOf : List (FuncId × Con) := [(19, c_iAssertionValid), (35, c_iStateValid), (36, c_iFactsHold), (137, c_iAtomCells), (138, c_csHas)]
abbrev P_partOf : List (FuncId × PT) := []
def an_partOf (s : GState) (a : GAsn) : Nat → St → Option Ann
  | 5, se => some { α := Nat, ok := fun i => stV s = true ∧ asV a = true ∧ fctB s a.facts = true ∧ ptI s a.atoms i, mu := fun i => a.atoms.length - i, i0 := fun _ => 0, nx := fun a _ => (fun i => i + 1) a, live := [2, 30, 31], sets := fun i => [(32, sv (.int .i64 i)), (6, sv (.int .u16 (maskS (ptL s a.atoms i))))], mids := [47], blks := fun i => [], owns := fun i => [], rd := fun r _ => r, base := 100000 }
  | 11, se => some { α := Nat, ok := fun j => j ≤ (slAt .int se (.slot 44)).length ∧ nw (ptL s a.atoms (intAt se 32).toNat) (slAt .int se (.slot 44)) j, mu := fun j => (slAt .int se (.slot 44)).length - j, i0 := fun _ => 0, nx := fun a _ => (fun j => j + 1) a, live := [2, 30, 31, 32, 44, 45], sets := fun j => [(46, sv (.int .i64 j)), (6, sv (.int .u16 (maskS (ptL s a.atoms (intAt se 32).toNat ++ (slAt .int se (.slot 44)).take j))))], mids := [47, 100624], blks := fun j => [], owns := fun j => [], rd := fun r _ => r, base := 200000 }
  | _, _ => none
def VC_partOf_1 (s : GState) (a : GAsn) (k : Nat) (i1 : Nat) (j2 : Nat) : Prop := (True ∧ (vcIf (decide (((j2 : Nat) : Int) < (((acL s (a.atoms.getD i1 (⟨0, 0, 0⟩ : GAtom))).length : Nat) : Int))) ((0 ≤ ((j2 : Nat) : Int) ∧ ((j2 : Nat) : Int) < (((acL s (a.atoms.getD i1 (⟨0, 0, 0⟩ : GAtom))).length : Nat) : Int)) ∧ True ∧ True ∧ True ∧ True ∧ ((0 ≤ (maskS (ptL s a.atoms (((i1 : Nat) : Int)).toNat ++ ((acL s (a.atoms.getD i1 (⟨0, 0, 0⟩ : GAtom)))).take j2) : Int) ∧ (maskS (ptL s a.atoms (((i1 : Nat) : Int)).toNat ++ ((acL s (a.atoms.getD i1 (⟨0, 0, 0⟩ : GAtom)))).take j2) : Int) < 512) ∧ True ∧ True) ∧ (vcIf (csHas (maskS (ptL s a.atoms (((i1 : Nat) : Int)).toNat ++ ((acL s (a.atoms.getD i1 (⟨0, 0, 0⟩ : GAtom)))).take j2) : Int) ((acL s (a.atoms.getD i1 (⟨0, 0, 0⟩ : GAtom))).getD j2 (0 : Int))) (True ∧ True ∧ ((((0 : Int), false, ()) : Int × Bool × Unit) = (maskS (poL s a), poB s a, ())) ∧ True ∧ True ∧ True ∧ True ∧ TF) (True ∧ True ∧ (0 ≤ ((acL s (a.atoms.getD i1 (⟨0, 0, 0⟩ : GAtom))).getD j2 (0 : Int))) ∧ True ∧ True ∧ (inK .i64 (((j2 : Nat) : Int) + (1 : Int))) ∧ True ∧ ((j2 + 1) ≤ ((acL s (a.atoms.getD i1 (⟨0, 0, 0⟩ : GAtom)))).length ∧ nw (ptL s a.atoms (((i1 : Nat) : Int)).toNat) ((acL s (a.atoms.getD i1 (⟨0, 0, 0⟩ : GAtom)))) (j2 + 1)) ∧ (((acL s (a.atoms.getD i1 (⟨0, 0, 0⟩ : GAtom)))).length - (j2 + 1) < ((acL s (a.atoms.getD i1 (⟨0, 0, 0⟩ : GAtom)))).length - j2) ∧ TT ∧ (RL [.s (.c (.ptr 47 0)), .s (.c (.d (.arr .atom a.atoms))), .s (.c (.d (.val (.int .i64 ((a.atoms.length : Nat) : Int))))), .s (.c (.d (.val (.int .i64 ((i1 : Nat) : Int))))), .s (.c (.own 100624)), .s (.c (.d (.val (.int .i64 (((acL s (a.atoms.getD i1 (⟨0, 0, 0⟩ : GAtom))).length : Nat) : Int)))))]) ∧ (([.s (.c (.d (.val (.int .i64 (((j2 : Nat) : Int) + (1 : Int)))))), .s (.c (.d (.val (.int .u16 (bits .or .u16 (maskS (ptL s a.atoms (((i1 : Nat) : Int)).toNat ++ ((acL s (a.atoms.getD i1 (⟨0, 0, 0⟩ : GAtom)))).take j2) : Int) (IntKind.wrap .u16 ((1 : Int) * 2 ^ (min ((acL s (a.atoms.getD i1 (⟨0, 0, 0⟩ : GAtom))).getD j2 (0 : Int)).toNat (IntKind.bits .u16)))))))))] : List S) = [.s (.c (.d (.val (.int .i64 (((j2 + 1) : Nat) : Int))))), .s (.c (.d (.val (.int .u16 (maskS (ptL s a.atoms (((i1 : Nat) : Int)).toNat ++ ((acL s (a.atoms.getD i1 (⟨0, 0, 0⟩ : GAtom)))).take (j2 + 1)) : Int)))))]) ∧ (RM [some (.blk [.d (.arr .int s.vals), .d (.arr .int s.heap)]), some (.sl 100624 .int (acL s (a.atoms.getD i1 (⟨0, 0, 0⟩ : GAtom))))]) ∧ (RM []) ∧ True ∧ TT))) ((inK .i64 (((i1 : Nat) : Int) + (1 : Int))) ∧ True ∧ (stV s = true ∧ asV a = true ∧ fctB s a.facts = true ∧ ptI s a.atoms (i1 + 1)) ∧ (a.atoms.length - (i1 + 1) < a.atoms.length - i1) ∧ TT ∧ (RL [.s (.c (.ptr 47 0)), .s (.c (.d (.arr .atom a.atoms))), .s (.c (.d (.val (.int .i64 ((a.atoms.length : Nat) : Int)))))]) ∧ (([.s (.c (.d (.val (.int .i64 (((i1 : Nat) : Int) + (1 : Int)))))), .s (.c (.d (.val (.int .u16 (maskS (ptL s a.atoms (((i1 : Nat) : Int)).toNat ++ ((acL s (a.atoms.getD i1 (⟨0, 0, 0⟩ : GAtom)))).take j2) : Int)))))] : List S) = [.s (.c (.d (.val (.int .i64 (((i1 + 1) : Nat) : Int))))), .s (.c (.d (.val (.int .u16 (maskS (ptL s a.atoms (i1 + 1)) : Int)))))]) ∧ (RM [some (.blk [.d (.arr .int s.vals), .d (.arr .int s.heap)])]) ∧ (RM []) ∧ True ∧ TT)))
def VC_partOf_2 (s : GState) (a : GAsn) (k : Nat) : Prop := (True ∧ (vcIf (!(asV a)) (True ∧ True ∧ True ∧ ((((0 : Int), false, ()) : Int × Bool × Unit) = (maskS (poL s a), poB s a, ())) ∧ True ∧ True ∧ True ∧ True ∧ TF) (True ∧ True ∧ True ∧ True ∧ ((a.facts.length ≤ 281474976710656 ∧ s.vals.length ≤ 281474976710656) ∧ True ∧ True) ∧ True ∧ True ∧ (vcIf (!(fsV a.facts && (s.vals.length == 8 && a.facts.all (holdF s.vals)))) (True ∧ True ∧ ((((0 : Int), false, ()) : Int × Bool × Unit) = (maskS (poL s a), poB s a, ())) ∧ True ∧ True ∧ True ∧ True ∧ TF) (True ∧ True ∧ True ∧ True ∧ True ∧ ((stV s = true ∧ asV a = true ∧ fctB s a.facts = true ∧ ptI s a.atoms 0) ∧ TT ∧ (RL [.s (.c (.ptr 47 0)), .s (.c (.d (.arr .atom a.atoms))), .s (.c (.d (.val (.int .i64 ((a.atoms.length : Nat) : Int)))))]) ∧ (([.s (.c (.d (.val (.int .i64 (0 : Int))))), .s (.c (.d (.val (.int .u16 (0 : Int)))))] : List S) = [.s (.c (.d (.val (.int .i64 ((0 : Nat) : Int))))), .s (.c (.d (.val (.int .u16 (maskS (ptL s a.atoms 0) : Int)))))]) ∧ (RM [some (.blk [.d (.arr .int s.vals), .d (.arr .int s.heap)])]) ∧ (RM []) ∧ True ∧ TT) ∧ (∀ i1 : Nat, (stV s = true ∧ asV a = true ∧ fctB s a.facts = true ∧ ptI s a.atoms i1) → True ∧ (vcIf (decide (((i1 : Nat) : Int) < ((a.atoms.length : Nat) : Int))) ((0 ≤ ((i1 : Nat) : Int) ∧ ((i1 : Nat) : Int) < ((a.atoms.length : Nat) : Int)) ∧ True ∧ (TN ∧ True) ∧ (TF ∧ TF) ∧ True ∧ True ∧ ((s.vals.length ≤ 281474976710656 ∧ s.heap.length ≤ 281474976710656) ∧ True ∧ TN ∧ True) ∧ True ∧ True ∧ True ∧ True ∧ True ∧ True ∧ True ∧ (vcIf (!(acB s (a.atoms.getD i1 (⟨0, 0, 0⟩ : GAtom)))) (True ∧ True ∧ ((((0 : Int), false, ()) : Int × Bool × Unit) = (maskS (poL s a), poB s a, ())) ∧ True ∧ True ∧ True ∧ True ∧ TF) (True ∧ True ∧ True ∧ ((0 ≤ ((acL s (a.atoms.getD i1 (⟨0, 0, 0⟩ : GAtom)))).length ∧ nw (ptL s a.atoms (((i1 : Nat) : Int)).toNat) ((acL s (a.atoms.getD i1 (⟨0, 0, 0⟩ : GAtom)))) 0) ∧ TT ∧ (RL [.s (.c (.ptr 47 0)), .s (.c (.d (.arr .atom a.atoms))), .s (.c (.d (.val (.int .i64 ((a.atoms.length : Nat) : Int))))), .s (.c (.d (.val (.int .i64 ((i1 : Nat) : Int))))), .s (.c (.own 100624)), .s (.c (.d (.val (.int .i64 (((acL s (a.atoms.getD i1 (⟨0, 0, 0⟩ : GAtom))).length : Nat) : Int)))))]) ∧ (([.s (.c (.d (.val (.int .i64 (0 : Int))))), .s (.c (.d (.val (.int .u16 (maskS (ptL s a.atoms i1) : Int)))))] : List S) = [.s (.c (.d (.val (.int .i64 ((0 : Nat) : Int))))), .s (.c (.d (.val (.int .u16 (maskS (ptL s a.atoms (((i1 : Nat) : Int)).toNat ++ ((acL s (a.atoms.getD i1 (⟨0, 0, 0⟩ : GAtom)))).take 0) : Int)))))]) ∧ (RM [some (.blk [.d (.arr .int s.vals), .d (.arr .int s.heap)]), some (.sl 100624 .int (acL s (a.atoms.getD i1 (⟨0, 0, 0⟩ : GAtom))))]) ∧ (RM []) ∧ True ∧ TT) ∧ (∀ j2 : Nat, (j2 ≤ ((acL s (a.atoms.getD i1 (⟨0, 0, 0⟩ : GAtom)))).length ∧ nw (ptL s a.atoms (((i1 : Nat) : Int)).toNat) ((acL s (a.atoms.getD i1 (⟨0, 0, 0⟩ : GAtom)))) j2) → (VC_partOf_1 s a k i1 j2))))) (True ∧ True ∧ True ∧ ((((maskS (ptL s a.atoms i1) : Int), true, ()) : Int × Bool × Unit) = (maskS (poL s a), poB s a, ())) ∧ True ∧ True ∧ True ∧ True ∧ TF))))))))
def VC_partOf (s : GState) (a : GAsn) (k : Nat) : Prop := TN ∧ TN ∧ True ∧ True ∧ True ∧ ((s.vals.length ≤ 281474976710656 ∧ s.heap.length ≤ 281474976710656) ∧ True ∧ True) ∧ True ∧ True ∧ (vcIf (!(stV s)) (True ∧ True ∧ True ∧ True ∧ True ∧ ((((0 : Int), false, ()) : Int × Bool × Unit) = (maskS (poL s a), poB s a, ())) ∧ True ∧ True ∧ True ∧ True ∧ TF) (True ∧ ((a.facts.length ≤ 281474976710656 ∧ a.atoms.length ≤ 281474976710656) ∧ True ∧ True) ∧ True ∧ True ∧ (VC_partOf_2 s a k)))
theorem vcn_partOf (s : GState) (a : GAsn) (k : Nat) (hp : s.vals.length ≤ 281474976710656 ∧ s.heap.length ≤ 281474976710656 ∧ a.facts.length ≤ 281474976710656 ∧ a.atoms.length ≤ 281474976710656) : VC_partOf s a k := by
  unfold VC_partOf VC_partOf_2 VC_partOf_1
  simp only [cln, Nat.reduceEqDiff, Nat.reduceLeDiff, Nat.reduceAdd]
  all_goals (try simp only [opn])
  all_goals (repeat' (first | apply And.intro | intro _))
  all_goals (repeat (cases ‹_ ∧ _›))
  all_goals (try have h7 := ‹ptI _ _ _›)
  all_goals (first | omega | assumption | skip)
  all_goals (first
   | exact (po_q1 (by assumption)).1 | exact (po_q1 (by assumption)).2
   | exact (po_q2 (by assumption)).1 | exact (po_q2 (by assumption)).2
   | exact (po_q3 (by assumption) (by assumption) (by assumption)).1 | exact (po_q3 (by assumption) (by assumption) (by assumption)).2
   | exact ptI_zero | exact nw_zero | (rw [← fct_iff (by assumption) (by assumption)]; assumption)
   | exact (po_q4 (by assumption) (by assumption) (by assumption) h7 (by assumption) (by assumption)).1 | exact (po_q4 (by assumption) (by assumption) (by assumption) h7 (by assumption) (by assumption)).2
   | exact (po_q5 (by assumption) (by assumption) (by assumption) h7 (by assumption) (by assumption) (by assumption)).1 | exact (po_q5 (by assumption) (by assumption) (by assumption) h7 (by assumption) (by assumption) (by assumption)).2
   | with_reducible exact (maskS_bd _).1 | with_reducible exact (maskS_bd _).2
   | exact po_g1 (by assumption) (by assumption) (by assumption) (by assumption)
   | exact po_g2 (by assumption) (by assumption)
   | exact (po_n (by assumption) (by assumption) h7 (by assumption) (by assumption) (by assumption) (by assumption) (by assumption)).1
   | exact (po_n (by assumption) (by assumption) h7 (by assumption) (by assumption) (by assumption) (by assumption) (by assumption)).2
   | exact (po_e (by assumption) (by assumption) (by assumption) h7 (by assumption)).1 | exact (po_e (by assumption) (by assumption) (by assumption) h7 (by assumption)).2
   | (have h := isAd_iff.1 (ac_get (by assumption) (by assumption)); omega)
   | exact jb (by assumption) | exact po_g1 (by assumption) (by assumption) (by assumption) (by assumption) _ (by assumption)
   | (rw [List.take_zero, List.append_nil]; done)
   | exact maskS_zero | exact maskS_zero.symm | rfl
   | skip)
theorem vce_partOf (s : GState) (a : GAsn) (k : Nat) : VC_partOf s a k = vcQ tab (lookF L_partOf) (lookP P_partOf) (fun _ => false) (fun _ => none) (an_partOf s a) (fun _ => []) (bodyOf Try.f90) (entry (encs c_partOf.aks (s, a, ())) (rdOf false k)) (retOk tab c_partOf Try.f90.results.toList (s, a, ()) k) := by kernel_rfl
theorem ok_partOf : FnOk Try.prog E 90 c_partOf :=
  fn_okQ (l := L_partOf) (lp := P_partOf) (hp := fun _ => false) (gcs := fun _ => none) (perm := fun _ => []) tabOk mix ⟨ok_iAssertionValid, ok_iStateValid, ok_iFactsHold, ok_iAtomCells, ok_csHas, trivial⟩ trivial Try.func90 rfl (by kernel_rfl) (by decide) (by kernel_rfl) (anns := fun x _ => an_partOf x.1 x.2.1) (fun ⟨s, a, _⟩ k hp _ => (vce_partOf s a k).mp (vcn_partOf s a k hp)) tot_fn
end Go.Proofs.Ytejcmcbpfnmlaaa
