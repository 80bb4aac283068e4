/-
  Contracts of single functions of the program, each shown by the engine: what a call returns for arguments within the contract's bounds.
-/
import Derived.Test.YtfoioficiffgkaaFFnNormalForma
import Derived.Test.YtfoioficiffgkaaFFnNormalFormg
import Derived.Test.YtfoioficiffgkaaEe
import Derived.Test.YtfoioficiffgkaaEf
import Derived.Test.YtfoioficiffgkaaFFnNormalFormb
set_option linter.unusedSimpArgs false
set_option linter.unusedVariables false
set_option linter.unusedSectionVars false

namespace Go.Proofs.Ytfoioficiffgkaa
open Go.SE Go.RowKit
set_option linter.unusedSimpArgs false
set_option linter.unusedVariables false
set_option maxHeartbeats 1000000
set_option maxRecDepth 100000
/-! iStateValid -/
abbrev c_iStateValid : Con := ⟨[.state], [.bool], fun (s, _) => s.vals.length ≤ 281474976710656 ∧ s.heap.length ≤ 281474976710656, .inl fun (s, _) => (stV s, ()), fun _ => 0⟩
abbrev L_iStateValid : List (FuncId × Con) := [(101, c_isValue)]
abbrev P_iStateValid : List (FuncId × PT) := []
def an_iStateValid (s : GState) : Nat → St → Option Ann
  | 4, se => some { α := Nat, ok := fun i => i ≤ s.vals.length ∧ s.vals.length = 8 ∧ s.heap.length = 8 ∧ (s.vals.take i).all isT = true, mu := fun i => s.vals.length - i, i0 := fun _ => 0, nx := fun a _ => (fun i => i + 1) a, live := [1, 18, 19], sets := fun i => [(20, sv (.int .i64 i))], mids := [31], blks := fun i => [], owns := fun i => [], rd := fun r _ => r, base := 100000 }
  | 10, se => some { α := Nat, ok := fun i => i ≤ s.heap.length ∧ s.vals.length = 8 ∧ s.heap.length = 8 ∧ s.vals.all isT = true ∧ (s.heap.take i).all hv = true, mu := fun i => s.heap.length - i, i0 := fun _ => 0, nx := fun a _ => (fun i => i + 1) a, live := [29, 30], sets := fun i => [(31, sv (.int .i64 i))], mids := [], blks := fun i => [], owns := fun i => [], rd := fun r _ => r, base := 200000 }
  | _, _ => none
def VC_iStateValid_1 (s : GState) (k : Nat) (i1 : Nat) : Prop := (i1 ≤ s.vals.length ∧ s.vals.length = 8 ∧ s.heap.length = 8 ∧ (s.vals.take i1).all isT = true) → True ∧ (vcIf (decide (((i1 : Nat) : Int) < ((s.vals.length : Nat) : Int))) ((0 ≤ ((i1 : Nat) : Int) ∧ ((i1 : Nat) : Int) < ((s.vals.length : Nat) : Int)) ∧ True ∧ True ∧ True ∧ (True ∧ True ∧ True) ∧ True ∧ (vcIf (!(isT (s.vals.getD i1 (0 : Int)))) (True ∧ (((false, ()) : Bool × Unit) = (stV s, ())) ∧ True ∧ True ∧ True ∧ True ∧ TF) ((inK .i64 (((i1 : Nat) : Int) + (1 : Int))) ∧ True ∧ ((i1 + 1) ≤ s.vals.length ∧ s.vals.length = 8 ∧ s.heap.length = 8 ∧ (s.vals.take (i1 + 1)).all isT = true) ∧ (s.vals.length - (i1 + 1) < s.vals.length - i1) ∧ TT ∧ (RL [.s (.c (.ptr 31 0)), .s (.c (.d (.arr .int s.vals))), .s (.c (.d (.val (.int .i64 ((s.vals.length : Nat) : Int)))))]) ∧ (([.s (.c (.d (.val (.int .i64 (((i1 : Nat) : Int) + (1 : Int))))))] : List S) = [.s (.c (.d (.val (.int .i64 (((i1 + 1) : Nat) : Int)))))]) ∧ (RM [some (.blk [.d (.arr .int s.vals), .d (.arr .int s.heap)])]) ∧ (RM []) ∧ True ∧ TT))) (True ∧ True ∧ True ∧ True ∧ ((0 ≤ s.heap.length ∧ s.vals.length = 8 ∧ s.heap.length = 8 ∧ s.vals.all isT = true ∧ (s.heap.take 0).all hv = true) ∧ TT ∧ (RL [.s (.c (.d (.arr .int s.heap))), .s (.c (.d (.val (.int .i64 ((s.heap.length : Nat) : Int)))))]) ∧ (([.s (.c (.d (.val (.int .i64 (0 : Int)))))] : List S) = [.s (.c (.d (.val (.int .i64 ((0 : Nat) : Int)))))]) ∧ (RM []) ∧ (RM []) ∧ True ∧ TT) ∧ (∀ i2 : Nat, (i2 ≤ s.heap.length ∧ s.vals.length = 8 ∧ s.heap.length = 8 ∧ s.vals.all isT = true ∧ (s.heap.take i2).all hv = true) → True ∧ (vcIf (decide (((i2 : Nat) : Int) < ((s.heap.length : Nat) : Int))) ((0 ≤ ((i2 : Nat) : Int) ∧ ((i2 : Nat) : Int) < ((s.heap.length : Nat) : Int)) ∧ True ∧ True ∧ True ∧ True ∧ True ∧ (vcIf ((s.heap.getD i2 (0 : Int)) != (-1 : Int)) (True ∧ (True ∧ True ∧ True) ∧ True ∧ True ∧ (vcIf (!(isT (s.heap.getD i2 (0 : Int)))) (True ∧ (((false, ()) : Bool × Unit) = (stV s, ())) ∧ True ∧ True ∧ True ∧ True ∧ TF) ((inK .i64 (((i2 : Nat) : Int) + (1 : Int))) ∧ True ∧ ((i2 + 1) ≤ s.heap.length ∧ s.vals.length = 8 ∧ s.heap.length = 8 ∧ s.vals.all isT = true ∧ (s.heap.take (i2 + 1)).all hv = true) ∧ (s.heap.length - (i2 + 1) < s.heap.length - i2) ∧ TT ∧ (RL [.s (.c (.d (.arr .int s.heap))), .s (.c (.d (.val (.int .i64 ((s.heap.length : Nat) : Int)))))]) ∧ (([.s (.c (.d (.val (.int .i64 (((i2 : Nat) : Int) + (1 : Int))))))] : List S) = [.s (.c (.d (.val (.int .i64 (((i2 + 1) : Nat) : Int)))))]) ∧ (RM []) ∧ (RM []) ∧ True ∧ TT))) (True ∧ (inK .i64 (((i2 : Nat) : Int) + (1 : Int))) ∧ True ∧ ((i2 + 1) ≤ s.heap.length ∧ s.vals.length = 8 ∧ s.heap.length = 8 ∧ s.vals.all isT = true ∧ (s.heap.take (i2 + 1)).all hv = true) ∧ (s.heap.length - (i2 + 1) < s.heap.length - i2) ∧ TT ∧ (RL [.s (.c (.d (.arr .int s.heap))), .s (.c (.d (.val (.int .i64 ((s.heap.length : Nat) : Int)))))]) ∧ (([.s (.c (.d (.val (.int .i64 (((i2 : Nat) : Int) + (1 : Int))))))] : List S) = [.s (.c (.d (.val (.int .i64 (((i2 + 1) : Nat) : Int)))))]) ∧ (RM []) ∧ (RM []) ∧ True ∧ TT))) (True ∧ (((true, ()) : Bool × Unit) = (stV s, ())) ∧ True ∧ True ∧ True ∧ True ∧ TF)))))
def VC_iStateValid (s : GState) (k : Nat) : Prop := TN ∧ True ∧ True ∧ True ∧ True ∧ True ∧ True ∧ (vcIf (((s.vals.length : Nat) : Int) != (8 : Int)) (True ∧ True ∧ (((false, ()) : Bool × Unit) = (stV s, ())) ∧ True ∧ True ∧ True ∧ True ∧ TF) (True ∧ True ∧ True ∧ True ∧ True ∧ (vcIf (((s.heap.length : Nat) : Int) != (8 : Int)) (True ∧ (((false, ()) : Bool × Unit) = (stV s, ())) ∧ True ∧ True ∧ True ∧ True ∧ TF) (True ∧ True ∧ True ∧ True ∧ ((0 ≤ s.vals.length ∧ s.vals.length = 8 ∧ s.heap.length = 8 ∧ (s.vals.take 0).all isT = true) ∧ TT ∧ (RL [.s (.c (.ptr 31 0)), .s (.c (.d (.arr .int s.vals))), .s (.c (.d (.val (.int .i64 ((s.vals.length : Nat) : Int)))))]) ∧ (([.s (.c (.d (.val (.int .i64 (0 : Int)))))] : List S) = [.s (.c (.d (.val (.int .i64 ((0 : Nat) : Int)))))]) ∧ (RM [some (.blk [.d (.arr .int s.vals), .d (.arr .int s.heap)])]) ∧ (RM []) ∧ True ∧ TT) ∧ (∀ i1 : Nat, (VC_iStateValid_1 s k i1))))))
theorem vcn_iStateValid (s : GState) (k : Nat) (hp : s.vals.length ≤ 281474976710656 ∧ s.heap.length ≤ 281474976710656) : VC_iStateValid s k := by
  unfold VC_iStateValid VC_iStateValid_1
  simp only [cln, Nat.reduceEqDiff, Nat.reduceLeDiff, Nat.reduceAdd]
  all_goals (try simp only [opn])
  all_goals (repeat' (first | apply And.intro | intro _))
  all_goals (first | omega | (simp_all; done) | grind [stV, hv, take_all, all_take, take_full])
theorem vce_iStateValid (s : GState) (k : Nat) : VC_iStateValid s k = vcQ tab (lookF L_iStateValid) (lookP P_iStateValid) (fun _ => false) (fun _ => none) (an_iStateValid s) (fun _ => []) (bodyOf Try.f100) (entry (encs c_iStateValid.aks (s, ())) (rdOf false k)) (retOk tab c_iStateValid Try.f100.results.toList (s, ()) k) := by kernel_rfl
theorem ok_iStateValid : FnOk Try.prog E 100 c_iStateValid :=
  fn_okQ (l := L_iStateValid) (lp := P_iStateValid) (hp := fun _ => false) (gcs := fun _ => none) (perm := fun _ => []) tabOk mix ⟨ok_isValue, trivial⟩ trivial Try.func100 rfl (by kernel_rfl) (by decide) (by kernel_rfl) (anns := fun x _ => an_iStateValid x.1) (fun ⟨s, _⟩ k hp _ => (vce_iStateValid s k).mp (vcn_iStateValid s k hp)) tot_fn
end Go.Proofs.Ytfoioficiffgkaa

namespace Go.Proofs.Ytfoioficiffgkaa
open Go.SE Go.RowKit
set_option linter.unusedSimpArgs false
set_option linter.unusedVariables false
set_option maxHeartbeats 1000000
set_option maxRecDepth 100000
/-! iFactsHold -/
abbrev c_iFactsHold : Con := ⟨[.sl .fact, .sl .int], [.bool], fun (l, v, _) => l.length ≤ 281474976710656 ∧ v.length ≤ 281474976710656, .inl fun (l, v, _) => (fsV l && (v.length == 8 && l.all (holdF v)), ()), fun _ => 0⟩
abbrev L_iFactsHold : List (FuncId × Con) := [(80, c_iFactsValid), (117, c_termValue)]
abbrev P_iFactsHold : List (FuncId × PT) := []
def an_iFactsHold (l : List GFact) (v : List Int) : Nat → St → Option Ann
  | 4, se => some { α := Nat, ok := fun i => i ≤ l.length ∧ fsV l = true ∧ v.length = 8 ∧ (l.take i).all (holdF v) = true, mu := fun i => l.length - i, i0 := fun _ => 0, nx := fun a _ => (fun i => i + 1) a, live := [1, 15, 16], sets := fun i => [(17, sv (.int .i64 i))], mids := [], blks := fun i => [], owns := fun i => [], rd := fun r _ => r, base := 100000 }
  | _, _ => none
def VC_iFactsHold (l : List GFact) (v : List Int) (k : Nat) : Prop := True ∧ True ∧ ((l.length ≤ 281474976710656) ∧ True ∧ True) ∧ True ∧ True ∧ (vcIf (!(fsV l)) (True ∧ True ∧ (((false, ()) : Bool × Unit) = (fsV l && (v.length == 8 && l.all (holdF v)), ())) ∧ True ∧ True ∧ True ∧ True ∧ TF) (True ∧ True ∧ True ∧ True ∧ (vcIf (((v.length : Nat) : Int) != (8 : Int)) (True ∧ (((false, ()) : Bool × Unit) = (fsV l && (v.length == 8 && l.all (holdF v)), ())) ∧ True ∧ True ∧ True ∧ True ∧ TF) (True ∧ True ∧ True ∧ ((0 ≤ l.length ∧ fsV l = true ∧ v.length = 8 ∧ (l.take 0).all (holdF v) = true) ∧ TT ∧ (RL [.s (.c (.d (.arr .int v))), .s (.c (.d (.arr .fact l))), .s (.c (.d (.val (.int .i64 ((l.length : Nat) : Int)))))]) ∧ (([.s (.c (.d (.val (.int .i64 (0 : Int)))))] : List S) = [.s (.c (.d (.val (.int .i64 ((0 : Nat) : Int)))))]) ∧ (RM []) ∧ (RM []) ∧ True ∧ TT) ∧ (∀ i1 : Nat, (i1 ≤ l.length ∧ fsV l = true ∧ v.length = 8 ∧ (l.take i1).all (holdF v) = true) → True ∧ (vcIf (decide (((i1 : Nat) : Int) < ((l.length : Nat) : Int))) ((0 ≤ ((i1 : Nat) : Int) ∧ ((i1 : Nat) : Int) < ((l.length : Nat) : Int)) ∧ True ∧ (TN ∧ True) ∧ (TF ∧ TF) ∧ True ∧ True ∧ True ∧ ((v.length = 8 ∧ isT ((l.getD i1 (⟨false, 0, 0⟩ : GFact)).a) = true) ∧ True ∧ True) ∧ True ∧ True ∧ True ∧ ((v.length = 8 ∧ isT ((l.getD i1 (⟨false, 0, 0⟩ : GFact)).b) = true) ∧ True ∧ True) ∧ True ∧ True ∧ True ∧ True ∧ (vcIf (((tv v ((l.getD i1 (⟨false, 0, 0⟩ : GFact)).a)) == (tv v ((l.getD i1 (⟨false, 0, 0⟩ : GFact)).b))) != ((l.getD i1 (⟨false, 0, 0⟩ : GFact)).eq)) (True ∧ (((false, ()) : Bool × Unit) = (fsV l && (v.length == 8 && l.all (holdF v)), ())) ∧ True ∧ True ∧ True ∧ True ∧ TF) ((inK .i64 (((i1 : Nat) : Int) + (1 : Int))) ∧ True ∧ ((i1 + 1) ≤ l.length ∧ fsV l = true ∧ v.length = 8 ∧ (l.take (i1 + 1)).all (holdF v) = true) ∧ (l.length - (i1 + 1) < l.length - i1) ∧ TT ∧ (RL [.s (.c (.d (.arr .int v))), .s (.c (.d (.arr .fact l))), .s (.c (.d (.val (.int .i64 ((l.length : Nat) : Int)))))]) ∧ (([.s (.c (.d (.val (.int .i64 (((i1 : Nat) : Int) + (1 : Int))))))] : List S) = [.s (.c (.d (.val (.int .i64 (((i1 + 1) : Nat) : Int)))))]) ∧ (RM []) ∧ (RM []) ∧ True ∧ TT))) (True ∧ (((true, ()) : Bool × Unit) = (fsV l && (v.length == 8 && l.all (holdF v)), ())) ∧ True ∧ True ∧ True ∧ True ∧ TF)))))))
theorem vcn_iFactsHold (l : List GFact) (v : List Int) (k : Nat) (hp : l.length ≤ 281474976710656 ∧ v.length ≤ 281474976710656) : VC_iFactsHold l v k := by
  unfold VC_iFactsHold
  simp only [cln, Nat.reduceEqDiff, Nat.reduceLeDiff, Nat.reduceAdd]
  all_goals (try simp only [opn])
  all_goals (repeat' (first | apply And.intro | intro _))
  all_goals (repeat (cases ‹_ ∧ _›))
  all_goals (first | omega | rfl | assumption | skip)
  all_goals (first
   | exact fho_no1 (by assumption) | exact fho_no2 (by assumption) | exact fho_no3 (by assumption) (by assumption)
   | exact (fho_idx (by assumption) (by assumption)).1 | exact (fho_idx (by assumption) (by assumption)).2
   | exact fho_step (by assumption) (by assumption) (by assumption) | exact fho_end (by assumption) (by assumption) (by assumption) (by assumption)
   | (simp_all; done) | skip)
theorem vce_iFactsHold (l : List GFact) (v : List Int) (k : Nat) : VC_iFactsHold l v k = vcQ tab (lookF L_iFactsHold) (lookP P_iFactsHold) (fun _ => false) (fun _ => none) (an_iFactsHold l v) (fun _ => []) (bodyOf Try.f118) (entry (encs c_iFactsHold.aks (l, v, ())) (rdOf false k)) (retOk tab c_iFactsHold Try.f118.results.toList (l, v, ()) k) := by kernel_rfl
theorem ok_iFactsHold : FnOk Try.prog E 118 c_iFactsHold :=
  fn_okQ (l := L_iFactsHold) (lp := P_iFactsHold) (hp := fun _ => false) (gcs := fun _ => none) (perm := fun _ => []) tabOk mix ⟨ok_iFactsValid, ok_termValue, trivial⟩ trivial Try.func118 rfl (by kernel_rfl) (by decide) (by kernel_rfl) (anns := fun x _ => an_iFactsHold x.1 x.2.1) (fun ⟨l, v, _⟩ k hp _ => (vce_iFactsHold l v k).mp (vcn_iFactsHold l v k hp)) tot_fn
end Go.Proofs.Ytfoioficiffgkaa

namespace Go.Proofs.Ytfoioficiffgkaa
open Go.SE Go.RowKit
set_option linter.unusedSimpArgs false
set_option linter.unusedVariables false
set_option maxHeartbeats 1000000
set_option maxRecDepth 100000
/-! isAddr -/
abbrev c_isAddr : Con := ⟨[.int], [.bool], fun _ => True, .inl fun (n, _) => (isAd n, ()), fun _ => 0⟩
abbrev L_isAddr : List (FuncId × Con) := []
abbrev P_isAddr : List (FuncId × PT) := []
def VC_isAddr (n : Int) (k : Nat) : Prop := True ∧ True ∧ True ∧ True ∧ (vcIf (decide ((1 : Int) ≤ n)) (True ∧ True ∧ True ∧ True ∧ (((decide (n ≤ (8 : Int)), ()) : Bool × Unit) = (isAd n, ())) ∧ True ∧ True ∧ True ∧ True ∧ TF) (True ∧ True ∧ (((false, ()) : Bool × Unit) = (isAd n, ())) ∧ True ∧ True ∧ True ∧ True ∧ TF))
theorem vcn_isAddr (n : Int) (k : Nat) : VC_isAddr n k := by
  unfold VC_isAddr
  simp only [cln, Nat.reduceEqDiff, Nat.reduceLeDiff, Nat.reduceAdd]
  all_goals (cases h : decide (1 ≤ n) <;> simp [vcIf, isAd, h])
theorem vce_isAddr (n : Int) (k : Nat) : VC_isAddr n k = vcQ tab (lookF L_isAddr) (lookP P_isAddr) (fun _ => false) (fun _ => none) (fun _ _ => none) (fun _ => []) (bodyOf Try.f153) (entry (encs c_isAddr.aks (n, ())) (rdOf false k)) (retOk tab c_isAddr Try.f153.results.toList (n, ()) k) := by kernel_rfl
theorem ok_isAddr : FnOk Try.prog E 153 c_isAddr :=
  fn_okQ (l := L_isAddr) (lp := P_isAddr) (hp := fun _ => false) (gcs := fun _ => none) (perm := fun _ => []) tabOk mix trivial trivial Try.func153 rfl (by kernel_rfl) (by decide) (by kernel_rfl) (anns := fun x _ => fun _ _ => none) (fun ⟨n, _⟩ k _ _ => (vce_isAddr n k).mp (vcn_isAddr n k)) tot_fn
end Go.Proofs.Ytfoioficiffgkaa

namespace Go.Proofs.Ytfoioficiffgkaa
open Go.SE Go.RowKit
set_option linter.unusedSimpArgs false
set_option linter.unusedVariables false
set_option maxHeartbeats 1000000
set_option maxRecDepth 100000
/-! content -/
abbrev c_content : Con := ⟨[.state, .int], [.int], fun (s, n, _) => stV s = true, .inl fun (s, n, _) => (ct s n, ()), fun _ => 0⟩
abbrev L_content : List (FuncId × Con) := [(153, c_isAddr)]
abbrev P_content : List (FuncId × PT) := []
def VC_content (s : GState) (n : Int) (k : Nat) : Prop := TN ∧ True ∧ True ∧ (True ∧ True ∧ True) ∧ True ∧ (vcIf (!(isAd n)) (True ∧ ((((-1 : Int), ()) : Int × Unit) = (ct s n, ())) ∧ True ∧ True ∧ True ∧ True ∧ TF) (True ∧ True ∧ True ∧ (inK .i64 (n - (1 : Int))) ∧ (0 ≤ (n - (1 : Int)) ∧ (n - (1 : Int)) < ((s.heap.length : Nat) : Int)) ∧ True ∧ True ∧ ((((s.heap.getD (n - (1 : Int)).toNat (0 : Int)), ()) : Int × Unit) = (ct s n, ())) ∧ True ∧ True ∧ True ∧ True ∧ TF))
theorem vcn_content (s : GState) (n : Int) (k : Nat) (hp : stV s = true) : VC_content s n k := by
  unfold VC_content
  simp only [cln, Nat.reduceEqDiff, Nat.reduceLeDiff, Nat.reduceAdd]
  all_goals (try simp only [opn])
  all_goals (repeat' (first | apply And.intro | intro _))
  all_goals (repeat (cases ‹_ ∧ _›))
  all_goals (first | omega | rfl | assumption | (simp_all; done) | skip)
  all_goals (first
   | exact (ct_no (by assumption)).symm
   | exact (ct_yes (by assumption)).symm
   | (have h := isAd_iff.1 ‹isAd n = true›; have h2 := stV_all hp; omega)
   | skip)
theorem vce_content (s : GState) (n : Int) (k : Nat) : VC_content s n k = vcQ tab (lookF L_content) (lookP P_content) (fun _ => false) (fun _ => none) (fun _ _ => none) (fun _ => []) (bodyOf Try.f152) (entry (encs c_content.aks (s, n, ())) (rdOf false k)) (retOk tab c_content Try.f152.results.toList (s, n, ()) k) := by kernel_rfl
theorem ok_content : FnOk Try.prog E 152 c_content :=
  fn_okQ (l := L_content) (lp := P_content) (hp := fun _ => false) (gcs := fun _ => none) (perm := fun _ => []) tabOk mix ⟨ok_isAddr, trivial⟩ trivial Try.func152 rfl (by kernel_rfl) (by decide) (by kernel_rfl) (anns := fun x _ => fun _ _ => none) (fun ⟨s, n, _⟩ k hp _ => (vce_content s n k).mp (vcn_content s n k hp)) tot_fn
end Go.Proofs.Ytfoioficiffgkaa

namespace Go.Proofs.Ytfoioficiffgkaa
open Go.SE Go.RowKit
set_option linter.unusedSimpArgs false
set_option linter.unusedVariables false
set_option maxHeartbeats 1000000
set_option maxRecDepth 100000
/-! allocated -/
abbrev c_allocated : Con := ⟨[.state, .int], [.bool], fun (s, n, _) => stV s = true, .inl fun (s, n, _) => (al s n, ()), fun _ => 0⟩
abbrev L_allocated : List (FuncId × Con) := [(152, c_content)]
abbrev P_allocated : List (FuncId × PT) := []
def VC_allocated (s : GState) (n : Int) (k : Nat) : Prop := TN ∧ True ∧ True ∧ True ∧ ((stV s = true) ∧ True ∧ True) ∧ True ∧ True ∧ (((decide ((0 : Int) ≤ (ct s n)), ()) : Bool × Unit) = (al s n, ())) ∧ True ∧ True ∧ True ∧ True ∧ TF
theorem vcn_allocated (s : GState) (n : Int) (k : Nat) (hp : stV s = true) : VC_allocated s n k := by
  unfold VC_allocated
  simp only [cln, Nat.reduceEqDiff, Nat.reduceLeDiff, Nat.reduceAdd]
  all_goals (try simp only [opn])
  all_goals (repeat' (first | apply And.intro | intro _))
  all_goals (repeat (cases ‹_ ∧ _›))
  all_goals (first | omega | rfl | assumption | (simp_all; done) | skip)
theorem vce_allocated (s : GState) (n : Int) (k : Nat) : VC_allocated s n k = vcQ tab (lookF L_allocated) (lookP P_allocated) (fun _ => false) (fun _ => none) (fun _ _ => none) (fun _ => []) (bodyOf Try.f121) (entry (encs c_allocated.aks (s, n, ())) (rdOf false k)) (retOk tab c_allocated Try.f121.results.toList (s, n, ()) k) := by kernel_rfl
theorem ok_allocated : FnOk Try.prog E 121 c_allocated :=
  fn_okQ (l := L_allocated) (lp := P_allocated) (hp := fun _ => false) (gcs := fun _ => none) (perm := fun _ => []) tabOk mix ⟨ok_content, trivial⟩ trivial Try.func121 rfl (by kernel_rfl) (by decide) (by kernel_rfl) (anns := fun x _ => fun _ _ => none) (fun ⟨s, n, _⟩ k hp _ => (vce_allocated s n k).mp (vcn_allocated s n k hp)) tot_fn
end Go.Proofs.Ytfoioficiffgkaa

namespace Go.Proofs.Ytfoioficiffgkaa
open Go.SE Go.RowKit
set_option linter.unusedSimpArgs false
set_option linter.unusedVariables false
set_option maxHeartbeats 1000000
set_option maxRecDepth 100000
/-! iWalkCells -/
abbrev c_iWalkCells : Con := ⟨[.state, .int, .int], [.sl .int, .bool], fun (s, x, y, _) => s.vals.length ≤ 281474976710656 ∧ s.heap.length ≤ 281474976710656, .inl fun (s, x, y, _) => (wkL s x y, wkB s x y, ()), fun _ => 0⟩
abbrev L_iWalkCells : List (FuncId × Con) := [(100, c_iStateValid), (101, c_isValue), (121, c_allocated), (152, c_content)]
abbrev P_iWalkCells : List (FuncId × PT) := []
def an_iWalkCells (s : GState) (x : Int) (y : Int) : Nat → St → Option Ann
  | 5, se => some { α := List Int × Int, ok := fun p => stV s = true ∧ isT x = true ∧ isT y = true ∧ wkI s x y p.1 p.2, mu := fun p => 9 - p.1.length, i0 := fun st => (slAt .int st (.slot 8), intAt st 9), nx := fun p st => (slAt .int st (.slot 8), intAt st 9), live := [2, 3], sets := fun p => [(9, sv (.int .i64 p.2))], mids := [63], blks := fun p => [], owns := fun p => [⟨7, .slot 8, .int, p.1⟩], rd := fun r _ => r, base := 100000 }
  | _, _ => none
def VC_iWalkCells_1 (s : GState) (x : Int) (y : Int) (k : Nat) : Prop := (((s.vals.length ≤ 281474976710656 ∧ s.heap.length ≤ 281474976710656) ∧ True ∧ True) ∧ True ∧ True ∧ (vcIf (!(stV s)) (True ∧ True ∧ True ∧ TN ∧ True ∧ (((([] : List Int), false, ()) : (List Int) × Bool × Unit) = (wkL s x y, wkB s x y, ())) ∧ (True ∧ True) ∧ ((TF ∧ TF) ∧ True) ∧ True ∧ (True ∧ True) ∧ TF) (True ∧ (True ∧ True ∧ True) ∧ True ∧ True ∧ True ∧ (vcIf (!(isT x)) (True ∧ TN ∧ True ∧ (((([] : List Int), false, ()) : (List Int) × Bool × Unit) = (wkL s x y, wkB s x y, ())) ∧ (True ∧ True) ∧ ((TF ∧ TF) ∧ True) ∧ True ∧ (True ∧ True) ∧ TF) (True ∧ (True ∧ True ∧ True) ∧ True ∧ True ∧ (vcIf (!(isT y)) (TN ∧ True ∧ (((([] : List Int), false, ()) : (List Int) × Bool × Unit) = (wkL s x y, wkB s x y, ())) ∧ (True ∧ True) ∧ ((TF ∧ TF) ∧ True) ∧ True ∧ (True ∧ True) ∧ TF) (TN ∧ True ∧ True ∧ ((stV s = true ∧ isT x = true ∧ isT y = true ∧ wkI s x y (([] : List Int), x).1 (([] : List Int), x).2) ∧ TT ∧ (RL [.s (.c (.d (.val (.int .i64 y)))), .s (.c (.ptr 63 0))]) ∧ (([.s (.c (.d (.val (.int .i64 x))))] : List S) = [.s (.c (.d (.val (.int .i64 ((([] : List Int), x).2 : Int)))))]) ∧ (RM [some (.blk [.d (.arr .int s.vals), .d (.arr .int s.heap)])]) ∧ (RM []) ∧ (((some ([] : List Int) : Option (List Int)) = some ((([] : List Int), x).1)) ∧ True) ∧ TT) ∧ (∀ p1 : List Int × Int, (stV s = true ∧ isT x = true ∧ isT y = true ∧ wkI s x y p1.1 p1.2) → True ∧ True ∧ True ∧ (vcIf ((p1.2 : Int) != y) (True ∧ True ∧ ((stV s = true) ∧ True ∧ True) ∧ True ∧ True ∧ (vcIf (!(al s (p1.2 : Int))) (True ∧ TN ∧ True ∧ (((([] : List Int), false, ()) : (List Int) × Bool × Unit) = (wkL s x y, wkB s x y, ())) ∧ (True ∧ True) ∧ ((TF ∧ TF) ∧ True) ∧ True ∧ (True ∧ True) ∧ TF) (True ∧ True ∧ True ∧ True ∧ (vcIf (((p1.1.length : Nat) : Int) == (8 : Int)) (TN ∧ True ∧ (((([] : List Int), false, ()) : (List Int) × Bool × Unit) = (wkL s x y, wkB s x y, ())) ∧ (True ∧ True) ∧ ((TF ∧ TF) ∧ True) ∧ True ∧ (True ∧ True) ∧ TF) (True ∧ True ∧ (TN ∧ True) ∧ (TN ∧ TF ∧ TF ∧ (p1.1.length + ([(p1.2 : Int)] : List Int).length ≤ 4294967296)) ∧ True ∧ True ∧ True ∧ ((stV s = true) ∧ True ∧ True) ∧ True ∧ (stV s = true ∧ isT x = true ∧ isT y = true ∧ wkI s x y ((p1.1 ++ ([(p1.2 : Int)] : List Int)), (ct s (p1.2 : Int))).1 ((p1.1 ++ ([(p1.2 : Int)] : List Int)), (ct s (p1.2 : Int))).2) ∧ (9 - ((p1.1 ++ ([(p1.2 : Int)] : List Int)), (ct s (p1.2 : Int))).1.length < 9 - p1.1.length) ∧ TT ∧ (RL [.s (.c (.d (.val (.int .i64 y)))), .s (.c (.ptr 63 0))]) ∧ (([.s (.c (.d (.val (.int .i64 (ct s (p1.2 : Int))))))] : List S) = [.s (.c (.d (.val (.int .i64 (((p1.1 ++ ([(p1.2 : Int)] : List Int)), (ct s (p1.2 : Int))).2 : Int)))))]) ∧ (RM [some (.blk [.d (.arr .int s.vals), .d (.arr .int s.heap)])]) ∧ (RM []) ∧ (((some (p1.1 ++ ([(p1.2 : Int)] : List Int)) : Option (List Int)) = some (((p1.1 ++ ([(p1.2 : Int)] : List Int)), (ct s (p1.2 : Int))).1)) ∧ True) ∧ TT))))) (True ∧ True ∧ True ∧ (((p1.1, true, ()) : (List Int) × Bool × Unit) = (wkL s x y, wkB s x y, ())) ∧ (True ∧ True) ∧ ((TF ∧ TF) ∧ True) ∧ True ∧ (True ∧ True) ∧ TF))))))))))
def VC_iWalkCells (s : GState) (x : Int) (y : Int) (k : Nat) : Prop := TN ∧ TN ∧ True ∧ True ∧ (VC_iWalkCells_1 s x y k)
theorem vcn_iWalkCells (s : GState) (x : Int) (y : Int) (k : Nat) (hp : s.vals.length ≤ 281474976710656 ∧ s.heap.length ≤ 281474976710656) : VC_iWalkCells s x y k := by
  unfold VC_iWalkCells VC_iWalkCells_1
  simp only [cln, Nat.reduceEqDiff, Nat.reduceLeDiff, Nat.reduceAdd]
  all_goals (try simp only [opn])
  all_goals (repeat' (first | apply And.intro | intro _))
  all_goals (repeat (cases ‹_ ∧ _›))
  all_goals (try have h7 := ‹wkI _ _ _ _ _›)
  all_goals (try have h8 := h7.le)
  all_goals (first | omega | rfl | assumption | (simp_all; done) | skip)
  all_goals (first
   | exact (wk_bad1 (by assumption)).1.symm | exact (wk_bad1 (by assumption)).2.symm
   | exact (wk_bad2 (by assumption)).1.symm | exact (wk_bad2 (by assumption)).2.symm
   | exact (wk_bad3 (by assumption)).1.symm | exact (wk_bad3 (by assumption)).2.symm
   | exact wkI_zero (by assumption)
   | exact (wk_none (wk_no h7 (by assumption) (by assumption)) (by assumption) (by assumption) (by assumption)).1.symm
   | exact (wk_none (wk_no h7 (by assumption) (by assumption)) (by assumption) (by assumption) (by assumption)).2.symm
   | exact (wk_none (wk_full h7 (by assumption) (by omega)) (by assumption) (by assumption) (by assumption)).1.symm
   | exact (wk_none (wk_full h7 (by assumption) (by omega)) (by assumption) (by assumption) (by assumption)).2.symm
   | exact (wk_some (wk_end h7 (by assumption)) (by assumption) (by assumption) (by assumption)).1.symm
   | exact (wk_some (wk_end h7 (by assumption)) (by assumption) (by assumption) (by assumption)).2.symm
   | exact wk_go (by assumption) h7 (by assumption) (by assumption) (by omega)
   | (rw [List.length_append, List.length_singleton]; omega)
   | skip)
theorem vce_iWalkCells (s : GState) (x : Int) (y : Int) (k : Nat) : VC_iWalkCells s x y k = vcQ tab (lookF L_iWalkCells) (lookP P_iWalkCells) (fun _ => false) (fun _ => none) (an_iWalkCells s x y) (fun _ => []) (bodyOf Try.f151) (entry (encs c_iWalkCells.aks (s, x, y, ())) (rdOf false k)) (retOk tab c_iWalkCells Try.f151.results.toList (s, x, y, ()) k) := by kernel_rfl
theorem ok_iWalkCells : FnOk Try.prog E 151 c_iWalkCells :=
  fn_okQ (l := L_iWalkCells) (lp := P_iWalkCells) (hp := fun _ => false) (gcs := fun _ => none) (perm := fun _ => []) tabOk mix ⟨ok_iStateValid, ok_isValue, ok_allocated, ok_content, trivial⟩ trivial Try.func151 rfl (by kernel_rfl) (by decide) (by kernel_rfl) (anns := fun x _ => an_iWalkCells x.1 x.2.1 x.2.2.1) (fun ⟨s, x, y, _⟩ k hp _ => (vce_iWalkCells s x y k).mp (vcn_iWalkCells s x y k hp)) tot_fn
end Go.Proofs.Ytfoioficiffgkaa

namespace Go.Proofs.Ytfoioficiffgkaa
open Go.SE Go.RowKit
set_option linter.unusedSimpArgs false
set_option linter.unusedVariables false
set_option maxHeartbeats 1000000
set_option maxRecDepth 100000
/-! iAtomCells -/
abbrev c_iAtomCells : Con := ⟨[.state, .atom], [.sl .int, .bool], fun (s, x, _) => s.vals.length ≤ 281474976710656 ∧ s.heap.length ≤ 281474976710656, .inl fun (s, x, _) => (acL s x, acB s x, ()), fun _ => 0⟩
abbrev L_iAtomCells : List (FuncId × Con) := [(81, c_iAtomValid), (100, c_iStateValid), (117, c_termValue), (151, c_iWalkCells), (152, c_content)]
abbrev P_iAtomCells : List (FuncId × PT) := []
def VC_iAtomCells (s : GState) (x : GAtom) (k : Nat) : Prop := TN ∧ TN ∧ TN ∧ True ∧ True ∧ ((s.vals.length ≤ 281474976710656 ∧ s.heap.length ≤ 281474976710656) ∧ True ∧ True) ∧ True ∧ True ∧ (vcIf (!(stV s)) (True ∧ TN ∧ True ∧ (((([] : List Int), false, ()) : (List Int) × Bool × Unit) = (acL s x, acB s x, ())) ∧ (True ∧ True) ∧ ((TF ∧ TF) ∧ True) ∧ True ∧ (True ∧ True) ∧ TF) (True ∧ (True ∧ True ∧ True) ∧ True ∧ True ∧ (vcIf (!(atV x)) (TN ∧ True ∧ (((([] : List Int), false, ()) : (List Int) × Bool × Unit) = (acL s x, acB s x, ())) ∧ (True ∧ True) ∧ ((TF ∧ TF) ∧ True) ∧ True ∧ (True ∧ True) ∧ TF) (True ∧ True ∧ True ∧ True ∧ ((s.vals.length = 8 ∧ isT x.a = true) ∧ True ∧ True) ∧ True ∧ True ∧ True ∧ True ∧ ((s.vals.length = 8 ∧ isT x.b = true) ∧ True ∧ True) ∧ True ∧ True ∧ True ∧ True ∧ True ∧ (vcIf (x.kind == (2 : Int)) (True ∧ True ∧ True ∧ ((s.vals.length ≤ 281474976710656 ∧ s.heap.length ≤ 281474976710656) ∧ True ∧ TN ∧ True) ∧ True ∧ True ∧ True ∧ True ∧ ((((wkL s (tv s.vals x.a) (tv s.vals x.b)), (wkB s (tv s.vals x.a) (tv s.vals x.b)), ()) : (List Int) × Bool × Unit) = (acL s x, acB s x, ())) ∧ (True ∧ True) ∧ ((TF ∧ TF) ∧ True) ∧ True ∧ (True ∧ True) ∧ TF) (True ∧ True ∧ ((stV s = true) ∧ True ∧ True) ∧ True ∧ True ∧ (vcIf ((ct s (tv s.vals x.a)) != (tv s.vals x.b)) (TN ∧ True ∧ (((([] : List Int), false, ()) : (List Int) × Bool × Unit) = (acL s x, acB s x, ())) ∧ (True ∧ True) ∧ ((TF ∧ TF) ∧ True) ∧ True ∧ (True ∧ True) ∧ TF) (True ∧ (TN ∧ True) ∧ True ∧ True ∧ (((([(tv s.vals x.a)] : List Int), true, ()) : (List Int) × Bool × Unit) = (acL s x, acB s x, ())) ∧ (True ∧ True) ∧ ((TF ∧ TF) ∧ True) ∧ True ∧ (True ∧ True) ∧ TF))))))))
theorem vcn_iAtomCells (s : GState) (x : GAtom) (k : Nat) (hp : s.vals.length ≤ 281474976710656 ∧ s.heap.length ≤ 281474976710656) : VC_iAtomCells s x k := by
  unfold VC_iAtomCells
  simp only [cln, Nat.reduceEqDiff, Nat.reduceLeDiff, Nat.reduceAdd]
  all_goals (try simp only [opn])
  all_goals (repeat' (first | apply And.intro | intro _))
  all_goals (repeat (cases ‹_ ∧ _›))
  all_goals (first | omega | rfl | assumption | (simp_all; done) | skip)
  all_goals (first
   | exact (ac_bad1 (by assumption)).1.symm | exact (ac_bad1 (by assumption)).2.symm
   | exact (ac_bad2 (by assumption)).1.symm | exact (ac_bad2 (by assumption)).2.symm
   | exact (stV_all (by assumption)).1 | exact (atV_isT (by assumption)).1 | exact (atV_isT (by assumption)).2
   | exact (ac_list (by assumption) (by assumption) (by assumption)).1.symm | exact (ac_list (by assumption) (by assumption) (by assumption)).2.symm
   | exact (ac_no (by assumption) (by assumption) (by assumption) (by assumption)).1.symm | exact (ac_no (by assumption) (by assumption) (by assumption) (by assumption)).2.symm
   | exact (ac_yes (by assumption) (by assumption) (by assumption) (by assumption)).1.symm | exact (ac_yes (by assumption) (by assumption) (by assumption) (by assumption)).2.symm
   | skip)
theorem vce_iAtomCells (s : GState) (x : GAtom) (k : Nat) : VC_iAtomCells s x k = vcQ tab (lookF L_iAtomCells) (lookP P_iAtomCells) (fun _ => false) (fun _ => none) (fun _ _ => none) (fun _ => []) (bodyOf Try.f119) (entry (encs c_iAtomCells.aks (s, x, ())) (rdOf false k)) (retOk tab c_iAtomCells Try.f119.results.toList (s, x, ()) k) := by kernel_rfl
theorem ok_iAtomCells : FnOk Try.prog E 119 c_iAtomCells :=
  fn_okQ (l := L_iAtomCells) (lp := P_iAtomCells) (hp := fun _ => false) (gcs := fun _ => none) (perm := fun _ => []) tabOk mix ⟨ok_iAtomValid, ok_iStateValid, ok_termValue, ok_iWalkCells, ok_content, trivial⟩ trivial Try.func119 rfl (by kernel_rfl) (by decide) (by kernel_rfl) (anns := fun x _ => fun _ _ => none) (fun ⟨s, x, _⟩ k hp _ => (vce_iAtomCells s x k).mp (vcn_iAtomCells s x k hp)) tot_fn
end Go.Proofs.Ytfoioficiffgkaa

namespace Go.Proofs.Ytfoioficiffgkaa
open Go.SE Go.RowKit
set_option linter.unusedSimpArgs false
set_option linter.unusedVariables false
set_option maxHeartbeats 1000000
set_option maxRecDepth 100000
/-! csHas -/
abbrev c_csHas : Con := ⟨[.u16, .int], [.bool], fun (z, n, _) => 0 ≤ z ∧ z < 512, .inl fun (z, n, _) => (csHas z n, ()), fun _ => 0⟩
abbrev L_csHas : List (FuncId × Con) := [(153, c_isAddr)]
abbrev P_csHas : List (FuncId × PT) := []
def VC_csHas (z : Int) (n : Int) (k : Nat) : Prop := True ∧ True ∧ (True ∧ True ∧ True) ∧ True ∧ (vcIf (isAd n) (True ∧ True ∧ (0 ≤ n) ∧ True ∧ True ∧ True ∧ True ∧ ((((bits .and .u16 (Int.fdiv z (2 ^ (min n.toNat (IntKind.bits .u16)))) (1 : Int)) == (1 : Int), ()) : Bool × Unit) = (csHas z n, ())) ∧ True ∧ True ∧ True ∧ True ∧ TF) (True ∧ True ∧ (((false, ()) : Bool × Unit) = (csHas z n, ())) ∧ True ∧ True ∧ True ∧ True ∧ TF))
theorem vcn_csHas (z : Int) (n : Int) (k : Nat) (hp : 0 ≤ z ∧ z < 512) : VC_csHas z n k := by
  unfold VC_csHas
  simp only [cln, Nat.reduceEqDiff, Nat.reduceLeDiff, Nat.reduceAdd]
  all_goals (try simp only [opn])
  all_goals (repeat' (first | apply And.intro | intro _))
  all_goals (repeat (cases ‹_ ∧ _›))
  all_goals (first | omega | rfl | assumption | (simp_all; done) | skip)
  all_goals (first | exact cs_yes hp.1 hp.2 (by assumption) | exact cs_no (by assumption) | (have h := isAd_iff.1 ‹isAd n = true›; omega) | exact cs_yes (by assumption) (by assumption) (by assumption) | skip)
theorem vce_csHas (z : Int) (n : Int) (k : Nat) : VC_csHas z n k = vcQ tab (lookF L_csHas) (lookP P_csHas) (fun _ => false) (fun _ => none) (fun _ _ => none) (fun _ => []) (bodyOf Try.f120) (entry (encs c_csHas.aks (z, n, ())) (rdOf false k)) (retOk tab c_csHas Try.f120.results.toList (z, n, ()) k) := by kernel_rfl
theorem ok_csHas : FnOk Try.prog E 120 c_csHas :=
  fn_okQ (l := L_csHas) (lp := P_csHas) (hp := fun _ => false) (gcs := fun _ => none) (perm := fun _ => []) tabOk mix ⟨ok_isAddr, trivial⟩ trivial Try.func120 rfl (by kernel_rfl) (by decide) (by kernel_rfl) (anns := fun x _ => fun _ _ => none) (fun ⟨z, n, _⟩ k hp _ => (vce_csHas z n k).mp (vcn_csHas z n k hp)) tot_fn
end Go.Proofs.Ytfoioficiffgkaa

namespace Go.Proofs.Ytfoioficiffgkaa
open Go.SE Go.RowKit
set_option linter.unusedSimpArgs false
set_option linter.unusedVariables false
set_option maxHeartbeats 1000000
set_option maxRecDepth 100000
/-! partOf -/
abbrev c_partOf : Con := ⟨[.state, .asn], [.u16, .bool], fun (s, a, _) => s.vals.length ≤ 281474976710656 ∧ s.heap.length ≤ 281474976710656 ∧ a.facts.length ≤ 281474976710656 ∧ a.atoms.length ≤ 281474976710656, .inl fun (s, a, _) => (maskS (poL s a), poB s a, ()), fun _ => 0⟩
abbrev L_partOf : List (FuncId × Con) := [(33, c_iAssertionValid), (100, c_iStateValid), (118, c_iFactsHold), (119, c_iAtomCells), (120, c_csHas)]
abbrev P_partOf : List (FuncId × PT) := []
def an_partOf (s : GState) (a : GAsn) : Nat → St → Option Ann
  | 5, se => some { α := Nat, ok := fun i => stV s = true ∧ asV a = true ∧ fctB s a.facts = true ∧ ptI s a.atoms i, mu := fun i => a.atoms.length - i, i0 := fun _ => 0, nx := fun a _ => (fun i => i + 1) a, live := [2, 30, 31], sets := fun i => [(32, sv (.int .i64 i)), (6, sv (.int .u16 (maskS (ptL s a.atoms i))))], mids := [47], blks := fun i => [], owns := fun i => [], rd := fun r _ => r, base := 100000 }
  | 11, se => some { α := Nat, ok := fun j => j ≤ (slAt .int se (.slot 44)).length ∧ nw (ptL s a.atoms (intAt se 32).toNat) (slAt .int se (.slot 44)) j, mu := fun j => (slAt .int se (.slot 44)).length - j, i0 := fun _ => 0, nx := fun a _ => (fun j => j + 1) a, live := [2, 30, 31, 32, 44, 45], sets := fun j => [(46, sv (.int .i64 j)), (6, sv (.int .u16 (maskS (ptL s a.atoms (intAt se 32).toNat ++ (slAt .int se (.slot 44)).take j))))], mids := [47, 100624], blks := fun j => [], owns := fun j => [], rd := fun r _ => r, base := 200000 }
  | _, _ => none
def VC_partOf_1 (s : GState) (a : GAsn) (k : Nat) (i1 : Nat) (j2 : Nat) : Prop := (True ∧ (vcIf (decide (((j2 : Nat) : Int) < (((acL s (a.atoms.getD i1 (⟨0, 0, 0⟩ : GAtom))).length : Nat) : Int))) ((0 ≤ ((j2 : Nat) : Int) ∧ ((j2 : Nat) : Int) < (((acL s (a.atoms.getD i1 (⟨0, 0, 0⟩ : GAtom))).length : Nat) : Int)) ∧ True ∧ True ∧ True ∧ True ∧ ((0 ≤ (maskS (ptL s a.atoms (((i1 : Nat) : Int)).toNat ++ ((acL s (a.atoms.getD i1 (⟨0, 0, 0⟩ : GAtom)))).take j2) : Int) ∧ (maskS (ptL s a.atoms (((i1 : Nat) : Int)).toNat ++ ((acL s (a.atoms.getD i1 (⟨0, 0, 0⟩ : GAtom)))).take j2) : Int) < 512) ∧ True ∧ True) ∧ (vcIf (csHas (maskS (ptL s a.atoms (((i1 : Nat) : Int)).toNat ++ ((acL s (a.atoms.getD i1 (⟨0, 0, 0⟩ : GAtom)))).take j2) : Int) ((acL s (a.atoms.getD i1 (⟨0, 0, 0⟩ : GAtom))).getD j2 (0 : Int))) (True ∧ True ∧ ((((0 : Int), false, ()) : Int × Bool × Unit) = (maskS (poL s a), poB s a, ())) ∧ True ∧ True ∧ True ∧ True ∧ TF) (True ∧ True ∧ (0 ≤ ((acL s (a.atoms.getD i1 (⟨0, 0, 0⟩ : GAtom))).getD j2 (0 : Int))) ∧ True ∧ True ∧ (inK .i64 (((j2 : Nat) : Int) + (1 : Int))) ∧ True ∧ ((j2 + 1) ≤ ((acL s (a.atoms.getD i1 (⟨0, 0, 0⟩ : GAtom)))).length ∧ nw (ptL s a.atoms (((i1 : Nat) : Int)).toNat) ((acL s (a.atoms.getD i1 (⟨0, 0, 0⟩ : GAtom)))) (j2 + 1)) ∧ (((acL s (a.atoms.getD i1 (⟨0, 0, 0⟩ : GAtom)))).length - (j2 + 1) < ((acL s (a.atoms.getD i1 (⟨0, 0, 0⟩ : GAtom)))).length - j2) ∧ TT ∧ (RL [.s (.c (.ptr 47 0)), .s (.c (.d (.arr .atom a.atoms))), .s (.c (.d (.val (.int .i64 ((a.atoms.length : Nat) : Int))))), .s (.c (.d (.val (.int .i64 ((i1 : Nat) : Int))))), .s (.c (.own 100624)), .s (.c (.d (.val (.int .i64 (((acL s (a.atoms.getD i1 (⟨0, 0, 0⟩ : GAtom))).length : Nat) : Int)))))]) ∧ (([.s (.c (.d (.val (.int .i64 (((j2 : Nat) : Int) + (1 : Int)))))), .s (.c (.d (.val (.int .u16 (bits .or .u16 (maskS (ptL s a.atoms (((i1 : Nat) : Int)).toNat ++ ((acL s (a.atoms.getD i1 (⟨0, 0, 0⟩ : GAtom)))).take j2) : Int) (IntKind.wrap .u16 ((1 : Int) * 2 ^ (min ((acL s (a.atoms.getD i1 (⟨0, 0, 0⟩ : GAtom))).getD j2 (0 : Int)).toNat (IntKind.bits .u16)))))))))] : List S) = [.s (.c (.d (.val (.int .i64 (((j2 + 1) : Nat) : Int))))), .s (.c (.d (.val (.int .u16 (maskS (ptL s a.atoms (((i1 : Nat) : Int)).toNat ++ ((acL s (a.atoms.getD i1 (⟨0, 0, 0⟩ : GAtom)))).take (j2 + 1)) : Int)))))]) ∧ (RM [some (.blk [.d (.arr .int s.vals), .d (.arr .int s.heap)]), some (.sl 100624 .int (acL s (a.atoms.getD i1 (⟨0, 0, 0⟩ : GAtom))))]) ∧ (RM []) ∧ True ∧ TT))) ((inK .i64 (((i1 : Nat) : Int) + (1 : Int))) ∧ True ∧ (stV s = true ∧ asV a = true ∧ fctB s a.facts = true ∧ ptI s a.atoms (i1 + 1)) ∧ (a.atoms.length - (i1 + 1) < a.atoms.length - i1) ∧ TT ∧ (RL [.s (.c (.ptr 47 0)), .s (.c (.d (.arr .atom a.atoms))), .s (.c (.d (.val (.int .i64 ((a.atoms.length : Nat) : Int)))))]) ∧ (([.s (.c (.d (.val (.int .i64 (((i1 : Nat) : Int) + (1 : Int)))))), .s (.c (.d (.val (.int .u16 (maskS (ptL s a.atoms (((i1 : Nat) : Int)).toNat ++ ((acL s (a.atoms.getD i1 (⟨0, 0, 0⟩ : GAtom)))).take j2) : Int)))))] : List S) = [.s (.c (.d (.val (.int .i64 (((i1 + 1) : Nat) : Int))))), .s (.c (.d (.val (.int .u16 (maskS (ptL s a.atoms (i1 + 1)) : Int)))))]) ∧ (RM [some (.blk [.d (.arr .int s.vals), .d (.arr .int s.heap)])]) ∧ (RM []) ∧ True ∧ TT)))
def VC_partOf_2 (s : GState) (a : GAsn) (k : Nat) : Prop := (True ∧ (vcIf (!(asV a)) (True ∧ True ∧ True ∧ ((((0 : Int), false, ()) : Int × Bool × Unit) = (maskS (poL s a), poB s a, ())) ∧ True ∧ True ∧ True ∧ True ∧ TF) (True ∧ True ∧ True ∧ True ∧ ((a.facts.length ≤ 281474976710656 ∧ s.vals.length ≤ 281474976710656) ∧ True ∧ True) ∧ True ∧ True ∧ (vcIf (!(fsV a.facts && (s.vals.length == 8 && a.facts.all (holdF s.vals)))) (True ∧ True ∧ ((((0 : Int), false, ()) : Int × Bool × Unit) = (maskS (poL s a), poB s a, ())) ∧ True ∧ True ∧ True ∧ True ∧ TF) (True ∧ True ∧ True ∧ True ∧ True ∧ ((stV s = true ∧ asV a = true ∧ fctB s a.facts = true ∧ ptI s a.atoms 0) ∧ TT ∧ (RL [.s (.c (.ptr 47 0)), .s (.c (.d (.arr .atom a.atoms))), .s (.c (.d (.val (.int .i64 ((a.atoms.length : Nat) : Int)))))]) ∧ (([.s (.c (.d (.val (.int .i64 (0 : Int))))), .s (.c (.d (.val (.int .u16 (0 : Int)))))] : List S) = [.s (.c (.d (.val (.int .i64 ((0 : Nat) : Int))))), .s (.c (.d (.val (.int .u16 (maskS (ptL s a.atoms 0) : Int)))))]) ∧ (RM [some (.blk [.d (.arr .int s.vals), .d (.arr .int s.heap)])]) ∧ (RM []) ∧ True ∧ TT) ∧ (∀ i1 : Nat, (stV s = true ∧ asV a = true ∧ fctB s a.facts = true ∧ ptI s a.atoms i1) → True ∧ (vcIf (decide (((i1 : Nat) : Int) < ((a.atoms.length : Nat) : Int))) ((0 ≤ ((i1 : Nat) : Int) ∧ ((i1 : Nat) : Int) < ((a.atoms.length : Nat) : Int)) ∧ True ∧ (TN ∧ True) ∧ (TF ∧ TF) ∧ True ∧ True ∧ ((s.vals.length ≤ 281474976710656 ∧ s.heap.length ≤ 281474976710656) ∧ True ∧ TN ∧ True) ∧ True ∧ True ∧ True ∧ True ∧ True ∧ True ∧ True ∧ (vcIf (!(acB s (a.atoms.getD i1 (⟨0, 0, 0⟩ : GAtom)))) (True ∧ True ∧ ((((0 : Int), false, ()) : Int × Bool × Unit) = (maskS (poL s a), poB s a, ())) ∧ True ∧ True ∧ True ∧ True ∧ TF) (True ∧ True ∧ True ∧ ((0 ≤ ((acL s (a.atoms.getD i1 (⟨0, 0, 0⟩ : GAtom)))).length ∧ nw (ptL s a.atoms (((i1 : Nat) : Int)).toNat) ((acL s (a.atoms.getD i1 (⟨0, 0, 0⟩ : GAtom)))) 0) ∧ TT ∧ (RL [.s (.c (.ptr 47 0)), .s (.c (.d (.arr .atom a.atoms))), .s (.c (.d (.val (.int .i64 ((a.atoms.length : Nat) : Int))))), .s (.c (.d (.val (.int .i64 ((i1 : Nat) : Int))))), .s (.c (.own 100624)), .s (.c (.d (.val (.int .i64 (((acL s (a.atoms.getD i1 (⟨0, 0, 0⟩ : GAtom))).length : Nat) : Int)))))]) ∧ (([.s (.c (.d (.val (.int .i64 (0 : Int))))), .s (.c (.d (.val (.int .u16 (maskS (ptL s a.atoms i1) : Int)))))] : List S) = [.s (.c (.d (.val (.int .i64 ((0 : Nat) : Int))))), .s (.c (.d (.val (.int .u16 (maskS (ptL s a.atoms (((i1 : Nat) : Int)).toNat ++ ((acL s (a.atoms.getD i1 (⟨0, 0, 0⟩ : GAtom)))).take 0) : Int)))))]) ∧ (RM [some (.blk [.d (.arr .int s.vals), .d (.arr .int s.heap)]), some (.sl 100624 .int (acL s (a.atoms.getD i1 (⟨0, 0, 0⟩ : GAtom))))]) ∧ (RM []) ∧ True ∧ TT) ∧ (∀ j2 : Nat, (j2 ≤ ((acL s (a.atoms.getD i1 (⟨0, 0, 0⟩ : GAtom)))).length ∧ nw (ptL s a.atoms (((i1 : Nat) : Int)).toNat) ((acL s (a.atoms.getD i1 (⟨0, 0, 0⟩ : GAtom)))) j2) → (VC_partOf_1 s a k i1 j2))))) (True ∧ True ∧ True ∧ ((((maskS (ptL s a.atoms i1) : Int), true, ()) : Int × Bool × Unit) = (maskS (poL s a), poB s a, ())) ∧ True ∧ True ∧ True ∧ True ∧ TF))))))))
def VC_partOf (s : GState) (a : GAsn) (k : Nat) : Prop := TN ∧ TN ∧ True ∧ True ∧ True ∧ ((s.vals.length ≤ 281474976710656 ∧ s.heap.length ≤ 281474976710656) ∧ True ∧ True) ∧ True ∧ True ∧ (vcIf (!(stV s)) (True ∧ True ∧ True ∧ True ∧ True ∧ ((((0 : Int), false, ()) : Int × Bool × Unit) = (maskS (poL s a), poB s a, ())) ∧ True ∧ True ∧ True ∧ True ∧ TF) (True ∧ ((a.facts.length ≤ 281474976710656 ∧ a.atoms.length ≤ 281474976710656) ∧ True ∧ True) ∧ True ∧ True ∧ (VC_partOf_2 s a k)))
theorem vcn_partOf (s : GState) (a : GAsn) (k : Nat) (hp : s.vals.length ≤ 281474976710656 ∧ s.heap.length ≤ 281474976710656 ∧ a.facts.length ≤ 281474976710656 ∧ a.atoms.length ≤ 281474976710656) : VC_partOf s a k := by
  unfold VC_partOf VC_partOf_2 VC_partOf_1
  simp only [cln, Nat.reduceEqDiff, Nat.reduceLeDiff, Nat.reduceAdd]
  all_goals (try simp only [opn])
  all_goals (repeat' (first | apply And.intro | intro _))
  all_goals (repeat (cases ‹_ ∧ _›))
  all_goals (try have h7 := ‹ptI _ _ _›)
  all_goals (first | omega | assumption | skip)
  all_goals (first
   | exact (po_q1 (by assumption)).1 | exact (po_q1 (by assumption)).2
   | exact (po_q2 (by assumption)).1 | exact (po_q2 (by assumption)).2
   | exact (po_q3 (by assumption) (by assumption) (by assumption)).1 | exact (po_q3 (by assumption) (by assumption) (by assumption)).2
   | exact ptI_zero | exact nw_zero | (rw [← fct_iff (by assumption) (by assumption)]; assumption)
   | exact (po_q4 (by assumption) (by assumption) (by assumption) h7 (by assumption) (by assumption)).1 | exact (po_q4 (by assumption) (by assumption) (by assumption) h7 (by assumption) (by assumption)).2
   | exact (po_q5 (by assumption) (by assumption) (by assumption) h7 (by assumption) (by assumption) (by assumption)).1 | exact (po_q5 (by assumption) (by assumption) (by assumption) h7 (by assumption) (by assumption) (by assumption)).2
   | with_reducible exact (maskS_bd _).1 | with_reducible exact (maskS_bd _).2
   | exact po_g1 (by assumption) (by assumption) (by assumption) (by assumption)
   | exact po_g2 (by assumption) (by assumption)
   | exact (po_n (by assumption) (by assumption) h7 (by assumption) (by assumption) (by assumption) (by assumption) (by assumption)).1
   | exact (po_n (by assumption) (by assumption) h7 (by assumption) (by assumption) (by assumption) (by assumption) (by assumption)).2
   | exact (po_e (by assumption) (by assumption) (by assumption) h7 (by assumption)).1 | exact (po_e (by assumption) (by assumption) (by assumption) h7 (by assumption)).2
   | (have h := isAd_iff.1 (ac_get (by assumption) (by assumption)); omega)
   | exact jb (by assumption) | exact po_g1 (by assumption) (by assumption) (by assumption) (by assumption) _ (by assumption)
   | (rw [List.take_zero, List.append_nil]; done)
   | exact maskS_zero | exact maskS_zero.symm | rfl
   | skip)
theorem vce_partOf (s : GState) (a : GAsn) (k : Nat) : VC_partOf s a k = vcQ tab (lookF L_partOf) (lookP P_partOf) (fun _ => false) (fun _ => none) (an_partOf s a) (fun _ => []) (bodyOf Try.f62) (entry (encs c_partOf.aks (s, a, ())) (rdOf false k)) (retOk tab c_partOf Try.f62.results.toList (s, a, ()) k) := by kernel_rfl
theorem ok_partOf : FnOk Try.prog E 62 c_partOf :=
  fn_okQ (l := L_partOf) (lp := P_partOf) (hp := fun _ => false) (gcs := fun _ => none) (perm := fun _ => []) tabOk mix ⟨ok_iAssertionValid, ok_iStateValid, ok_iFactsHold, ok_iAtomCells, ok_csHas, trivial⟩ trivial Try.func62 rfl (by kernel_rfl) (by decide) (by kernel_rfl) (anns := fun x _ => an_partOf x.1 x.2.1) (fun ⟨s, a, _⟩ k hp _ => (vce_partOf s a k).mp (vcn_partOf s a k hp)) tot_fn
end Go.Proofs.Ytfoioficiffgkaa

namespace Go.Proofs.Ytfoioficiffgkaa
open Go.SE Go.RowKit
set_option linter.unusedSimpArgs false
set_option linter.unusedVariables false
set_option maxHeartbeats 1000000
set_option maxRecDepth 100000
/-! usedIn -/
abbrev c_usedIn : Con := ⟨[.state], [.u16], fun (s, _) => stV s = true, .inl fun (s, _) => (maskS (usL s 8), ()), fun _ => 0⟩
abbrev L_usedIn : List (FuncId × Con) := [(121, c_allocated)]
abbrev P_usedIn : List (FuncId × PT) := []
def an_usedIn (s : GState) : Nat → St → Option Ann
  | 3, se => some { α := Nat, ok := fun i => i ≤ 8, mu := fun i => 8 - i, i0 := fun _ => 0, nx := fun a _ => (fun i => i + 1) a, live := [1, 2], sets := fun i => [(4, sv (.int .i64 ((i : Int) + 1))), (3, sv (.int .u16 (maskS (usL s i))))], mids := [31], blks := fun i => [], owns := fun i => [], rd := fun r _ => r, base := 100000 }
  | _, _ => none
def VC_usedIn (s : GState) (k : Nat) : Prop := TN ∧ True ∧ True ∧ True ∧ ((0 ≤ 8) ∧ TT ∧ (RL [.s (.c (.ptr 31 0)), .s (.c (.d (.val (.int .u16 (0 : Int)))))]) ∧ (([.s (.c (.d (.val (.int .i64 (1 : Int))))), .s (.c (.d (.val (.int .u16 (0 : Int)))))] : List S) = [.s (.c (.d (.val (.int .i64 ((0 : Int) + 1 : Int))))), .s (.c (.d (.val (.int .u16 (maskS (usL s 0) : Int)))))]) ∧ (RM [some (.blk [.d (.arr .int s.vals), .d (.arr .int s.heap)])]) ∧ (RM []) ∧ True ∧ TT) ∧ (∀ i1 : Nat, (i1 ≤ 8) → True ∧ True ∧ (vcIf (decide (((i1 : Int) + 1 : Int) ≤ (8 : Int))) (True ∧ True ∧ ((stV s = true) ∧ True ∧ True) ∧ (vcIf (al s ((i1 : Int) + 1 : Int)) (True ∧ True ∧ (0 ≤ ((i1 : Int) + 1 : Int)) ∧ True ∧ True ∧ True ∧ (inK .i64 (((i1 : Int) + 1 : Int) + (1 : Int))) ∧ True ∧ ((i1 + 1) ≤ 8) ∧ (8 - (i1 + 1) < 8 - i1) ∧ TT ∧ (RL [.s (.c (.ptr 31 0)), .s (.c (.d (.val (.int .u16 (0 : Int)))))]) ∧ (([.s (.c (.d (.val (.int .i64 (((i1 : Int) + 1 : Int) + (1 : Int)))))), .s (.c (.d (.val (.int .u16 (bits .or .u16 (maskS (usL s i1) : Int) (IntKind.wrap .u16 ((1 : Int) * 2 ^ (min ((i1 : Int) + 1 : Int).toNat (IntKind.bits .u16)))))))))] : List S) = [.s (.c (.d (.val (.int .i64 (((i1 + 1) : Int) + 1 : Int))))), .s (.c (.d (.val (.int .u16 (maskS (usL s (i1 + 1)) : Int)))))]) ∧ (RM [some (.blk [.d (.arr .int s.vals), .d (.arr .int s.heap)])]) ∧ (RM []) ∧ True ∧ TT) (True ∧ (inK .i64 (((i1 : Int) + 1 : Int) + (1 : Int))) ∧ True ∧ ((i1 + 1) ≤ 8) ∧ (8 - (i1 + 1) < 8 - i1) ∧ TT ∧ (RL [.s (.c (.ptr 31 0)), .s (.c (.d (.val (.int .u16 (0 : Int)))))]) ∧ (([.s (.c (.d (.val (.int .i64 (((i1 : Int) + 1 : Int) + (1 : Int)))))), .s (.c (.d (.val (.int .u16 (maskS (usL s i1) : Int)))))] : List S) = [.s (.c (.d (.val (.int .i64 (((i1 + 1) : Int) + 1 : Int))))), .s (.c (.d (.val (.int .u16 (maskS (usL s (i1 + 1)) : Int)))))]) ∧ (RM [some (.blk [.d (.arr .int s.vals), .d (.arr .int s.heap)])]) ∧ (RM []) ∧ True ∧ TT))) (True ∧ True ∧ ((((maskS (usL s i1) : Int), ()) : Int × Unit) = (maskS (usL s 8), ())) ∧ True ∧ True ∧ True ∧ True ∧ TF)))
theorem vcn_usedIn (s : GState) (k : Nat) (hp : stV s = true) : VC_usedIn s k := by
  unfold VC_usedIn
  simp only [cln, Nat.reduceEqDiff, Nat.reduceLeDiff, Nat.reduceAdd]
  all_goals (try simp only [opn])
  all_goals (repeat' (first | apply And.intro | intro _))
  all_goals (repeat (cases ‹_ ∧ _›))
  all_goals (first | omega | rfl | assumption | (simp_all; done) | skip)
  all_goals (first | exact us1 (by assumption) (by assumption) | exact us2 (by assumption) (by assumption) | exact us3 (by assumption) (by assumption) | skip)
theorem vce_usedIn (s : GState) (k : Nat) : VC_usedIn s k = vcQ tab (lookF L_usedIn) (lookP P_usedIn) (fun _ => false) (fun _ => none) (an_usedIn s) (fun _ => []) (bodyOf Try.f63) (entry (encs c_usedIn.aks (s, ())) (rdOf false k)) (retOk tab c_usedIn Try.f63.results.toList (s, ()) k) := by kernel_rfl
theorem ok_usedIn : FnOk Try.prog E 63 c_usedIn :=
  fn_okQ (l := L_usedIn) (lp := P_usedIn) (hp := fun _ => false) (gcs := fun _ => none) (perm := fun _ => []) tabOk mix ⟨ok_allocated, trivial⟩ trivial Try.func63 rfl (by kernel_rfl) (by decide) (by kernel_rfl) (anns := fun x _ => an_usedIn x.1) (fun ⟨s, _⟩ k hp _ => (vce_usedIn s k).mp (vcn_usedIn s k hp)) tot_fn
end Go.Proofs.Ytfoioficiffgkaa

namespace Go.Proofs.Ytfoioficiffgkaa
open Go.SE Go.RowKit
set_option linter.unusedSimpArgs false
set_option linter.unusedVariables false
set_option maxHeartbeats 1000000
set_option maxRecDepth 100000
/-! iHolds -/
abbrev c_iHolds : Con := ⟨[.state, .asn], [.bool], fun (s, a, _) => s.vals.length ≤ 281474976710656 ∧ s.heap.length ≤ 281474976710656 ∧ a.facts.length ≤ 281474976710656 ∧ a.atoms.length ≤ 281474976710656, .inl fun (s, a, _) => (HOL s a, ()), fun _ => 0⟩
abbrev L_iHolds : List (FuncId × Con) := [(62, c_partOf), (63, c_usedIn)]
abbrev P_iHolds : List (FuncId × PT) := []
def VC_iHolds (s : GState) (a : GAsn) (k : Nat) : Prop := TN ∧ TN ∧ True ∧ True ∧ True ∧ ((s.vals.length ≤ 281474976710656 ∧ s.heap.length ≤ 281474976710656 ∧ a.facts.length ≤ 281474976710656 ∧ a.atoms.length ≤ 281474976710656) ∧ True ∧ True) ∧ True ∧ True ∧ True ∧ True ∧ True ∧ True ∧ True ∧ (vcIf (poB s a) (True ∧ True ∧ ((stV s = true) ∧ True ∧ True) ∧ True ∧ True ∧ True ∧ ((((maskS (poL s a)) == (maskS (usL s 8)), ()) : Bool × Unit) = (HOL s a, ())) ∧ True ∧ True ∧ True ∧ True ∧ TF) (True ∧ True ∧ (((false, ()) : Bool × Unit) = (HOL s a, ())) ∧ True ∧ True ∧ True ∧ True ∧ TF))
theorem vcn_iHolds (s : GState) (a : GAsn) (k : Nat) (hp : s.vals.length ≤ 281474976710656 ∧ s.heap.length ≤ 281474976710656 ∧ a.facts.length ≤ 281474976710656 ∧ a.atoms.length ≤ 281474976710656) : VC_iHolds s a k := by
  unfold VC_iHolds
  simp only [cln, Nat.reduceEqDiff, Nat.reduceLeDiff, Nat.reduceAdd]
  all_goals (try simp only [opn])
  all_goals (repeat' (first | apply And.intro | intro _))
  all_goals (repeat (cases ‹_ ∧ _›))
  all_goals (first | omega | rfl | assumption | (simp_all; done) | skip)
  all_goals (first | exact (po_v (by assumption)).1 | exact hol_mask (by assumption) | exact (hol_poF (by assumption)).symm | skip)
theorem vce_iHolds (s : GState) (a : GAsn) (k : Nat) : VC_iHolds s a k = vcQ tab (lookF L_iHolds) (lookP P_iHolds) (fun _ => false) (fun _ => none) (fun _ _ => none) (fun _ => []) (bodyOf Try.f21) (entry (encs c_iHolds.aks (s, a, ())) (rdOf false k)) (retOk tab c_iHolds Try.f21.results.toList (s, a, ()) k) := by kernel_rfl
theorem ok_iHolds : FnOk Try.prog E 21 c_iHolds :=
  fn_okQ (l := L_iHolds) (lp := P_iHolds) (hp := fun _ => false) (gcs := fun _ => none) (perm := fun _ => []) tabOk mix ⟨ok_partOf, ok_usedIn, trivial⟩ trivial Try.func21 rfl (by kernel_rfl) (by decide) (by kernel_rfl) (anns := fun x _ => fun _ _ => none) (fun ⟨s, a, _⟩ k hp _ => (vce_iHolds s a k).mp (vcn_iHolds s a k hp)) tot_fn
end Go.Proofs.Ytfoioficiffgkaa

namespace Go.Proofs.Ytfoioficiffgkaa
open Go.SE Go.RowKit
set_option linter.unusedSimpArgs false
set_option linter.unusedVariables false
set_option maxHeartbeats 1000000
set_option maxRecDepth 100000
/-! iConsistent -/
abbrev c_iConsistent : Con := ⟨[.asn], [.bool], fun (a, _) => a.facts.length ≤ 281474976710656 ∧ a.atoms.length ≤ 281474976710656, .inl fun (a, _) => (asV a && !(casesF a).isEmpty, ()), fun _ => 0⟩
abbrev L_iConsistent : List (FuncId × Con) := [(33, c_iAssertionValid), (60, c_firstCase)]
abbrev P_iConsistent : List (FuncId × PT) := []
def VC_iConsistent (a : GAsn) (k : Nat) : Prop := TN ∧ True ∧ True ∧ ((a.facts.length ≤ 281474976710656 ∧ a.atoms.length ≤ 281474976710656) ∧ True ∧ True) ∧ True ∧ (vcIf (!(asV a)) (True ∧ (((false, ()) : Bool × Unit) = (asV a && !(casesF a).isEmpty, ())) ∧ True ∧ True ∧ True ∧ True ∧ TF) (True ∧ ((asV a = true) ∧ True ∧ True) ∧ True ∧ True ∧ True ∧ (TN ∧ True) ∧ ((((casesF a).headD (List.replicate 9 0)).length = (List.replicate 9 (0 : Int)).length) ∧ TF ∧ TF) ∧ True ∧ True ∧ True ∧ ((((!(casesF a).isEmpty), ()) : Bool × Unit) = (asV a && !(casesF a).isEmpty, ())) ∧ True ∧ True ∧ True ∧ True ∧ TF))
theorem vcn_iConsistent (a : GAsn) (k : Nat) (hp : a.facts.length ≤ 281474976710656 ∧ a.atoms.length ≤ 281474976710656) : VC_iConsistent a k := by
  unfold VC_iConsistent
  simp only [cln, Nat.reduceEqDiff, Nat.reduceLeDiff, Nat.reduceAdd]
  have hl := casesF_len a
  all_goals (try simp only [opn])
  all_goals (repeat' (first | apply And.intro | intro _))
  all_goals (first | omega | (simp_all; done) | grind [])
theorem vce_iConsistent (a : GAsn) (k : Nat) : VC_iConsistent a k = vcQ tab (lookF L_iConsistent) (lookP P_iConsistent) (fun _ => false) (fun _ => none) (fun _ _ => none) (fun _ => []) (bodyOf Try.f22) (entry (encs c_iConsistent.aks (a, ())) (rdOf false k)) (retOk tab c_iConsistent Try.f22.results.toList (a, ()) k) := by kernel_rfl
theorem ok_iConsistent : FnOk Try.prog E 22 c_iConsistent :=
  fn_okQ (l := L_iConsistent) (lp := P_iConsistent) (hp := fun _ => false) (gcs := fun _ => none) (perm := fun _ => []) tabOk mix ⟨ok_iAssertionValid, ok_firstCase, trivial⟩ trivial Try.func22 rfl (by kernel_rfl) (by decide) (by kernel_rfl) (anns := fun x _ => fun _ _ => none) (fun ⟨a, _⟩ k hp _ => (vce_iConsistent a k).mp (vcn_iConsistent a k hp)) tot_fn
end Go.Proofs.Ytfoioficiffgkaa
