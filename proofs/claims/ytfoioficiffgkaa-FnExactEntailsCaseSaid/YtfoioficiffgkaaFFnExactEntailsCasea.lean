/-
  Contracts of single functions of the program, each shown by the engine: what a call returns for arguments within the contract's bounds.
-/
import Derived.Test.YtfoioficiffgkaaProg
import Derived.KernelRfl
import Derived.Test.YtfoioficiffgkaaEd
import Derived.Test.YtfoioficiffgkaaEe
import Derived.Test.YtfoioficiffgkaaEf
set_option linter.unusedSimpArgs false
set_option linter.unusedVariables false
set_option linter.unusedSectionVars false

namespace Go.Proofs.Ytfoioficiffgkaa
open Go.SE Go.RowKit
def E : Ty → TypeId
  | .int => 3
  | .bool => 4
  | .u8 => 5
  | .fact => 56
  | .atom => 61
  | .cmd => 0
  | .ints => 31
def tabL : List (TypeId × TI) := [
  (2, ⟨1, 8, .sc (.int .i64 0)⟩),
  (3, ⟨1, 8, .sc (.int .i64 0)⟩),
  (4, ⟨1, 1, .sc (.bool false)⟩),
  (5, ⟨1, 1, .sc (.int .u8 0)⟩),
  (7, ⟨4, 24, .st [.sc (.int .i64 0), .sc (.int .i64 0), .sc (.bool false), .sc (.int .u8 0)] [(0, 1, false), (1, 1, false), (2, 1, false), (3, 1, false)]⟩),
  (9, ⟨1, 16, .sc (.string ⟨#[]⟩)⟩),
  (12, ⟨1, 8, .sc (.int .u64 0)⟩),
  (13, ⟨2, 24, .st [.sc (.string ⟨#[]⟩), .sc (.int .u64 0)] [(0, 1, false), (1, 1, false)]⟩),
  (21, ⟨1, 4, .sc (.int .i32 0)⟩),
  (22, ⟨1, 24, .sl true 5 .u8⟩),
  (23, ⟨1, 24, .sl true 56 .fact⟩),
  (24, ⟨1, 24, .sl true 61 .atom⟩),
  (25, ⟨2, 48, .st [.sl .fact, .sl .atom] [(0, 1, false), (1, 1, false)]⟩),
  (26, ⟨2, 48, .st [.sl .fact, .sl .atom] [(0, 1, false), (1, 1, false)]⟩),
  (31, ⟨1, 24, .sl true 3 .int⟩),
  (32, ⟨2, 48, .st [.sl .int, .sl .int] [(0, 1, false), (1, 1, false)]⟩),
  (33, ⟨2, 48, .st [.sl .int, .sl .int] [(0, 1, false), (1, 1, false)]⟩),
  (41, ⟨1, 24, .sl false 144 .fact⟩),
  (42, ⟨1, 24, .sl false 146 .atom⟩),
  (43, ⟨2, 48, .st [.sl .fact, .sl .atom] [(0, 1, false), (1, 1, false)]⟩),
  (44, ⟨2, 48, .st [.sl .fact, .sl .atom] [(0, 1, false), (1, 1, false)]⟩),
  (55, ⟨3, 24, .st [.sc (.bool false), .sc (.int .i64 0), .sc (.int .i64 0)] [(0, 1, false), (1, 1, false), (2, 1, false)]⟩),
  (56, ⟨3, 24, .st [.sc (.bool false), .sc (.int .i64 0), .sc (.int .i64 0)] [(0, 1, false), (1, 1, false), (2, 1, false)]⟩),
  (60, ⟨3, 24, .st [.sc (.int .i64 0), .sc (.int .i64 0), .sc (.int .i64 0)] [(0, 1, false), (1, 1, false), (2, 1, false)]⟩),
  (61, ⟨3, 24, .st [.sc (.int .i64 0), .sc (.int .i64 0), .sc (.int .i64 0)] [(0, 1, false), (1, 1, false), (2, 1, false)]⟩),
  (81, ⟨9, 72, .ar 9 3 .int⟩),
  (82, ⟨9, 72, .ar 9 3 .int⟩),
  (86, ⟨1, 2, .sc (.int .u16 0)⟩),
  (87, ⟨1, 2, .sc (.int .u16 0)⟩),
  (94, ⟨1, 24, .sl true 4 .bool⟩),
  (99, ⟨1, 2, .sc (.int .u16 0)⟩),
  (101, ⟨1, 24, .sl true 31 .ints⟩),
  (130, ⟨2, 32, .st [.sl .u8, .sc (.int .i64 0)] [(0, 1, false), (1, 1, false)]⟩),
  (131, ⟨2, 32, .st [.sl .u8, .sc (.int .i64 0)] [(0, 1, false), (1, 1, false)]⟩),
  (144, ⟨3, 24, .st [.sc (.bool false), .sc (.int .i64 0), .sc (.int .i64 0)] [(0, 1, false), (1, 1, false), (2, 1, false)]⟩),
  (146, ⟨3, 24, .st [.sc (.int .i64 0), .sc (.int .i64 0), .sc (.int .i64 0)] [(0, 1, false), (1, 1, false), (2, 1, false)]⟩),
  (148, ⟨6, 6, .ar 6 4 .bool⟩),
  (149, ⟨8, 40, .st [.sl .atom, .sc (.bool false), .sc (.bool false), .sc (.bool false), .sc (.bool false), .sc (.bool false), .sc (.bool false), .sc (.int .i64 0)] [(0, 1, false), (1, 6, true), (7, 1, false)]⟩),
  (150, ⟨8, 40, .st [.sl .atom, .sc (.bool false), .sc (.bool false), .sc (.bool false), .sc (.bool false), .sc (.bool false), .sc (.bool false), .sc (.int .i64 0)] [(0, 1, false), (1, 6, true), (7, 1, false)]⟩),
  (178, ⟨1, 4, .sc (.int .u32 0)⟩),
  (190, ⟨1, 8, .sc (.int .u64 0)⟩)]
def tab : TypeId → Option TI := lookT tabL
theorem tab2 : tab 2 = some ⟨1, 8, .sc (.int .i64 0)⟩ := rfl
theorem tab3 : tab 3 = some ⟨1, 8, .sc (.int .i64 0)⟩ := rfl
theorem tab4 : tab 4 = some ⟨1, 1, .sc (.bool false)⟩ := rfl
theorem tab5 : tab 5 = some ⟨1, 1, .sc (.int .u8 0)⟩ := rfl
theorem tab7 : tab 7 = some ⟨4, 24, .st [.sc (.int .i64 0), .sc (.int .i64 0), .sc (.bool false), .sc (.int .u8 0)] [(0, 1, false), (1, 1, false), (2, 1, false), (3, 1, false)]⟩ := rfl
theorem tab9 : tab 9 = some ⟨1, 16, .sc (.string ⟨#[]⟩)⟩ := rfl
theorem tab12 : tab 12 = some ⟨1, 8, .sc (.int .u64 0)⟩ := rfl
theorem tab13 : tab 13 = some ⟨2, 24, .st [.sc (.string ⟨#[]⟩), .sc (.int .u64 0)] [(0, 1, false), (1, 1, false)]⟩ := rfl
theorem tab21 : tab 21 = some ⟨1, 4, .sc (.int .i32 0)⟩ := rfl
theorem tab22 : tab 22 = some ⟨1, 24, .sl true 5 .u8⟩ := rfl
theorem tab23 : tab 23 = some ⟨1, 24, .sl true 56 .fact⟩ := rfl
theorem tab24 : tab 24 = some ⟨1, 24, .sl true 61 .atom⟩ := rfl
theorem tab25 : tab 25 = some ⟨2, 48, .st [.sl .fact, .sl .atom] [(0, 1, false), (1, 1, false)]⟩ := rfl
theorem tab26 : tab 26 = some ⟨2, 48, .st [.sl .fact, .sl .atom] [(0, 1, false), (1, 1, false)]⟩ := rfl
theorem tab31 : tab 31 = some ⟨1, 24, .sl true 3 .int⟩ := rfl
theorem tab32 : tab 32 = some ⟨2, 48, .st [.sl .int, .sl .int] [(0, 1, false), (1, 1, false)]⟩ := rfl
theorem tab33 : tab 33 = some ⟨2, 48, .st [.sl .int, .sl .int] [(0, 1, false), (1, 1, false)]⟩ := rfl
theorem tab41 : tab 41 = some ⟨1, 24, .sl false 144 .fact⟩ := rfl
theorem tab42 : tab 42 = some ⟨1, 24, .sl false 146 .atom⟩ := rfl
theorem tab43 : tab 43 = some ⟨2, 48, .st [.sl .fact, .sl .atom] [(0, 1, false), (1, 1, false)]⟩ := rfl
theorem tab44 : tab 44 = some ⟨2, 48, .st [.sl .fact, .sl .atom] [(0, 1, false), (1, 1, false)]⟩ := rfl
theorem tab55 : tab 55 = some ⟨3, 24, .st [.sc (.bool false), .sc (.int .i64 0), .sc (.int .i64 0)] [(0, 1, false), (1, 1, false), (2, 1, false)]⟩ := rfl
theorem tab56 : tab 56 = some ⟨3, 24, .st [.sc (.bool false), .sc (.int .i64 0), .sc (.int .i64 0)] [(0, 1, false), (1, 1, false), (2, 1, false)]⟩ := rfl
theorem tab60 : tab 60 = some ⟨3, 24, .st [.sc (.int .i64 0), .sc (.int .i64 0), .sc (.int .i64 0)] [(0, 1, false), (1, 1, false), (2, 1, false)]⟩ := rfl
theorem tab61 : tab 61 = some ⟨3, 24, .st [.sc (.int .i64 0), .sc (.int .i64 0), .sc (.int .i64 0)] [(0, 1, false), (1, 1, false), (2, 1, false)]⟩ := rfl
theorem tab81 : tab 81 = some ⟨9, 72, .ar 9 3 .int⟩ := rfl
theorem tab82 : tab 82 = some ⟨9, 72, .ar 9 3 .int⟩ := rfl
theorem tab86 : tab 86 = some ⟨1, 2, .sc (.int .u16 0)⟩ := rfl
theorem tab87 : tab 87 = some ⟨1, 2, .sc (.int .u16 0)⟩ := rfl
theorem tab94 : tab 94 = some ⟨1, 24, .sl true 4 .bool⟩ := rfl
theorem tab99 : tab 99 = some ⟨1, 2, .sc (.int .u16 0)⟩ := rfl
theorem tab101 : tab 101 = some ⟨1, 24, .sl true 31 .ints⟩ := rfl
theorem tab130 : tab 130 = some ⟨2, 32, .st [.sl .u8, .sc (.int .i64 0)] [(0, 1, false), (1, 1, false)]⟩ := rfl
theorem tab131 : tab 131 = some ⟨2, 32, .st [.sl .u8, .sc (.int .i64 0)] [(0, 1, false), (1, 1, false)]⟩ := rfl
theorem tab144 : tab 144 = some ⟨3, 24, .st [.sc (.bool false), .sc (.int .i64 0), .sc (.int .i64 0)] [(0, 1, false), (1, 1, false), (2, 1, false)]⟩ := rfl
theorem tab146 : tab 146 = some ⟨3, 24, .st [.sc (.int .i64 0), .sc (.int .i64 0), .sc (.int .i64 0)] [(0, 1, false), (1, 1, false), (2, 1, false)]⟩ := rfl
theorem tab148 : tab 148 = some ⟨6, 6, .ar 6 4 .bool⟩ := rfl
theorem tab149 : tab 149 = some ⟨8, 40, .st [.sl .atom, .sc (.bool false), .sc (.bool false), .sc (.bool false), .sc (.bool false), .sc (.bool false), .sc (.bool false), .sc (.int .i64 0)] [(0, 1, false), (1, 6, true), (7, 1, false)]⟩ := rfl
theorem tab150 : tab 150 = some ⟨8, 40, .st [.sl .atom, .sc (.bool false), .sc (.bool false), .sc (.bool false), .sc (.bool false), .sc (.bool false), .sc (.bool false), .sc (.int .i64 0)] [(0, 1, false), (1, 6, true), (7, 1, false)]⟩ := rfl
theorem tab178 : tab 178 = some ⟨1, 4, .sc (.int .u32 0)⟩ := rfl
theorem tab190 : tab 190 = some ⟨1, 8, .sc (.int .u64 0)⟩ := rfl
theorem tabOk : TabOk Try.prog E tab := tab_ok (by kernel_rfl)
theorem mix : Try.prog.follows .mixedOrders = true := by kernel_rfl
end Go.Proofs.Ytfoioficiffgkaa

namespace Go.Proofs.Ytfoioficiffgkaa
open Go.SE Go.RowKit
set_option linter.unusedSimpArgs false
set_option linter.unusedVariables false
set_option maxHeartbeats 1000000
set_option maxRecDepth 100000
/-! szFactS -/
abbrev c_szFactS : Con := ⟨[.sl .fact, .int], [.int], fun (l, left, _) => l.length ≤ 281474976710656 ∧ 0 ≤ left ∧ left ≤ 1048576, .inl fun (l, left, _) => (sz1 left l.length, ()), fun _ => 0⟩
abbrev L_szFactS : List (FuncId × Con) := []
abbrev P_szFactS : List (FuncId × PT) := []
def VC_szFactS (l : List GFact) (left : Int) (k : Nat) : Prop := True ∧ True ∧ True ∧ True ∧ (inK .i64 (left - ((l.length : Nat) : Int))) ∧ True ∧ True ∧ True ∧ (vcIf (decide ((left - ((l.length : Nat) : Int)) < (0 : Int))) (True ∧ ((((-1 : Int), ()) : Int × Unit) = (sz1 left l.length, ())) ∧ True ∧ True ∧ True ∧ True ∧ TF) (True ∧ True ∧ (((left - ((l.length : Nat) : Int), ()) : Int × Unit) = (sz1 left l.length, ())) ∧ True ∧ True ∧ True ∧ True ∧ TF))
theorem vcn_szFactS (l : List GFact) (left : Int) (k : Nat) (hp : l.length ≤ 281474976710656 ∧ 0 ≤ left ∧ left ≤ 1048576) : VC_szFactS l left k := by
  unfold VC_szFactS
  simp only [cln, Nat.reduceEqDiff, Nat.reduceLeDiff, Nat.reduceAdd]
  unfold sz1
  by_cases h : left - l.length < 0 <;> simp [vcIf, h] <;> omega
theorem vce_szFactS (l : List GFact) (left : Int) (k : Nat) : VC_szFactS l left k = vcQ tab (lookF L_szFactS) (lookP P_szFactS) (fun _ => false) (fun _ => none) (fun _ _ => none) (fun _ => []) (bodyOf Try.f64) (entry (encs c_szFactS.aks (l, left, ())) (rdOf false k)) (retOk tab c_szFactS Try.f64.results.toList (l, left, ()) k) := by kernel_rfl
theorem ok_szFactS : FnOk Try.prog E 64 c_szFactS :=
  fn_okQ (l := L_szFactS) (lp := P_szFactS) (hp := fun _ => false) (gcs := fun _ => none) (perm := fun _ => []) tabOk mix trivial trivial Try.func64 rfl (by kernel_rfl) (by decide) (by kernel_rfl) (anns := fun x _ => fun _ _ => none) (fun ⟨l, left, _⟩ k hp _ => (vce_szFactS l left k).mp (vcn_szFactS l left k hp)) tot_fn
end Go.Proofs.Ytfoioficiffgkaa

namespace Go.Proofs.Ytfoioficiffgkaa
open Go.SE Go.RowKit
set_option linter.unusedSimpArgs false
set_option linter.unusedVariables false
set_option maxHeartbeats 1000000
set_option maxRecDepth 100000
/-! szAtomS -/
abbrev c_szAtomS : Con := ⟨[.sl .atom, .int], [.int], fun (l, left, _) => l.length ≤ 281474976710656 ∧ 0 ≤ left ∧ left ≤ 1048576, .inl fun (l, left, _) => (sz1 left l.length, ()), fun _ => 0⟩
abbrev L_szAtomS : List (FuncId × Con) := []
abbrev P_szAtomS : List (FuncId × PT) := []
def VC_szAtomS (l : List GAtom) (left : Int) (k : Nat) : Prop := True ∧ True ∧ True ∧ True ∧ (inK .i64 (left - ((l.length : Nat) : Int))) ∧ True ∧ True ∧ True ∧ (vcIf (decide ((left - ((l.length : Nat) : Int)) < (0 : Int))) (True ∧ ((((-1 : Int), ()) : Int × Unit) = (sz1 left l.length, ())) ∧ True ∧ True ∧ True ∧ True ∧ TF) (True ∧ True ∧ (((left - ((l.length : Nat) : Int), ()) : Int × Unit) = (sz1 left l.length, ())) ∧ True ∧ True ∧ True ∧ True ∧ TF))
theorem vcn_szAtomS (l : List GAtom) (left : Int) (k : Nat) (hp : l.length ≤ 281474976710656 ∧ 0 ≤ left ∧ left ≤ 1048576) : VC_szAtomS l left k := by
  unfold VC_szAtomS
  simp only [cln, Nat.reduceEqDiff, Nat.reduceLeDiff, Nat.reduceAdd]
  unfold sz1
  by_cases h : left - l.length < 0 <;> simp [vcIf, h] <;> omega
theorem vce_szAtomS (l : List GAtom) (left : Int) (k : Nat) : VC_szAtomS l left k = vcQ tab (lookF L_szAtomS) (lookP P_szAtomS) (fun _ => false) (fun _ => none) (fun _ _ => none) (fun _ => []) (bodyOf Try.f65) (entry (encs c_szAtomS.aks (l, left, ())) (rdOf false k)) (retOk tab c_szAtomS Try.f65.results.toList (l, left, ()) k) := by kernel_rfl
theorem ok_szAtomS : FnOk Try.prog E 65 c_szAtomS :=
  fn_okQ (l := L_szAtomS) (lp := P_szAtomS) (hp := fun _ => false) (gcs := fun _ => none) (perm := fun _ => []) tabOk mix trivial trivial Try.func65 rfl (by kernel_rfl) (by decide) (by kernel_rfl) (anns := fun x _ => fun _ _ => none) (fun ⟨l, left, _⟩ k hp _ => (vce_szAtomS l left k).mp (vcn_szAtomS l left k hp)) tot_fn
end Go.Proofs.Ytfoioficiffgkaa

namespace Go.Proofs.Ytfoioficiffgkaa
open Go.SE Go.RowKit
set_option linter.unusedSimpArgs false
set_option linter.unusedVariables false
set_option maxHeartbeats 1000000
set_option maxRecDepth 100000
/-! szAssertion -/
abbrev c_szAssertion : Con := ⟨[.asn, .int], [.int], fun (a, left, _) => a.facts.length ≤ 281474976710656 ∧ a.atoms.length ≤ 281474976710656 ∧ 0 ≤ left ∧ left ≤ 1048576, .inl fun (a, left, _) => (szA a left, ()), fun _ => 0⟩
abbrev L_szAssertion : List (FuncId × Con) := [(64, c_szFactS), (65, c_szAtomS)]
abbrev P_szAssertion : List (FuncId × PT) := []
def VC_szAssertion (a : GAsn) (left : Int) (k : Nat) : Prop := TN ∧ True ∧ True ∧ True ∧ True ∧ ((a.facts.length ≤ 281474976710656 ∧ 0 ≤ left ∧ left ≤ 1048576) ∧ True ∧ True) ∧ True ∧ True ∧ True ∧ (vcIf (decide ((sz1 left a.facts.length) < (0 : Int))) (True ∧ ((((-1 : Int), ()) : Int × Unit) = (szA a left, ())) ∧ True ∧ True ∧ True ∧ True ∧ TF) (True ∧ True ∧ True ∧ ((a.atoms.length ≤ 281474976710656 ∧ 0 ≤ (sz1 left a.facts.length) ∧ (sz1 left a.facts.length) ≤ 1048576) ∧ True ∧ True) ∧ True ∧ True ∧ True ∧ (vcIf (decide ((sz1 (sz1 left a.facts.length) a.atoms.length) < (0 : Int))) (True ∧ ((((-1 : Int), ()) : Int × Unit) = (szA a left, ())) ∧ True ∧ True ∧ True ∧ True ∧ TF) (True ∧ True ∧ ((((sz1 (sz1 left a.facts.length) a.atoms.length), ()) : Int × Unit) = (szA a left, ())) ∧ True ∧ True ∧ True ∧ True ∧ TF))))
theorem vcn_szAssertion (a : GAsn) (left : Int) (k : Nat) (hp : a.facts.length ≤ 281474976710656 ∧ a.atoms.length ≤ 281474976710656 ∧ 0 ≤ left ∧ left ≤ 1048576) : VC_szAssertion a left k := by
  unfold VC_szAssertion
  simp only [cln, Nat.reduceEqDiff, Nat.reduceLeDiff, Nat.reduceAdd]
  all_goals (try simp only [opn])
  all_goals (repeat' (first | apply And.intro | intro _))
  all_goals (first | omega | (simp_all; done) | grind [szA, sz1])
theorem vce_szAssertion (a : GAsn) (left : Int) (k : Nat) : VC_szAssertion a left k = vcQ tab (lookF L_szAssertion) (lookP P_szAssertion) (fun _ => false) (fun _ => none) (fun _ _ => none) (fun _ => []) (bodyOf Try.f23) (entry (encs c_szAssertion.aks (a, left, ())) (rdOf false k)) (retOk tab c_szAssertion Try.f23.results.toList (a, left, ()) k) := by kernel_rfl
theorem ok_szAssertion : FnOk Try.prog E 23 c_szAssertion :=
  fn_okQ (l := L_szAssertion) (lp := P_szAssertion) (hp := fun _ => false) (gcs := fun _ => none) (perm := fun _ => []) tabOk mix ⟨ok_szFactS, ok_szAtomS, trivial⟩ trivial Try.func23 rfl (by kernel_rfl) (by decide) (by kernel_rfl) (anns := fun x _ => fun _ _ => none) (fun ⟨a, left, _⟩ k hp _ => (vce_szAssertion a left k).mp (vcn_szAssertion a left k hp)) tot_fn
end Go.Proofs.Ytfoioficiffgkaa

namespace Go.Proofs.Ytfoioficiffgkaa
open Go.SE Go.RowKit
set_option linter.unusedSimpArgs false
set_option linter.unusedVariables false
set_option maxHeartbeats 1000000
set_option maxRecDepth 100000
/-! l1Is -/
abbrev c_l1Is : Con := ⟨[.int], [.bool], fun _ => True, .inl fun (t, _) => (isT t, ()), fun _ => 0⟩
abbrev L_l1Is : List (FuncId × Con) := []
abbrev P_l1Is : List (FuncId × PT) := []
def VC_l1Is (t : Int) (k : Nat) : Prop := True ∧ True ∧ True ∧ True ∧ (vcIf (decide ((0 : Int) ≤ t)) (True ∧ True ∧ True ∧ True ∧ (((decide (t ≤ (8 : Int)), ()) : Bool × Unit) = (isT t, ())) ∧ True ∧ True ∧ True ∧ True ∧ TF) (True ∧ True ∧ (((false, ()) : Bool × Unit) = (isT t, ())) ∧ True ∧ True ∧ True ∧ True ∧ TF))
theorem vcn_l1Is (t : Int) (k : Nat) : VC_l1Is t k := by
  unfold VC_l1Is
  simp only [cln, Nat.reduceEqDiff, Nat.reduceLeDiff, Nat.reduceAdd]
  cases h : decide (0 ≤ t) <;> simp [vcIf, isT, h]
theorem vce_l1Is (t : Int) (k : Nat) : VC_l1Is t k = vcQ tab (lookF L_l1Is) (lookP P_l1Is) (fun _ => false) (fun _ => none) (fun _ _ => none) (fun _ => []) (bodyOf Try.f140) (entry (encs c_l1Is.aks (t, ())) (rdOf false k)) (retOk tab c_l1Is Try.f140.results.toList (t, ()) k) := by kernel_rfl
theorem ok_l1Is : FnOk Try.prog E 140 c_l1Is :=
  fn_okQ (l := L_l1Is) (lp := P_l1Is) (hp := fun _ => false) (gcs := fun _ => none) (perm := fun _ => []) tabOk mix trivial trivial Try.func140 rfl (by kernel_rfl) (by decide) (by kernel_rfl) (anns := fun x _ => fun _ _ => none) (fun ⟨t, _⟩ k _ _ => (vce_l1Is t k).mp (vcn_l1Is t k)) tot_fn
end Go.Proofs.Ytfoioficiffgkaa

namespace Go.Proofs.Ytfoioficiffgkaa
open Go.SE Go.RowKit
set_option linter.unusedSimpArgs false
set_option linter.unusedVariables false
set_option maxHeartbeats 1000000
set_option maxRecDepth 100000
/-! l3Atom -/
abbrev c_l3Atom : Con := ⟨[.atom], [.bool], fun _ => True, .inl fun (x, _) => (atV x, ()), fun _ => 0⟩
abbrev L_l3Atom : List (FuncId × Con) := [(140, c_l1Is)]
abbrev P_l3Atom : List (FuncId × PT) := []
def VC_l3Atom (x : GAtom) (k : Nat) : Prop := TN ∧ True ∧ True ∧ True ∧ True ∧ True ∧ (vcIf (x.kind == (1 : Int)) (True ∧ True ∧ True ∧ True ∧ (True ∧ True ∧ True) ∧ True ∧ True ∧ (vcIf (isT x.a) (True ∧ True ∧ (True ∧ True ∧ True) ∧ True ∧ True ∧ ((((isT x.b), ()) : Bool × Unit) = (atV x, ())) ∧ True ∧ True ∧ True ∧ True ∧ TF) (True ∧ True ∧ (((false, ()) : Bool × Unit) = (atV x, ())) ∧ True ∧ True ∧ True ∧ True ∧ TF))) (True ∧ True ∧ True ∧ True ∧ True ∧ (vcIf (x.kind == (2 : Int)) (True ∧ True ∧ (True ∧ True ∧ True) ∧ True ∧ True ∧ (vcIf (isT x.a) (True ∧ True ∧ (True ∧ True ∧ True) ∧ True ∧ True ∧ ((((isT x.b), ()) : Bool × Unit) = (atV x, ())) ∧ True ∧ True ∧ True ∧ True ∧ TF) (True ∧ True ∧ (((false, ()) : Bool × Unit) = (atV x, ())) ∧ True ∧ True ∧ True ∧ True ∧ TF))) (True ∧ True ∧ True ∧ True ∧ (((false, ()) : Bool × Unit) = (atV x, ())) ∧ True ∧ True ∧ True ∧ True ∧ TF))))
theorem vcn_l3Atom (x : GAtom) (k : Nat) : VC_l3Atom x k := by
  unfold VC_l3Atom
  simp only [cln, Nat.reduceEqDiff, Nat.reduceLeDiff, Nat.reduceAdd]
  all_goals (try simp only [opn])
  all_goals (repeat' (first | apply And.intro | intro _))
  all_goals (first | omega | (simp_all; done) | grind [atV])
theorem vce_l3Atom (x : GAtom) (k : Nat) : VC_l3Atom x k = vcQ tab (lookF L_l3Atom) (lookP P_l3Atom) (fun _ => false) (fun _ => none) (fun _ _ => none) (fun _ => []) (bodyOf Try.f111) (entry (encs c_l3Atom.aks (x, ())) (rdOf false k)) (retOk tab c_l3Atom Try.f111.results.toList (x, ()) k) := by kernel_rfl
theorem ok_l3Atom : FnOk Try.prog E 111 c_l3Atom :=
  fn_okQ (l := L_l3Atom) (lp := P_l3Atom) (hp := fun _ => false) (gcs := fun _ => none) (perm := fun _ => []) tabOk mix ⟨ok_l1Is, trivial⟩ trivial Try.func111 rfl (by kernel_rfl) (by decide) (by kernel_rfl) (anns := fun x _ => fun _ _ => none) (fun ⟨x, _⟩ k _ _ => (vce_l3Atom x k).mp (vcn_l3Atom x k)) tot_fn
end Go.Proofs.Ytfoioficiffgkaa

namespace Go.Proofs.Ytfoioficiffgkaa
open Go.SE Go.RowKit
set_option linter.unusedSimpArgs false
set_option linter.unusedVariables false
set_option maxHeartbeats 1000000
set_option maxRecDepth 100000
/-! sFactValid -/
abbrev c_sFactValid : Con := ⟨[.fact], [.bool], fun _ => True, .inl fun (f, _) => (fV f, ()), fun _ => 0⟩
abbrev L_sFactValid : List (FuncId × Con) := [(140, c_l1Is)]
abbrev P_sFactValid : List (FuncId × PT) := []
def VC_sFactValid (f : GFact) (k : Nat) : Prop := TN ∧ True ∧ True ∧ True ∧ (True ∧ True ∧ True) ∧ True ∧ (vcIf (isT f.a) (True ∧ True ∧ (True ∧ True ∧ True) ∧ True ∧ True ∧ ((((isT f.b), ()) : Bool × Unit) = (fV f, ())) ∧ True ∧ True ∧ True ∧ True ∧ TF) (True ∧ True ∧ (((false, ()) : Bool × Unit) = (fV f, ())) ∧ True ∧ True ∧ True ∧ True ∧ TF))
theorem vcn_sFactValid (f : GFact) (k : Nat) : VC_sFactValid f k := by
  unfold VC_sFactValid
  simp only [cln, Nat.reduceEqDiff, Nat.reduceLeDiff, Nat.reduceAdd]
  cases h : isT f.a <;> simp [vcIf, fV, h]
theorem vce_sFactValid (f : GFact) (k : Nat) : VC_sFactValid f k = vcQ tab (lookF L_sFactValid) (lookP P_sFactValid) (fun _ => false) (fun _ => none) (fun _ _ => none) (fun _ => []) (bodyOf Try.f91) (entry (encs c_sFactValid.aks (f, ())) (rdOf false k)) (retOk tab c_sFactValid Try.f91.results.toList (f, ()) k) := by kernel_rfl
theorem ok_sFactValid : FnOk Try.prog E 91 c_sFactValid :=
  fn_okQ (l := L_sFactValid) (lp := P_sFactValid) (hp := fun _ => false) (gcs := fun _ => none) (perm := fun _ => []) tabOk mix ⟨ok_l1Is, trivial⟩ trivial Try.func91 rfl (by kernel_rfl) (by decide) (by kernel_rfl) (anns := fun x _ => fun _ _ => none) (fun ⟨f, _⟩ k _ _ => (vce_sFactValid f k).mp (vcn_sFactValid f k)) tot_fn
end Go.Proofs.Ytfoioficiffgkaa

namespace Go.Proofs.Ytfoioficiffgkaa
open Go.SE Go.RowKit
set_option linter.unusedSimpArgs false
set_option linter.unusedVariables false
set_option maxHeartbeats 1000000
set_option maxRecDepth 100000
/-! sFactsValid -/
abbrev c_sFactsValid : Con := ⟨[.sl .fact], [.bool], fun (l, _) => l.length ≤ 281474976710656, .inl fun (l, _) => (fsV l, ()), fun _ => 0⟩
abbrev L_sFactsValid : List (FuncId × Con) := [(91, c_sFactValid)]
abbrev P_sFactsValid : List (FuncId × PT) := []
def an_sFactsValid (l : List GFact) : Nat → St → Option Ann
  | 2, se => some { α := Nat, ok := fun i => i ≤ l.length ∧ (l.take i).all fV = true, mu := fun i => l.length - i, i0 := fun _ => 0, nx := fun a _ => (fun i => i + 1) a, live := [0], sets := fun i => [(3, sv (.int .i64 i))], mids := [], blks := fun i => [], owns := fun i => [], rd := fun r _ => r, base := 100000 }
  | _, _ => none
def VC_sFactsValid (l : List GFact) (k : Nat) : Prop := True ∧ True ∧ ((0 ≤ l.length ∧ (l.take 0).all fV = true) ∧ TT ∧ (RL [.s (.c (.d (.arr .fact l)))]) ∧ (([.s (.c (.d (.val (.int .i64 (0 : Int)))))] : List S) = [.s (.c (.d (.val (.int .i64 ((0 : Nat) : Int)))))]) ∧ (RM []) ∧ (RM []) ∧ True ∧ TT) ∧ (∀ i1 : Nat, (i1 ≤ l.length ∧ (l.take i1).all fV = true) → True ∧ True ∧ True ∧ True ∧ (vcIf (decide (((i1 : Nat) : Int) < ((l.length : Nat) : Int))) (True ∧ True ∧ (0 ≤ ((i1 : Nat) : Int) ∧ ((i1 : Nat) : Int) < ((l.length : Nat) : Int)) ∧ True ∧ (True ∧ True ∧ True) ∧ True ∧ (vcIf (!(fV (l.getD i1 (⟨false, 0, 0⟩ : GFact)))) (True ∧ (((false, ()) : Bool × Unit) = (fsV l, ())) ∧ True ∧ True ∧ True ∧ True ∧ TF) (True ∧ (inK .i64 (((i1 : Nat) : Int) + (1 : Int))) ∧ True ∧ ((i1 + 1) ≤ l.length ∧ (l.take (i1 + 1)).all fV = true) ∧ (l.length - (i1 + 1) < l.length - i1) ∧ TT ∧ (RL [.s (.c (.d (.arr .fact l)))]) ∧ (([.s (.c (.d (.val (.int .i64 (((i1 : Nat) : Int) + (1 : Int))))))] : List S) = [.s (.c (.d (.val (.int .i64 (((i1 + 1) : Nat) : Int)))))]) ∧ (RM []) ∧ (RM []) ∧ True ∧ TT))) (True ∧ True ∧ True ∧ True ∧ (((decide (((l.length : Nat) : Int) ≤ (12 : Int)), ()) : Bool × Unit) = (fsV l, ())) ∧ True ∧ True ∧ True ∧ True ∧ TF)))
theorem vcn_sFactsValid (l : List GFact) (k : Nat) (hp : l.length ≤ 281474976710656) : VC_sFactsValid l k := by
  unfold VC_sFactsValid
  simp only [cln, Nat.reduceEqDiff, Nat.reduceLeDiff, Nat.reduceAdd]
  all_goals (try simp only [opn])
  all_goals (repeat' (first | apply And.intro | intro _))
  all_goals (first | omega | (simp_all; done) | grind [fsV, take_all, all_take, take_full, Ty.zero])
theorem vce_sFactsValid (l : List GFact) (k : Nat) : VC_sFactsValid l k = vcQ tab (lookF L_sFactsValid) (lookP P_sFactsValid) (fun _ => false) (fun _ => none) (an_sFactsValid l) (fun _ => []) (bodyOf Try.f112) (entry (encs c_sFactsValid.aks (l, ())) (rdOf false k)) (retOk tab c_sFactsValid Try.f112.results.toList (l, ()) k) := by kernel_rfl
theorem ok_sFactsValid : FnOk Try.prog E 112 c_sFactsValid :=
  fn_okQ (l := L_sFactsValid) (lp := P_sFactsValid) (hp := fun _ => false) (gcs := fun _ => none) (perm := fun _ => []) tabOk mix ⟨ok_sFactValid, trivial⟩ trivial Try.func112 rfl (by kernel_rfl) (by decide) (by kernel_rfl) (anns := fun x _ => an_sFactsValid x.1) (fun ⟨l, _⟩ k hp _ => (vce_sFactsValid l k).mp (vcn_sFactsValid l k hp)) tot_fn
end Go.Proofs.Ytfoioficiffgkaa

namespace Go.Proofs.Ytfoioficiffgkaa
open Go.SE Go.RowKit
set_option linter.unusedSimpArgs false
set_option linter.unusedVariables false
set_option maxHeartbeats 1000000
set_option maxRecDepth 100000
/-! sAssertionValid -/
abbrev c_sAssertionValid : Con := ⟨[.asn], [.bool], fun (a, _) => a.facts.length ≤ 281474976710656 ∧ a.atoms.length ≤ 281474976710656, .inl fun (a, _) => (asV a, ()), fun _ => 0⟩
abbrev L_sAssertionValid : List (FuncId × Con) := [(111, c_l3Atom), (112, c_sFactsValid)]
abbrev P_sAssertionValid : List (FuncId × PT) := []
def an_sAssertionValid (a : GAsn) : Nat → St → Option Ann
  | 2, se => some { α := Nat, ok := fun i => i ≤ a.atoms.length ∧ (a.atoms.take i).all atV = true, mu := fun i => a.atoms.length - i, i0 := fun _ => 0, nx := fun a _ => (fun i => i + 1) a, live := [1], sets := fun i => [(3, sv (.int .i64 i))], mids := [31], blks := fun i => [], owns := fun i => [], rd := fun r _ => r, base := 100000 }
  | _, _ => none
def VC_sAssertionValid (a : GAsn) (k : Nat) : Prop := TN ∧ True ∧ True ∧ ((0 ≤ a.atoms.length ∧ (a.atoms.take 0).all atV = true) ∧ TT ∧ (RL [.s (.c (.ptr 31 0))]) ∧ (([.s (.c (.d (.val (.int .i64 (0 : Int)))))] : List S) = [.s (.c (.d (.val (.int .i64 ((0 : Nat) : Int)))))]) ∧ (RM [some (.blk [.d (.arr .fact a.facts), .d (.arr .atom a.atoms)])]) ∧ (RM []) ∧ True ∧ TT) ∧ (∀ i1 : Nat, (i1 ≤ a.atoms.length ∧ (a.atoms.take i1).all atV = true) → True ∧ True ∧ True ∧ True ∧ True ∧ (vcIf (decide (((i1 : Nat) : Int) < ((a.atoms.length : Nat) : Int))) (True ∧ True ∧ True ∧ (0 ≤ ((i1 : Nat) : Int) ∧ ((i1 : Nat) : Int) < ((a.atoms.length : Nat) : Int)) ∧ True ∧ (True ∧ True ∧ True) ∧ True ∧ (vcIf (!(atV (a.atoms.getD i1 (⟨0, 0, 0⟩ : GAtom)))) (True ∧ (((false, ()) : Bool × Unit) = (asV a, ())) ∧ True ∧ True ∧ True ∧ True ∧ TF) (True ∧ (inK .i64 (((i1 : Nat) : Int) + (1 : Int))) ∧ True ∧ ((i1 + 1) ≤ a.atoms.length ∧ (a.atoms.take (i1 + 1)).all atV = true) ∧ (a.atoms.length - (i1 + 1) < a.atoms.length - i1) ∧ TT ∧ (RL [.s (.c (.ptr 31 0))]) ∧ (([.s (.c (.d (.val (.int .i64 (((i1 : Nat) : Int) + (1 : Int))))))] : List S) = [.s (.c (.d (.val (.int .i64 (((i1 + 1) : Nat) : Int)))))]) ∧ (RM [some (.blk [.d (.arr .fact a.facts), .d (.arr .atom a.atoms)])]) ∧ (RM []) ∧ True ∧ TT))) (True ∧ True ∧ ((a.facts.length ≤ 281474976710656) ∧ True ∧ True) ∧ True ∧ (vcIf (fsV a.facts) (True ∧ True ∧ True ∧ True ∧ True ∧ True ∧ (((decide (((a.atoms.length : Nat) : Int) ≤ (6 : Int)), ()) : Bool × Unit) = (asV a, ())) ∧ True ∧ True ∧ True ∧ True ∧ TF) (True ∧ True ∧ (((false, ()) : Bool × Unit) = (asV a, ())) ∧ True ∧ True ∧ True ∧ True ∧ TF)))))
theorem vcn_sAssertionValid (a : GAsn) (k : Nat) (hp : a.facts.length ≤ 281474976710656 ∧ a.atoms.length ≤ 281474976710656) : VC_sAssertionValid a k := by
  unfold VC_sAssertionValid
  simp only [cln, Nat.reduceEqDiff, Nat.reduceLeDiff, Nat.reduceAdd]
  all_goals (try simp only [opn])
  all_goals (repeat' (first | apply And.intro | intro _))
  all_goals (first | omega | (simp_all; done) | grind [asV, take_all, all_take, take_full, Ty.zero])
theorem vce_sAssertionValid (a : GAsn) (k : Nat) : VC_sAssertionValid a k = vcQ tab (lookF L_sAssertionValid) (lookP P_sAssertionValid) (fun _ => false) (fun _ => none) (an_sAssertionValid a) (fun _ => []) (bodyOf Try.f56) (entry (encs c_sAssertionValid.aks (a, ())) (rdOf false k)) (retOk tab c_sAssertionValid Try.f56.results.toList (a, ()) k) := by kernel_rfl
theorem ok_sAssertionValid : FnOk Try.prog E 56 c_sAssertionValid :=
  fn_okQ (l := L_sAssertionValid) (lp := P_sAssertionValid) (hp := fun _ => false) (gcs := fun _ => none) (perm := fun _ => []) tabOk mix ⟨ok_l3Atom, ok_sFactsValid, trivial⟩ trivial Try.func56 rfl (by kernel_rfl) (by decide) (by kernel_rfl) (anns := fun x _ => an_sAssertionValid x.1) (fun ⟨a, _⟩ k hp _ => (vce_sAssertionValid a k).mp (vcn_sAssertionValid a k hp)) tot_fn
end Go.Proofs.Ytfoioficiffgkaa

namespace Go.Proofs.Ytfoioficiffgkaa
open Go.SE Go.RowKit
set_option linter.unusedSimpArgs false
set_option linter.unusedVariables false
set_option maxHeartbeats 1000000
set_option maxRecDepth 100000
/-! l5Fits -/
abbrev c_l5Fits : Con := ⟨[.sl .fact, .sl .int], [.bool], fun (l, c, _) => l.length ≤ 1048576 ∧ l.all fV = true ∧ c.length = 9, .inl fun (l, c, _) => (sFit l c, ()), fun _ => 0⟩
abbrev L_l5Fits : List (FuncId × Con) := []
abbrev P_l5Fits : List (FuncId × PT) := []
def an_l5Fits (l : List GFact) (c : List Int) : Nat → St → Option Ann
  | 2, se => some { α := Nat, ok := fun i => i ≤ l.length ∧ sFit (l.take i) c = true, mu := fun i => l.length - i, i0 := fun _ => 0, nx := fun a _ => (fun i => i + 1) a, live := [0, 1], sets := fun i => [(5, sv (.int .i64 i))], mids := [], blks := fun i => [], owns := fun i => [], rd := fun r _ => r, base := 100000 }
  | _, _ => none
def VC_l5Fits (l : List GFact) (c : List Int) (k : Nat) : Prop := True ∧ True ∧ ((0 ≤ l.length ∧ sFit (l.take 0) c = true) ∧ TT ∧ (RL [.s (.c (.d (.arr .fact l))), .s (.c (.d (.arr .int c)))]) ∧ (([.s (.c (.d (.val (.int .i64 (0 : Int)))))] : List S) = [.s (.c (.d (.val (.int .i64 ((0 : Nat) : Int)))))]) ∧ (RM []) ∧ (RM []) ∧ True ∧ TT) ∧ (∀ i1 : Nat, (i1 ≤ l.length ∧ sFit (l.take i1) c = true) → True ∧ True ∧ True ∧ True ∧ (vcIf (decide (((i1 : Nat) : Int) < ((l.length : Nat) : Int))) (True ∧ True ∧ True ∧ (0 ≤ ((i1 : Nat) : Int) ∧ ((i1 : Nat) : Int) < ((l.length : Nat) : Int)) ∧ True ∧ True ∧ (0 ≤ ((l.getD i1 (⟨false, 0, 0⟩ : GFact)).a) ∧ ((l.getD i1 (⟨false, 0, 0⟩ : GFact)).a) < ((c.length : Nat) : Int)) ∧ True ∧ True ∧ True ∧ True ∧ True ∧ (0 ≤ ((i1 : Nat) : Int) ∧ ((i1 : Nat) : Int) < ((l.length : Nat) : Int)) ∧ True ∧ True ∧ (0 ≤ ((l.getD i1 (⟨false, 0, 0⟩ : GFact)).b) ∧ ((l.getD i1 (⟨false, 0, 0⟩ : GFact)).b) < ((c.length : Nat) : Int)) ∧ True ∧ True ∧ True ∧ True ∧ True ∧ (vcIf (decide ((0 : Int) ≤ (c.getD ((l.getD i1 (⟨false, 0, 0⟩ : GFact)).a).toNat (0 : Int)))) (True ∧ True ∧ True ∧ True ∧ (vcIf (decide ((0 : Int) ≤ (c.getD ((l.getD i1 (⟨false, 0, 0⟩ : GFact)).b).toNat (0 : Int)))) (True ∧ True ∧ True ∧ True ∧ True ∧ (0 ≤ ((i1 : Nat) : Int) ∧ ((i1 : Nat) : Int) < ((l.length : Nat) : Int)) ∧ True ∧ True ∧ True ∧ True ∧ (vcIf (((c.getD ((l.getD i1 (⟨false, 0, 0⟩ : GFact)).a).toNat (0 : Int)) == (c.getD ((l.getD i1 (⟨false, 0, 0⟩ : GFact)).b).toNat (0 : Int))) != ((l.getD i1 (⟨false, 0, 0⟩ : GFact)).eq)) (True ∧ (((false, ()) : Bool × Unit) = (sFit l c, ())) ∧ True ∧ True ∧ True ∧ True ∧ TF) (True ∧ (inK .i64 (((i1 : Nat) : Int) + (1 : Int))) ∧ True ∧ ((i1 + 1) ≤ l.length ∧ sFit (l.take (i1 + 1)) c = true) ∧ (l.length - (i1 + 1) < l.length - i1) ∧ TT ∧ (RL [.s (.c (.d (.arr .fact l))), .s (.c (.d (.arr .int c)))]) ∧ (([.s (.c (.d (.val (.int .i64 (((i1 : Nat) : Int) + (1 : Int))))))] : List S) = [.s (.c (.d (.val (.int .i64 (((i1 + 1) : Nat) : Int)))))]) ∧ (RM []) ∧ (RM []) ∧ True ∧ TT))) (True ∧ True ∧ (inK .i64 (((i1 : Nat) : Int) + (1 : Int))) ∧ True ∧ ((i1 + 1) ≤ l.length ∧ sFit (l.take (i1 + 1)) c = true) ∧ (l.length - (i1 + 1) < l.length - i1) ∧ TT ∧ (RL [.s (.c (.d (.arr .fact l))), .s (.c (.d (.arr .int c)))]) ∧ (([.s (.c (.d (.val (.int .i64 (((i1 : Nat) : Int) + (1 : Int))))))] : List S) = [.s (.c (.d (.val (.int .i64 (((i1 + 1) : Nat) : Int)))))]) ∧ (RM []) ∧ (RM []) ∧ True ∧ TT))) (True ∧ True ∧ True ∧ True ∧ (inK .i64 (((i1 : Nat) : Int) + (1 : Int))) ∧ True ∧ ((i1 + 1) ≤ l.length ∧ sFit (l.take (i1 + 1)) c = true) ∧ (l.length - (i1 + 1) < l.length - i1) ∧ TT ∧ (RL [.s (.c (.d (.arr .fact l))), .s (.c (.d (.arr .int c)))]) ∧ (([.s (.c (.d (.val (.int .i64 (((i1 : Nat) : Int) + (1 : Int))))))] : List S) = [.s (.c (.d (.val (.int .i64 (((i1 + 1) : Nat) : Int)))))]) ∧ (RM []) ∧ (RM []) ∧ True ∧ TT))) (True ∧ (((true, ()) : Bool × Unit) = (sFit l c, ())) ∧ True ∧ True ∧ True ∧ True ∧ TF)))
theorem vcn_l5Fits (l : List GFact) (c : List Int) (k : Nat) (hp : l.length ≤ 1048576 ∧ l.all fV = true ∧ c.length = 9) : VC_l5Fits l c k := by
  unfold VC_l5Fits
  simp only [cln, Nat.reduceEqDiff, Nat.reduceLeDiff, Nat.reduceAdd]
  have hV := hp.2.1
  all_goals (try simp only [opn])
  all_goals (repeat' (first | apply And.intro | intro _))
  all_goals (repeat (cases ‹_ ∧ _›))
  all_goals (first | omega | rfl | assumption | (simp_all; done) | skip)
  all_goals (first
   | (have h1 := fact_idx (l := l) hV (by assumption); omega)
   | (symm; exact sFit_no (by assumption) (by assumption) (by assumption) (by unfold fh cl; rw [beq_eq_false_iff_ne]; assumption))
   | (rw [sFit_step (d := ⟨false, 0, 0⟩) (by assumption)]; unfold fh cl; simp_all; done)
   | (rw [take_full (l := l) (by assumption)] at *; simp_all; done) | skip)
theorem vce_l5Fits (l : List GFact) (c : List Int) (k : Nat) : VC_l5Fits l c k = vcQ tab (lookF L_l5Fits) (lookP P_l5Fits) (fun _ => false) (fun _ => none) (an_l5Fits l c) (fun _ => []) (bodyOf Try.f122) (entry (encs c_l5Fits.aks (l, c, ())) (rdOf false k)) (retOk tab c_l5Fits Try.f122.results.toList (l, c, ()) k) := by kernel_rfl
theorem ok_l5Fits : FnOk Try.prog E 122 c_l5Fits :=
  fn_okQ (l := L_l5Fits) (lp := P_l5Fits) (hp := fun _ => false) (gcs := fun _ => none) (perm := fun _ => []) tabOk mix trivial trivial Try.func122 rfl (by kernel_rfl) (by decide) (by kernel_rfl) (anns := fun x _ => an_l5Fits x.1 x.2.1) (fun ⟨l, c, _⟩ k hp _ => (vce_l5Fits l c k).mp (vcn_l5Fits l c k hp)) tot_fn
end Go.Proofs.Ytfoioficiffgkaa

namespace Go.Proofs.Ytfoioficiffgkaa
open Go.SE Go.RowKit
set_option linter.unusedSimpArgs false
set_option linter.unusedVariables false
set_option maxHeartbeats 1000000
set_option maxRecDepth 100000
/-! l5Apart -/
abbrev c_l5Apart : Con := ⟨[.sl .atom], [.bool], fun (l, _) => l.length ≤ 1048576, .inl fun (l, _) => (sApart l, ()), fun _ => 0⟩
abbrev L_l5Apart : List (FuncId × Con) := []
abbrev P_l5Apart : List (FuncId × PT) := []
def an_l5Apart (l : List GAtom) : Nat → St → Option Ann
  | 2, se => some { α := Nat, ok := fun i => i ≤ l.length ∧ sApart (l.take i) = true, mu := fun i => l.length - i, i0 := fun _ => 0, nx := fun a _ => (fun i => i + 1) a, live := [0], sets := fun i => [(3, sv (.int .i64 i))], mids := [], blks := fun i => [], owns := fun i => [], rd := fun r _ => r, base := 100000 }
  | 7, se => some { α := Nat, ok := fun j => (j : Int) ≤ intAt se 3 ∧ ((l.take j).all fun x => !(x.a == (l.getD (intAt se 3).toNat ⟨0, 0, 0⟩).a)) = true, mu := fun j => (intAt se 3).toNat - j, i0 := fun _ => 0, nx := fun a _ => (fun j => j + 1) a, live := [0, 3], sets := fun j => [(4, sv (.int .i64 j))], mids := [], blks := fun j => [], owns := fun j => [], rd := fun r _ => r, base := 200000 }
  | _, _ => none
def VC_l5Apart (l : List GAtom) (k : Nat) : Prop := True ∧ True ∧ ((0 ≤ l.length ∧ sApart (l.take 0) = true) ∧ TT ∧ (RL [.s (.c (.d (.arr .atom l)))]) ∧ (([.s (.c (.d (.val (.int .i64 (0 : Int)))))] : List S) = [.s (.c (.d (.val (.int .i64 ((0 : Nat) : Int)))))]) ∧ (RM []) ∧ (RM []) ∧ True ∧ TT) ∧ (∀ i1 : Nat, (i1 ≤ l.length ∧ sApart (l.take i1) = true) → True ∧ True ∧ True ∧ True ∧ (vcIf (decide (((i1 : Nat) : Int) < ((l.length : Nat) : Int))) (True ∧ True ∧ (0 ≤ ((i1 : Nat) : Int) ∧ ((i1 : Nat) : Int) < ((l.length : Nat) : Int)) ∧ True ∧ True ∧ True ∧ (vcIf (((l.getD i1 (⟨0, 0, 0⟩ : GAtom)).a) == (0 : Int)) (True ∧ (((false, ()) : Bool × Unit) = (sApart l, ())) ∧ True ∧ True ∧ True ∧ True ∧ TF) (True ∧ (((0 : Int) ≤ ((i1 : Nat) : Int) ∧ ((l.take 0).all fun x => !(x.a == (l.getD (((i1 : Nat) : Int)).toNat ⟨0, 0, 0⟩).a)) = true) ∧ TT ∧ (RL [.s (.c (.d (.arr .atom l))), .s (.c (.d (.val (.int .i64 ((i1 : Nat) : Int)))))]) ∧ (([.s (.c (.d (.val (.int .i64 (0 : Int)))))] : List S) = [.s (.c (.d (.val (.int .i64 ((0 : Nat) : Int)))))]) ∧ (RM []) ∧ (RM []) ∧ True ∧ TT) ∧ (∀ j2 : Nat, ((j2 : Int) ≤ ((i1 : Nat) : Int) ∧ ((l.take j2).all fun x => !(x.a == (l.getD (((i1 : Nat) : Int)).toNat ⟨0, 0, 0⟩).a)) = true) → True ∧ True ∧ True ∧ (vcIf (decide (((j2 : Nat) : Int) < ((i1 : Nat) : Int))) (True ∧ True ∧ (0 ≤ ((j2 : Nat) : Int) ∧ ((j2 : Nat) : Int) < ((l.length : Nat) : Int)) ∧ True ∧ True ∧ True ∧ True ∧ (0 ≤ ((i1 : Nat) : Int) ∧ ((i1 : Nat) : Int) < ((l.length : Nat) : Int)) ∧ True ∧ True ∧ True ∧ (vcIf (((l.getD j2 (⟨0, 0, 0⟩ : GAtom)).a) == ((l.getD i1 (⟨0, 0, 0⟩ : GAtom)).a)) (True ∧ (((false, ()) : Bool × Unit) = (sApart l, ())) ∧ True ∧ True ∧ True ∧ True ∧ TF) (True ∧ (inK .i64 (((j2 : Nat) : Int) + (1 : Int))) ∧ True ∧ (((j2 + 1) : Int) ≤ ((i1 : Nat) : Int) ∧ ((l.take (j2 + 1)).all fun x => !(x.a == (l.getD (((i1 : Nat) : Int)).toNat ⟨0, 0, 0⟩).a)) = true) ∧ ((((i1 : Nat) : Int)).toNat - (j2 + 1) < (((i1 : Nat) : Int)).toNat - j2) ∧ TT ∧ (RL [.s (.c (.d (.arr .atom l))), .s (.c (.d (.val (.int .i64 ((i1 : Nat) : Int)))))]) ∧ (([.s (.c (.d (.val (.int .i64 (((j2 : Nat) : Int) + (1 : Int))))))] : List S) = [.s (.c (.d (.val (.int .i64 (((j2 + 1) : Nat) : Int)))))]) ∧ (RM []) ∧ (RM []) ∧ True ∧ TT))) (True ∧ (inK .i64 (((i1 : Nat) : Int) + (1 : Int))) ∧ True ∧ ((i1 + 1) ≤ l.length ∧ sApart (l.take (i1 + 1)) = true) ∧ (l.length - (i1 + 1) < l.length - i1) ∧ TT ∧ (RL [.s (.c (.d (.arr .atom l)))]) ∧ (([.s (.c (.d (.val (.int .i64 (((i1 : Nat) : Int) + (1 : Int))))))] : List S) = [.s (.c (.d (.val (.int .i64 (((i1 + 1) : Nat) : Int)))))]) ∧ (RM []) ∧ (RM []) ∧ True ∧ TT)))))) (True ∧ (((true, ()) : Bool × Unit) = (sApart l, ())) ∧ True ∧ True ∧ True ∧ True ∧ TF)))
theorem vcn_l5Apart (l : List GAtom) (k : Nat) (hp : l.length ≤ 1048576) : VC_l5Apart l k := by
  unfold VC_l5Apart
  simp only [cln, Nat.reduceEqDiff, Nat.reduceLeDiff, Nat.reduceAdd]
  all_goals (try simp only [opn])
  all_goals (repeat' (first | apply And.intro | intro _))
  all_goals (repeat (cases ‹_ ∧ _›))
  all_goals (first | omega | rfl | assumption | (simp_all; done) | skip)
  all_goals (first
   | (symm; exact sApart_zero (d := ⟨0, 0, 0⟩) (by assumption) (by assumption))
   | (symm; exact sApart_two (d := ⟨0, 0, 0⟩) (h := by assumption) (hj := by assumption) (h0 := by assumption))
   | exact apart_in (by omega) (by assumption) (by assumption)
   | exact apart_fin (by assumption) (by assumption) (by assumption) (by assumption) (by assumption) (by assumption)
   | (rw [take_full (l := l) (by assumption)] at *; simp_all; done) | skip)
theorem vce_l5Apart (l : List GAtom) (k : Nat) : VC_l5Apart l k = vcQ tab (lookF L_l5Apart) (lookP P_l5Apart) (fun _ => false) (fun _ => none) (an_l5Apart l) (fun _ => []) (bodyOf Try.f123) (entry (encs c_l5Apart.aks (l, ())) (rdOf false k)) (retOk tab c_l5Apart Try.f123.results.toList (l, ()) k) := by kernel_rfl
theorem ok_l5Apart : FnOk Try.prog E 123 c_l5Apart :=
  fn_okQ (l := L_l5Apart) (lp := P_l5Apart) (hp := fun _ => false) (gcs := fun _ => none) (perm := fun _ => []) tabOk mix trivial trivial Try.func123 rfl (by kernel_rfl) (by decide) (by kernel_rfl) (anns := fun x _ => an_l5Apart x.1) (fun ⟨l, _⟩ k hp _ => (vce_l5Apart l k).mp (vcn_l5Apart l k hp)) tot_fn
end Go.Proofs.Ytfoioficiffgkaa

namespace Go.Proofs.Ytfoioficiffgkaa
open Go.SE Go.RowKit
set_option linter.unusedSimpArgs false
set_option linter.unusedVariables false
set_option maxHeartbeats 1000000
set_option maxRecDepth 100000
/-! l5Filled -/
abbrev c_l5Filled : Con := ⟨[.sl .atom, .sl .int], [.sl .atom], fun (l, c, _) => l.length ≤ 1048576 ∧ l.all atV = true ∧ c.length = 9, .inl fun (l, c, _) => (fL c l, ()), fun _ => 0⟩
abbrev L_l5Filled : List (FuncId × Con) := []
abbrev P_l5Filled : List (FuncId × PT) := []
def an_l5Filled (l : List GAtom) (c : List Int) : Nat → St → Option Ann
  | 3, se => some { α := Nat, ok := fun i => i ≤ l.length, mu := fun i => l.length - i, i0 := fun _ => 0, nx := fun a _ => (fun i => i + 1) a, live := [0, 1, 4], sets := fun i => [(6, sv (.int .i64 i))], mids := [64], blks := fun i => [], owns := fun i => [⟨7, .slot 5, .atom, fL c (l.take i)⟩], rd := fun r _ => r, base := 100000 }
  | _, _ => none
def VC_l5Filled_1 (l : List GAtom) (c : List Int) (k : Nat) (i1 : Nat) : Prop := ((0 ≤ ((i1 : Nat) : Int) ∧ ((i1 : Nat) : Int) < ((l.length : Nat) : Int)) ∧ True ∧ True ∧ (0 ≤ ((l.getD i1 (⟨0, 0, 0⟩ : GAtom)).b) ∧ ((l.getD i1 (⟨0, 0, 0⟩ : GAtom)).b) < ((c.length : Nat) : Int)) ∧ True ∧ True ∧ (TN ∧ True) ∧ (TF ∧ TF) ∧ True ∧ True ∧ True ∧ True ∧ (vcIf (((l.getD i1 (⟨0, 0, 0⟩ : GAtom)).kind) == (1 : Int)) (True ∧ True ∧ True ∧ (TN ∧ True) ∧ (TN ∧ TF ∧ TF ∧ ((fL c (l.take i1)).length + ([(⟨(l.getD i1 (⟨0, 0, 0⟩ : GAtom)).kind, (c.getD ((l.getD i1 (⟨0, 0, 0⟩ : GAtom)).a).toNat (0 : Int)), (c.getD ((l.getD i1 (⟨0, 0, 0⟩ : GAtom)).b).toNat (0 : Int))⟩ : GAtom)] : List GAtom).length ≤ 4294967296)) ∧ True ∧ True ∧ (inK .i64 (((i1 : Nat) : Int) + (1 : Int))) ∧ True ∧ ((i1 + 1) ≤ l.length) ∧ (l.length - (i1 + 1) < l.length - i1) ∧ TT ∧ (RL [.s (.c (.d (.arr .atom l))), .s (.c (.d (.arr .int c))), .s (.c (.own 64))]) ∧ (([.s (.c (.d (.val (.int .i64 (((i1 : Nat) : Int) + (1 : Int))))))] : List S) = [.s (.c (.d (.val (.int .i64 (((i1 + 1) : Nat) : Int)))))]) ∧ (RM [some (.sl 64 .atom ([] : List GAtom))]) ∧ (RM []) ∧ (((some ((fL c (l.take i1)) ++ ([(⟨(l.getD i1 (⟨0, 0, 0⟩ : GAtom)).kind, (c.getD ((l.getD i1 (⟨0, 0, 0⟩ : GAtom)).a).toNat (0 : Int)), (c.getD ((l.getD i1 (⟨0, 0, 0⟩ : GAtom)).b).toNat (0 : Int))⟩ : GAtom)] : List GAtom)) : Option (List GAtom)) = some (fL c (l.take (i1 + 1)))) ∧ True) ∧ TT) (True ∧ True ∧ True ∧ True ∧ True ∧ True ∧ (vcIf ((c.getD ((l.getD i1 (⟨0, 0, 0⟩ : GAtom)).a).toNat (0 : Int)) != (c.getD ((l.getD i1 (⟨0, 0, 0⟩ : GAtom)).b).toNat (0 : Int))) (True ∧ True ∧ (TN ∧ True) ∧ (TN ∧ TF ∧ TF ∧ ((fL c (l.take i1)).length + ([(⟨(l.getD i1 (⟨0, 0, 0⟩ : GAtom)).kind, (c.getD ((l.getD i1 (⟨0, 0, 0⟩ : GAtom)).a).toNat (0 : Int)), (c.getD ((l.getD i1 (⟨0, 0, 0⟩ : GAtom)).b).toNat (0 : Int))⟩ : GAtom)] : List GAtom).length ≤ 4294967296)) ∧ True ∧ True ∧ (inK .i64 (((i1 : Nat) : Int) + (1 : Int))) ∧ True ∧ ((i1 + 1) ≤ l.length) ∧ (l.length - (i1 + 1) < l.length - i1) ∧ TT ∧ (RL [.s (.c (.d (.arr .atom l))), .s (.c (.d (.arr .int c))), .s (.c (.own 64))]) ∧ (([.s (.c (.d (.val (.int .i64 (((i1 : Nat) : Int) + (1 : Int))))))] : List S) = [.s (.c (.d (.val (.int .i64 (((i1 + 1) : Nat) : Int)))))]) ∧ (RM [some (.sl 64 .atom ([] : List GAtom))]) ∧ (RM []) ∧ (((some ((fL c (l.take i1)) ++ ([(⟨(l.getD i1 (⟨0, 0, 0⟩ : GAtom)).kind, (c.getD ((l.getD i1 (⟨0, 0, 0⟩ : GAtom)).a).toNat (0 : Int)), (c.getD ((l.getD i1 (⟨0, 0, 0⟩ : GAtom)).b).toNat (0 : Int))⟩ : GAtom)] : List GAtom)) : Option (List GAtom)) = some (fL c (l.take (i1 + 1)))) ∧ True) ∧ TT) (True ∧ (inK .i64 (((i1 : Nat) : Int) + (1 : Int))) ∧ True ∧ ((i1 + 1) ≤ l.length) ∧ (l.length - (i1 + 1) < l.length - i1) ∧ TT ∧ (RL [.s (.c (.d (.arr .atom l))), .s (.c (.d (.arr .int c))), .s (.c (.own 64))]) ∧ (([.s (.c (.d (.val (.int .i64 (((i1 : Nat) : Int) + (1 : Int))))))] : List S) = [.s (.c (.d (.val (.int .i64 (((i1 + 1) : Nat) : Int)))))]) ∧ (RM [some (.sl 64 .atom ([] : List GAtom))]) ∧ (RM []) ∧ (((some (fL c (l.take i1)) : Option (List GAtom)) = some (fL c (l.take (i1 + 1)))) ∧ True) ∧ TT)))))
def VC_l5Filled (l : List GAtom) (c : List Int) (k : Nat) : Prop := TN ∧ (TN ∧ True) ∧ True ∧ True ∧ ((0 ≤ l.length) ∧ TT ∧ (RL [.s (.c (.d (.arr .atom l))), .s (.c (.d (.arr .int c))), .s (.c (.own 64))]) ∧ (([.s (.c (.d (.val (.int .i64 (0 : Int)))))] : List S) = [.s (.c (.d (.val (.int .i64 ((0 : Nat) : Int)))))]) ∧ (RM [some (.sl 64 .atom ([] : List GAtom))]) ∧ (RM []) ∧ (((some ([] : List GAtom) : Option (List GAtom)) = some (fL c (l.take 0))) ∧ True) ∧ TT) ∧ (∀ i1 : Nat, (i1 ≤ l.length) → True ∧ True ∧ True ∧ True ∧ (vcIf (decide (((i1 : Nat) : Int) < ((l.length : Nat) : Int))) (True ∧ True ∧ (0 ≤ ((i1 : Nat) : Int) ∧ ((i1 : Nat) : Int) < ((l.length : Nat) : Int)) ∧ True ∧ True ∧ True ∧ True ∧ True ∧ (0 ≤ ((i1 : Nat) : Int) ∧ ((i1 : Nat) : Int) < ((l.length : Nat) : Int)) ∧ True ∧ True ∧ (0 ≤ ((l.getD i1 (⟨0, 0, 0⟩ : GAtom)).a) ∧ ((l.getD i1 (⟨0, 0, 0⟩ : GAtom)).a) < ((c.length : Nat) : Int)) ∧ True ∧ True ∧ True ∧ True ∧ (VC_l5Filled_1 l c k i1)) (True ∧ True ∧ (((fL c (l.take i1), ()) : (List GAtom) × Unit) = (fL c l, ())) ∧ (True ∧ True) ∧ ((TF ∧ TF) ∧ True) ∧ True ∧ (True ∧ True) ∧ TF)))
theorem vcn_l5Filled (l : List GAtom) (c : List Int) (k : Nat) (hp : l.length ≤ 1048576 ∧ l.all atV = true ∧ c.length = 9) : VC_l5Filled l c k := by
  unfold VC_l5Filled VC_l5Filled_1
  simp only [cln, Nat.reduceEqDiff, Nat.reduceLeDiff, Nat.reduceAdd]
  have hV := hp.2.1
  have hL : ∀ i, (fL c (l.take i)).length ≤ 1048576 := fun i => Nat.le_trans (fL_len _ _) (by simp; omega)
  all_goals (try simp only [opn])
  all_goals (repeat' (first | apply And.intro | intro _))
  all_goals (repeat (cases ‹_ ∧ _›))
  all_goals (first | omega | rfl | assumption | (simp_all; done) | skip)
  all_goals (first
   | (have h1 := atom_idx (l := l) hV (by assumption); omega)
   | exact Nat.le_trans (hL _) (by decide)
   | (rw [fL_step (d := ⟨0, 0, 0⟩) (by assumption)]; unfold filB cl; simp_all; done)
   | (rw [fL_step (d := ⟨0, 0, 0⟩) (by assumption)]; unfold filB cl; rw [beq_eq_false_iff_ne.2 (by assumption : ¬ (_ : GAtom).kind = 1), beq_eq_false_iff_ne.2 (by assumption)]; rfl)
   | (rw [fL_step (d := ⟨0, 0, 0⟩) (by assumption)]; unfold filB cl; rw [beq_eq_false_iff_ne.2 (by assumption : ¬ (_ : GAtom).kind = 1), beq_iff_eq.2 (by assumption)]; rfl)
   | (rw [take_full (l := l) (by assumption)]; done) | skip)
theorem vce_l5Filled (l : List GAtom) (c : List Int) (k : Nat) : VC_l5Filled l c k = vcQ tab (lookF L_l5Filled) (lookP P_l5Filled) (fun _ => false) (fun _ => none) (an_l5Filled l c) (fun _ => []) (bodyOf Try.f124) (entry (encs c_l5Filled.aks (l, c, ())) (rdOf false k)) (retOk tab c_l5Filled Try.f124.results.toList (l, c, ()) k) := by kernel_rfl
theorem ok_l5Filled : FnOk Try.prog E 124 c_l5Filled :=
  fn_okQ (l := L_l5Filled) (lp := P_l5Filled) (hp := fun _ => false) (gcs := fun _ => none) (perm := fun _ => []) tabOk mix trivial trivial Try.func124 rfl (by kernel_rfl) (by decide) (by kernel_rfl) (anns := fun x _ => an_l5Filled x.1 x.2.1) (fun ⟨l, c, _⟩ k hp _ => (vce_l5Filled l c k).mp (vcn_l5Filled l c k hp)) tot_fn
end Go.Proofs.Ytfoioficiffgkaa

namespace Go.Proofs.Ytfoioficiffgkaa
open Go.SE Go.RowKit
set_option linter.unusedSimpArgs false
set_option linter.unusedVariables false
set_option maxHeartbeats 1000000
set_option maxRecDepth 100000
/-! l6IsCase -/
abbrev c_l6IsCase : Con := ⟨[.asn, .sl .bool, .sl .int], [.bool], fun (a, tm, c, _) => asV a = true ∧ tm.length = 9 ∧ c.length ≤ 281474976710656, .inl fun (a, tm, c, _) => (isC a tm c, ()), fun _ => 0⟩
abbrev L_l6IsCase : List (FuncId × Con) := [(122, c_l5Fits), (123, c_l5Apart), (124, c_l5Filled)]
abbrev P_l6IsCase : List (FuncId × PT) := []
def an_l6IsCase (a : GAsn) (tm : List Bool) (c : List Int) : Nat → St → Option Ann
  | 4, se => some { α := Nat, ok := fun i => i ≤ 8 ∧ c.length = 9 ∧ c.getD 0 0 = 0 ∧ (List.range i).all (isS tm c) = true, mu := fun i => 8 - i, i0 := fun _ => 0, nx := fun a _ => (fun i => i + 1) a, live := [1, 2, 3], sets := fun i => [(7, sv (.int .i64 ((i : Int) + 1)))], mids := [63], blks := fun i => [], owns := fun i => [], rd := fun r _ => r, base := 100000 }
  | _, _ => none
def VC_l6IsCase_1 (a : GAsn) (tm : List Bool) (c : List Int) (k : Nat) (i1 : Nat) : Prop := (True ∧ (vcIf (decide (((i1 : Int) + 1 : Int) ≤ (8 : Int))) (True ∧ True ∧ (0 ≤ ((i1 : Int) + 1 : Int) ∧ ((i1 : Int) + 1 : Int) < ((c.length : Nat) : Int)) ∧ True ∧ True ∧ True ∧ True ∧ (0 ≤ ((i1 : Int) + 1 : Int) ∧ ((i1 : Int) + 1 : Int) < ((tm.length : Nat) : Int)) ∧ True ∧ True ∧ True ∧ True ∧ True ∧ (vcIf ((tm.getD ((i1 : Int) + 1 : Int).toNat false) != (decide ((0 : Int) ≤ (c.getD ((i1 : Int) + 1 : Int).toNat (0 : Int))))) (True ∧ True ∧ True ∧ True ∧ True ∧ True ∧ (((false, ()) : Bool × Unit) = (isC a tm c, ())) ∧ True ∧ True ∧ True ∧ True ∧ TF) (True ∧ True ∧ True ∧ True ∧ (vcIf (decide ((c.getD ((i1 : Int) + 1 : Int).toNat (0 : Int)) < (-1 : Int))) (True ∧ True ∧ True ∧ True ∧ (((false, ()) : Bool × Unit) = (isC a tm c, ())) ∧ True ∧ True ∧ True ∧ True ∧ TF) (True ∧ True ∧ True ∧ True ∧ True ∧ (vcIf (decide (((i1 : Int) + 1 : Int) < (c.getD ((i1 : Int) + 1 : Int).toNat (0 : Int)))) (True ∧ True ∧ (((false, ()) : Bool × Unit) = (isC a tm c, ())) ∧ True ∧ True ∧ True ∧ True ∧ TF) (True ∧ True ∧ True ∧ (vcIf (decide ((0 : Int) ≤ (c.getD ((i1 : Int) + 1 : Int).toNat (0 : Int)))) (True ∧ True ∧ (0 ≤ (c.getD ((i1 : Int) + 1 : Int).toNat (0 : Int)) ∧ (c.getD ((i1 : Int) + 1 : Int).toNat (0 : Int)) < ((c.length : Nat) : Int)) ∧ True ∧ True ∧ True ∧ True ∧ True ∧ (vcIf ((c.getD (c.getD ((i1 : Int) + 1 : Int).toNat (0 : Int)).toNat (0 : Int)) != (c.getD ((i1 : Int) + 1 : Int).toNat (0 : Int))) (True ∧ (((false, ()) : Bool × Unit) = (isC a tm c, ())) ∧ True ∧ True ∧ True ∧ True ∧ TF) (True ∧ (inK .i64 (((i1 : Int) + 1 : Int) + (1 : Int))) ∧ True ∧ ((i1 + 1) ≤ 8 ∧ c.length = 9 ∧ c.getD 0 0 = 0 ∧ (List.range (i1 + 1)).all (isS tm c) = true) ∧ (8 - (i1 + 1) < 8 - i1) ∧ TT ∧ (RL [.s (.c (.d (.arr .bool tm))), .s (.c (.d (.arr .int c))), .s (.c (.ptr 63 0))]) ∧ (([.s (.c (.d (.val (.int .i64 (((i1 : Int) + 1 : Int) + (1 : Int))))))] : List S) = [.s (.c (.d (.val (.int .i64 (((i1 + 1) : Int) + 1 : Int)))))]) ∧ (RM [some (.blk [.d (.arr .fact a.facts), .d (.arr .atom a.atoms)])]) ∧ (RM []) ∧ True ∧ TT))) (True ∧ True ∧ True ∧ (inK .i64 (((i1 : Int) + 1 : Int) + (1 : Int))) ∧ True ∧ ((i1 + 1) ≤ 8 ∧ c.length = 9 ∧ c.getD 0 0 = 0 ∧ (List.range (i1 + 1)).all (isS tm c) = true) ∧ (8 - (i1 + 1) < 8 - i1) ∧ TT ∧ (RL [.s (.c (.d (.arr .bool tm))), .s (.c (.d (.arr .int c))), .s (.c (.ptr 63 0))]) ∧ (([.s (.c (.d (.val (.int .i64 (((i1 : Int) + 1 : Int) + (1 : Int))))))] : List S) = [.s (.c (.d (.val (.int .i64 (((i1 + 1) : Int) + 1 : Int)))))]) ∧ (RM [some (.blk [.d (.arr .fact a.facts), .d (.arr .atom a.atoms)])]) ∧ (RM []) ∧ True ∧ TT))))))))) (True ∧ True ∧ True ∧ ((a.facts.length ≤ 1048576 ∧ a.facts.all fV = true ∧ c.length = 9) ∧ True ∧ True) ∧ True ∧ (vcIf (sFit a.facts c) (True ∧ True ∧ True ∧ ((a.atoms.length ≤ 1048576 ∧ a.atoms.all atV = true ∧ c.length = 9) ∧ True ∧ TN ∧ True) ∧ (((fL c a.atoms).length ≤ 1048576) ∧ True ∧ True) ∧ True ∧ True ∧ ((((sApart (fL c a.atoms)), ()) : Bool × Unit) = (isC a tm c, ())) ∧ True ∧ True ∧ True ∧ True ∧ TF) (True ∧ True ∧ (((false, ()) : Bool × Unit) = (isC a tm c, ())) ∧ True ∧ True ∧ True ∧ True ∧ TF)))))
def VC_l6IsCase (a : GAsn) (tm : List Bool) (c : List Int) (k : Nat) : Prop := TN ∧ True ∧ True ∧ True ∧ True ∧ True ∧ (vcIf (((c.length : Nat) : Int) != (9 : Int)) (True ∧ True ∧ (((false, ()) : Bool × Unit) = (isC a tm c, ())) ∧ True ∧ True ∧ True ∧ True ∧ TF) (True ∧ (0 ≤ (0 : Int) ∧ (0 : Int) < ((c.length : Nat) : Int)) ∧ True ∧ True ∧ True ∧ (vcIf ((c.getD 0 (0 : Int)) != (0 : Int)) (True ∧ (((false, ()) : Bool × Unit) = (isC a tm c, ())) ∧ True ∧ True ∧ True ∧ True ∧ TF) (True ∧ ((0 ≤ 8 ∧ c.length = 9 ∧ c.getD 0 0 = 0 ∧ (List.range 0).all (isS tm c) = true) ∧ TT ∧ (RL [.s (.c (.d (.arr .bool tm))), .s (.c (.d (.arr .int c))), .s (.c (.ptr 63 0))]) ∧ (([.s (.c (.d (.val (.int .i64 (1 : Int)))))] : List S) = [.s (.c (.d (.val (.int .i64 ((0 : Int) + 1 : Int)))))]) ∧ (RM [some (.blk [.d (.arr .fact a.facts), .d (.arr .atom a.atoms)])]) ∧ (RM []) ∧ True ∧ TT) ∧ (∀ i1 : Nat, (i1 ≤ 8 ∧ c.length = 9 ∧ c.getD 0 0 = 0 ∧ (List.range i1).all (isS tm c) = true) → True ∧ (VC_l6IsCase_1 a tm c k i1))))))
theorem vcn_l6IsCase (a : GAsn) (tm : List Bool) (c : List Int) (k : Nat) (hp : asV a = true ∧ tm.length = 9 ∧ c.length ≤ 281474976710656) : VC_l6IsCase a tm c k := by
  unfold VC_l6IsCase VC_l6IsCase_1
  simp only [cln, Nat.reduceEqDiff, Nat.reduceLeDiff, Nat.reduceAdd]
  all_goals (try simp only [opn])
  all_goals (repeat' (first | apply And.intro | intro _))
  all_goals (repeat (cases ‹_ ∧ _›))
  all_goals (first | (exfalso; contradiction) | omega | with_reducible assumption | skip)
  all_goals (first
   | rfl
   | with_reducible exact ic_z1 (by assumption) | with_reducible exact ic_z2 (by assumption)
   | with_reducible exact icx1 (by assumption) (by assumption) | with_reducible exact icx2 (by assumption) (by assumption) | with_reducible exact icx3 (by assumption) (by assumption) | with_reducible exact icx4 (by assumption) (by assumption) (by assumption)
   | with_reducible exact icg1 (by assumption) (by assumption) (by assumption) (by assumption) (by assumption) | with_reducible exact icg2 (by assumption) (by assumption) (by assumption) (by assumption) (by assumption)
   | with_reducible exact ic_end (by assumption) (by assumption) (by assumption) (by assumption) (by assumption)
   | with_reducible exact ic_e1 (by assumption) (by assumption) (by assumption) (by assumption) (by assumption) (by assumption) | with_reducible exact ic_e0 (by assumption) (by assumption) (by assumption) (by assumption) (by assumption) (by assumption)
   | with_reducible exact (ic_asn (c := []) (by assumption)).1 | with_reducible exact (ic_asn (c := []) (by assumption)).2.1 | with_reducible exact (ic_asn (c := []) (by assumption)).2.2.1 | with_reducible exact (ic_asn (c := []) (by assumption)).2.2.2.1 | with_reducible exact (ic_asn (by assumption)).2.2.2.2
   | skip)
theorem vce_l6IsCase (a : GAsn) (tm : List Bool) (c : List Int) (k : Nat) : VC_l6IsCase a tm c k = vcQ tab (lookF L_l6IsCase) (lookP P_l6IsCase) (fun _ => false) (fun _ => none) (an_l6IsCase a tm c) (fun _ => []) (bodyOf Try.f66) (entry (encs c_l6IsCase.aks (a, tm, c, ())) (rdOf false k)) (retOk tab c_l6IsCase Try.f66.results.toList (a, tm, c, ()) k) := by kernel_rfl
theorem ok_l6IsCase : FnOk Try.prog E 66 c_l6IsCase :=
  fn_okQ (l := L_l6IsCase) (lp := P_l6IsCase) (hp := fun _ => false) (gcs := fun _ => none) (perm := fun _ => []) tabOk mix ⟨ok_l5Fits, ok_l5Apart, ok_l5Filled, trivial⟩ trivial Try.func66 rfl (by kernel_rfl) (by decide) (by kernel_rfl) (anns := fun x _ => an_l6IsCase x.1 x.2.1 x.2.2.1) (fun ⟨a, tm, c, _⟩ k hp _ => (vce_l6IsCase a tm c k).mp (vcn_l6IsCase a tm c k hp)) tot_fn
end Go.Proofs.Ytfoioficiffgkaa
