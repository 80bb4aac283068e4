/-
  Contracts of single functions of the program, each shown by the engine: what a call returns for arguments within the contract's bounds.
-/
import Derived.Test.YtfoioficiffgkaaProg
import Derived.KernelRfl
import Derived.Test.YtfoioficiffgkaaEc
import Derived.Test.YtfoioficiffgkaaEd
import Derived.Test.YtfoioficiffgkaaEe
set_option linter.unusedSimpArgs false
set_option linter.unusedVariables false
set_option linter.unusedSectionVars false

namespace Go.Proofs.Ytfoioficiffgkaa
open Go.SE Go.RowKit
def E : Ty -> TypeId
 | .int => 3
 | .bool => 4
 | .u8 => 5
 | .fact => 56
 | .atom => 61
 | .cmd => 0
 | .ints => 31
 | .asn => 0
def tabL : List (TypeId × TI) := [
 (2, ⟨1, 8, .sc (.int .i64 0)⟩),
 (3, ⟨1, 8, .sc (.int .i64 0)⟩),
 (4, ⟨1, 1, .sc (.bool false)⟩),
 (5, ⟨1, 1, .sc (.int .u8 0)⟩),
 (7, ⟨4, 24, .st [.sc (.int .i64 0), .sc (.int .i64 0), .sc (.bool false), .sc (.int .u8 0)] [(0, 1, false), (1, 1, false), (2, 1, false), (3, 1, false)]⟩),
 (9, ⟨1, 16, .sc (.string ⟨#[]⟩)⟩),
 (12, ⟨1, 8, .sc (.int .u64 0)⟩),
 (13, ⟨2, 24, .st [.sc (.string ⟨#[]⟩), .sc (.int .u64 0)] [(0, 1, false), (1, 1, false)]⟩),
 (21, ⟨1, 4, .sc (.int .i32 0)⟩),
 (22, ⟨1, 24, .sl true 5 .u8⟩),
 (23, ⟨1, 24, .sl true 56 .fact⟩),
 (24, ⟨1, 24, .sl true 61 .atom⟩),
 (25, ⟨2, 48, .st [.sl .fact, .sl .atom] [(0, 1, false), (1, 1, false)]⟩),
 (26, ⟨2, 48, .st [.sl .fact, .sl .atom] [(0, 1, false), (1, 1, false)]⟩),
 (31, ⟨1, 24, .sl true 3 .int⟩),
 (32, ⟨2, 48, .st [.sl .int, .sl .int] [(0, 1, false), (1, 1, false)]⟩),
 (33, ⟨2, 48, .st [.sl .int, .sl .int] [(0, 1, false), (1, 1, false)]⟩),
 (41, ⟨1, 24, .sl false 144 .fact⟩),
 (42, ⟨1, 24, .sl false 146 .atom⟩),
 (43, ⟨2, 48, .st [.sl .fact, .sl .atom] [(0, 1, false), (1, 1, false)]⟩),
 (44, ⟨2, 48, .st [.sl .fact, .sl .atom] [(0, 1, false), (1, 1, false)]⟩),
 (55, ⟨3, 24, .st [.sc (.bool false), .sc (.int .i64 0), .sc (.int .i64 0)] [(0, 1, false), (1, 1, false), (2, 1, false)]⟩),
 (56, ⟨3, 24, .st [.sc (.bool false), .sc (.int .i64 0), .sc (.int .i64 0)] [(0, 1, false), (1, 1, false), (2, 1, false)]⟩),
 (60, ⟨3, 24, .st [.sc (.int .i64 0), .sc (.int .i64 0), .sc (.int .i64 0)] [(0, 1, false), (1, 1, false), (2, 1, false)]⟩),
 (61, ⟨3, 24, .st [.sc (.int .i64 0), .sc (.int .i64 0), .sc (.int .i64 0)] [(0, 1, false), (1, 1, false), (2, 1, false)]⟩),
 (81, ⟨9, 72, .ar 9 3 .int⟩),
 (82, ⟨9, 72, .ar 9 3 .int⟩),
 (86, ⟨1, 2, .sc (.int .u16 0)⟩),
 (87, ⟨1, 2, .sc (.int .u16 0)⟩),
 (94, ⟨1, 24, .sl true 4 .bool⟩),
 (99, ⟨1, 2, .sc (.int .u16 0)⟩),
 (101, ⟨1, 24, .sl true 31 .ints⟩),
 (130, ⟨2, 32, .st [.sl .u8, .sc (.int .i64 0)] [(0, 1, false), (1, 1, false)]⟩),
 (131, ⟨2, 32, .st [.sl .u8, .sc (.int .i64 0)] [(0, 1, false), (1, 1, false)]⟩),
 (144, ⟨3, 24, .st [.sc (.bool false), .sc (.int .i64 0), .sc (.int .i64 0)] [(0, 1, false), (1, 1, false), (2, 1, false)]⟩),
 (146, ⟨3, 24, .st [.sc (.int .i64 0), .sc (.int .i64 0), .sc (.int .i64 0)] [(0, 1, false), (1, 1, false), (2, 1, false)]⟩),
 (148, ⟨6, 6, .ar 6 4 .bool⟩),
 (149, ⟨8, 40, .st [.sl .atom, .sc (.bool false), .sc (.bool false), .sc (.bool false), .sc (.bool false), .sc (.bool false), .sc (.bool false), .sc (.int .i64 0)] [(0, 1, false), (1, 6, true), (7, 1, false)]⟩),
 (150, ⟨8, 40, .st [.sl .atom, .sc (.bool false), .sc (.bool false), .sc (.bool false), .sc (.bool false), .sc (.bool false), .sc (.bool false), .sc (.int .i64 0)] [(0, 1, false), (1, 6, true), (7, 1, false)]⟩),
 (178, ⟨1, 4, .sc (.int .u32 0)⟩),
 (190, ⟨1, 8, .sc (.int .u64 0)⟩)]
def tab : TypeId -> Option TI := lookT tabL
theorem tabOk : TabOk Try.prog E tab := tab_ok (by kernel_rfl)
theorem mix : Try.prog.follows .mixedOrders = true := by kernel_rfl
end Go.Proofs.Ytfoioficiffgkaa

namespace Go.Proofs.Ytfoioficiffgkaa
open Go.SE Go.RowKit
set_option linter.unusedSimpArgs false
set_option linter.unusedVariables false
set_option maxHeartbeats 1000000
set_option maxRecDepth 100000
abbrev c_szFactS : Con := ⟨[.sl .fact, .int], [.int], fun (l, left, _) => l.length <= 281474976710656 /\ 0 <= left /\ left <= 1048576, .inl fun (l, left, _) => (sz1 left l.length, ()), fun _ => 0⟩
abbrev L_szFactS : List (FuncId × Con) := []
abbrev P_szFactS : List (FuncId × PT) := []
def VC_szFactS (l : List GFact) (left : Int) (k : Nat) : Prop := True /\ True /\ True /\ True /\ (inK .i64 (left - ((l.length : Nat) : Int))) /\ True /\ True /\ True /\ (vcIf (decide ((left - ((l.length : Nat) : Int)) < (0 : Int))) (True /\ ((((-1 : Int), ()) : Int × Unit) = (sz1 left l.length, ())) /\ True /\ True /\ True /\ True /\ TF) (True /\ True /\ (((left - ((l.length : Nat) : Int), ()) : Int × Unit) = (sz1 left l.length, ())) /\ True /\ True /\ True /\ True /\ TF))
theorem vcn_szFactS (l : List GFact) (left : Int) (k : Nat) (hp : l.length <= 281474976710656 /\ 0 <= left /\ left <= 1048576) : VC_szFactS l left k := by
 unfold VC_szFactS
 simp only [cln, Nat.reduceEqDiff, Nat.reduceLeDiff, Nat.reduceAdd]
 unfold sz1
 by_cases h : left - l.length < 0 <;> simp [vcIf, h] <;> omega
theorem ok_szFactS : FnOk Try.prog E 64 c_szFactS :=
 fn_okQ (l := L_szFactS) (lp := P_szFactS) (hp := fun _ => false) (gcs := fun _ => none) (perm := fun _ => []) tabOk mix trivial trivial Try.func64 rfl (by kernel_rfl) (by decide) (by kernel_rfl) (anns := fun x _ => fun _ _ => none) (fun ⟨l, left, _⟩ k hp _ => Eq.mp (by kernel_rfl) (vcn_szFactS l left k hp)) tot_fn
abbrev c_szAtomS : Con := ⟨[.sl .atom, .int], [.int], fun (l, left, _) => l.length <= 281474976710656 /\ 0 <= left /\ left <= 1048576, .inl fun (l, left, _) => (sz1 left l.length, ()), fun _ => 0⟩
abbrev L_szAtomS : List (FuncId × Con) := []
abbrev P_szAtomS : List (FuncId × PT) := []
def VC_szAtomS (l : List GAtom) (left : Int) (k : Nat) : Prop := True /\ True /\ True /\ True /\ (inK .i64 (left - ((l.length : Nat) : Int))) /\ True /\ True /\ True /\ (vcIf (decide ((left - ((l.length : Nat) : Int)) < (0 : Int))) (True /\ ((((-1 : Int), ()) : Int × Unit) = (sz1 left l.length, ())) /\ True /\ True /\ True /\ True /\ TF) (True /\ True /\ (((left - ((l.length : Nat) : Int), ()) : Int × Unit) = (sz1 left l.length, ())) /\ True /\ True /\ True /\ True /\ TF))
theorem vcn_szAtomS (l : List GAtom) (left : Int) (k : Nat) (hp : l.length <= 281474976710656 /\ 0 <= left /\ left <= 1048576) : VC_szAtomS l left k := by
 unfold VC_szAtomS
 simp only [cln, Nat.reduceEqDiff, Nat.reduceLeDiff, Nat.reduceAdd]
 unfold sz1
 by_cases h : left - l.length < 0 <;> simp [vcIf, h] <;> omega
theorem ok_szAtomS : FnOk Try.prog E 65 c_szAtomS :=
 fn_okQ (l := L_szAtomS) (lp := P_szAtomS) (hp := fun _ => false) (gcs := fun _ => none) (perm := fun _ => []) tabOk mix trivial trivial Try.func65 rfl (by kernel_rfl) (by decide) (by kernel_rfl) (anns := fun x _ => fun _ _ => none) (fun ⟨l, left, _⟩ k hp _ => Eq.mp (by kernel_rfl) (vcn_szAtomS l left k hp)) tot_fn
abbrev c_szAssertion : Con := ⟨[.asn, .int], [.int], fun (a, left, _) => a.facts.length <= 281474976710656 /\ a.atoms.length <= 281474976710656 /\ 0 <= left /\ left <= 1048576, .inl fun (a, left, _) => (szA a left, ()), fun _ => 0⟩
abbrev L_szAssertion : List (FuncId × Con) := [(64, c_szFactS), (65, c_szAtomS)]
abbrev P_szAssertion : List (FuncId × PT) := []
def VC_szAssertion_1 (a : GAsn) (left : Int) : Prop := True /\ ((((-1 : Int), ()) : Int × Unit) = (szA a left, ())) /\ True /\ True /\ True /\ True /\ TF
def VC_szAssertion (a : GAsn) (left : Int) (k : Nat) : Prop := TN /\ True /\ True /\ True /\ True /\ ((a.facts.length <= 281474976710656 /\ 0 <= left /\ left <= 1048576) /\ True /\ True) /\ True /\ True /\ True /\ (vcIf (decide ((sz1 left a.facts.length) < (0 : Int))) (VC_szAssertion_1 a left) (True /\ True /\ True /\ ((a.atoms.length <= 281474976710656 /\ 0 <= (sz1 left a.facts.length) /\ (sz1 left a.facts.length) <= 1048576) /\ True /\ True) /\ True /\ True /\ True /\ (vcIf (decide ((sz1 (sz1 left a.facts.length) a.atoms.length) < (0 : Int))) (VC_szAssertion_1 a left) (True /\ True /\ ((((sz1 (sz1 left a.facts.length) a.atoms.length), ()) : Int × Unit) = (szA a left, ())) /\ True /\ True /\ True /\ True /\ TF))))
theorem vcn_szAssertion (a : GAsn) (left : Int) (k : Nat) (hp : a.facts.length <= 281474976710656 /\ a.atoms.length <= 281474976710656 /\ 0 <= left /\ left <= 1048576) : VC_szAssertion a left k := by
 unfold VC_szAssertion VC_szAssertion_1
 simp only [cln, Nat.reduceEqDiff, Nat.reduceLeDiff, Nat.reduceAdd]
 all_goals (try simp only [opn])
 all_goals (repeat' (first | apply And.intro | intro _))
 all_goals (first | omega | (simp_all; done) | grind [szA, sz1])
theorem ok_szAssertion : FnOk Try.prog E 23 c_szAssertion :=
 fn_okQ (l := L_szAssertion) (lp := P_szAssertion) (hp := fun _ => false) (gcs := fun _ => none) (perm := fun _ => []) tabOk mix ⟨ok_szFactS, ok_szAtomS, trivial⟩ trivial Try.func23 rfl (by kernel_rfl) (by decide) (by kernel_rfl) (anns := fun x _ => fun _ _ => none) (fun ⟨a, left, _⟩ k hp _ => Eq.mp (by kernel_rfl) (vcn_szAssertion a left k hp)) tot_fn
abbrev c_toFact : Con := ⟨[.fact], [.fact], fun _ => True, .inl fun (f, _) => (f, ()), fun _ => 0⟩
abbrev L_toFact : List (FuncId × Con) := []
abbrev P_toFact : List (FuncId × PT) := []
def VC_toFact (f : GFact) (k : Nat) : Prop := TN /\ (TN /\ True) /\ (TN /\ True) /\ True /\ True /\ True /\ (TF /\ TF) /\ True /\ True /\ True /\ (TF /\ TF) /\ True /\ True /\ True /\ (TF /\ TF) /\ True /\ (TF /\ TF) /\ (((f, ()) : GFact × Unit) = (f, ())) /\ True /\ True /\ True /\ True /\ TF
theorem vcn_toFact (f : GFact) (k : Nat) : VC_toFact f k := by
 unfold VC_toFact
 simp only [cln, Nat.reduceEqDiff, Nat.reduceLeDiff, Nat.reduceAdd]
 all_goals (try simp only [opn])
 all_goals (repeat' (first | apply And.intro | intro _))
 all_goals (first | omega | (simp_all; done) | grind [])
theorem ok_toFact : FnOk Try.prog E 126 c_toFact :=
 fn_okQ (l := L_toFact) (lp := P_toFact) (hp := fun _ => false) (gcs := fun _ => none) (perm := fun _ => []) tabOk mix trivial trivial Try.func126 rfl (by kernel_rfl) (by decide) (by kernel_rfl) (anns := fun x _ => fun _ _ => none) (fun ⟨f, _⟩ k _ _ => Eq.mp (by kernel_rfl) (vcn_toFact f k)) tot_fn
abbrev c_toFactS : Con := ⟨[.sl .fact], [.sl .fact], fun (l, _) => l.length <= 1048576, .inl fun (l, _) => (l, ()), fun _ => 0⟩
abbrev L_toFactS : List (FuncId × Con) := [(126, c_toFact)]
abbrev P_toFactS : List (FuncId × PT) := []
def an_toFactS (l : List GFact) : Nat -> St -> Option Ann
 | 3, se => some { α := Nat, ok := fun i => i <= l.length, mu := fun i => l.length - i, i0 := fun _ => 0, nx := fun a _ => (fun i => i + 1) a, live := [0, 2], sets := fun i => [(4, sv (.int .i64 i))], mids := [32], blks := fun i => [], owns := fun i => [⟨7, .slot 3, .fact, l.take i ++ List.replicate (l.length - i) (⟨false, 0, 0⟩ : GFact)⟩], rd := fun r _ => r, base := 100000 }
 | _, _ => none
def VC_toFactS (l : List GFact) (k : Nat) : Prop := TN /\ True /\ True /\ (TN /\ (0 <= ((l.length : Nat) : Int) /\ ((l.length : Nat) : Int) <= ((l.length : Nat) : Int) /\ ((l.length : Nat) : Int) <= 4294967296)) /\ True /\ True /\ ((0 <= l.length) /\ TT /\ (RL [.s (.c (.d (.arr .fact l))), .s (.c (.own 32))]) /\ (([.s (.c (.d (.val (.int .i64 (0 : Int)))))] : List S) = [.s (.c (.d (.val (.int .i64 ((0 : Nat) : Int)))))]) /\ (RM [some (.sl 32 .fact ([] : List GFact))]) /\ (RM []) /\ (((some (List.replicate l.length (⟨false, 0, 0⟩ : GFact)) : Option (List GFact)) = some (l.take 0 ++ List.replicate (l.length - 0) (⟨false, 0, 0⟩ : GFact))) /\ True) /\ TT) /\ (∀ i1 : Nat, (i1 <= l.length) -> True /\ True /\ True /\ True /\ (vcIf (decide (((i1 : Nat) : Int) < ((l.length : Nat) : Int))) (True /\ True /\ True /\ True /\ (0 <= ((i1 : Nat) : Int) /\ ((i1 : Nat) : Int) < ((l.length : Nat) : Int)) /\ True /\ (True /\ True /\ True) /\ (0 <= ((i1 : Nat) : Int) /\ ((i1 : Nat) : Int) < (((l.take i1 ++ List.replicate (l.length - i1) (⟨false, 0, 0⟩ : GFact)).length : Nat) : Int)) /\ (TF /\ TF /\ True /\ ((7 : Nat) ∉ ([] : List Nat))) /\ True /\ (inK .i64 (((i1 : Nat) : Int) + (1 : Int))) /\ True /\ ((i1 + 1) <= l.length) /\ (l.length - (i1 + 1) < l.length - i1) /\ TT /\ (RL [.s (.c (.d (.arr .fact l))), .s (.c (.own 32))]) /\ (([.s (.c (.d (.val (.int .i64 (((i1 : Nat) : Int) + (1 : Int))))))] : List S) = [.s (.c (.d (.val (.int .i64 (((i1 + 1) : Nat) : Int)))))]) /\ (RM [some (.sl 32 .fact ([] : List GFact))]) /\ (RM []) /\ (((some ((l.take i1 ++ List.replicate (l.length - i1) (⟨false, 0, 0⟩ : GFact)).set i1 (l.getD i1 (⟨false, 0, 0⟩ : GFact))) : Option (List GFact)) = some (l.take (i1 + 1) ++ List.replicate (l.length - (i1 + 1)) (⟨false, 0, 0⟩ : GFact))) /\ True) /\ TT) (True /\ True /\ (((l.take i1 ++ List.replicate (l.length - i1) (⟨false, 0, 0⟩ : GFact), ()) : (List GFact) × Unit) = (l, ())) /\ (True /\ True) /\ ((TF /\ TF) /\ True) /\ True /\ (True /\ True) /\ TF)))
theorem vcn_toFactS (l : List GFact) (k : Nat) (hp : l.length <= 1048576) : VC_toFactS l k := by
 unfold VC_toFactS
 simp only [cln, Nat.reduceEqDiff, Nat.reduceLeDiff, Nat.reduceAdd]
 all_goals (try simp only [opn])
 all_goals (repeat' (first | apply And.intro | intro _))
 all_goals (first | omega | (simp_all; done) | grind [copy_step, take_full])
theorem ok_toFactS : FnOk Try.prog E 69 c_toFactS :=
 fn_okQ (l := L_toFactS) (lp := P_toFactS) (hp := fun _ => false) (gcs := fun _ => none) (perm := fun _ => []) tabOk mix ⟨ok_toFact, trivial⟩ trivial Try.func69 rfl (by kernel_rfl) (by decide) (by kernel_rfl) (anns := fun x _ => an_toFactS x.1) (fun ⟨l, _⟩ k hp _ => Eq.mp (by kernel_rfl) (vcn_toFactS l k hp)) tot_fn
abbrev c_toAtom : Con := ⟨[.atom], [.atom], fun _ => True, .inl fun (f, _) => (f, ()), fun _ => 0⟩
abbrev L_toAtom : List (FuncId × Con) := []
abbrev P_toAtom : List (FuncId × PT) := []
def VC_toAtom (f : GAtom) (k : Nat) : Prop := TN /\ (TN /\ True) /\ (TN /\ True) /\ True /\ True /\ True /\ (TF /\ TF) /\ True /\ True /\ True /\ (TF /\ TF) /\ True /\ True /\ True /\ (TF /\ TF) /\ True /\ (TF /\ TF) /\ (((f, ()) : GAtom × Unit) = (f, ())) /\ True /\ True /\ True /\ True /\ TF
theorem vcn_toAtom (f : GAtom) (k : Nat) : VC_toAtom f k := by
 unfold VC_toAtom
 simp only [cln, Nat.reduceEqDiff, Nat.reduceLeDiff, Nat.reduceAdd]
 all_goals (try simp only [opn])
 all_goals (repeat' (first | apply And.intro | intro _))
 all_goals (first | omega | (simp_all; done) | grind [])
theorem ok_toAtom : FnOk Try.prog E 127 c_toAtom :=
 fn_okQ (l := L_toAtom) (lp := P_toAtom) (hp := fun _ => false) (gcs := fun _ => none) (perm := fun _ => []) tabOk mix trivial trivial Try.func127 rfl (by kernel_rfl) (by decide) (by kernel_rfl) (anns := fun x _ => fun _ _ => none) (fun ⟨f, _⟩ k _ _ => Eq.mp (by kernel_rfl) (vcn_toAtom f k)) tot_fn
abbrev c_toAtomS : Con := ⟨[.sl .atom], [.sl .atom], fun (l, _) => l.length <= 1048576, .inl fun (l, _) => (l, ()), fun _ => 0⟩
abbrev L_toAtomS : List (FuncId × Con) := [(127, c_toAtom)]
abbrev P_toAtomS : List (FuncId × PT) := []
def an_toAtomS (l : List GAtom) : Nat -> St -> Option Ann
 | 3, se => some { α := Nat, ok := fun i => i <= l.length, mu := fun i => l.length - i, i0 := fun _ => 0, nx := fun a _ => (fun i => i + 1) a, live := [0, 2], sets := fun i => [(4, sv (.int .i64 i))], mids := [32], blks := fun i => [], owns := fun i => [⟨7, .slot 3, .atom, l.take i ++ List.replicate (l.length - i) (⟨0, 0, 0⟩ : GAtom)⟩], rd := fun r _ => r, base := 100000 }
 | _, _ => none
def VC_toAtomS (l : List GAtom) (k : Nat) : Prop := TN /\ True /\ True /\ (TN /\ (0 <= ((l.length : Nat) : Int) /\ ((l.length : Nat) : Int) <= ((l.length : Nat) : Int) /\ ((l.length : Nat) : Int) <= 4294967296)) /\ True /\ True /\ ((0 <= l.length) /\ TT /\ (RL [.s (.c (.d (.arr .atom l))), .s (.c (.own 32))]) /\ (([.s (.c (.d (.val (.int .i64 (0 : Int)))))] : List S) = [.s (.c (.d (.val (.int .i64 ((0 : Nat) : Int)))))]) /\ (RM [some (.sl 32 .atom ([] : List GAtom))]) /\ (RM []) /\ (((some (List.replicate l.length (⟨0, 0, 0⟩ : GAtom)) : Option (List GAtom)) = some (l.take 0 ++ List.replicate (l.length - 0) (⟨0, 0, 0⟩ : GAtom))) /\ True) /\ TT) /\ (∀ i1 : Nat, (i1 <= l.length) -> True /\ True /\ True /\ True /\ (vcIf (decide (((i1 : Nat) : Int) < ((l.length : Nat) : Int))) (True /\ True /\ True /\ True /\ (0 <= ((i1 : Nat) : Int) /\ ((i1 : Nat) : Int) < ((l.length : Nat) : Int)) /\ True /\ (True /\ True /\ True) /\ (0 <= ((i1 : Nat) : Int) /\ ((i1 : Nat) : Int) < (((l.take i1 ++ List.replicate (l.length - i1) (⟨0, 0, 0⟩ : GAtom)).length : Nat) : Int)) /\ (TF /\ TF /\ True /\ ((7 : Nat) ∉ ([] : List Nat))) /\ True /\ (inK .i64 (((i1 : Nat) : Int) + (1 : Int))) /\ True /\ ((i1 + 1) <= l.length) /\ (l.length - (i1 + 1) < l.length - i1) /\ TT /\ (RL [.s (.c (.d (.arr .atom l))), .s (.c (.own 32))]) /\ (([.s (.c (.d (.val (.int .i64 (((i1 : Nat) : Int) + (1 : Int))))))] : List S) = [.s (.c (.d (.val (.int .i64 (((i1 + 1) : Nat) : Int)))))]) /\ (RM [some (.sl 32 .atom ([] : List GAtom))]) /\ (RM []) /\ (((some ((l.take i1 ++ List.replicate (l.length - i1) (⟨0, 0, 0⟩ : GAtom)).set i1 (l.getD i1 (⟨0, 0, 0⟩ : GAtom))) : Option (List GAtom)) = some (l.take (i1 + 1) ++ List.replicate (l.length - (i1 + 1)) (⟨0, 0, 0⟩ : GAtom))) /\ True) /\ TT) (True /\ True /\ (((l.take i1 ++ List.replicate (l.length - i1) (⟨0, 0, 0⟩ : GAtom), ()) : (List GAtom) × Unit) = (l, ())) /\ (True /\ True) /\ ((TF /\ TF) /\ True) /\ True /\ (True /\ True) /\ TF)))
theorem vcn_toAtomS (l : List GAtom) (k : Nat) (hp : l.length <= 1048576) : VC_toAtomS l k := by
 unfold VC_toAtomS
 simp only [cln, Nat.reduceEqDiff, Nat.reduceLeDiff, Nat.reduceAdd]
 all_goals (try simp only [opn])
 all_goals (repeat' (first | apply And.intro | intro _))
 all_goals (first | omega | (simp_all; done) | grind [copy_step, take_full])
theorem ok_toAtomS : FnOk Try.prog E 70 c_toAtomS :=
 fn_okQ (l := L_toAtomS) (lp := P_toAtomS) (hp := fun _ => false) (gcs := fun _ => none) (perm := fun _ => []) tabOk mix ⟨ok_toAtom, trivial⟩ trivial Try.func70 rfl (by kernel_rfl) (by decide) (by kernel_rfl) (anns := fun x _ => an_toAtomS x.1) (fun ⟨l, _⟩ k hp _ => Eq.mp (by kernel_rfl) (vcn_toAtomS l k hp)) tot_fn
abbrev c_toAssertion : Con := ⟨[.asn], [.asn], fun (a, _) => a.facts.length <= 1048576 /\ a.atoms.length <= 1048576, .inl fun (a, _) => (a, ()), fun _ => 0⟩
abbrev L_toAssertion : List (FuncId × Con) := [(69, c_toFactS), (70, c_toAtomS)]
abbrev P_toAssertion : List (FuncId × PT) := []
def VC_toAssertion (a : GAsn) (k : Nat) : Prop := TN /\ (TN /\ TN /\ TN /\ True) /\ (TN /\ TN /\ TN /\ True) /\ True /\ True /\ ((a.facts.length <= 1048576) /\ True /\ TN /\ True) /\ True /\ (TF /\ TF) /\ True /\ True /\ ((a.atoms.length <= 1048576) /\ True /\ TN /\ True) /\ True /\ (TF /\ TF) /\ True /\ (TF /\ TF) /\ (((a, ()) : GAsn × Unit) = (a, ())) /\ ((((96 : Nat) ≠ 160) /\ True) /\ True /\ True) /\ ((TF /\ TF) /\ (TF /\ TF) /\ True) /\ True /\ (True /\ True /\ True) /\ TF
theorem vcn_toAssertion (a : GAsn) (k : Nat) (hp : a.facts.length <= 1048576 /\ a.atoms.length <= 1048576) : VC_toAssertion a k := by
 unfold VC_toAssertion
 simp only [cln, Nat.reduceEqDiff, Nat.reduceLeDiff, Nat.reduceAdd]
 all_goals (try simp only [opn])
 all_goals (repeat' (first | apply And.intro | intro _))
 all_goals (first | omega | (simp_all; done) | grind [])
theorem ok_toAssertion : FnOk Try.prog E 25 c_toAssertion :=
 fn_okQ (l := L_toAssertion) (lp := P_toAssertion) (hp := fun _ => false) (gcs := fun _ => none) (perm := fun _ => []) tabOk mix ⟨ok_toFactS, ok_toAtomS, trivial⟩ trivial Try.func25 rfl (by kernel_rfl) (by decide) (by kernel_rfl) (anns := fun x _ => fun _ _ => none) (fun ⟨a, _⟩ k hp _ => Eq.mp (by kernel_rfl) (vcn_toAssertion a k hp)) tot_fn
abbrev c_eqFact : Con := ⟨[.fact, .fact], [.bool], fun _ => True, .inl fun (f, g, _) => (decide (f = g), ()), fun _ => 0⟩
abbrev L_eqFact : List (FuncId × Con) := []
abbrev P_eqFact : List (FuncId × PT) := []
def VC_eqFact_1 (f : GFact) (g : GFact) : Prop := True /\ (((false, ()) : Bool × Unit) = (decide (f = g), ())) /\ True /\ True /\ True /\ True /\ TF
def VC_eqFact (f : GFact) (g : GFact) (k : Nat) : Prop := TN /\ TN /\ True /\ True /\ True /\ True /\ True /\ True /\ (vcIf (f.eq != g.eq) (VC_eqFact_1 f g) (True /\ True /\ True /\ True /\ True /\ (vcIf (f.a != g.a) (VC_eqFact_1 f g) (True /\ True /\ True /\ True /\ True /\ (vcIf (f.b != g.b) (VC_eqFact_1 f g) (True /\ (((true, ()) : Bool × Unit) = (decide (f = g), ())) /\ True /\ True /\ True /\ True /\ TF))))))
theorem vcn_eqFact (f : GFact) (g : GFact) (k : Nat) : VC_eqFact f g k := by
 unfold VC_eqFact VC_eqFact_1
 simp only [cln, Nat.reduceEqDiff, Nat.reduceLeDiff, Nat.reduceAdd]
 obtain ⟨f1, f2, f3⟩ := f; obtain ⟨g1, g2, g3⟩ := g
 all_goals (try simp only [opn])
 all_goals (repeat' (first | apply And.intro | intro _))
 all_goals (first | omega | (simp_all; done) | grind [])
theorem ok_eqFact : FnOk Try.prog E 133 c_eqFact :=
 fn_okQ (l := L_eqFact) (lp := P_eqFact) (hp := fun _ => false) (gcs := fun _ => none) (perm := fun _ => []) tabOk mix trivial trivial Try.func133 rfl (by kernel_rfl) (by decide) (by kernel_rfl) (anns := fun x _ => fun _ _ => none) (fun ⟨f, g, _⟩ k _ _ => Eq.mp (by kernel_rfl) (vcn_eqFact f g k)) tot_fn
abbrev c_eqFactS : Con := ⟨[.sl .fact, .sl .fact], [.bool], fun (a, b, _) => a.length <= 281474976710656 /\ b.length <= 281474976710656, .inl fun (a, b, _) => (decide (a = b), ()), fun _ => 0⟩
abbrev L_eqFactS : List (FuncId × Con) := [(133, c_eqFact)]
abbrev P_eqFactS : List (FuncId × PT) := []
def an_eqFactS (a : List GFact) (b : List GFact) : Nat -> St -> Option Ann
 | 4, se => some { α := Nat, ok := fun i => i <= a.length /\ a.length = b.length /\ a.take i = b.take i, mu := fun i => a.length - i, i0 := fun _ => 0, nx := fun a _ => (fun i => i + 1) a, live := [0, 1], sets := fun i => [(5, sv (.int .i64 i))], mids := [], blks := fun i => [], owns := fun i => [], rd := fun r _ => r, base := 100000 }
 | _, _ => none
def VC_eqFactS_1 (a : List GFact) (b : List GFact) : Prop := True /\ (((false, ()) : Bool × Unit) = (decide (a = b), ())) /\ True /\ True /\ True /\ True /\ TF
def VC_eqFactS (a : List GFact) (b : List GFact) (k : Nat) : Prop := True /\ True /\ True /\ True /\ True /\ True /\ (vcIf (((a.length : Nat) : Int) != ((b.length : Nat) : Int)) (VC_eqFactS_1 a b) (True /\ ((0 <= a.length /\ a.length = b.length /\ a.take 0 = b.take 0) /\ TT /\ (RL [.s (.c (.d (.arr .fact a))), .s (.c (.d (.arr .fact b)))]) /\ (([.s (.c (.d (.val (.int .i64 (0 : Int)))))] : List S) = [.s (.c (.d (.val (.int .i64 ((0 : Nat) : Int)))))]) /\ (RM []) /\ (RM []) /\ True /\ TT) /\ (∀ i1 : Nat, (i1 <= a.length /\ a.length = b.length /\ a.take i1 = b.take i1) -> True /\ True /\ True /\ True /\ (vcIf (decide (((i1 : Nat) : Int) < ((a.length : Nat) : Int))) (True /\ True /\ (0 <= ((i1 : Nat) : Int) /\ ((i1 : Nat) : Int) < ((a.length : Nat) : Int)) /\ True /\ True /\ True /\ (0 <= ((i1 : Nat) : Int) /\ ((i1 : Nat) : Int) < ((b.length : Nat) : Int)) /\ True /\ (True /\ True /\ True) /\ True /\ (vcIf (!(decide ((a.getD i1 (⟨false, 0, 0⟩ : GFact)) = (b.getD i1 (⟨false, 0, 0⟩ : GFact))))) (VC_eqFactS_1 a b) (True /\ (inK .i64 (((i1 : Nat) : Int) + (1 : Int))) /\ True /\ ((i1 + 1) <= a.length /\ a.length = b.length /\ a.take (i1 + 1) = b.take (i1 + 1)) /\ (a.length - (i1 + 1) < a.length - i1) /\ TT /\ (RL [.s (.c (.d (.arr .fact a))), .s (.c (.d (.arr .fact b)))]) /\ (([.s (.c (.d (.val (.int .i64 (((i1 : Nat) : Int) + (1 : Int))))))] : List S) = [.s (.c (.d (.val (.int .i64 (((i1 + 1) : Nat) : Int)))))]) /\ (RM []) /\ (RM []) /\ True /\ TT))) (True /\ (((true, ()) : Bool × Unit) = (decide (a = b), ())) /\ True /\ True /\ True /\ True /\ TF)))))
theorem vcn_eqFactS (a : List GFact) (b : List GFact) (k : Nat) (hp : a.length <= 281474976710656 /\ b.length <= 281474976710656) : VC_eqFactS a b k := by
 unfold VC_eqFactS VC_eqFactS_1
 simp only [cln, Nat.reduceEqDiff, Nat.reduceLeDiff, Nat.reduceAdd]
 all_goals (try simp only [opn])
 all_goals (repeat' (first | apply And.intro | intro _))
 all_goals (first | omega | (simp_all; done) | grind [same_step, same_not, take_full])
theorem ok_eqFactS : FnOk Try.prog E 74 c_eqFactS :=
 fn_okQ (l := L_eqFactS) (lp := P_eqFactS) (hp := fun _ => false) (gcs := fun _ => none) (perm := fun _ => []) tabOk mix ⟨ok_eqFact, trivial⟩ trivial Try.func74 rfl (by kernel_rfl) (by decide) (by kernel_rfl) (anns := fun x _ => an_eqFactS x.1 x.2.1) (fun ⟨a, b, _⟩ k hp _ => Eq.mp (by kernel_rfl) (vcn_eqFactS a b k hp)) tot_fn
abbrev c_eqAtom : Con := ⟨[.atom, .atom], [.bool], fun _ => True, .inl fun (f, g, _) => (decide (f = g), ()), fun _ => 0⟩
abbrev L_eqAtom : List (FuncId × Con) := []
abbrev P_eqAtom : List (FuncId × PT) := []
def VC_eqAtom_1 (f : GAtom) (g : GAtom) : Prop := True /\ (((false, ()) : Bool × Unit) = (decide (f = g), ())) /\ True /\ True /\ True /\ True /\ TF
def VC_eqAtom (f : GAtom) (g : GAtom) (k : Nat) : Prop := TN /\ TN /\ True /\ True /\ True /\ True /\ True /\ True /\ (vcIf (f.kind != g.kind) (VC_eqAtom_1 f g) (True /\ True /\ True /\ True /\ True /\ (vcIf (f.a != g.a) (VC_eqAtom_1 f g) (True /\ True /\ True /\ True /\ True /\ (vcIf (f.b != g.b) (VC_eqAtom_1 f g) (True /\ (((true, ()) : Bool × Unit) = (decide (f = g), ())) /\ True /\ True /\ True /\ True /\ TF))))))
theorem vcn_eqAtom (f : GAtom) (g : GAtom) (k : Nat) : VC_eqAtom f g k := by
 unfold VC_eqAtom VC_eqAtom_1
 simp only [cln, Nat.reduceEqDiff, Nat.reduceLeDiff, Nat.reduceAdd]
 obtain ⟨f1, f2, f3⟩ := f; obtain ⟨g1, g2, g3⟩ := g
 all_goals (try simp only [opn])
 all_goals (repeat' (first | apply And.intro | intro _))
 all_goals (first | omega | (simp_all; done) | grind [])
theorem ok_eqAtom : FnOk Try.prog E 134 c_eqAtom :=
 fn_okQ (l := L_eqAtom) (lp := P_eqAtom) (hp := fun _ => false) (gcs := fun _ => none) (perm := fun _ => []) tabOk mix trivial trivial Try.func134 rfl (by kernel_rfl) (by decide) (by kernel_rfl) (anns := fun x _ => fun _ _ => none) (fun ⟨f, g, _⟩ k _ _ => Eq.mp (by kernel_rfl) (vcn_eqAtom f g k)) tot_fn
abbrev c_eqAtomS : Con := ⟨[.sl .atom, .sl .atom], [.bool], fun (a, b, _) => a.length <= 281474976710656 /\ b.length <= 281474976710656, .inl fun (a, b, _) => (decide (a = b), ()), fun _ => 0⟩
abbrev L_eqAtomS : List (FuncId × Con) := [(134, c_eqAtom)]
abbrev P_eqAtomS : List (FuncId × PT) := []
def an_eqAtomS (a : List GAtom) (b : List GAtom) : Nat -> St -> Option Ann
 | 4, se => some { α := Nat, ok := fun i => i <= a.length /\ a.length = b.length /\ a.take i = b.take i, mu := fun i => a.length - i, i0 := fun _ => 0, nx := fun a _ => (fun i => i + 1) a, live := [0, 1], sets := fun i => [(5, sv (.int .i64 i))], mids := [], blks := fun i => [], owns := fun i => [], rd := fun r _ => r, base := 100000 }
 | _, _ => none
def VC_eqAtomS_1 (a : List GAtom) (b : List GAtom) : Prop := True /\ (((false, ()) : Bool × Unit) = (decide (a = b), ())) /\ True /\ True /\ True /\ True /\ TF
def VC_eqAtomS (a : List GAtom) (b : List GAtom) (k : Nat) : Prop := True /\ True /\ True /\ True /\ True /\ True /\ (vcIf (((a.length : Nat) : Int) != ((b.length : Nat) : Int)) (VC_eqAtomS_1 a b) (True /\ ((0 <= a.length /\ a.length = b.length /\ a.take 0 = b.take 0) /\ TT /\ (RL [.s (.c (.d (.arr .atom a))), .s (.c (.d (.arr .atom b)))]) /\ (([.s (.c (.d (.val (.int .i64 (0 : Int)))))] : List S) = [.s (.c (.d (.val (.int .i64 ((0 : Nat) : Int)))))]) /\ (RM []) /\ (RM []) /\ True /\ TT) /\ (∀ i1 : Nat, (i1 <= a.length /\ a.length = b.length /\ a.take i1 = b.take i1) -> True /\ True /\ True /\ True /\ (vcIf (decide (((i1 : Nat) : Int) < ((a.length : Nat) : Int))) (True /\ True /\ (0 <= ((i1 : Nat) : Int) /\ ((i1 : Nat) : Int) < ((a.length : Nat) : Int)) /\ True /\ True /\ True /\ (0 <= ((i1 : Nat) : Int) /\ ((i1 : Nat) : Int) < ((b.length : Nat) : Int)) /\ True /\ (True /\ True /\ True) /\ True /\ (vcIf (!(decide ((a.getD i1 (⟨0, 0, 0⟩ : GAtom)) = (b.getD i1 (⟨0, 0, 0⟩ : GAtom))))) (VC_eqAtomS_1 a b) (True /\ (inK .i64 (((i1 : Nat) : Int) + (1 : Int))) /\ True /\ ((i1 + 1) <= a.length /\ a.length = b.length /\ a.take (i1 + 1) = b.take (i1 + 1)) /\ (a.length - (i1 + 1) < a.length - i1) /\ TT /\ (RL [.s (.c (.d (.arr .atom a))), .s (.c (.d (.arr .atom b)))]) /\ (([.s (.c (.d (.val (.int .i64 (((i1 : Nat) : Int) + (1 : Int))))))] : List S) = [.s (.c (.d (.val (.int .i64 (((i1 + 1) : Nat) : Int)))))]) /\ (RM []) /\ (RM []) /\ True /\ TT))) (True /\ (((true, ()) : Bool × Unit) = (decide (a = b), ())) /\ True /\ True /\ True /\ True /\ TF)))))
theorem vcn_eqAtomS (a : List GAtom) (b : List GAtom) (k : Nat) (hp : a.length <= 281474976710656 /\ b.length <= 281474976710656) : VC_eqAtomS a b k := by
 unfold VC_eqAtomS VC_eqAtomS_1
 simp only [cln, Nat.reduceEqDiff, Nat.reduceLeDiff, Nat.reduceAdd]
 all_goals (try simp only [opn])
 all_goals (repeat' (first | apply And.intro | intro _))
 all_goals (first | omega | (simp_all; done) | grind [same_step, same_not, take_full])
theorem ok_eqAtomS : FnOk Try.prog E 75 c_eqAtomS :=
 fn_okQ (l := L_eqAtomS) (lp := P_eqAtomS) (hp := fun _ => false) (gcs := fun _ => none) (perm := fun _ => []) tabOk mix ⟨ok_eqAtom, trivial⟩ trivial Try.func75 rfl (by kernel_rfl) (by decide) (by kernel_rfl) (anns := fun x _ => an_eqAtomS x.1 x.2.1) (fun ⟨a, b, _⟩ k hp _ => Eq.mp (by kernel_rfl) (vcn_eqAtomS a b k hp)) tot_fn
abbrev c_eqAssertion : Con := ⟨[.asn, .asn], [.bool], fun (a, b, _) => a.facts.length <= 281474976710656 /\ a.atoms.length <= 281474976710656 /\ b.facts.length <= 281474976710656 /\ b.atoms.length <= 281474976710656, .inl fun (a, b, _) => (decide (a = b), ()), fun _ => 0⟩
abbrev L_eqAssertion : List (FuncId × Con) := [(74, c_eqFactS), (75, c_eqAtomS)]
abbrev P_eqAssertion : List (FuncId × PT) := []
def VC_eqAssertion_1 (a : GAsn) (b : GAsn) : Prop := True /\ (((false, ()) : Bool × Unit) = (decide (a = b), ())) /\ True /\ True /\ True /\ True /\ TF
def VC_eqAssertion (a : GAsn) (b : GAsn) (k : Nat) : Prop := TN /\ TN /\ True /\ True /\ True /\ True /\ True /\ ((a.facts.length <= 281474976710656 /\ b.facts.length <= 281474976710656) /\ True /\ True) /\ True /\ (vcIf (!(decide (a.facts = b.facts))) (VC_eqAssertion_1 a b) (True /\ True /\ True /\ True /\ ((a.atoms.length <= 281474976710656 /\ b.atoms.length <= 281474976710656) /\ True /\ True) /\ True /\ (vcIf (!(decide (a.atoms = b.atoms))) (VC_eqAssertion_1 a b) (True /\ (((true, ()) : Bool × Unit) = (decide (a = b), ())) /\ True /\ True /\ True /\ True /\ TF))))
theorem vcn_eqAssertion (a : GAsn) (b : GAsn) (k : Nat) (hp : a.facts.length <= 281474976710656 /\ a.atoms.length <= 281474976710656 /\ b.facts.length <= 281474976710656 /\ b.atoms.length <= 281474976710656) : VC_eqAssertion a b k := by
 unfold VC_eqAssertion VC_eqAssertion_1
 simp only [cln, Nat.reduceEqDiff, Nat.reduceLeDiff, Nat.reduceAdd]
 obtain ⟨a1, a2⟩ := a; obtain ⟨b1, b2⟩ := b
 all_goals (try simp only [opn])
 all_goals (repeat' (first | apply And.intro | intro _))
 all_goals (first | omega | (simp_all; done) | grind [])
theorem ok_eqAssertion : FnOk Try.prog E 28 c_eqAssertion :=
 fn_okQ (l := L_eqAssertion) (lp := P_eqAssertion) (hp := fun _ => false) (gcs := fun _ => none) (perm := fun _ => []) tabOk mix ⟨ok_eqFactS, ok_eqAtomS, trivial⟩ trivial Try.func28 rfl (by kernel_rfl) (by decide) (by kernel_rfl) (anns := fun x _ => fun _ _ => none) (fun ⟨a, b, _⟩ k hp _ => Eq.mp (by kernel_rfl) (vcn_eqAssertion a b k hp)) tot_fn
abbrev c_isTerm : Con := ⟨[.int], [.bool], fun _ => True, .inl fun (t, _) => (isT t, ()), fun _ => 0⟩
abbrev L_isTerm : List (FuncId × Con) := []
abbrev P_isTerm : List (FuncId × PT) := []
def VC_isTerm (t : Int) (k : Nat) : Prop := True /\ True /\ True /\ True /\ (vcIf (decide ((0 : Int) <= t)) (True /\ True /\ True /\ True /\ (((decide (t <= (8 : Int)), ()) : Bool × Unit) = (isT t, ())) /\ True /\ True /\ True /\ True /\ TF) (True /\ True /\ (((false, ()) : Bool × Unit) = (isT t, ())) /\ True /\ True /\ True /\ True /\ TF))
theorem vcn_isTerm (t : Int) (k : Nat) : VC_isTerm t k := by
 unfold VC_isTerm
 simp only [cln, Nat.reduceEqDiff, Nat.reduceLeDiff, Nat.reduceAdd]
 cases h : decide (0 <= t) <;> simp [vcIf, isT, h]
theorem ok_isTerm : FnOk Try.prog E 89 c_isTerm :=
 fn_okQ (l := L_isTerm) (lp := P_isTerm) (hp := fun _ => false) (gcs := fun _ => none) (perm := fun _ => []) tabOk mix trivial trivial Try.func89 rfl (by kernel_rfl) (by decide) (by kernel_rfl) (anns := fun x _ => fun _ _ => none) (fun ⟨t, _⟩ k _ _ => Eq.mp (by kernel_rfl) (vcn_isTerm t k)) tot_fn
abbrev c_iFactValid : Con := ⟨[.fact], [.bool], fun _ => True, .inl fun (f, _) => (fV f, ()), fun _ => 0⟩
abbrev L_iFactValid : List (FuncId × Con) := [(89, c_isTerm)]
abbrev P_iFactValid : List (FuncId × PT) := []
def VC_iFactValid (f : GFact) (k : Nat) : Prop := TN /\ True /\ True /\ True /\ (True /\ True /\ True) /\ True /\ (vcIf (isT f.a) (True /\ True /\ (True /\ True /\ True) /\ True /\ True /\ ((((isT f.b), ()) : Bool × Unit) = (fV f, ())) /\ True /\ True /\ True /\ True /\ TF) (True /\ True /\ (((false, ()) : Bool × Unit) = (fV f, ())) /\ True /\ True /\ True /\ True /\ TF))
theorem vcn_iFactValid (f : GFact) (k : Nat) : VC_iFactValid f k := by
 unfold VC_iFactValid
 simp only [cln, Nat.reduceEqDiff, Nat.reduceLeDiff, Nat.reduceAdd]
 cases h : isT f.a <;> simp [vcIf, fV, h]
theorem ok_iFactValid : FnOk Try.prog E 85 c_iFactValid :=
 fn_okQ (l := L_iFactValid) (lp := P_iFactValid) (hp := fun _ => false) (gcs := fun _ => none) (perm := fun _ => []) tabOk mix ⟨ok_isTerm, trivial⟩ trivial Try.func85 rfl (by kernel_rfl) (by decide) (by kernel_rfl) (anns := fun x _ => fun _ _ => none) (fun ⟨f, _⟩ k _ _ => Eq.mp (by kernel_rfl) (vcn_iFactValid f k)) tot_fn
abbrev c_iFactsValid : Con := ⟨[.sl .fact], [.bool], fun (l, _) => l.length <= 281474976710656, .inl fun (l, _) => (fsV l, ()), fun _ => 0⟩
abbrev L_iFactsValid : List (FuncId × Con) := [(85, c_iFactValid)]
abbrev P_iFactsValid : List (FuncId × PT) := []
def an_iFactsValid (l : List GFact) : Nat -> St -> Option Ann
 | 4, se => some { α := Nat, ok := fun i => i <= l.length /\ l.length <= 12 /\ (l.take i).all fV = true, mu := fun i => l.length - i, i0 := fun _ => 0, nx := fun a _ => (fun i => i + 1) a, live := [8, 9], sets := fun i => [(10, sv (.int .i64 i))], mids := [], blks := fun i => [], owns := fun i => [], rd := fun r _ => r, base := 100000 }
 | _, _ => none
def VC_iFactsValid_1 (l : List GFact) : Prop := True /\ (((false, ()) : Bool × Unit) = (fsV l, ())) /\ True /\ True /\ True /\ True /\ TF
def VC_iFactsValid_2 (l : List GFact) : Prop := RL [.s (.c (.d (.arr .fact l))), .s (.c (.d (.val (.int .i64 ((l.length : Nat) : Int)))))]
def VC_iFactsValid (l : List GFact) (k : Nat) : Prop := True /\ True /\ True /\ True /\ (vcIf (decide ((12 : Int) < ((l.length : Nat) : Int))) (VC_iFactsValid_1 l) (True /\ True /\ True /\ ((0 <= l.length /\ l.length <= 12 /\ (l.take 0).all fV = true) /\ TT /\ (VC_iFactsValid_2 l) /\ (([.s (.c (.d (.val (.int .i64 (0 : Int)))))] : List S) = [.s (.c (.d (.val (.int .i64 ((0 : Nat) : Int)))))]) /\ (RM []) /\ (RM []) /\ True /\ TT) /\ (∀ i1 : Nat, (i1 <= l.length /\ l.length <= 12 /\ (l.take i1).all fV = true) -> True /\ (vcIf (decide (((i1 : Nat) : Int) < ((l.length : Nat) : Int))) ((0 <= ((i1 : Nat) : Int) /\ ((i1 : Nat) : Int) < ((l.length : Nat) : Int)) /\ True /\ (TN /\ True) /\ (TF /\ TF) /\ True /\ (True /\ True /\ True) /\ True /\ (vcIf (!(fV (l.getD i1 (⟨false, 0, 0⟩ : GFact)))) (VC_iFactsValid_1 l) ((inK .i64 (((i1 : Nat) : Int) + (1 : Int))) /\ True /\ ((i1 + 1) <= l.length /\ l.length <= 12 /\ (l.take (i1 + 1)).all fV = true) /\ (l.length - (i1 + 1) < l.length - i1) /\ TT /\ (VC_iFactsValid_2 l) /\ (([.s (.c (.d (.val (.int .i64 (((i1 : Nat) : Int) + (1 : Int))))))] : List S) = [.s (.c (.d (.val (.int .i64 (((i1 + 1) : Nat) : Int)))))]) /\ (RM []) /\ (RM []) /\ True /\ TT))) (True /\ (((true, ()) : Bool × Unit) = (fsV l, ())) /\ True /\ True /\ True /\ True /\ TF)))))
theorem vcn_iFactsValid (l : List GFact) (k : Nat) (hp : l.length <= 281474976710656) : VC_iFactsValid l k := by
 unfold VC_iFactsValid VC_iFactsValid_2 VC_iFactsValid_1
 simp only [cln, Nat.reduceEqDiff, Nat.reduceLeDiff, Nat.reduceAdd]
 all_goals (try simp only [opn])
 all_goals (repeat' (first | apply And.intro | intro _))
 all_goals (first | omega | (simp_all; done) | grind [fsV, take_all, all_take, take_full, Ty.zero])
theorem ok_iFactsValid : FnOk Try.prog E 80 c_iFactsValid :=
 fn_okQ (l := L_iFactsValid) (lp := P_iFactsValid) (hp := fun _ => false) (gcs := fun _ => none) (perm := fun _ => []) tabOk mix ⟨ok_iFactValid, trivial⟩ trivial Try.func80 rfl (by kernel_rfl) (by decide) (by kernel_rfl) (anns := fun x _ => an_iFactsValid x.1) (fun ⟨l, _⟩ k hp _ => Eq.mp (by kernel_rfl) (vcn_iFactsValid l k hp)) tot_fn
abbrev c_iAtomValid : Con := ⟨[.atom], [.bool], fun _ => True, .inl fun (x, _) => (atV x, ()), fun _ => 0⟩
abbrev L_iAtomValid : List (FuncId × Con) := [(89, c_isTerm)]
abbrev P_iAtomValid : List (FuncId × PT) := []
def VC_iAtomValid_1 (x : GAtom) : Prop := True /\ True /\ (((false, ()) : Bool × Unit) = (atV x, ())) /\ True /\ True /\ True /\ True /\ TF
def VC_iAtomValid_2 (x : GAtom) : Prop := True /\ True /\ (True /\ True /\ True) /\ True /\ True /\ (vcIf (isT x.a) (True /\ True /\ (True /\ True /\ True) /\ True /\ True /\ ((((isT x.b), ()) : Bool × Unit) = (atV x, ())) /\ True /\ True /\ True /\ True /\ TF) (VC_iAtomValid_1 x))
def VC_iAtomValid (x : GAtom) (k : Nat) : Prop := TN /\ True /\ True /\ True /\ True /\ True /\ (vcIf (x.kind == (1 : Int)) (True /\ True /\ (VC_iAtomValid_2 x)) (True /\ True /\ True /\ True /\ True /\ (vcIf (x.kind == (2 : Int)) (VC_iAtomValid_2 x) (True /\ True /\ (VC_iAtomValid_1 x)))))
theorem vcn_iAtomValid (x : GAtom) (k : Nat) : VC_iAtomValid x k := by
 unfold VC_iAtomValid VC_iAtomValid_2 VC_iAtomValid_1
 simp only [cln, Nat.reduceEqDiff, Nat.reduceLeDiff, Nat.reduceAdd]
 all_goals (try simp only [opn])
 all_goals (repeat' (first | apply And.intro | intro _))
 all_goals (first | omega | (simp_all; done) | grind [atV])
theorem ok_iAtomValid : FnOk Try.prog E 81 c_iAtomValid :=
 fn_okQ (l := L_iAtomValid) (lp := P_iAtomValid) (hp := fun _ => false) (gcs := fun _ => none) (perm := fun _ => []) tabOk mix ⟨ok_isTerm, trivial⟩ trivial Try.func81 rfl (by kernel_rfl) (by decide) (by kernel_rfl) (anns := fun x _ => fun _ _ => none) (fun ⟨x, _⟩ k _ _ => Eq.mp (by kernel_rfl) (vcn_iAtomValid x k)) tot_fn
abbrev c_iAssertionValid : Con := ⟨[.asn], [.bool], fun (a, _) => a.facts.length <= 281474976710656 /\ a.atoms.length <= 281474976710656, .inl fun (a, _) => (asV a, ()), fun _ => 0⟩
abbrev L_iAssertionValid : List (FuncId × Con) := [(80, c_iFactsValid), (81, c_iAtomValid)]
abbrev P_iAssertionValid : List (FuncId × PT) := []
def an_iAssertionValid (a : GAsn) : Nat -> St -> Option Ann
 | 4, se => some { α := Nat, ok := fun i => i <= a.atoms.length /\ a.atoms.length <= 6 /\ fsV a.facts = true /\ (a.atoms.take i).all atV = true, mu := fun i => a.atoms.length - i, i0 := fun _ => 0, nx := fun a _ => (fun i => i + 1) a, live := [16, 17], sets := fun i => [(18, sv (.int .i64 i))], mids := [], blks := fun i => [], owns := fun i => [], rd := fun r _ => r, base := 100000 }
 | _, _ => none
def VC_iAssertionValid_1 (a : GAsn) : Prop := True /\ (((false, ()) : Bool × Unit) = (asV a, ())) /\ True /\ True /\ True /\ True /\ TF
def VC_iAssertionValid_2 (a : GAsn) : Prop := RL [.s (.c (.d (.arr .atom a.atoms))), .s (.c (.d (.val (.int .i64 ((a.atoms.length : Nat) : Int)))))]
def VC_iAssertionValid (a : GAsn) (k : Nat) : Prop := TN /\ True /\ True /\ True /\ ((a.facts.length <= 281474976710656) /\ True /\ True) /\ True /\ True /\ (vcIf (!(fsV a.facts)) (True /\ (VC_iAssertionValid_1 a)) (True /\ True /\ True /\ True /\ True /\ (vcIf (decide ((6 : Int) < ((a.atoms.length : Nat) : Int))) (VC_iAssertionValid_1 a) (True /\ True /\ True /\ True /\ ((0 <= a.atoms.length /\ a.atoms.length <= 6 /\ fsV a.facts = true /\ (a.atoms.take 0).all atV = true) /\ TT /\ (VC_iAssertionValid_2 a) /\ (([.s (.c (.d (.val (.int .i64 (0 : Int)))))] : List S) = [.s (.c (.d (.val (.int .i64 ((0 : Nat) : Int)))))]) /\ (RM []) /\ (RM []) /\ True /\ TT) /\ (∀ i1 : Nat, (i1 <= a.atoms.length /\ a.atoms.length <= 6 /\ fsV a.facts = true /\ (a.atoms.take i1).all atV = true) -> True /\ (vcIf (decide (((i1 : Nat) : Int) < ((a.atoms.length : Nat) : Int))) ((0 <= ((i1 : Nat) : Int) /\ ((i1 : Nat) : Int) < ((a.atoms.length : Nat) : Int)) /\ True /\ (TN /\ True) /\ (TF /\ TF) /\ True /\ (True /\ True /\ True) /\ True /\ (vcIf (!(atV (a.atoms.getD i1 (⟨0, 0, 0⟩ : GAtom)))) (VC_iAssertionValid_1 a) ((inK .i64 (((i1 : Nat) : Int) + (1 : Int))) /\ True /\ ((i1 + 1) <= a.atoms.length /\ a.atoms.length <= 6 /\ fsV a.facts = true /\ (a.atoms.take (i1 + 1)).all atV = true) /\ (a.atoms.length - (i1 + 1) < a.atoms.length - i1) /\ TT /\ (VC_iAssertionValid_2 a) /\ (([.s (.c (.d (.val (.int .i64 (((i1 : Nat) : Int) + (1 : Int))))))] : List S) = [.s (.c (.d (.val (.int .i64 (((i1 + 1) : Nat) : Int)))))]) /\ (RM []) /\ (RM []) /\ True /\ TT))) (True /\ (((true, ()) : Bool × Unit) = (asV a, ())) /\ True /\ True /\ True /\ True /\ TF)))))))
theorem vcn_iAssertionValid (a : GAsn) (k : Nat) (hp : a.facts.length <= 281474976710656 /\ a.atoms.length <= 281474976710656) : VC_iAssertionValid a k := by
 unfold VC_iAssertionValid VC_iAssertionValid_2 VC_iAssertionValid_1
 simp only [cln, Nat.reduceEqDiff, Nat.reduceLeDiff, Nat.reduceAdd]
 all_goals (try simp only [opn])
 all_goals (repeat' (first | apply And.intro | intro _))
 all_goals (first | omega | (simp_all; done) | grind [asV, take_all, all_take, take_full, Ty.zero])
theorem ok_iAssertionValid : FnOk Try.prog E 33 c_iAssertionValid :=
 fn_okQ (l := L_iAssertionValid) (lp := P_iAssertionValid) (hp := fun _ => false) (gcs := fun _ => none) (perm := fun _ => []) tabOk mix ⟨ok_iFactsValid, ok_iAtomValid, trivial⟩ trivial Try.func33 rfl (by kernel_rfl) (by decide) (by kernel_rfl) (anns := fun x _ => an_iAssertionValid x.1) (fun ⟨a, _⟩ k hp _ => Eq.mp (by kernel_rfl) (vcn_iAssertionValid a k hp)) tot_fn
abbrev c_tsWith : Con := ⟨[.u16, .int], [.u16], fun (s, t, _) => 0 <= s /\ s < 512, .inl fun (s, t, _) => (tsWith s t, ()), fun _ => 0⟩
abbrev L_tsWith : List (FuncId × Con) := [(89, c_isTerm)]
abbrev P_tsWith : List (FuncId × PT) := []
def VC_tsWith (s : Int) (t : Int) (k : Nat) : Prop := True /\ True /\ (True /\ True /\ True) /\ True /\ (vcIf (!(isT t)) (True /\ True /\ (((s, ()) : Int × Unit) = (tsWith s t, ())) /\ True /\ True /\ True /\ True /\ TF) (True /\ True /\ (0 <= t) /\ True /\ True /\ (((bits .or .u16 s (IntKind.wrap .u16 ((1 : Int) * 2 ^ (min t.toNat (IntKind.bits .u16)))), ()) : Int × Unit) = (tsWith s t, ())) /\ True /\ True /\ True /\ True /\ TF))
theorem vcn_tsWith (s : Int) (t : Int) (k : Nat) (hp : 0 <= s /\ s < 512) : VC_tsWith s t k := by
 unfold VC_tsWith
 simp only [cln, Nat.reduceEqDiff, Nat.reduceLeDiff, Nat.reduceAdd]
 simp only [vcIf_iff]
 exact ⟨fun h => (tsWith_no (by simpa using h)).symm, fun h => ⟨(isT_iff.1 (by simpa using h)).1, tsWith_eq hp.1 hp.2 (by simpa using h)⟩⟩
theorem ok_tsWith : FnOk Try.prog E 87 c_tsWith :=
 fn_okQ (l := L_tsWith) (lp := P_tsWith) (hp := fun _ => false) (gcs := fun _ => none) (perm := fun _ => []) tabOk mix ⟨ok_isTerm, trivial⟩ trivial Try.func87 rfl (by kernel_rfl) (by decide) (by kernel_rfl) (anns := fun x _ => fun _ _ => none) (fun ⟨s, t, _⟩ k hp _ => Eq.mp (by kernel_rfl) (vcn_tsWith s t k hp)) tot_fn
abbrev c_termsIn : Con := ⟨[.asn], [.u16], fun (a, _) => a.facts.length <= 281474976710656 /\ a.atoms.length <= 281474976710656, .inl fun (a, _) => (tsA a, ()), fun _ => 0⟩
abbrev L_termsIn : List (FuncId × Con) := [(87, c_tsWith)]
abbrev P_termsIn : List (FuncId × PT) := []
def an_termsIn (a : GAsn) : Nat -> St -> Option Ann
 | 3, se => some { α := Nat, ok := fun i => i <= a.facts.length, mu := fun i => a.facts.length - i, i0 := fun _ => 0, nx := fun a _ => (fun i => i + 1) a, live := [1, 2, 9, 10], sets := fun i => [(11, sv (.int .i64 i)), (3, sv (.int .u16 (tsF (a.facts.take i))))], mids := [31], blks := fun i => [], owns := fun i => [], rd := fun r _ => r, base := 100000 }
 | 8, se => some { α := Nat, ok := fun i => i <= a.atoms.length, mu := fun i => a.atoms.length - i, i0 := fun _ => 0, nx := fun a _ => (fun i => i + 1) a, live := [2, 24, 25], sets := fun i => [(26, sv (.int .i64 i)), (3, sv (.int .u16 (tsG (tsF a.facts) (a.atoms.take i))))], mids := [], blks := fun i => [], owns := fun i => [], rd := fun r _ => r, base := 200000 }
 | _, _ => none
def VC_termsIn_1 (a : GAsn) : Prop := RL [.s (.c (.ptr 31 0)), .s (.c (.d (.val (.int .u16 (0 : Int))))), .s (.c (.d (.arr .fact a.facts))), .s (.c (.d (.val (.int .i64 ((a.facts.length : Nat) : Int)))))]
def VC_termsIn_2 (a : GAsn) : Prop := (RM [some (.blk [.d (.arr .fact a.facts), .d (.arr .atom a.atoms)])]) /\ (RM []) /\ True /\ TT
def VC_termsIn_3 (a : GAsn) : Prop := RL [.s (.c (.d (.val (.int .u16 (0 : Int))))), .s (.c (.d (.arr .atom a.atoms))), .s (.c (.d (.val (.int .i64 ((a.atoms.length : Nat) : Int)))))]
def VC_termsIn_4 (a : GAsn) : Prop := (((0 <= a.facts.length) /\ TT /\ (VC_termsIn_1 a) /\ (([.s (.c (.d (.val (.int .i64 (0 : Int))))), .s (.c (.d (.val (.int .u16 (0 : Int)))))] : List S) = [.s (.c (.d (.val (.int .i64 ((0 : Nat) : Int))))), .s (.c (.d (.val (.int .u16 (tsF (a.facts.take 0) : Int)))))]) /\ (VC_termsIn_2 a)) /\ (∀ i1 : Nat, (i1 <= a.facts.length) -> True /\ (vcIf (decide (((i1 : Nat) : Int) < ((a.facts.length : Nat) : Int))) ((0 <= ((i1 : Nat) : Int) /\ ((i1 : Nat) : Int) < ((a.facts.length : Nat) : Int)) /\ True /\ (TN /\ True) /\ (TF /\ TF) /\ True /\ True /\ True /\ ((0 <= (tsF (a.facts.take i1) : Int) /\ (tsF (a.facts.take i1) : Int) < 512) /\ True /\ True) /\ True /\ True /\ ((0 <= (tsWith (tsF (a.facts.take i1) : Int) ((a.facts.getD i1 (⟨false, 0, 0⟩ : GFact)).a)) /\ (tsWith (tsF (a.facts.take i1) : Int) ((a.facts.getD i1 (⟨false, 0, 0⟩ : GFact)).a)) < 512) /\ True /\ True) /\ True /\ (inK .i64 (((i1 : Nat) : Int) + (1 : Int))) /\ True /\ ((i1 + 1) <= a.facts.length) /\ (a.facts.length - (i1 + 1) < a.facts.length - i1) /\ TT /\ (VC_termsIn_1 a) /\ (([.s (.c (.d (.val (.int .i64 (((i1 : Nat) : Int) + (1 : Int)))))), .s (.c (.d (.val (.int .u16 (tsWith (tsWith (tsF (a.facts.take i1) : Int) ((a.facts.getD i1 (⟨false, 0, 0⟩ : GFact)).a)) ((a.facts.getD i1 (⟨false, 0, 0⟩ : GFact)).b))))))] : List S) = [.s (.c (.d (.val (.int .i64 (((i1 + 1) : Nat) : Int))))), .s (.c (.d (.val (.int .u16 (tsF (a.facts.take (i1 + 1)) : Int)))))]) /\ (VC_termsIn_2 a)) (True /\ True /\ True /\ True /\ ((0 <= a.atoms.length) /\ TT /\ (VC_termsIn_3 a) /\ (([.s (.c (.d (.val (.int .i64 (0 : Int))))), .s (.c (.d (.val (.int .u16 (tsF (a.facts.take i1) : Int)))))] : List S) = [.s (.c (.d (.val (.int .i64 ((0 : Nat) : Int))))), .s (.c (.d (.val (.int .u16 (tsG (tsF a.facts) (a.atoms.take 0) : Int)))))]) /\ (RM []) /\ (RM []) /\ True /\ TT) /\ (∀ i2 : Nat, (i2 <= a.atoms.length) -> True /\ (vcIf (decide (((i2 : Nat) : Int) < ((a.atoms.length : Nat) : Int))) ((0 <= ((i2 : Nat) : Int) /\ ((i2 : Nat) : Int) < ((a.atoms.length : Nat) : Int)) /\ True /\ (TN /\ True) /\ (TF /\ TF) /\ True /\ True /\ True /\ ((0 <= (tsG (tsF a.facts) (a.atoms.take i2) : Int) /\ (tsG (tsF a.facts) (a.atoms.take i2) : Int) < 512) /\ True /\ True) /\ True /\ True /\ ((0 <= (tsWith (tsG (tsF a.facts) (a.atoms.take i2) : Int) ((a.atoms.getD i2 (⟨0, 0, 0⟩ : GAtom)).a)) /\ (tsWith (tsG (tsF a.facts) (a.atoms.take i2) : Int) ((a.atoms.getD i2 (⟨0, 0, 0⟩ : GAtom)).a)) < 512) /\ True /\ True) /\ True /\ (inK .i64 (((i2 : Nat) : Int) + (1 : Int))) /\ True /\ ((i2 + 1) <= a.atoms.length) /\ (a.atoms.length - (i2 + 1) < a.atoms.length - i2) /\ TT /\ (VC_termsIn_3 a) /\ (([.s (.c (.d (.val (.int .i64 (((i2 : Nat) : Int) + (1 : Int)))))), .s (.c (.d (.val (.int .u16 (tsWith (tsWith (tsG (tsF a.facts) (a.atoms.take i2) : Int) ((a.atoms.getD i2 (⟨0, 0, 0⟩ : GAtom)).a)) ((a.atoms.getD i2 (⟨0, 0, 0⟩ : GAtom)).b))))))] : List S) = [.s (.c (.d (.val (.int .i64 (((i2 + 1) : Nat) : Int))))), .s (.c (.d (.val (.int .u16 (tsG (tsF a.facts) (a.atoms.take (i2 + 1)) : Int)))))]) /\ (RM []) /\ (RM []) /\ True /\ TT) (True /\ True /\ ((((tsG (tsF a.facts) (a.atoms.take i2) : Int), ()) : Int × Unit) = (tsA a, ())) /\ True /\ True /\ True /\ True /\ TF)))))))
def VC_termsIn (a : GAsn) (k : Nat) : Prop := TN /\ True /\ True /\ True /\ True /\ True /\ True /\ (VC_termsIn_4 a)
theorem vcn_termsIn (a : GAsn) (k : Nat) (hp : a.facts.length <= 281474976710656 /\ a.atoms.length <= 281474976710656) : VC_termsIn a k := by
 unfold VC_termsIn VC_termsIn_4 VC_termsIn_3 VC_termsIn_2 VC_termsIn_1
 simp only [cln, Nat.reduceEqDiff, Nat.reduceLeDiff, Nat.reduceAdd]
 have hF := tsF_bd
 have hW1 : ∀ s t, 0 <= s -> s < 512 -> 0 <= tsWith s t := fun _ _ h0 h1 => (tsWith_bd h0 h1).1
 have hW2 : ∀ s t, 0 <= s -> s < 512 -> tsWith s t < 512 := fun _ _ h0 h1 => (tsWith_bd h0 h1).2
 have hF0 : tsF [] = 0 := rfl
 have hG0 : ∀ z, tsG z [] = z := fun _ => rfl
 have hG := fun l => tsG_bd l _ (tsF_bd a.facts)
 all_goals (try simp only [opn])
 all_goals (repeat' (first | apply And.intro | intro _))
 all_goals (first | omega | (simp_all; done) | grind [tsF_step, tsG_step, tsA, take_full, Ty.zero])
theorem ok_termsIn : FnOk Try.prog E 72 c_termsIn :=
 fn_okQ (l := L_termsIn) (lp := P_termsIn) (hp := fun _ => false) (gcs := fun _ => none) (perm := fun _ => []) tabOk mix ⟨ok_tsWith, trivial⟩ trivial Try.func72 rfl (by kernel_rfl) (by decide) (by kernel_rfl) (anns := fun x _ => an_termsIn x.1) (fun ⟨a, _⟩ k hp _ => Eq.mp (by kernel_rfl) (vcn_termsIn a k hp)) tot_fn
abbrev c_isFilled : Con := ⟨[.pkase, .atom], [.bool], fun (c, x, _) => c.length = 9 /\ atV x = true, .inl fun (c, x, _) => (filB c x, ()), fun _ => 0⟩
abbrev L_isFilled : List (FuncId × Con) := []
abbrev P_isFilled : List (FuncId × PT) := []
def VC_isFilled (c : List Int) (x : GAtom) (k : Nat) : Prop := TN /\ True /\ True /\ True /\ True /\ True /\ (vcIf (x.kind == (1 : Int)) (True /\ True /\ (((true, ()) : Bool × Unit) = (filB c x, ())) /\ True /\ True /\ True /\ True /\ TF) (True /\ True /\ True /\ True /\ (0 <= x.a /\ x.a < ((9 : Nat) : Int) /\ c.length = 9) /\ True /\ True /\ True /\ True /\ True /\ (0 <= x.b /\ x.b < ((9 : Nat) : Int) /\ c.length = 9) /\ True /\ True /\ True /\ True /\ ((((c.getD x.a.toNat (0 : Int)) != (c.getD x.b.toNat (0 : Int)), ()) : Bool × Unit) = (filB c x, ())) /\ True /\ True /\ True /\ True /\ TF))
theorem vcn_isFilled (c : List Int) (x : GAtom) (k : Nat) (hp : c.length = 9 /\ atV x = true) : VC_isFilled c x k := by
 unfold VC_isFilled
 simp only [cln, Nat.reduceEqDiff, Nat.reduceLeDiff, Nat.reduceAdd]
 have h1 := atV_isT hp.2
 have h2 := isT_iff.1 h1.1
 have h3 := isT_iff.1 h1.2
 all_goals (try simp only [opn])
 all_goals (repeat' (first | apply And.intro | intro _))
 all_goals (first | omega | (simp_all; done) | grind [filB, cl])
theorem ok_isFilled : FnOk Try.prog E 150 c_isFilled :=
 fn_okQ (l := L_isFilled) (lp := P_isFilled) (hp := fun _ => false) (gcs := fun _ => none) (perm := fun _ => []) tabOk mix trivial trivial Try.func150 rfl (by kernel_rfl) (by decide) (by kernel_rfl) (anns := fun x _ => fun _ _ => none) (fun ⟨c, x, _⟩ k hp _ => Eq.mp (by kernel_rfl) (vcn_isFilled c x k hp)) tot_fn
end Go.Proofs.Ytfoioficiffgkaa
