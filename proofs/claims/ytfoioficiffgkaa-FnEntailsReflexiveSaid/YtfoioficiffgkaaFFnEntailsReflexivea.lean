/-
  Contracts of single functions of the program, each shown by the engine: what a call returns for arguments within the contract's bounds.
-/
import Derived.Test.YtfoioficiffgkaaProg
import Derived.KernelRfl
import Derived.Test.YtfoioficiffgkaaEc
import Derived.Test.YtfoioficiffgkaaEd
set_option linter.unusedSimpArgs false
set_option linter.unusedVariables false
set_option linter.unusedSectionVars false

namespace Go.Proofs.Ytfoioficiffgkaa
open Go.SE Go.RowKit
def E : Ty -> TypeId
 | .int => 3
 | .bool => 4
 | .u8 => 5
 | .fact => 56
 | .atom => 61
 | .cmd => 0
 | .ints => 31
def tabL : List (TypeId × TI) := [
 (2, ⟨1, 8, .sc (.int .i64 0)⟩),
 (3, ⟨1, 8, .sc (.int .i64 0)⟩),
 (4, ⟨1, 1, .sc (.bool false)⟩),
 (5, ⟨1, 1, .sc (.int .u8 0)⟩),
 (7, ⟨4, 24, .st [.sc (.int .i64 0), .sc (.int .i64 0), .sc (.bool false), .sc (.int .u8 0)] [(0, 1, false), (1, 1, false), (2, 1, false), (3, 1, false)]⟩),
 (9, ⟨1, 16, .sc (.string ⟨#[]⟩)⟩),
 (12, ⟨1, 8, .sc (.int .u64 0)⟩),
 (13, ⟨2, 24, .st [.sc (.string ⟨#[]⟩), .sc (.int .u64 0)] [(0, 1, false), (1, 1, false)]⟩),
 (21, ⟨1, 4, .sc (.int .i32 0)⟩),
 (22, ⟨1, 24, .sl true 5 .u8⟩),
 (23, ⟨1, 24, .sl true 56 .fact⟩),
 (24, ⟨1, 24, .sl true 61 .atom⟩),
 (25, ⟨2, 48, .st [.sl .fact, .sl .atom] [(0, 1, false), (1, 1, false)]⟩),
 (26, ⟨2, 48, .st [.sl .fact, .sl .atom] [(0, 1, false), (1, 1, false)]⟩),
 (31, ⟨1, 24, .sl true 3 .int⟩),
 (32, ⟨2, 48, .st [.sl .int, .sl .int] [(0, 1, false), (1, 1, false)]⟩),
 (33, ⟨2, 48, .st [.sl .int, .sl .int] [(0, 1, false), (1, 1, false)]⟩),
 (41, ⟨1, 24, .sl false 144 .fact⟩),
 (42, ⟨1, 24, .sl false 146 .atom⟩),
 (43, ⟨2, 48, .st [.sl .fact, .sl .atom] [(0, 1, false), (1, 1, false)]⟩),
 (44, ⟨2, 48, .st [.sl .fact, .sl .atom] [(0, 1, false), (1, 1, false)]⟩),
 (55, ⟨3, 24, .st [.sc (.bool false), .sc (.int .i64 0), .sc (.int .i64 0)] [(0, 1, false), (1, 1, false), (2, 1, false)]⟩),
 (56, ⟨3, 24, .st [.sc (.bool false), .sc (.int .i64 0), .sc (.int .i64 0)] [(0, 1, false), (1, 1, false), (2, 1, false)]⟩),
 (60, ⟨3, 24, .st [.sc (.int .i64 0), .sc (.int .i64 0), .sc (.int .i64 0)] [(0, 1, false), (1, 1, false), (2, 1, false)]⟩),
 (61, ⟨3, 24, .st [.sc (.int .i64 0), .sc (.int .i64 0), .sc (.int .i64 0)] [(0, 1, false), (1, 1, false), (2, 1, false)]⟩),
 (81, ⟨9, 72, .ar 9 3 .int⟩),
 (82, ⟨9, 72, .ar 9 3 .int⟩),
 (86, ⟨1, 2, .sc (.int .u16 0)⟩),
 (87, ⟨1, 2, .sc (.int .u16 0)⟩),
 (94, ⟨1, 24, .sl true 4 .bool⟩),
 (99, ⟨1, 2, .sc (.int .u16 0)⟩),
 (101, ⟨1, 24, .sl true 31 .ints⟩),
 (130, ⟨2, 32, .st [.sl .u8, .sc (.int .i64 0)] [(0, 1, false), (1, 1, false)]⟩),
 (131, ⟨2, 32, .st [.sl .u8, .sc (.int .i64 0)] [(0, 1, false), (1, 1, false)]⟩),
 (144, ⟨3, 24, .st [.sc (.bool false), .sc (.int .i64 0), .sc (.int .i64 0)] [(0, 1, false), (1, 1, false), (2, 1, false)]⟩),
 (146, ⟨3, 24, .st [.sc (.int .i64 0), .sc (.int .i64 0), .sc (.int .i64 0)] [(0, 1, false), (1, 1, false), (2, 1, false)]⟩),
 (148, ⟨6, 6, .ar 6 4 .bool⟩),
 (149, ⟨8, 40, .st [.sl .atom, .sc (.bool false), .sc (.bool false), .sc (.bool false), .sc (.bool false), .sc (.bool false), .sc (.bool false), .sc (.int .i64 0)] [(0, 1, false), (1, 6, true), (7, 1, false)]⟩),
 (150, ⟨8, 40, .st [.sl .atom, .sc (.bool false), .sc (.bool false), .sc (.bool false), .sc (.bool false), .sc (.bool false), .sc (.bool false), .sc (.int .i64 0)] [(0, 1, false), (1, 6, true), (7, 1, false)]⟩),
 (178, ⟨1, 4, .sc (.int .u32 0)⟩),
 (190, ⟨1, 8, .sc (.int .u64 0)⟩)]
def tab : TypeId -> Option TI := lookT tabL
theorem tab2 : tab 2 = some ⟨1, 8, .sc (.int .i64 0)⟩ := rfl
theorem tab3 : tab 3 = some ⟨1, 8, .sc (.int .i64 0)⟩ := rfl
theorem tab4 : tab 4 = some ⟨1, 1, .sc (.bool false)⟩ := rfl
theorem tab5 : tab 5 = some ⟨1, 1, .sc (.int .u8 0)⟩ := rfl
theorem tab7 : tab 7 = some ⟨4, 24, .st [.sc (.int .i64 0), .sc (.int .i64 0), .sc (.bool false), .sc (.int .u8 0)] [(0, 1, false), (1, 1, false), (2, 1, false), (3, 1, false)]⟩ := rfl
theorem tab9 : tab 9 = some ⟨1, 16, .sc (.string ⟨#[]⟩)⟩ := rfl
theorem tab12 : tab 12 = some ⟨1, 8, .sc (.int .u64 0)⟩ := rfl
theorem tab13 : tab 13 = some ⟨2, 24, .st [.sc (.string ⟨#[]⟩), .sc (.int .u64 0)] [(0, 1, false), (1, 1, false)]⟩ := rfl
theorem tab21 : tab 21 = some ⟨1, 4, .sc (.int .i32 0)⟩ := rfl
theorem tab22 : tab 22 = some ⟨1, 24, .sl true 5 .u8⟩ := rfl
theorem tab23 : tab 23 = some ⟨1, 24, .sl true 56 .fact⟩ := rfl
theorem tab24 : tab 24 = some ⟨1, 24, .sl true 61 .atom⟩ := rfl
theorem tab25 : tab 25 = some ⟨2, 48, .st [.sl .fact, .sl .atom] [(0, 1, false), (1, 1, false)]⟩ := rfl
theorem tab26 : tab 26 = some ⟨2, 48, .st [.sl .fact, .sl .atom] [(0, 1, false), (1, 1, false)]⟩ := rfl
theorem tab31 : tab 31 = some ⟨1, 24, .sl true 3 .int⟩ := rfl
theorem tab32 : tab 32 = some ⟨2, 48, .st [.sl .int, .sl .int] [(0, 1, false), (1, 1, false)]⟩ := rfl
theorem tab33 : tab 33 = some ⟨2, 48, .st [.sl .int, .sl .int] [(0, 1, false), (1, 1, false)]⟩ := rfl
theorem tab41 : tab 41 = some ⟨1, 24, .sl false 144 .fact⟩ := rfl
theorem tab42 : tab 42 = some ⟨1, 24, .sl false 146 .atom⟩ := rfl
theorem tab43 : tab 43 = some ⟨2, 48, .st [.sl .fact, .sl .atom] [(0, 1, false), (1, 1, false)]⟩ := rfl
theorem tab44 : tab 44 = some ⟨2, 48, .st [.sl .fact, .sl .atom] [(0, 1, false), (1, 1, false)]⟩ := rfl
theorem tab55 : tab 55 = some ⟨3, 24, .st [.sc (.bool false), .sc (.int .i64 0), .sc (.int .i64 0)] [(0, 1, false), (1, 1, false), (2, 1, false)]⟩ := rfl
theorem tab56 : tab 56 = some ⟨3, 24, .st [.sc (.bool false), .sc (.int .i64 0), .sc (.int .i64 0)] [(0, 1, false), (1, 1, false), (2, 1, false)]⟩ := rfl
theorem tab60 : tab 60 = some ⟨3, 24, .st [.sc (.int .i64 0), .sc (.int .i64 0), .sc (.int .i64 0)] [(0, 1, false), (1, 1, false), (2, 1, false)]⟩ := rfl
theorem tab61 : tab 61 = some ⟨3, 24, .st [.sc (.int .i64 0), .sc (.int .i64 0), .sc (.int .i64 0)] [(0, 1, false), (1, 1, false), (2, 1, false)]⟩ := rfl
theorem tab81 : tab 81 = some ⟨9, 72, .ar 9 3 .int⟩ := rfl
theorem tab82 : tab 82 = some ⟨9, 72, .ar 9 3 .int⟩ := rfl
theorem tab86 : tab 86 = some ⟨1, 2, .sc (.int .u16 0)⟩ := rfl
theorem tab87 : tab 87 = some ⟨1, 2, .sc (.int .u16 0)⟩ := rfl
theorem tab94 : tab 94 = some ⟨1, 24, .sl true 4 .bool⟩ := rfl
theorem tab99 : tab 99 = some ⟨1, 2, .sc (.int .u16 0)⟩ := rfl
theorem tab101 : tab 101 = some ⟨1, 24, .sl true 31 .ints⟩ := rfl
theorem tab130 : tab 130 = some ⟨2, 32, .st [.sl .u8, .sc (.int .i64 0)] [(0, 1, false), (1, 1, false)]⟩ := rfl
theorem tab131 : tab 131 = some ⟨2, 32, .st [.sl .u8, .sc (.int .i64 0)] [(0, 1, false), (1, 1, false)]⟩ := rfl
theorem tab144 : tab 144 = some ⟨3, 24, .st [.sc (.bool false), .sc (.int .i64 0), .sc (.int .i64 0)] [(0, 1, false), (1, 1, false), (2, 1, false)]⟩ := rfl
theorem tab146 : tab 146 = some ⟨3, 24, .st [.sc (.int .i64 0), .sc (.int .i64 0), .sc (.int .i64 0)] [(0, 1, false), (1, 1, false), (2, 1, false)]⟩ := rfl
theorem tab148 : tab 148 = some ⟨6, 6, .ar 6 4 .bool⟩ := rfl
theorem tab149 : tab 149 = some ⟨8, 40, .st [.sl .atom, .sc (.bool false), .sc (.bool false), .sc (.bool false), .sc (.bool false), .sc (.bool false), .sc (.bool false), .sc (.int .i64 0)] [(0, 1, false), (1, 6, true), (7, 1, false)]⟩ := rfl
theorem tab150 : tab 150 = some ⟨8, 40, .st [.sl .atom, .sc (.bool false), .sc (.bool false), .sc (.bool false), .sc (.bool false), .sc (.bool false), .sc (.bool false), .sc (.int .i64 0)] [(0, 1, false), (1, 6, true), (7, 1, false)]⟩ := rfl
theorem tab178 : tab 178 = some ⟨1, 4, .sc (.int .u32 0)⟩ := rfl
theorem tab190 : tab 190 = some ⟨1, 8, .sc (.int .u64 0)⟩ := rfl
theorem tabOk : TabOk Try.prog E tab := tab_ok (by kernel_rfl)
theorem mix : Try.prog.follows .mixedOrders = true := by kernel_rfl
end Go.Proofs.Ytfoioficiffgkaa

namespace Go.Proofs.Ytfoioficiffgkaa
open Go.SE Go.RowKit
set_option linter.unusedSimpArgs false
set_option linter.unusedVariables false
set_option maxHeartbeats 1000000
set_option maxRecDepth 100000
abbrev c_isTerm : Con := ⟨[.int], [.bool], fun _ => True, .inl fun (t, _) => (isT t, ()), fun _ => 0⟩
abbrev L_isTerm : List (FuncId × Con) := []
abbrev P_isTerm : List (FuncId × PT) := []
def VC_isTerm (t : Int) (k : Nat) : Prop := True /\ True /\ True /\ True /\ (vcIf (decide ((0 : Int) <= t)) (True /\ True /\ True /\ True /\ (((decide (t <= (8 : Int)), ()) : Bool × Unit) = (isT t, ())) /\ True /\ True /\ True /\ True /\ TF) (True /\ True /\ (((false, ()) : Bool × Unit) = (isT t, ())) /\ True /\ True /\ True /\ True /\ TF))
theorem vcn_isTerm (t : Int) (k : Nat) : VC_isTerm t k := by
 unfold VC_isTerm
 simp only [cln, Nat.reduceEqDiff, Nat.reduceLeDiff, Nat.reduceAdd]
 cases h : decide (0 <= t) <;> simp [vcIf, isT, h]
theorem ok_isTerm : FnOk Try.prog E 89 c_isTerm :=
 fn_okQ (l := L_isTerm) (lp := P_isTerm) (hp := fun _ => false) (gcs := fun _ => none) (perm := fun _ => []) tabOk mix trivial trivial Try.func89 rfl (by kernel_rfl) (by decide) (by kernel_rfl) (anns := fun x _ => fun _ _ => none) (fun ⟨t, _⟩ k _ _ => Eq.mp (by kernel_rfl) (vcn_isTerm t k)) tot_fn
abbrev c_iFactValid : Con := ⟨[.fact], [.bool], fun _ => True, .inl fun (f, _) => (fV f, ()), fun _ => 0⟩
abbrev L_iFactValid : List (FuncId × Con) := [(89, c_isTerm)]
abbrev P_iFactValid : List (FuncId × PT) := []
def VC_iFactValid (f : GFact) (k : Nat) : Prop := TN /\ True /\ True /\ True /\ (True /\ True /\ True) /\ True /\ (vcIf (isT f.a) (True /\ True /\ (True /\ True /\ True) /\ True /\ True /\ ((((isT f.b), ()) : Bool × Unit) = (fV f, ())) /\ True /\ True /\ True /\ True /\ TF) (True /\ True /\ (((false, ()) : Bool × Unit) = (fV f, ())) /\ True /\ True /\ True /\ True /\ TF))
theorem vcn_iFactValid (f : GFact) (k : Nat) : VC_iFactValid f k := by
 unfold VC_iFactValid
 simp only [cln, Nat.reduceEqDiff, Nat.reduceLeDiff, Nat.reduceAdd]
 cases h : isT f.a <;> simp [vcIf, fV, h]
theorem ok_iFactValid : FnOk Try.prog E 85 c_iFactValid :=
 fn_okQ (l := L_iFactValid) (lp := P_iFactValid) (hp := fun _ => false) (gcs := fun _ => none) (perm := fun _ => []) tabOk mix ⟨ok_isTerm, trivial⟩ trivial Try.func85 rfl (by kernel_rfl) (by decide) (by kernel_rfl) (anns := fun x _ => fun _ _ => none) (fun ⟨f, _⟩ k _ _ => Eq.mp (by kernel_rfl) (vcn_iFactValid f k)) tot_fn
abbrev c_iFactsValid : Con := ⟨[.sl .fact], [.bool], fun (l, _) => l.length <= 281474976710656, .inl fun (l, _) => (fsV l, ()), fun _ => 0⟩
abbrev L_iFactsValid : List (FuncId × Con) := [(85, c_iFactValid)]
abbrev P_iFactsValid : List (FuncId × PT) := []
def an_iFactsValid (l : List GFact) : Nat -> St -> Option Ann
 | 4, se => some { α := Nat, ok := fun i => i <= l.length /\ l.length <= 12 /\ (l.take i).all fV = true, mu := fun i => l.length - i, i0 := fun _ => 0, nx := fun a _ => (fun i => i + 1) a, live := [8, 9], sets := fun i => [(10, sv (.int .i64 i))], mids := [], blks := fun i => [], owns := fun i => [], rd := fun r _ => r, base := 100000 }
 | _, _ => none
def VC_iFactsValid_1 (l : List GFact) : Prop := True /\ (((false, ()) : Bool × Unit) = (fsV l, ())) /\ True /\ True /\ True /\ True /\ TF
def VC_iFactsValid_2 (l : List GFact) : Prop := RL [.s (.c (.d (.arr .fact l))), .s (.c (.d (.val (.int .i64 ((l.length : Nat) : Int)))))]
def VC_iFactsValid (l : List GFact) (k : Nat) : Prop := True /\ True /\ True /\ True /\ (vcIf (decide ((12 : Int) < ((l.length : Nat) : Int))) (VC_iFactsValid_1 l) (True /\ True /\ True /\ ((0 <= l.length /\ l.length <= 12 /\ (l.take 0).all fV = true) /\ TT /\ (VC_iFactsValid_2 l) /\ (([.s (.c (.d (.val (.int .i64 (0 : Int)))))] : List S) = [.s (.c (.d (.val (.int .i64 ((0 : Nat) : Int)))))]) /\ (RM []) /\ (RM []) /\ True /\ TT) /\ (∀ i1 : Nat, (i1 <= l.length /\ l.length <= 12 /\ (l.take i1).all fV = true) -> True /\ (vcIf (decide (((i1 : Nat) : Int) < ((l.length : Nat) : Int))) ((0 <= ((i1 : Nat) : Int) /\ ((i1 : Nat) : Int) < ((l.length : Nat) : Int)) /\ True /\ (TN /\ True) /\ (TF /\ TF) /\ True /\ (True /\ True /\ True) /\ True /\ (vcIf (!(fV (l.getD i1 (⟨false, 0, 0⟩ : GFact)))) (VC_iFactsValid_1 l) ((inK .i64 (((i1 : Nat) : Int) + (1 : Int))) /\ True /\ ((i1 + 1) <= l.length /\ l.length <= 12 /\ (l.take (i1 + 1)).all fV = true) /\ (l.length - (i1 + 1) < l.length - i1) /\ TT /\ (VC_iFactsValid_2 l) /\ (([.s (.c (.d (.val (.int .i64 (((i1 : Nat) : Int) + (1 : Int))))))] : List S) = [.s (.c (.d (.val (.int .i64 (((i1 + 1) : Nat) : Int)))))]) /\ (RM []) /\ (RM []) /\ True /\ TT))) (True /\ (((true, ()) : Bool × Unit) = (fsV l, ())) /\ True /\ True /\ True /\ True /\ TF)))))
theorem vcn_iFactsValid (l : List GFact) (k : Nat) (hp : l.length <= 281474976710656) : VC_iFactsValid l k := by
 unfold VC_iFactsValid VC_iFactsValid_2 VC_iFactsValid_1
 simp only [cln, Nat.reduceEqDiff, Nat.reduceLeDiff, Nat.reduceAdd]
 all_goals (try simp only [opn])
 all_goals (repeat' (first | apply And.intro | intro _))
 all_goals (first | omega | (simp_all; done) | grind [fsV, take_all, all_take, take_full, Ty.zero])
theorem ok_iFactsValid : FnOk Try.prog E 80 c_iFactsValid :=
 fn_okQ (l := L_iFactsValid) (lp := P_iFactsValid) (hp := fun _ => false) (gcs := fun _ => none) (perm := fun _ => []) tabOk mix ⟨ok_iFactValid, trivial⟩ trivial Try.func80 rfl (by kernel_rfl) (by decide) (by kernel_rfl) (anns := fun x _ => an_iFactsValid x.1) (fun ⟨l, _⟩ k hp _ => Eq.mp (by kernel_rfl) (vcn_iFactsValid l k hp)) tot_fn
abbrev c_iAtomValid : Con := ⟨[.atom], [.bool], fun _ => True, .inl fun (x, _) => (atV x, ()), fun _ => 0⟩
abbrev L_iAtomValid : List (FuncId × Con) := [(89, c_isTerm)]
abbrev P_iAtomValid : List (FuncId × PT) := []
def VC_iAtomValid_1 (x : GAtom) : Prop := True /\ True /\ (((false, ()) : Bool × Unit) = (atV x, ())) /\ True /\ True /\ True /\ True /\ TF
def VC_iAtomValid_2 (x : GAtom) : Prop := True /\ True /\ (True /\ True /\ True) /\ True /\ True /\ (vcIf (isT x.a) (True /\ True /\ (True /\ True /\ True) /\ True /\ True /\ ((((isT x.b), ()) : Bool × Unit) = (atV x, ())) /\ True /\ True /\ True /\ True /\ TF) (VC_iAtomValid_1 x))
def VC_iAtomValid (x : GAtom) (k : Nat) : Prop := TN /\ True /\ True /\ True /\ True /\ True /\ (vcIf (x.kind == (1 : Int)) (True /\ True /\ (VC_iAtomValid_2 x)) (True /\ True /\ True /\ True /\ True /\ (vcIf (x.kind == (2 : Int)) (VC_iAtomValid_2 x) (True /\ True /\ (VC_iAtomValid_1 x)))))
theorem vcn_iAtomValid (x : GAtom) (k : Nat) : VC_iAtomValid x k := by
 unfold VC_iAtomValid VC_iAtomValid_2 VC_iAtomValid_1
 simp only [cln, Nat.reduceEqDiff, Nat.reduceLeDiff, Nat.reduceAdd]
 all_goals (try simp only [opn])
 all_goals (repeat' (first | apply And.intro | intro _))
 all_goals (first | omega | (simp_all; done) | grind [atV])
theorem ok_iAtomValid : FnOk Try.prog E 81 c_iAtomValid :=
 fn_okQ (l := L_iAtomValid) (lp := P_iAtomValid) (hp := fun _ => false) (gcs := fun _ => none) (perm := fun _ => []) tabOk mix ⟨ok_isTerm, trivial⟩ trivial Try.func81 rfl (by kernel_rfl) (by decide) (by kernel_rfl) (anns := fun x _ => fun _ _ => none) (fun ⟨x, _⟩ k _ _ => Eq.mp (by kernel_rfl) (vcn_iAtomValid x k)) tot_fn
abbrev c_iAssertionValid : Con := ⟨[.asn], [.bool], fun (a, _) => a.facts.length <= 281474976710656 /\ a.atoms.length <= 281474976710656, .inl fun (a, _) => (asV a, ()), fun _ => 0⟩
abbrev L_iAssertionValid : List (FuncId × Con) := [(80, c_iFactsValid), (81, c_iAtomValid)]
abbrev P_iAssertionValid : List (FuncId × PT) := []
def an_iAssertionValid (a : GAsn) : Nat -> St -> Option Ann
 | 4, se => some { α := Nat, ok := fun i => i <= a.atoms.length /\ a.atoms.length <= 6 /\ fsV a.facts = true /\ (a.atoms.take i).all atV = true, mu := fun i => a.atoms.length - i, i0 := fun _ => 0, nx := fun a _ => (fun i => i + 1) a, live := [16, 17], sets := fun i => [(18, sv (.int .i64 i))], mids := [], blks := fun i => [], owns := fun i => [], rd := fun r _ => r, base := 100000 }
 | _, _ => none
def VC_iAssertionValid_1 (a : GAsn) : Prop := True /\ (((false, ()) : Bool × Unit) = (asV a, ())) /\ True /\ True /\ True /\ True /\ TF
def VC_iAssertionValid_2 (a : GAsn) : Prop := RL [.s (.c (.d (.arr .atom a.atoms))), .s (.c (.d (.val (.int .i64 ((a.atoms.length : Nat) : Int)))))]
def VC_iAssertionValid (a : GAsn) (k : Nat) : Prop := TN /\ True /\ True /\ True /\ ((a.facts.length <= 281474976710656) /\ True /\ True) /\ True /\ True /\ (vcIf (!(fsV a.facts)) (True /\ (VC_iAssertionValid_1 a)) (True /\ True /\ True /\ True /\ True /\ (vcIf (decide ((6 : Int) < ((a.atoms.length : Nat) : Int))) (VC_iAssertionValid_1 a) (True /\ True /\ True /\ True /\ ((0 <= a.atoms.length /\ a.atoms.length <= 6 /\ fsV a.facts = true /\ (a.atoms.take 0).all atV = true) /\ TT /\ (VC_iAssertionValid_2 a) /\ (([.s (.c (.d (.val (.int .i64 (0 : Int)))))] : List S) = [.s (.c (.d (.val (.int .i64 ((0 : Nat) : Int)))))]) /\ (RM []) /\ (RM []) /\ True /\ TT) /\ (∀ i1 : Nat, (i1 <= a.atoms.length /\ a.atoms.length <= 6 /\ fsV a.facts = true /\ (a.atoms.take i1).all atV = true) -> True /\ (vcIf (decide (((i1 : Nat) : Int) < ((a.atoms.length : Nat) : Int))) ((0 <= ((i1 : Nat) : Int) /\ ((i1 : Nat) : Int) < ((a.atoms.length : Nat) : Int)) /\ True /\ (TN /\ True) /\ (TF /\ TF) /\ True /\ (True /\ True /\ True) /\ True /\ (vcIf (!(atV (a.atoms.getD i1 (⟨0, 0, 0⟩ : GAtom)))) (VC_iAssertionValid_1 a) ((inK .i64 (((i1 : Nat) : Int) + (1 : Int))) /\ True /\ ((i1 + 1) <= a.atoms.length /\ a.atoms.length <= 6 /\ fsV a.facts = true /\ (a.atoms.take (i1 + 1)).all atV = true) /\ (a.atoms.length - (i1 + 1) < a.atoms.length - i1) /\ TT /\ (VC_iAssertionValid_2 a) /\ (([.s (.c (.d (.val (.int .i64 (((i1 : Nat) : Int) + (1 : Int))))))] : List S) = [.s (.c (.d (.val (.int .i64 (((i1 + 1) : Nat) : Int)))))]) /\ (RM []) /\ (RM []) /\ True /\ TT))) (True /\ (((true, ()) : Bool × Unit) = (asV a, ())) /\ True /\ True /\ True /\ True /\ TF)))))))
theorem vcn_iAssertionValid (a : GAsn) (k : Nat) (hp : a.facts.length <= 281474976710656 /\ a.atoms.length <= 281474976710656) : VC_iAssertionValid a k := by
 unfold VC_iAssertionValid VC_iAssertionValid_2 VC_iAssertionValid_1
 simp only [cln, Nat.reduceEqDiff, Nat.reduceLeDiff, Nat.reduceAdd]
 all_goals (try simp only [opn])
 all_goals (repeat' (first | apply And.intro | intro _))
 all_goals (first | omega | (simp_all; done) | grind [asV, take_all, all_take, take_full, Ty.zero])
theorem ok_iAssertionValid : FnOk Try.prog E 33 c_iAssertionValid :=
 fn_okQ (l := L_iAssertionValid) (lp := P_iAssertionValid) (hp := fun _ => false) (gcs := fun _ => none) (perm := fun _ => []) tabOk mix ⟨ok_iFactsValid, ok_iAtomValid, trivial⟩ trivial Try.func33 rfl (by kernel_rfl) (by decide) (by kernel_rfl) (anns := fun x _ => an_iAssertionValid x.1) (fun ⟨a, _⟩ k hp _ => Eq.mp (by kernel_rfl) (vcn_iAssertionValid a k hp)) tot_fn
abbrev c_normalForm : Con := ⟨[.asn], [.asn], fun (a, _) => a.facts.length <= 1048576 /\ a.atoms.length <= 1048576, .inl fun (a, _) => (nf a, ()), fun _ => 0⟩
abbrev L_normalForm : List (FuncId × Con) := []
abbrev P_normalForm : List (FuncId × PT) := []
def an_normalForm (a : GAsn) : Nat -> St -> Option Ann
 | 3, se => some { α := Nat, ok := fun i => i <= a.facts.length, mu := fun i => a.facts.length - i, i0 := fun _ => 0, nx := fun a _ => (fun i => i + 1) a, live := [1, 2, 3, 12, 13], sets := fun i => [(14, sv (.int .i64 i))], mids := [31, 32, 33, 47], blks := fun i => [(63, .blk [.own 7, .own 8])], owns := fun i => [⟨7, .cell 63 0, .fact, nfF (a.facts.take i)⟩, ⟨8, .cell 63 1, .atom, []⟩], rd := fun r _ => r, base := 100000 }
 | 10, se => some { α := Nat, ok := fun i => i <= (slAt .fact se (.cell 63 0)).length, mu := fun i => (slAt .fact se (.cell 63 0)).length - i, i0 := fun _ => 0, nx := fun a _ => (fun i => i + 1) a, live := [1, 2, 3, 5, 12, 13, 14, 39, 40], sets := fun i => [(41, sv (.int .i64 i)), (6, sv (.bool (((slAt .fact se (.cell 63 0)).take i).contains (factAt se 100095))))], mids := [7, 8, 31, 32, 33, 47, 63, 100095], blks := fun i => [], owns := fun i => [], rd := fun r _ => r, base := 200000 }
 | 18, se => some { α := Nat, ok := fun i => i <= a.atoms.length, mu := fun i => a.atoms.length - i, i0 := fun _ => 0, nx := fun a _ => (fun i => i + 1) a, live := [2, 3, 62, 63], sets := fun i => [(64, sv (.int .i64 i))], mids := [32, 33, 47], blks := fun i => [(63, .blk [.own 7, .own 8])], owns := fun i => [⟨7, .cell 63 0, .fact, nfF a.facts⟩, ⟨8, .cell 63 1, .atom, nfA (a.atoms.take i)⟩], rd := fun r _ => r, base := 300000 }
 | _, _ => none
def VC_normalForm_1 (a : GAsn) : Prop := RL [.s (.c (.ptr 31 0)), .s (.c (.ptr 47 0)), .s (.c (.ptr 63 0)), .s (.c (.d (.arr .fact a.facts))), .s (.c (.d (.val (.int .i64 ((a.facts.length : Nat) : Int)))))]
def VC_normalForm_2  : Prop := ([.s (.c (.d (.val (.int .i64 (0 : Int)))))] : List S) = [.s (.c (.d (.val (.int .i64 ((0 : Nat) : Int)))))]
def VC_normalForm_3 (a : GAsn) : Prop := RM [some (.blk [.d (.arr .fact a.facts), .d (.arr .atom a.atoms)]), some (.sl 32 .fact ([] : List GFact)), some (.sl 33 .atom ([] : List GAtom)), some (.blk [.own 32, .own 33])]
def VC_normalForm_4 (i1 : Nat) : Prop := ([.s (.c (.d (.val (.int .i64 (((i1 : Nat) : Int) + (1 : Int))))))] : List S) = [.s (.c (.d (.val (.int .i64 (((i1 + 1) : Nat) : Int)))))]
def VC_normalForm_5 (i1 : Nat) (a : GAsn) : Prop := (inK .i64 (((i1 : Nat) : Int) + (1 : Int))) /\ True /\ ((i1 + 1) <= a.facts.length) /\ (a.facts.length - (i1 + 1) < a.facts.length - i1) /\ TT /\ (VC_normalForm_1 a) /\ (VC_normalForm_4 i1) /\ (VC_normalForm_3 a) /\ (RM [some (.blk [.own 7, .own 8])]) /\ (((some (nfF (a.facts.take i1)) : Option (List GFact)) = some (nfF (a.facts.take (i1 + 1)))) /\ ((some [] : Option (List GAtom)) = some []) /\ True) /\ TT
def VC_normalForm_6 (a : GAsn) (i1 : Nat) : Prop := RL [.s (.c (.ptr 31 0)), .s (.c (.ptr 47 0)), .s (.c (.ptr 63 0)), .s (.c (.ptr 100095 0)), .s (.c (.d (.arr .fact a.facts))), .s (.c (.d (.val (.int .i64 ((a.facts.length : Nat) : Int))))), .s (.c (.d (.val (.int .i64 ((i1 : Nat) : Int))))), .s (.c (.own 7)), .s (.c (.d (.val (.int .i64 (((nfF (a.facts.take i1)).length : Nat) : Int)))))]
def VC_normalForm_7 (a : GAsn) (i1 : Nat) : Prop := (RM [some (.sl 7 .fact (nfF (a.facts.take i1))), some (.sl 8 .atom []), some (.blk [.d (.arr .fact a.facts), .d (.arr .atom a.atoms)]), some (.sl 32 .fact ([] : List GFact)), some (.sl 33 .atom ([] : List GAtom)), some (.blk [.own 32, .own 33]), some (.blk [.own 7, .own 8]), some (.blk [.d (.val (.bool ((a.facts.getD i1 (⟨false, 0, 0⟩ : GFact)).eq))), .d (.val (.int .i64 ((a.facts.getD i1 (⟨false, 0, 0⟩ : GFact)).b))), .d (.val (.int .i64 ((a.facts.getD i1 (⟨false, 0, 0⟩ : GFact)).a)))])]) /\ (RM []) /\ True /\ TT
def VC_normalForm_8 (i2 : Nat) (a : GAsn) (i1 : Nat) : Prop := 0 <= ((i2 : Nat) : Int) /\ ((i2 : Nat) : Int) < (((nfF (a.facts.take i1)).length : Nat) : Int)
def VC_normalForm_9 (i2 : Nat) (a : GAsn) (i1 : Nat) : Prop := (True /\ (vcIf (decide (((i2 : Nat) : Int) < (((nfF (a.facts.take i1)).length : Nat) : Int))) ((VC_normalForm_8 i2 a i1) /\ True /\ (TN /\ True) /\ (TF /\ TF) /\ True /\ True /\ (vcIf ((((nfF (a.facts.take i1))).take i2).contains ((⟨(a.facts.getD i1 (⟨false, 0, 0⟩ : GFact)).eq, (a.facts.getD i1 (⟨false, 0, 0⟩ : GFact)).b, (a.facts.getD i1 (⟨false, 0, 0⟩ : GFact)).a⟩ : GFact))) (True /\ True /\ (inK .i64 (((i2 : Nat) : Int) + (1 : Int))) /\ True /\ ((i2 + 1) <= ((nfF (a.facts.take i1))).length) /\ (((nfF (a.facts.take i1))).length - (i2 + 1) < ((nfF (a.facts.take i1))).length - i2) /\ TT /\ (VC_normalForm_6 a i1) /\ (([.s (.c (.d (.val (.int .i64 (((i2 : Nat) : Int) + (1 : Int)))))), .s (.c (.d (.val (.bool true))))] : List S) = [.s (.c (.d (.val (.int .i64 (((i2 + 1) : Nat) : Int))))), .s (.c (.d (.val (.bool ((((nfF (a.facts.take i1))).take (i2 + 1)).contains ((⟨(a.facts.getD i1 (⟨false, 0, 0⟩ : GFact)).eq, (a.facts.getD i1 (⟨false, 0, 0⟩ : GFact)).b, (a.facts.getD i1 (⟨false, 0, 0⟩ : GFact)).a⟩ : GFact)))))))]) /\ (VC_normalForm_7 a i1)) (True /\ True /\ True /\ True /\ True /\ (inK .i64 (((i2 : Nat) : Int) + (1 : Int))) /\ True /\ ((i2 + 1) <= ((nfF (a.facts.take i1))).length) /\ (((nfF (a.facts.take i1))).length - (i2 + 1) < ((nfF (a.facts.take i1))).length - i2) /\ TT /\ (VC_normalForm_6 a i1) /\ (([.s (.c (.d (.val (.int .i64 (((i2 : Nat) : Int) + (1 : Int)))))), .s (.c (.d (.val (.bool (((((nfF (a.facts.take i1)).getD i2 (⟨false, 0, 0⟩ : GFact)).eq) == ((a.facts.getD i1 (⟨false, 0, 0⟩ : GFact)).eq)) && (((((nfF (a.facts.take i1)).getD i2 (⟨false, 0, 0⟩ : GFact)).a) == ((a.facts.getD i1 (⟨false, 0, 0⟩ : GFact)).b)) && (((((nfF (a.facts.take i1)).getD i2 (⟨false, 0, 0⟩ : GFact)).b) == ((a.facts.getD i1 (⟨false, 0, 0⟩ : GFact)).a)) && true)))))))] : List S) = [.s (.c (.d (.val (.int .i64 (((i2 + 1) : Nat) : Int))))), .s (.c (.d (.val (.bool ((((nfF (a.facts.take i1))).take (i2 + 1)).contains ((⟨(a.facts.getD i1 (⟨false, 0, 0⟩ : GFact)).eq, (a.facts.getD i1 (⟨false, 0, 0⟩ : GFact)).b, (a.facts.getD i1 (⟨false, 0, 0⟩ : GFact)).a⟩ : GFact)))))))]) /\ (VC_normalForm_7 a i1)))) (True /\ True /\ (vcIf (!((((nfF (a.facts.take i1))).take i2).contains ((⟨(a.facts.getD i1 (⟨false, 0, 0⟩ : GFact)).eq, (a.facts.getD i1 (⟨false, 0, 0⟩ : GFact)).b, (a.facts.getD i1 (⟨false, 0, 0⟩ : GFact)).a⟩ : GFact)))) (True /\ True /\ True /\ (TN /\ True) /\ (TN /\ TF /\ TF /\ ((nfF (a.facts.take i1)).length + ([(⟨(a.facts.getD i1 (⟨false, 0, 0⟩ : GFact)).eq, (a.facts.getD i1 (⟨false, 0, 0⟩ : GFact)).b, (a.facts.getD i1 (⟨false, 0, 0⟩ : GFact)).a⟩ : GFact)] : List GFact).length <= 4294967296)) /\ True /\ (TF /\ TF) /\ (inK .i64 (((i1 : Nat) : Int) + (1 : Int))) /\ True /\ ((i1 + 1) <= a.facts.length) /\ (a.facts.length - (i1 + 1) < a.facts.length - i1) /\ TT /\ (VC_normalForm_1 a) /\ (VC_normalForm_4 i1) /\ (VC_normalForm_3 a) /\ (RM [some (.blk [.own 200928, .own 8])]) /\ (((some ((nfF (a.facts.take i1)) ++ ([(⟨(a.facts.getD i1 (⟨false, 0, 0⟩ : GFact)).eq, (a.facts.getD i1 (⟨false, 0, 0⟩ : GFact)).b, (a.facts.getD i1 (⟨false, 0, 0⟩ : GFact)).a⟩ : GFact)] : List GFact)) : Option (List GFact)) = some (nfF (a.facts.take (i1 + 1)))) /\ ((some [] : Option (List GAtom)) = some []) /\ True) /\ TT) (VC_normalForm_5 i1 a)))))
def VC_normalForm_10 (a : GAsn) (i1 : Nat) : Prop := (RM [some (.sl 7 .fact (nfF (a.facts.take i1))), some (.sl 8 .atom []), some (.blk [.d (.arr .fact a.facts), .d (.arr .atom a.atoms)]), some (.sl 32 .fact ([] : List GFact)), some (.sl 33 .atom ([] : List GAtom)), some (.blk [.own 32, .own 33]), some (.blk [.own 7, .own 8]), some (.blk [.d (.val (.bool ((a.facts.getD i1 (⟨false, 0, 0⟩ : GFact)).eq))), .d (.val (.int .i64 ((a.facts.getD i1 (⟨false, 0, 0⟩ : GFact)).a))), .d (.val (.int .i64 ((a.facts.getD i1 (⟨false, 0, 0⟩ : GFact)).b)))])]) /\ (RM []) /\ True /\ TT
def VC_normalForm_11 (a : GAsn) (i1 : Nat) : Prop := (True /\ True /\ True /\ ((0 <= ((nfF (a.facts.take i1))).length) /\ TT /\ (VC_normalForm_6 a i1) /\ (([.s (.c (.d (.val (.int .i64 (0 : Int))))), .s (.c (.d (.val (.bool false))))] : List S) = [.s (.c (.d (.val (.int .i64 ((0 : Nat) : Int))))), .s (.c (.d (.val (.bool ((((nfF (a.facts.take i1))).take 0).contains ((a.facts.getD i1 (⟨false, 0, 0⟩ : GFact))))))))]) /\ (VC_normalForm_10 a i1)) /\ (∀ i3 : Nat, (i3 <= ((nfF (a.facts.take i1))).length) -> True /\ (vcIf (decide (((i3 : Nat) : Int) < (((nfF (a.facts.take i1)).length : Nat) : Int))) ((VC_normalForm_8 i3 a i1) /\ True /\ (TN /\ True) /\ (TF /\ TF) /\ True /\ True /\ (vcIf ((((nfF (a.facts.take i1))).take i3).contains ((a.facts.getD i1 (⟨false, 0, 0⟩ : GFact)))) (True /\ True /\ (inK .i64 (((i3 : Nat) : Int) + (1 : Int))) /\ True /\ ((i3 + 1) <= ((nfF (a.facts.take i1))).length) /\ (((nfF (a.facts.take i1))).length - (i3 + 1) < ((nfF (a.facts.take i1))).length - i3) /\ TT /\ (VC_normalForm_6 a i1) /\ (([.s (.c (.d (.val (.int .i64 (((i3 : Nat) : Int) + (1 : Int)))))), .s (.c (.d (.val (.bool true))))] : List S) = [.s (.c (.d (.val (.int .i64 (((i3 + 1) : Nat) : Int))))), .s (.c (.d (.val (.bool ((((nfF (a.facts.take i1))).take (i3 + 1)).contains ((a.facts.getD i1 (⟨false, 0, 0⟩ : GFact))))))))]) /\ (VC_normalForm_10 a i1)) (True /\ True /\ True /\ True /\ True /\ (inK .i64 (((i3 : Nat) : Int) + (1 : Int))) /\ True /\ ((i3 + 1) <= ((nfF (a.facts.take i1))).length) /\ (((nfF (a.facts.take i1))).length - (i3 + 1) < ((nfF (a.facts.take i1))).length - i3) /\ TT /\ (VC_normalForm_6 a i1) /\ (([.s (.c (.d (.val (.int .i64 (((i3 : Nat) : Int) + (1 : Int)))))), .s (.c (.d (.val (.bool (((((nfF (a.facts.take i1)).getD i3 (⟨false, 0, 0⟩ : GFact)).eq) == ((a.facts.getD i1 (⟨false, 0, 0⟩ : GFact)).eq)) && (((((nfF (a.facts.take i1)).getD i3 (⟨false, 0, 0⟩ : GFact)).a) == ((a.facts.getD i1 (⟨false, 0, 0⟩ : GFact)).a)) && (((((nfF (a.facts.take i1)).getD i3 (⟨false, 0, 0⟩ : GFact)).b) == ((a.facts.getD i1 (⟨false, 0, 0⟩ : GFact)).b)) && true)))))))] : List S) = [.s (.c (.d (.val (.int .i64 (((i3 + 1) : Nat) : Int))))), .s (.c (.d (.val (.bool ((((nfF (a.facts.take i1))).take (i3 + 1)).contains ((a.facts.getD i1 (⟨false, 0, 0⟩ : GFact))))))))]) /\ (VC_normalForm_10 a i1)))) (True /\ True /\ (vcIf (!((((nfF (a.facts.take i1))).take i3).contains ((a.facts.getD i1 (⟨false, 0, 0⟩ : GFact))))) (True /\ True /\ True /\ (TN /\ True) /\ (TN /\ TF /\ TF /\ ((nfF (a.facts.take i1)).length + ([(a.facts.getD i1 (⟨false, 0, 0⟩ : GFact))] : List GFact).length <= 4294967296)) /\ True /\ (TF /\ TF) /\ (inK .i64 (((i1 : Nat) : Int) + (1 : Int))) /\ True /\ ((i1 + 1) <= a.facts.length) /\ (a.facts.length - (i1 + 1) < a.facts.length - i1) /\ TT /\ (VC_normalForm_1 a) /\ (VC_normalForm_4 i1) /\ (VC_normalForm_3 a) /\ (RM [some (.blk [.own 200928, .own 8])]) /\ (((some ((nfF (a.facts.take i1)) ++ ([(a.facts.getD i1 (⟨false, 0, 0⟩ : GFact))] : List GFact)) : Option (List GFact)) = some (nfF (a.facts.take (i1 + 1)))) /\ ((some [] : Option (List GAtom)) = some []) /\ True) /\ TT) (VC_normalForm_5 i1 a))))))
def VC_normalForm_12 (a : GAsn) (i1 : Nat) : Prop := True /\ True /\ True /\ True /\ True /\ (vcIf (decide (((a.facts.getD i1 (⟨false, 0, 0⟩ : GFact)).b) < ((a.facts.getD i1 (⟨false, 0, 0⟩ : GFact)).a))) (True /\ True /\ True /\ True /\ True /\ (TF /\ TF) /\ True /\ (TF /\ TF) /\ True /\ True /\ True /\ True /\ True /\ ((0 <= ((nfF (a.facts.take i1))).length) /\ TT /\ (VC_normalForm_6 a i1) /\ (([.s (.c (.d (.val (.int .i64 (0 : Int))))), .s (.c (.d (.val (.bool false))))] : List S) = [.s (.c (.d (.val (.int .i64 ((0 : Nat) : Int))))), .s (.c (.d (.val (.bool ((((nfF (a.facts.take i1))).take 0).contains ((⟨(a.facts.getD i1 (⟨false, 0, 0⟩ : GFact)).eq, (a.facts.getD i1 (⟨false, 0, 0⟩ : GFact)).b, (a.facts.getD i1 (⟨false, 0, 0⟩ : GFact)).a⟩ : GFact)))))))]) /\ (VC_normalForm_7 a i1)) /\ (∀ i2 : Nat, (i2 <= ((nfF (a.facts.take i1))).length) -> (VC_normalForm_9 i2 a i1))) (True /\ True /\ (VC_normalForm_11 a i1)))
def VC_normalForm_13 (a : GAsn) : Prop := RL [.s (.c (.ptr 47 0)), .s (.c (.ptr 63 0)), .s (.c (.d (.arr .atom a.atoms))), .s (.c (.d (.val (.int .i64 ((a.atoms.length : Nat) : Int)))))]
def VC_normalForm_14  : Prop := RM [some (.sl 32 .fact ([] : List GFact)), some (.sl 33 .atom ([] : List GAtom)), some (.blk [.own 32, .own 33])]
def VC_normalForm_15 (a : GAsn) (i6 : Nat) : Prop := True /\ True /\ True /\ (TN /\ True) /\ (TN /\ TF /\ TF /\ ((nfA (a.atoms.take i6)).length + ([(a.atoms.getD i6 (⟨0, 0, 0⟩ : GAtom))] : List GAtom).length <= 4294967296)) /\ True /\ (TF /\ TF) /\ (inK .i64 (((i6 : Nat) : Int) + (1 : Int))) /\ True /\ ((i6 + 1) <= a.atoms.length) /\ (a.atoms.length - (i6 + 1) < a.atoms.length - i6) /\ TT /\ (VC_normalForm_13 a) /\ (VC_normalForm_4 i6) /\ VC_normalForm_14 /\ (RM [some (.blk [.own 7, .own 301312])]) /\ (((some (nfF a.facts) : Option (List GFact)) = some (nfF a.facts)) /\ ((some ((nfA (a.atoms.take i6)) ++ ([(a.atoms.getD i6 (⟨0, 0, 0⟩ : GAtom))] : List GAtom)) : Option (List GAtom)) = some (nfA (a.atoms.take (i6 + 1)))) /\ True) /\ TT
def VC_normalForm (a : GAsn) (k : Nat) : Prop := TN /\ (TN /\ TN /\ TN /\ True) /\ (TN /\ TN /\ TN /\ True) /\ True /\ True /\ True /\ True /\ ((0 <= a.facts.length) /\ TT /\ (VC_normalForm_1 a) /\ VC_normalForm_2 /\ (VC_normalForm_3 a) /\ (RM [some (.blk [.own 48, .own 49])]) /\ (((some ([] : List GFact) : Option (List GFact)) = some (nfF (a.facts.take 0))) /\ ((some ([] : List GAtom) : Option (List GAtom)) = some []) /\ True) /\ TT) /\ (∀ i1 : Nat, (i1 <= a.facts.length) -> True /\ (vcIf (decide (((i1 : Nat) : Int) < ((a.facts.length : Nat) : Int))) ((0 <= ((i1 : Nat) : Int) /\ ((i1 : Nat) : Int) < ((a.facts.length : Nat) : Int)) /\ True /\ (TN /\ True) /\ (TF /\ TF) /\ True /\ True /\ True /\ (vcIf ((a.facts.getD i1 (⟨false, 0, 0⟩ : GFact)).eq) (True /\ True /\ True /\ True /\ True /\ True /\ (vcIf (((a.facts.getD i1 (⟨false, 0, 0⟩ : GFact)).a) == ((a.facts.getD i1 (⟨false, 0, 0⟩ : GFact)).b)) (VC_normalForm_5 i1 a) (VC_normalForm_12 a i1))) (True /\ (VC_normalForm_12 a i1)))) (True /\ True /\ True /\ True /\ ((0 <= a.atoms.length) /\ TT /\ (VC_normalForm_13 a) /\ VC_normalForm_2 /\ VC_normalForm_14 /\ (RM [some (.blk [.own 7, .own 8])]) /\ (((some (nfF (a.facts.take i1)) : Option (List GFact)) = some (nfF a.facts)) /\ ((some [] : Option (List GAtom)) = some (nfA (a.atoms.take 0))) /\ True) /\ TT) /\ (∀ i6 : Nat, (i6 <= a.atoms.length) -> True /\ (vcIf (decide (((i6 : Nat) : Int) < ((a.atoms.length : Nat) : Int))) ((0 <= ((i6 : Nat) : Int) /\ ((i6 : Nat) : Int) < ((a.atoms.length : Nat) : Int)) /\ True /\ (TN /\ True) /\ (TF /\ TF) /\ True /\ True /\ True /\ True /\ (vcIf (((a.atoms.getD i6 (⟨0, 0, 0⟩ : GAtom)).kind) != (2 : Int)) (True /\ (VC_normalForm_15 a i6)) (True /\ True /\ True /\ True /\ True /\ True /\ (vcIf (((a.atoms.getD i6 (⟨0, 0, 0⟩ : GAtom)).a) != ((a.atoms.getD i6 (⟨0, 0, 0⟩ : GAtom)).b)) (VC_normalForm_15 a i6) ((inK .i64 (((i6 : Nat) : Int) + (1 : Int))) /\ True /\ ((i6 + 1) <= a.atoms.length) /\ (a.atoms.length - (i6 + 1) < a.atoms.length - i6) /\ TT /\ (VC_normalForm_13 a) /\ (VC_normalForm_4 i6) /\ VC_normalForm_14 /\ (RM [some (.blk [.own 7, .own 8])]) /\ (((some (nfF a.facts) : Option (List GFact)) = some (nfF a.facts)) /\ ((some (nfA (a.atoms.take i6)) : Option (List GAtom)) = some (nfA (a.atoms.take (i6 + 1)))) /\ True) /\ TT))))) (True /\ (TF /\ TF) /\ ((((⟨nfF a.facts, nfA (a.atoms.take i6)⟩ : GAsn), ()) : GAsn × Unit) = (nf a, ())) /\ ((((7 : Nat) ≠ 8) /\ True) /\ True /\ True) /\ ((TF /\ TF) /\ (TF /\ TF) /\ True) /\ True /\ (True /\ True /\ True) /\ TF))))))
theorem vcn_normalForm (a : GAsn) (k : Nat) (hp : a.facts.length <= 1048576 /\ a.atoms.length <= 1048576) : VC_normalForm a k := by
 unfold VC_normalForm VC_normalForm_15 VC_normalForm_14 VC_normalForm_13 VC_normalForm_12 VC_normalForm_11 VC_normalForm_10 VC_normalForm_9 VC_normalForm_8 VC_normalForm_7 VC_normalForm_6 VC_normalForm_5 VC_normalForm_4 VC_normalForm_3 VC_normalForm_2 VC_normalForm_1
 simp only [cln, Nat.reduceEqDiff, Nat.reduceLeDiff, Nat.reduceAdd]
 have hl1 : ∀ i, (nfF (a.facts.take i)).length <= i := fun i => Nat.le_trans (nfF_len _) (by simp; omega)
 have hl2 : ∀ i, (nfA (a.atoms.take i)).length <= i := fun i => Nat.le_trans (nfA_len _) (by simp; omega)
 have z1 : nfF [] = [] := rfl
 have z2 : nfA [] = [] := rfl
 all_goals (try simp only [opn])
 all_goals (repeat' (first | apply And.intro | intro _))
 all_goals (first | omega | (simp_all; done) | grind [nfF_step, nfA_step, nfS, nsw, fact_has_step, take_full, nf])
theorem ok_normalForm : FnOk Try.prog E 55 c_normalForm :=
 fn_okQ (l := L_normalForm) (lp := P_normalForm) (hp := fun _ => false) (gcs := fun _ => none) (perm := fun _ => []) tabOk mix trivial trivial Try.func55 rfl (by kernel_rfl) (by decide) (by kernel_rfl) (anns := fun x _ => an_normalForm x.1) (fun ⟨a, _⟩ k hp _ => Eq.mp (by kernel_rfl) (vcn_normalForm a k hp)) tot_fn
abbrev c_iNormalForm : Con := ⟨[.asn], [.asn, .bool], fun (a, _) => a.facts.length <= 281474976710656 /\ a.atoms.length <= 281474976710656, .inl fun (a, _) => (nfL a, asV a, ()), fun _ => 0⟩
abbrev L_iNormalForm : List (FuncId × Con) := [(33, c_iAssertionValid), (55, c_normalForm)]
abbrev P_iNormalForm : List (FuncId × PT) := []
def VC_iNormalForm (a : GAsn) (k : Nat) : Prop := TN /\ (TN /\ TN /\ TN /\ True) /\ True /\ True /\ ((a.facts.length <= 281474976710656 /\ a.atoms.length <= 281474976710656) /\ True /\ True) /\ True /\ (vcIf (!(asV a)) ((TN /\ TN /\ True) /\ (TF /\ TF) /\ True /\ ((((⟨([] : List GFact), ([] : List GAtom)⟩ : GAsn), false, ()) : GAsn × Bool × Unit) = (nfL a, asV a, ())) /\ ((((112 : Nat) ≠ 113) /\ True) /\ True /\ True) /\ ((TF /\ TF) /\ (TF /\ TF) /\ True) /\ True /\ (True /\ True /\ True) /\ TF) (True /\ ((a.facts.length <= 1048576 /\ a.atoms.length <= 1048576) /\ True /\ TN /\ TN /\ True) /\ (TF /\ TF) /\ True /\ ((((nf a), true, ()) : GAsn × Bool × Unit) = (nfL a, asV a, ())) /\ ((((144 : Nat) ≠ 145) /\ True) /\ True /\ True) /\ ((TF /\ TF) /\ (TF /\ TF) /\ True) /\ True /\ (True /\ True /\ True) /\ TF))
theorem vcn_iNormalForm (a : GAsn) (k : Nat) (hp : a.facts.length <= 281474976710656 /\ a.atoms.length <= 281474976710656) : VC_iNormalForm a k := by
 unfold VC_iNormalForm
 simp only [cln, Nat.reduceEqDiff, Nat.reduceLeDiff, Nat.reduceAdd]
 have hV := @asV_facts a
 all_goals (try simp only [opn])
 all_goals (repeat' (first | apply And.intro | intro _))
 all_goals (first | omega | (simp_all; done) | grind [nfL])
theorem ok_iNormalForm : FnOk Try.prog E 16 c_iNormalForm :=
 fn_okQ (l := L_iNormalForm) (lp := P_iNormalForm) (hp := fun _ => false) (gcs := fun _ => none) (perm := fun _ => []) tabOk mix ⟨ok_iAssertionValid, ok_normalForm, trivial⟩ trivial Try.func16 rfl (by kernel_rfl) (by decide) (by kernel_rfl) (anns := fun x _ => fun _ _ => none) (fun ⟨a, _⟩ k hp _ => Eq.mp (by kernel_rfl) (vcn_iNormalForm a k hp)) tot_fn
theorem vc_l18Open (code : List UInt8) : vc tab (lookF []) (fun _ => none) (fun _ => []) (bodyOf Try.f51) (entry [.c (.d (.arr .u8 code))] none) openQ := by
 dsimp only [bodyOf, Try.f51]
 simp only [openQ, pickK, openE, openM, true_and, and_true, SE.lookF, tab2, tab3, tab4, tab5, tab7, tab9, tab12, tab13, tab21, tab22, tab23, tab24, tab25, tab26, tab31, tab32, tab33, tab41, tab42, tab43, tab44, tab55, tab56, tab60, tab61, tab81, tab82, tab86, tab87, tab94, tab99, tab101, tab130, tab131, tab144, tab146, tab148, tab149, tab150, tab178, tab190, SE.entry, SE.envOf, SE.rdOf, Option.get_some, SE.vc, SE.vcReg, SE.vcLoop, SE.condK, SE.seqK, SE.blockK, SE.vcOps, SE.vcStep, SE.vcOp, SE.vcTr, SE.vcDet_some, SE.vcDet_none, SE.vcIf_true, SE.vcIf_false, SE.vcEach, SE.pickOps, SE.gslot, SE.trOp, SE.moveId, SE.trMove, SE.trPick, SE.trAlloc, SE.trBox, SE.trBuild, SE.trBuildSlice, SE.trLoad, SE.trStore, SE.trNilCheck, SE.trBin, SE.trUn, SE.trConvert, SE.trFieldAddr, SE.trField, SE.trIndexAddr, SE.trIndex, SE.trSlice, SE.trMakeSlice, SE.trExtract, SE.trLen, SE.trAppend, SE.trCopy, SE.trFn, SE.trCall, SE.argsS, SE.ev, SE.constS, SE.junk, SE.sv, SE.upd_app, SE.adds, SE.sets, SE.nid, SE.St.app, SE.St.put, SE.free, SE.freeL, SE.allFree, SE.rids, SE.AK.rids, SE.castL, SE.rdl, SE.AK.dec, SE.decs, SE.AK.enc, SE.encs, SE.AK.res, SE.ress, SE.pack1, SE.zcells, SE.zeroOf, SE.partCells, SE.putc, SE.fills, SE.datas, SE.elemOf, SE.elemsOf, SE.notSpent, SE.cellsAt, SE.weak, SE.dcellsAt, SE.slAt, SE.rdPlus, SE.intAt, SE.updElem, SE.kill, SE.noJunk, SE.inK, SE.binI, SE.shf, SE.isShift, SE.eqCells, SE.aggS, SE.intOp, SE.nested, SE.hasRdr, SE.refsC, SE.refsCs, SE.ownsC, SE.refsAr, SE.rdFits, SE.costIf, SE.Con.post, SE.Con.det, SE.Ty.cells, SE.Ty.sz, SE.Ty.zero, SE.Ty.flat, SE.Ty.dec, SE.retOk, SE.loadsS, SE.loadS, SE.decRs, SE.decR, SE.outC, SE.rdC, SE.allDiff, SE.notIn, SE.notFrozen, SE.apartL, SE.rdEnd, SE.firstReg, SE.headC, SE.fitsC, SE.idsC, SE.keepE, SE.keepM, SE.keepB, SE.inL, SE.puts, SE.ownRes, SE.ownEnv, SE.renL, SE.srcId, SE.lookR, SE.envSame, SE.envSets, SE.memSame, SE.memBlks, SE.memOwns, SE.famsOf, SE.allIn, SE.closedE, SE.closedV, SE.closedM, SE.closedR, SE.rdLe, SE.S.refs, SE.S0.refs, SE.CV.refs, SE.refsL, SE.refsT, SE.S.ren, SE.S0.ren, SE.CV.ren, SE.Res.refs, SE.Res.ren, min_i64, max_i64, min_u16, max_u16, min_u8, max_u8, min_u64, max_u64, S.s.injEq, S0.c.injEq, CV.d.injEq, DC.val.injEq, Value.int.injEq, Value.bool.injEq, Value.string.injEq, eta_fact, eta_atom, eta_asn, eta_state, List.mem_cons, List.mem_nil_iff, or_false, false_or, or_true, true_or, Option.map_some, Option.map_none, Option.bind_some, Option.getD_some, Option.getD_none, Nat.reduceEqDiff, Nat.reduceAdd, Nat.reduceMul, Nat.reduceLeDiff, ↓reduceIte, reduceCtorEq, true_and, and_true, and_self, forall_const, implies_true, true_implies, List.getElem?_toArray, List.getElem?_cons_succ, List.getElem?_cons_zero, List.append_nil, List.nil_append, List.cons_append, List.length_cons, List.length_nil, List.take_succ_cons, List.take_zero, List.drop_succ_cons, List.drop_zero, List.set_cons_zero, List.set_cons_succ, List.map_cons, List.map_nil, Nat.add_zero, Nat.zero_add, forall_eq, Prod.forall, Bool.not_true, Bool.not_false, Nat.lt_irrefl, Nat.zero_lt_succ, List.singleton_append, Prod.mk.injEq, Nat.zero_mul, Nat.one_mul, Nat.reducePow, Option.some.injEq, not_false_eq_true, Int.toNat_natCast, Nat.sub_zero, Nat.le_refl, Bool.or_false, Bool.false_or, Bool.or_true, Bool.true_or, Bool.and_true, Bool.true_and, Bool.and_false, Bool.false_and, Bool.or_self, Bool.and_self, List.append_eq, and_false, false_and]
 all_goals (try simp only [vcIf_iff, decide_eq_true_eq, decide_eq_false_iff_not])
 all_goals (repeat' (first | apply And.intro | intro _))
 all_goals (first | omega | (simp_all; done) | grind)
theorem open_l18Open : OpenOk Try.prog 51 :=
 open_ok tabOk mix (perm := fun _ => []) Try.func51 (by kernel_rfl) (by kernel_rfl) (by decide) (by kernel_rfl) vc_l18Open
theorem fn_l18Open : ∃ fn c, Try.prog.funcs[51]? = some fn /\ (fn.name == "runtime.NumGoroutine") = false /\ fn.body = some c := ⟨_, _, Try.func51, by kernel_rfl, rfl⟩
abbrev c_pick : Con := ⟨[.rdr, .int], [.int], fun _ => True, .inr fun (_, n, _) (r, _) => pickP n r, fun _ => 1⟩
theorem vc_pick (code : List UInt8) (v : Value) (p n : Int) (k : Nat) (h1 : code.length <= 2000) (h2 : 0 <= p) (h3 : p <= k) (h4 : k + 1 <= rdLimit) : vc tab (lookF []) (fun _ => none) (fun _ => []) (bodyOf Try.f53) (pickSt code v p n) (pickQ code v p n) := by
 have h5 : p <= 1099511627776 := by have : k + 1 <= 1099511627776 := h4; omega
 dsimp only [bodyOf, Try.f53, rdOf]
 simp only [pickSt, pickQ, pickK, pickM, pickR, pickP, true_and, and_true, SE.lookF, tab2, tab3, tab4, tab5, tab7, tab9, tab12, tab13, tab21, tab22, tab23, tab24, tab25, tab26, tab31, tab32, tab33, tab41, tab42, tab43, tab44, tab55, tab56, tab60, tab61, tab81, tab82, tab86, tab87, tab94, tab99, tab101, tab130, tab131, tab144, tab146, tab148, tab149, tab150, tab178, tab190, SE.entry, SE.envOf, SE.rdOf, Option.get_some, SE.vc, SE.vcReg, SE.vcLoop, SE.condK, SE.seqK, SE.blockK, SE.vcOps, SE.vcStep, SE.vcOp, SE.vcTr, SE.vcDet_some, SE.vcDet_none, SE.vcIf_true, SE.vcIf_false, SE.vcEach, SE.pickOps, SE.gslot, SE.trOp, SE.moveId, SE.trMove, SE.trPick, SE.trAlloc, SE.trBox, SE.trBuild, SE.trBuildSlice, SE.trLoad, SE.trStore, SE.trNilCheck, SE.trBin, SE.trUn, SE.trConvert, SE.trFieldAddr, SE.trField, SE.trIndexAddr, SE.trIndex, SE.trSlice, SE.trMakeSlice, SE.trExtract, SE.trLen, SE.trAppend, SE.trCopy, SE.trFn, SE.trCall, SE.argsS, SE.ev, SE.constS, SE.junk, SE.sv, SE.upd_app, SE.adds, SE.sets, SE.nid, SE.St.app, SE.St.put, SE.free, SE.freeL, SE.allFree, SE.rids, SE.AK.rids, SE.castL, SE.rdl, SE.AK.dec, SE.decs, SE.AK.enc, SE.encs, SE.AK.res, SE.ress, SE.pack1, SE.zcells, SE.zeroOf, SE.partCells, SE.putc, SE.fills, SE.datas, SE.elemOf, SE.elemsOf, SE.notSpent, SE.cellsAt, SE.weak, SE.dcellsAt, SE.slAt, SE.rdPlus, SE.intAt, SE.updElem, SE.kill, SE.noJunk, SE.inK, SE.binI, SE.shf, SE.isShift, SE.eqCells, SE.aggS, SE.intOp, SE.nested, SE.hasRdr, SE.refsC, SE.refsCs, SE.ownsC, SE.refsAr, SE.rdFits, SE.costIf, SE.Con.post, SE.Con.det, SE.Ty.cells, SE.Ty.sz, SE.Ty.zero, SE.Ty.flat, SE.Ty.dec, SE.retOk, SE.loadsS, SE.loadS, SE.decRs, SE.decR, SE.outC, SE.rdC, SE.allDiff, SE.notIn, SE.notFrozen, SE.apartL, SE.rdEnd, SE.firstReg, SE.headC, SE.fitsC, SE.idsC, SE.keepE, SE.keepM, SE.keepB, SE.inL, SE.puts, SE.ownRes, SE.ownEnv, SE.renL, SE.srcId, SE.lookR, SE.envSame, SE.envSets, SE.memSame, SE.memBlks, SE.memOwns, SE.famsOf, SE.allIn, SE.closedE, SE.closedV, SE.closedM, SE.closedR, SE.rdLe, SE.S.refs, SE.S0.refs, SE.CV.refs, SE.refsL, SE.refsT, SE.S.ren, SE.S0.ren, SE.CV.ren, SE.Res.refs, SE.Res.ren, min_i64, max_i64, min_u16, max_u16, min_u8, max_u8, min_u64, max_u64, S.s.injEq, S0.c.injEq, CV.d.injEq, DC.val.injEq, Value.int.injEq, Value.bool.injEq, Value.string.injEq, eta_fact, eta_atom, eta_asn, eta_state, List.mem_cons, List.mem_nil_iff, or_false, false_or, or_true, true_or, Option.map_some, Option.map_none, Option.bind_some, Option.getD_some, Option.getD_none, Nat.reduceEqDiff, Nat.reduceAdd, Nat.reduceMul, Nat.reduceLeDiff, ↓reduceIte, reduceCtorEq, true_and, and_true, and_self, forall_const, implies_true, true_implies, List.getElem?_toArray, List.getElem?_cons_succ, List.getElem?_cons_zero, List.append_nil, List.nil_append, List.cons_append, List.length_cons, List.length_nil, List.take_succ_cons, List.take_zero, List.drop_succ_cons, List.drop_zero, List.set_cons_zero, List.set_cons_succ, List.map_cons, List.map_nil, Nat.add_zero, Nat.zero_add, forall_eq, Prod.forall, Bool.not_true, Bool.not_false, Nat.lt_irrefl, Nat.zero_lt_succ, List.singleton_append, Prod.mk.injEq, Nat.zero_mul, Nat.one_mul, Nat.reducePow, Option.some.injEq, not_false_eq_true, Int.toNat_natCast, Nat.sub_zero, Nat.le_refl, Bool.or_false, Bool.false_or, Bool.or_true, Bool.true_or, Bool.and_true, Bool.true_and, Bool.and_false, Bool.false_and, Bool.or_self, Bool.and_self, List.append_eq, and_false, false_and]
 all_goals (try simp only [vcIf_iff, decide_eq_true_eq, decide_eq_false_iff_not, bne_iff_ne, ne_eq, beq_iff_eq, beq_eq_false_iff_ne])
 have hq : p + 1 - 1 = p := by omega
 simp only [hq]
 have hA := byte_bd code
 generalize hL : (code.length : Int) = L at *
 have hL0 : 0 <= L := by omega
 have hm : ∀ x : Int, 0 <= x -> ¬ L = 0 -> 0 <= x.tmod L /\ x.tmod L < L := fun x h0 h1 => tmod_bd h0 (by omega)
 refine ⟨by omega, fun _ _ => by omega, fun hn => ⟨fun _ _ => by omega, fun hl => ⟨by omega, fun hpl => ?_, fun hpl => ?_⟩⟩⟩
 ·have a1 := hA p.toNat
  have m1 := tmod_bd (n := n) a1.1 (by omega)
  generalize ((code.getD p.toNat 0).toNat : Int) = A at *
  exact ⟨by omega, by omega, by omega, fun _ => m1, fun h => by omega⟩
 ·have m1 := hm p h2 hl
  have m2 := hm (p * 7 + 3) (by omega) hl
  have a1 := hA (p.tmod L).toNat
  have a2 := hA ((p * 7 + 3).tmod L).toNat
  have d1 := tdiv_bd (x := p) (n := L) h2 (by omega)
  generalize ((code.getD (p.tmod L).toNat 0).toNat : Int) = A at *
  generalize ((code.getD ((p * 7 + 3).tmod L).toNat 0).toNat : Int) = B at *
  generalize p.tdiv L = D at *
  have d2 := tdiv_bd (x := A * 131 + B * 1117 + p * 29 + D * 53) (n := 64) (by omega) (by omega)
  have x1 := xor_i64_pos (a := A * 131 + B * 1117 + p * 29 + D * 53) (b := (A * 131 + B * 1117 + p * 29 + D * 53).tdiv 64) (by omega) (by omega) d2.1 (by omega)
  have m3 := tmod_bd (n := n) x1 (by omega)
  repeat' (first | apply And.intro | intro _)
  all_goals (first | assumption | omega | exact m3.1 | exact m3.2)
theorem ok_pick : FnOk Try.prog E 53 c_pick :=
 pick_ok tabOk mix (perm := fun _ => []) Try.func53 (by kernel_rfl) (by decide) (by kernel_rfl) (by decide) (by kernel_rfl) (fun code v p n k h1 h2 h3 h4 => vc_pick code v p n k h1 h2 h3 h4)
abbrev c_num : Con := ⟨[.rdr, .sl .int], [.int], fun (rr, l, _) => 0 < l.length /\ l.length <= 1000, .inr fun (rr, l, _) r => r.1 ∈ l, fun (rr, l, _) => 1⟩
abbrev L_num : List (FuncId × Con) := [(53, c_pick)]
abbrev P_num : List (FuncId × PT) := []
def VC_num (rr : Unit) (l : List Int) (k : Nat) : Prop := True /\ True /\ True /\ True /\ True /\ (True /\ (k + 1 <= 1099511627776) /\ True) /\ (∀ r1 : Int × Unit, (pickP ((l.length : Nat) : Int) r1.1) -> (0 <= r1.1 /\ r1.1 < ((l.length : Nat) : Int)) /\ True /\ True /\ ((l.getD r1.1.toNat (0 : Int)) ∈ l) /\ True /\ True /\ True /\ True /\ (k + 1 <= k + 1))
theorem vcn_num (rr : Unit) (l : List Int) (k : Nat) (hp : 0 < l.length /\ l.length <= 1000) (hk : k + (1) <= 1099511627776) : VC_num rr l k := by
 unfold VC_num
 simp only [cln, Nat.reduceEqDiff, Nat.reduceLeDiff, Nat.reduceAdd]
 all_goals (try simp only [opn])
 all_goals (repeat' (first | apply And.intro | intro _))
 all_goals (first | omega | (simp_all; done) | grind [getD_mem, pickP])
theorem ok_num : FnOk Try.prog E 84 c_num :=
 fn_okQ (l := L_num) (lp := P_num) (hp := fun _ => false) (gcs := fun _ => none) (perm := fun _ => []) tabOk mix ⟨ok_pick, trivial⟩ trivial Try.func84 rfl (by kernel_rfl) (by decide) (by kernel_rfl) (anns := fun x _ => fun _ _ => none) (fun ⟨rr, l, _⟩ k hp hk => Eq.mp (by kernel_rfl) (vcn_num rr l k hp (hk rfl))) (fun ⟨_, l, _⟩ hp => ⟨(l.getD 0 0, ()), getD_mem hp.1⟩)
abbrev c_l3Point : Con := ⟨[.rdr], [.atom], fun _ => True, .inr fun (rr, _) r => atV r.1 = true, fun (rr, _) => 3⟩
abbrev L_l3Point : List (FuncId × Con) := [(53, c_pick), (84, c_num)]
abbrev P_l3Point : List (FuncId × PT) := []
def VC_l3Point (rr : Unit) (k : Nat) : Prop := (TN /\ True) /\ True /\ (TN /\ True) /\ ((0 < ([(1 : Int), (2 : Int), (3 : Int), (5 : Int), (4 : Int), (6 : Int)] : List Int).length /\ ([(1 : Int), (2 : Int), (3 : Int), (5 : Int), (4 : Int), (6 : Int)] : List Int).length <= 1000) /\ (k + 1 <= 1099511627776) /\ True) /\ (∀ r1 : Int × Unit, (r1.1 ∈ ([(1 : Int), (2 : Int), (3 : Int), (5 : Int), (4 : Int), (6 : Int)] : List Int)) -> True /\ (TN /\ True) /\ ((0 < ([(2 : Int), (0 : Int), (3 : Int), (1 : Int), (5 : Int), (0 : Int), (6 : Int)] : List Int).length /\ ([(2 : Int), (0 : Int), (3 : Int), (1 : Int), (5 : Int), (0 : Int), (6 : Int)] : List Int).length <= 1000) /\ (k + 1 + 1 <= 1099511627776) /\ True) /\ (∀ r2 : Int × Unit, (r2.1 ∈ ([(2 : Int), (0 : Int), (3 : Int), (1 : Int), (5 : Int), (0 : Int), (6 : Int)] : List Int)) -> True /\ (TN /\ True) /\ (TF /\ TF) /\ True /\ (True /\ (k + 1 + 1 + 1 <= 1099511627776) /\ True) /\ (∀ r3 : Int × Unit, (pickP (2 : Int) r3.1) -> True /\ (vcIf (r3.1 == (0 : Int)) (True /\ (TF /\ TF) /\ True /\ (TF /\ TF) /\ (atV (⟨(2 : Int), r1.1, r2.1⟩ : GAtom) = true) /\ True /\ True /\ True /\ True /\ (k + 1 + 1 + 1 <= k + 3)) (True /\ (TF /\ TF) /\ (atV (⟨(1 : Int), r1.1, r2.1⟩ : GAtom) = true) /\ True /\ True /\ True /\ True /\ (k + 1 + 1 + 1 <= k + 3))))))
theorem vcn_l3Point (rr : Unit) (k : Nat) (hk : k + (3) <= 1099511627776) : VC_l3Point rr k := by
 unfold VC_l3Point
 simp only [cln, Nat.reduceEqDiff, Nat.reduceLeDiff, Nat.reduceAdd]
 all_goals (try simp only [opn])
 all_goals (repeat' (first | apply And.intro | intro _))
 all_goals (first | omega | grind (splits := 40) [atV, isT])
theorem ok_l3Point : FnOk Try.prog E 108 c_l3Point :=
 fn_okQ (l := L_l3Point) (lp := P_l3Point) (hp := fun _ => false) (gcs := fun _ => none) (perm := fun _ => []) tabOk mix ⟨ok_pick, ok_num, trivial⟩ trivial Try.func108 rfl (by kernel_rfl) (by decide) (by kernel_rfl) (anns := fun x _ => fun _ _ => none) (fun ⟨rr, _⟩ k _ hk => Eq.mp (by kernel_rfl) (vcn_l3Point rr k (hk rfl))) (fun _ _ => ⟨((⟨1, 0, 0⟩ : GAtom), ()), rfl⟩)
abbrev c_l3Draw : Con := ⟨[.rdr], [.asn], fun _ => True, .inr fun (rr, _) r => asV r.1 = true, fun (rr, _) => 20⟩
abbrev L_l3Draw : List (FuncId × Con) := [(53, c_pick), (84, c_num), (108, c_l3Point)]
def an_l3Draw (rr : Unit) : Nat -> Option Ann
 | 3 => some { α := Int × List GFact, ok := fun a => 0 <= a.1 /\ a.1 + a.2.length <= 2 /\ a.2.all fV = true, mu := fun a => a.1.toNat, i0 := fun st => (intAt st 4, []), nx := fun a st => (a.1 - 1, slAt .fact st (.cell 63 0)), live := [0, 2, 3], sets := fun a => [(4, sv (.int .i64 a.1))], mids := [47, 32, 33], blks := fun a => [(63, .blk [.own 7, .own 8])], owns := fun a => [⟨7, .cell 63 0, .fact, a.2⟩, ⟨8, .cell 63 1, .atom, []⟩], rd := fun r a => rdPlus r (3 * (2 - a.1.toNat)), base := 100000 }
 | 7 => some { α := Int × List GFact × List GAtom, ok := fun a => 0 <= a.1 /\ a.1 + a.2.2.length <= 4 /\ a.2.1.length <= 2 /\ a.2.1.all fV = true /\ a.2.2.all atV = true, mu := fun a => a.1.toNat, i0 := fun st => (intAt st 5, slAt .fact st (.cell 63 0), []), nx := fun a st => (a.1 - 1, a.2.1, slAt .atom st (.cell 63 1)), live := [0, 2, 3], sets := fun a => [(5, sv (.int .i64 a.1))], mids := [47, 32, 33], blks := fun a => [(63, .blk [.own 7, .own 8])], owns := fun a => [⟨7, .cell 63 0, .fact, a.2.1⟩, ⟨8, .cell 63 1, .atom, a.2.2⟩], rd := fun r a => rdPlus r (3 * (4 - a.1.toNat)), base := 200000 }
 | _ => none
theorem vc_l3Draw (rr : Unit) (k : Nat) (hk : k + (20) <= 1099511627776) : vc tab (lookF L_l3Draw) (an_l3Draw rr) (fun _ => []) (bodyOf Try.f52) (entry (encs c_l3Draw.aks (rr, ())) (rdOf true k)) (retOk tab c_l3Draw Try.f52.results.toList (rr, ()) k) := by
 dsimp only [bodyOf, Try.f52, rdOf]
 simp (maxSteps := 10000000) only [c_l3Draw, L_l3Draw, an_l3Draw, SE.lookF, c_pick, c_num, c_l3Point, tab2, tab3, tab4, tab5, tab7, tab9, tab12, tab13, tab21, tab22, tab23, tab24, tab25, tab26, tab31, tab32, tab33, tab41, tab42, tab43, tab44, tab55, tab56, tab60, tab61, tab81, tab82, tab86, tab87, tab94, tab99, tab101, tab130, tab131, tab144, tab146, tab148, tab149, tab150, tab178, tab190, SE.entry, SE.envOf, SE.rdOf, Option.get_some, SE.vc, SE.vcReg, SE.vcLoop, SE.condK, SE.seqK, SE.blockK, SE.vcOps, SE.vcStep, SE.vcOp, SE.vcTr, SE.vcDet_some, SE.vcDet_none, SE.vcIf_true, SE.vcIf_false, SE.vcEach, SE.pickOps, SE.gslot, SE.trOp, SE.moveId, SE.trMove, SE.trPick, SE.trAlloc, SE.trBox, SE.trBuild, SE.trBuildSlice, SE.trLoad, SE.trStore, SE.trNilCheck, SE.trBin, SE.trUn, SE.trConvert, SE.trFieldAddr, SE.trField, SE.trIndexAddr, SE.trIndex, SE.trSlice, SE.trMakeSlice, SE.trExtract, SE.trLen, SE.trAppend, SE.trCopy, SE.trFn, SE.trCall, SE.argsS, SE.ev, SE.constS, SE.junk, SE.sv, SE.upd_app, SE.adds, SE.sets, SE.nid, SE.St.app, SE.St.put, SE.free, SE.freeL, SE.allFree, SE.rids, SE.AK.rids, SE.castL, SE.rdl, SE.AK.dec, SE.decs, SE.AK.enc, SE.encs, SE.AK.res, SE.ress, SE.pack1, SE.zcells, SE.zeroOf, SE.partCells, SE.putc, SE.fills, SE.datas, SE.elemOf, SE.elemsOf, SE.notSpent, SE.cellsAt, SE.weak, SE.dcellsAt, SE.slAt, SE.rdPlus, SE.intAt, SE.updElem, SE.kill, SE.noJunk, SE.inK, SE.binI, SE.shf, SE.isShift, SE.eqCells, SE.aggS, SE.intOp, SE.nested, SE.hasRdr, SE.refsC, SE.refsCs, SE.ownsC, SE.refsAr, SE.rdFits, SE.costIf, SE.Con.post, SE.Con.det, SE.Ty.cells, SE.Ty.sz, SE.Ty.zero, SE.Ty.flat, SE.Ty.dec, SE.retOk, SE.loadsS, SE.loadS, SE.decRs, SE.decR, SE.outC, SE.rdC, SE.allDiff, SE.notIn, SE.notFrozen, SE.apartL, SE.rdEnd, SE.firstReg, SE.headC, SE.fitsC, SE.idsC, SE.keepE, SE.keepM, SE.keepB, SE.inL, SE.puts, SE.ownRes, SE.ownEnv, SE.renL, SE.srcId, SE.lookR, SE.envSame, SE.envSets, SE.memSame, SE.memBlks, SE.memOwns, SE.famsOf, SE.allIn, SE.closedE, SE.closedV, SE.closedM, SE.closedR, SE.rdLe, SE.S.refs, SE.S0.refs, SE.CV.refs, SE.refsL, SE.refsT, SE.S.ren, SE.S0.ren, SE.CV.ren, SE.Res.refs, SE.Res.ren, min_i64, max_i64, min_u16, max_u16, min_u8, max_u8, min_u64, max_u64, S.s.injEq, S0.c.injEq, CV.d.injEq, DC.val.injEq, Value.int.injEq, Value.bool.injEq, Value.string.injEq, eta_fact, eta_atom, eta_asn, eta_state, List.mem_cons, List.mem_nil_iff, or_false, false_or, or_true, true_or, Option.map_some, Option.map_none, Option.bind_some, Option.getD_some, Option.getD_none, Nat.reduceEqDiff, Nat.reduceAdd, Nat.reduceMul, Nat.reduceLeDiff, ↓reduceIte, reduceCtorEq, true_and, and_true, and_self, forall_const, implies_true, true_implies, List.getElem?_toArray, List.getElem?_cons_succ, List.getElem?_cons_zero, List.append_nil, List.nil_append, List.cons_append, List.length_cons, List.length_nil, List.take_succ_cons, List.take_zero, List.drop_succ_cons, List.drop_zero, List.set_cons_zero, List.set_cons_succ, List.map_cons, List.map_nil, Nat.add_zero, Nat.zero_add, forall_eq, Prod.forall, Bool.not_true, Bool.not_false, Nat.lt_irrefl, Nat.zero_lt_succ, List.singleton_append, Prod.mk.injEq, Nat.zero_mul, Nat.one_mul, Nat.reducePow, Option.some.injEq, not_false_eq_true, Int.toNat_natCast, Nat.sub_zero, Nat.le_refl, Bool.or_false, Bool.false_or, Bool.or_true, Bool.true_or, Bool.and_true, Bool.true_and, Bool.and_false, Bool.false_and, Bool.or_self, Bool.and_self, List.append_eq, and_false, false_and]
 all_goals (try simp only [vcIf_iff, decide_eq_true_eq, decide_eq_false_iff_not, bne_iff_ne, ne_eq, beq_iff_eq, beq_eq_false_iff_ne, bne_eq_false_iff_eq, Bool.not_eq_true', Bool.not_eq_false', Int.ofNat_lt, Int.natCast_inj])
 all_goals (repeat' (first | apply And.intro | intro _))
 all_goals (first | omega | (simp_all; done) | grind [pickP, asV, fsV, fV, isT])
theorem ok_l3Draw : FnOk Try.prog E 52 c_l3Draw :=
 fn_ok (l := L_l3Draw) (perm := fun _ => []) tabOk mix ⟨ok_pick, ok_num, ok_l3Point, trivial⟩ Try.func52 rfl (by kernel_rfl) (by decide) (by kernel_rfl) (anns := fun x _ => an_l3Draw x.1) (fun ⟨rr, _⟩ k _ hk => vc_l3Draw rr k (hk rfl)) (fun _ _ => ⟨((⟨[], []⟩ : GAsn), ()), rfl⟩)
end Go.Proofs.Ytfoioficiffgkaa
