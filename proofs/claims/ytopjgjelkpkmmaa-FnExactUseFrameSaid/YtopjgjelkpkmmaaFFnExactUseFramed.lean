/-
  Contracts of single functions of the program, each shown by the engine: what a call returns for arguments within the contract's bounds.
-/
import Derived.Test.YtopjgjelkpkmmaaFFnExactUseFramea
import Derived.Test.YtopjgjelkpkmmaaFFnExactUseFramec
import Derived.Test.YtopjgjelkpkmmaaEd
import Derived.Test.YtopjgjelkpkmmaaEe
import Derived.Test.YtopjgjelkpkmmaaFFnExactUseFrameb
set_option linter.unusedSimpArgs false
set_option linter.unusedVariables false
set_option linter.unusedSectionVars false

namespace Go.Proofs.Ytopjgjelkpkmmaa
open Go.SE Go.RowKit
set_option linter.unusedSimpArgs false
set_option linter.unusedVariables false
set_option maxHeartbeats 1000000
set_option maxRecDepth 100000
abbrev c_matchCase : Con := ⟨[.asn, .asn, .kase], [.sl .ints, .bool], fun (a, b, c, _) => asV a = true /\ asV b = true /\ c.length = 9, .inr fun (a, b, c, _) r => r.2.1 = MC a b c, fun _ => 0⟩
abbrev L_matchCase : List (FuncId × Con) := [(102, c_iFilled), (136, c_factsHold)]
abbrev P_matchCase : List (FuncId × PT) := [(137, pt_cmCell), (138, pt_cmChain)]
def an_matchCase (a : GAsn) (b : GAsn) (c : List Int) : Nat -> St -> Option Ann
 | 6, se => some { α := Nat × List (List Int) × List Bool, ok := fun p => p.1 <= (fL c b.atoms).length /\ p.2.1.length = p.1 /\ mcI (fL c a.atoms) (fL c b.atoms) p.1 p.2.2, mu := fun p => (fL c b.atoms).length - p.1, i0 := fun st => (0, ([] : List (List Int)), usedAt st 143), nx := fun p st => (p.1 + 1, slAt .ints st (.slot 9), usedAt st 143), live := [8, 24, 25], sets := fun p => [(26, sv (.int .i64 p.1))], mids := [384], blks := fun p => [(143, .blk [.own 8, .d (.val (.bool (p.2.2.getD 0 false))), .d (.val (.bool (p.2.2.getD 1 false))), .d (.val (.bool (p.2.2.getD 2 false))), .d (.val (.bool (p.2.2.getD 3 false))), .d (.val (.bool (p.2.2.getD 4 false))), .d (.val (.bool (p.2.2.getD 5 false))), .d (.val (.int .i64 (cnt p.2.2)))])], owns := fun p => [⟨8, .cell 143 0, .atom, fL c a.atoms⟩, ⟨9, .slot 9, .ints, p.2.1⟩], rd := fun r _ => r, base := 100000 }
 | _, _ => none
def hp_matchCase : Nat -> Bool
 | 11 => true
 | 12 => true
 | _ => false
def VC_matchCase_1 (a : GAsn) (b : GAsn) (c : List Int) : Prop := TN /\ True /\ (false = MC a b c) /\ (True /\ True) /\ ((TF /\ TF) /\ True) /\ True /\ (True /\ True) /\ TF
def VC_matchCase_2 (c : List Int) (b : GAsn) : Prop := RL [.s (.c (.ptr 143 0)), .s (.c (.own 384)), .s (.c (.d (.val (.int .i64 (((fL c b.atoms).length : Nat) : Int)))))]
def VC_matchCase_3 (c : List Int) (a : GAsn) (p1 : Nat × List (List Int) × List Bool) (b : GAsn) : Prop := ((([some (.blk [.own 8, .d (.val (.bool ((ucU (fL c a.atoms) (sx6 p1.2.2) ((fL c b.atoms).getD (p1.1 : Int).toNat (⟨0, 0, 0⟩ : GAtom))).getD 0 false))), .d (.val (.bool ((ucU (fL c a.atoms) (sx6 p1.2.2) ((fL c b.atoms).getD (p1.1 : Int).toNat (⟨0, 0, 0⟩ : GAtom))).getD 1 false))), .d (.val (.bool ((ucU (fL c a.atoms) (sx6 p1.2.2) ((fL c b.atoms).getD (p1.1 : Int).toNat (⟨0, 0, 0⟩ : GAtom))).getD 2 false))), .d (.val (.bool ((ucU (fL c a.atoms) (sx6 p1.2.2) ((fL c b.atoms).getD (p1.1 : Int).toNat (⟨0, 0, 0⟩ : GAtom))).getD 3 false))), .d (.val (.bool ((ucU (fL c a.atoms) (sx6 p1.2.2) ((fL c b.atoms).getD (p1.1 : Int).toNat (⟨0, 0, 0⟩ : GAtom))).getD 4 false))), .d (.val (.bool ((ucU (fL c a.atoms) (sx6 p1.2.2) ((fL c b.atoms).getD (p1.1 : Int).toNat (⟨0, 0, 0⟩ : GAtom))).getD 5 false))), .d (.val (.int .i64 (cnt (ucU (fL c a.atoms) (sx6 p1.2.2) ((fL c b.atoms).getD (p1.1 : Int).toNat (⟨0, 0, 0⟩ : GAtom))))))])] : List (Option Res)) = [some (.blk [.own 8, .d (.val (.bool ((p1.1 + 1, (p1.2.1 ++ ([(ucL (fL c a.atoms) (sx6 p1.2.2) ((fL c b.atoms).getD (p1.1 : Int).toNat (⟨0, 0, 0⟩ : GAtom)))] : List (List Int))), (sx6 (ucU (fL c a.atoms) (sx6 p1.2.2) ((fL c b.atoms).getD (p1.1 : Int).toNat (⟨0, 0, 0⟩ : GAtom))))).2.2.getD 0 false))), .d (.val (.bool ((p1.1 + 1, (p1.2.1 ++ ([(ucL (fL c a.atoms) (sx6 p1.2.2) ((fL c b.atoms).getD (p1.1 : Int).toNat (⟨0, 0, 0⟩ : GAtom)))] : List (List Int))), (sx6 (ucU (fL c a.atoms) (sx6 p1.2.2) ((fL c b.atoms).getD (p1.1 : Int).toNat (⟨0, 0, 0⟩ : GAtom))))).2.2.getD 1 false))), .d (.val (.bool ((p1.1 + 1, (p1.2.1 ++ ([(ucL (fL c a.atoms) (sx6 p1.2.2) ((fL c b.atoms).getD (p1.1 : Int).toNat (⟨0, 0, 0⟩ : GAtom)))] : List (List Int))), (sx6 (ucU (fL c a.atoms) (sx6 p1.2.2) ((fL c b.atoms).getD (p1.1 : Int).toNat (⟨0, 0, 0⟩ : GAtom))))).2.2.getD 2 false))), .d (.val (.bool ((p1.1 + 1, (p1.2.1 ++ ([(ucL (fL c a.atoms) (sx6 p1.2.2) ((fL c b.atoms).getD (p1.1 : Int).toNat (⟨0, 0, 0⟩ : GAtom)))] : List (List Int))), (sx6 (ucU (fL c a.atoms) (sx6 p1.2.2) ((fL c b.atoms).getD (p1.1 : Int).toNat (⟨0, 0, 0⟩ : GAtom))))).2.2.getD 3 false))), .d (.val (.bool ((p1.1 + 1, (p1.2.1 ++ ([(ucL (fL c a.atoms) (sx6 p1.2.2) ((fL c b.atoms).getD (p1.1 : Int).toNat (⟨0, 0, 0⟩ : GAtom)))] : List (List Int))), (sx6 (ucU (fL c a.atoms) (sx6 p1.2.2) ((fL c b.atoms).getD (p1.1 : Int).toNat (⟨0, 0, 0⟩ : GAtom))))).2.2.getD 4 false))), .d (.val (.bool ((p1.1 + 1, (p1.2.1 ++ ([(ucL (fL c a.atoms) (sx6 p1.2.2) ((fL c b.atoms).getD (p1.1 : Int).toNat (⟨0, 0, 0⟩ : GAtom)))] : List (List Int))), (sx6 (ucU (fL c a.atoms) (sx6 p1.2.2) ((fL c b.atoms).getD (p1.1 : Int).toNat (⟨0, 0, 0⟩ : GAtom))))).2.2.getD 5 false))), .d (.val (.int .i64 (cnt (p1.1 + 1, (p1.2.1 ++ ([(ucL (fL c a.atoms) (sx6 p1.2.2) ((fL c b.atoms).getD (p1.1 : Int).toNat (⟨0, 0, 0⟩ : GAtom)))] : List (List Int))), (sx6 (ucU (fL c a.atoms) (sx6 p1.2.2) ((fL c b.atoms).getD (p1.1 : Int).toNat (⟨0, 0, 0⟩ : GAtom))))).2.2)))])]) /\ (((some (fL c a.atoms) : Option (List GAtom)) = some (fL c a.atoms)) /\ ((some (p1.2.1 ++ ([(ucL (fL c a.atoms) (sx6 p1.2.2) ((fL c b.atoms).getD (p1.1 : Int).toNat (⟨0, 0, 0⟩ : GAtom)))] : List (List Int))) : Option (List (List Int))) = some ((p1.1 + 1, (p1.2.1 ++ ([(ucL (fL c a.atoms) (sx6 p1.2.2) ((fL c b.atoms).getD (p1.1 : Int).toNat (⟨0, 0, 0⟩ : GAtom)))] : List (List Int))), (sx6 (ucU (fL c a.atoms) (sx6 p1.2.2) ((fL c b.atoms).getD (p1.1 : Int).toNat (⟨0, 0, 0⟩ : GAtom))))).2.1)) /\ True) /\ TT)
def VC_matchCase_4 (c : List Int) (a : GAsn) (p1 : Nat × List (List Int) × List Bool) (b : GAsn) : Prop := ((([some (.blk [.own 8, .d (.val (.bool ((chU (fL c a.atoms) (sx6 p1.2.2) ((fL c b.atoms).getD (p1.1 : Int).toNat (⟨0, 0, 0⟩ : GAtom))).getD 0 false))), .d (.val (.bool ((chU (fL c a.atoms) (sx6 p1.2.2) ((fL c b.atoms).getD (p1.1 : Int).toNat (⟨0, 0, 0⟩ : GAtom))).getD 1 false))), .d (.val (.bool ((chU (fL c a.atoms) (sx6 p1.2.2) ((fL c b.atoms).getD (p1.1 : Int).toNat (⟨0, 0, 0⟩ : GAtom))).getD 2 false))), .d (.val (.bool ((chU (fL c a.atoms) (sx6 p1.2.2) ((fL c b.atoms).getD (p1.1 : Int).toNat (⟨0, 0, 0⟩ : GAtom))).getD 3 false))), .d (.val (.bool ((chU (fL c a.atoms) (sx6 p1.2.2) ((fL c b.atoms).getD (p1.1 : Int).toNat (⟨0, 0, 0⟩ : GAtom))).getD 4 false))), .d (.val (.bool ((chU (fL c a.atoms) (sx6 p1.2.2) ((fL c b.atoms).getD (p1.1 : Int).toNat (⟨0, 0, 0⟩ : GAtom))).getD 5 false))), .d (.val (.int .i64 (cnt (chU (fL c a.atoms) (sx6 p1.2.2) ((fL c b.atoms).getD (p1.1 : Int).toNat (⟨0, 0, 0⟩ : GAtom))))))])] : List (Option Res)) = [some (.blk [.own 8, .d (.val (.bool ((p1.1 + 1, (p1.2.1 ++ ([(chL (fL c a.atoms) (sx6 p1.2.2) ((fL c b.atoms).getD (p1.1 : Int).toNat (⟨0, 0, 0⟩ : GAtom)))] : List (List Int))), (sx6 (chU (fL c a.atoms) (sx6 p1.2.2) ((fL c b.atoms).getD (p1.1 : Int).toNat (⟨0, 0, 0⟩ : GAtom))))).2.2.getD 0 false))), .d (.val (.bool ((p1.1 + 1, (p1.2.1 ++ ([(chL (fL c a.atoms) (sx6 p1.2.2) ((fL c b.atoms).getD (p1.1 : Int).toNat (⟨0, 0, 0⟩ : GAtom)))] : List (List Int))), (sx6 (chU (fL c a.atoms) (sx6 p1.2.2) ((fL c b.atoms).getD (p1.1 : Int).toNat (⟨0, 0, 0⟩ : GAtom))))).2.2.getD 1 false))), .d (.val (.bool ((p1.1 + 1, (p1.2.1 ++ ([(chL (fL c a.atoms) (sx6 p1.2.2) ((fL c b.atoms).getD (p1.1 : Int).toNat (⟨0, 0, 0⟩ : GAtom)))] : List (List Int))), (sx6 (chU (fL c a.atoms) (sx6 p1.2.2) ((fL c b.atoms).getD (p1.1 : Int).toNat (⟨0, 0, 0⟩ : GAtom))))).2.2.getD 2 false))), .d (.val (.bool ((p1.1 + 1, (p1.2.1 ++ ([(chL (fL c a.atoms) (sx6 p1.2.2) ((fL c b.atoms).getD (p1.1 : Int).toNat (⟨0, 0, 0⟩ : GAtom)))] : List (List Int))), (sx6 (chU (fL c a.atoms) (sx6 p1.2.2) ((fL c b.atoms).getD (p1.1 : Int).toNat (⟨0, 0, 0⟩ : GAtom))))).2.2.getD 3 false))), .d (.val (.bool ((p1.1 + 1, (p1.2.1 ++ ([(chL (fL c a.atoms) (sx6 p1.2.2) ((fL c b.atoms).getD (p1.1 : Int).toNat (⟨0, 0, 0⟩ : GAtom)))] : List (List Int))), (sx6 (chU (fL c a.atoms) (sx6 p1.2.2) ((fL c b.atoms).getD (p1.1 : Int).toNat (⟨0, 0, 0⟩ : GAtom))))).2.2.getD 4 false))), .d (.val (.bool ((p1.1 + 1, (p1.2.1 ++ ([(chL (fL c a.atoms) (sx6 p1.2.2) ((fL c b.atoms).getD (p1.1 : Int).toNat (⟨0, 0, 0⟩ : GAtom)))] : List (List Int))), (sx6 (chU (fL c a.atoms) (sx6 p1.2.2) ((fL c b.atoms).getD (p1.1 : Int).toNat (⟨0, 0, 0⟩ : GAtom))))).2.2.getD 5 false))), .d (.val (.int .i64 (cnt (p1.1 + 1, (p1.2.1 ++ ([(chL (fL c a.atoms) (sx6 p1.2.2) ((fL c b.atoms).getD (p1.1 : Int).toNat (⟨0, 0, 0⟩ : GAtom)))] : List (List Int))), (sx6 (chU (fL c a.atoms) (sx6 p1.2.2) ((fL c b.atoms).getD (p1.1 : Int).toNat (⟨0, 0, 0⟩ : GAtom))))).2.2)))])]) /\ (((some (fL c a.atoms) : Option (List GAtom)) = some (fL c a.atoms)) /\ ((some (p1.2.1 ++ ([(chL (fL c a.atoms) (sx6 p1.2.2) ((fL c b.atoms).getD (p1.1 : Int).toNat (⟨0, 0, 0⟩ : GAtom)))] : List (List Int))) : Option (List (List Int))) = some ((p1.1 + 1, (p1.2.1 ++ ([(chL (fL c a.atoms) (sx6 p1.2.2) ((fL c b.atoms).getD (p1.1 : Int).toNat (⟨0, 0, 0⟩ : GAtom)))] : List (List Int))), (sx6 (chU (fL c a.atoms) (sx6 p1.2.2) ((fL c b.atoms).getD (p1.1 : Int).toNat (⟨0, 0, 0⟩ : GAtom))))).2.1)) /\ True) /\ TT)
def VC_matchCase_5 (c : List Int) (b : GAsn) (p1 : Nat × List (List Int) × List Bool) (a : GAsn) : Prop := (True /\ (vcIf ((((fL c b.atoms).getD (p1.1 : Int).toNat (⟨0, 0, 0⟩ : GAtom)).kind) == (1 : Int)) (True /\ TF /\ TF /\ (TF /\ True) /\ (TN /\ True) /\ ((fL c a.atoms).length <= 6 /\ (sx6 p1.2.2).length = 6 /\ (cnt p1.2.2) = cnt (sx6 p1.2.2)) /\ True /\ True /\ True /\ True /\ True /\ True /\ True /\ (vcIf (!(ucB (fL c a.atoms) (sx6 p1.2.2) ((fL c b.atoms).getD (p1.1 : Int).toNat (⟨0, 0, 0⟩ : GAtom)))) (VC_matchCase_1 a b c) (True /\ True /\ (TN /\ TF /\ True) /\ (TN /\ TF /\ TF /\ (p1.2.1.length + ([(ucL (fL c a.atoms) (sx6 p1.2.2) ((fL c b.atoms).getD (p1.1 : Int).toNat (⟨0, 0, 0⟩ : GAtom)))] : List (List Int)).length <= 4294967296)) /\ True /\ (inK .i64 ((p1.1 : Int) + (1 : Int))) /\ True /\ ((p1.1 + 1, (p1.2.1 ++ ([(ucL (fL c a.atoms) (sx6 p1.2.2) ((fL c b.atoms).getD (p1.1 : Int).toNat (⟨0, 0, 0⟩ : GAtom)))] : List (List Int))), (sx6 (ucU (fL c a.atoms) (sx6 p1.2.2) ((fL c b.atoms).getD (p1.1 : Int).toNat (⟨0, 0, 0⟩ : GAtom))))).1 <= (fL c b.atoms).length /\ (p1.1 + 1, (p1.2.1 ++ ([(ucL (fL c a.atoms) (sx6 p1.2.2) ((fL c b.atoms).getD (p1.1 : Int).toNat (⟨0, 0, 0⟩ : GAtom)))] : List (List Int))), (sx6 (ucU (fL c a.atoms) (sx6 p1.2.2) ((fL c b.atoms).getD (p1.1 : Int).toNat (⟨0, 0, 0⟩ : GAtom))))).2.1.length = (p1.1 + 1, (p1.2.1 ++ ([(ucL (fL c a.atoms) (sx6 p1.2.2) ((fL c b.atoms).getD (p1.1 : Int).toNat (⟨0, 0, 0⟩ : GAtom)))] : List (List Int))), (sx6 (ucU (fL c a.atoms) (sx6 p1.2.2) ((fL c b.atoms).getD (p1.1 : Int).toNat (⟨0, 0, 0⟩ : GAtom))))).1 /\ mcI (fL c a.atoms) (fL c b.atoms) (p1.1 + 1, (p1.2.1 ++ ([(ucL (fL c a.atoms) (sx6 p1.2.2) ((fL c b.atoms).getD (p1.1 : Int).toNat (⟨0, 0, 0⟩ : GAtom)))] : List (List Int))), (sx6 (ucU (fL c a.atoms) (sx6 p1.2.2) ((fL c b.atoms).getD (p1.1 : Int).toNat (⟨0, 0, 0⟩ : GAtom))))).1 (p1.1 + 1, (p1.2.1 ++ ([(ucL (fL c a.atoms) (sx6 p1.2.2) ((fL c b.atoms).getD (p1.1 : Int).toNat (⟨0, 0, 0⟩ : GAtom)))] : List (List Int))), (sx6 (ucU (fL c a.atoms) (sx6 p1.2.2) ((fL c b.atoms).getD (p1.1 : Int).toNat (⟨0, 0, 0⟩ : GAtom))))).2.2) /\ ((fL c b.atoms).length - (p1.1 + 1, (p1.2.1 ++ ([(ucL (fL c a.atoms) (sx6 p1.2.2) ((fL c b.atoms).getD (p1.1 : Int).toNat (⟨0, 0, 0⟩ : GAtom)))] : List (List Int))), (sx6 (ucU (fL c a.atoms) (sx6 p1.2.2) ((fL c b.atoms).getD (p1.1 : Int).toNat (⟨0, 0, 0⟩ : GAtom))))).1 < (fL c b.atoms).length - p1.1) /\ TT /\ (VC_matchCase_2 c b) /\ (([.s (.c (.d (.val (.int .i64 ((p1.1 : Int) + (1 : Int))))))] : List S) = [.s (.c (.d (.val (.int .i64 ((p1.1 + 1, (p1.2.1 ++ ([(ucL (fL c a.atoms) (sx6 p1.2.2) ((fL c b.atoms).getD (p1.1 : Int).toNat (⟨0, 0, 0⟩ : GAtom)))] : List (List Int))), (sx6 (ucU (fL c a.atoms) (sx6 p1.2.2) ((fL c b.atoms).getD (p1.1 : Int).toNat (⟨0, 0, 0⟩ : GAtom))))).1 : Int)))))]) /\ (RM [some (.sl 384 .atom (fL c b.atoms))]) /\ (VC_matchCase_3 c a p1 b)))) (True /\ TF /\ TF /\ (TF /\ True) /\ (TN /\ True) /\ ((fL c a.atoms).length <= 6 /\ (sx6 p1.2.2).length = 6 /\ (cnt p1.2.2) = cnt (sx6 p1.2.2)) /\ True /\ True /\ True /\ True /\ True /\ True /\ True /\ (vcIf (!(chB (fL c a.atoms) (sx6 p1.2.2) ((fL c b.atoms).getD (p1.1 : Int).toNat (⟨0, 0, 0⟩ : GAtom)))) (VC_matchCase_1 a b c) (True /\ True /\ (TN /\ TF /\ True) /\ (TN /\ TF /\ TF /\ (p1.2.1.length + ([(chL (fL c a.atoms) (sx6 p1.2.2) ((fL c b.atoms).getD (p1.1 : Int).toNat (⟨0, 0, 0⟩ : GAtom)))] : List (List Int)).length <= 4294967296)) /\ True /\ (inK .i64 ((p1.1 : Int) + (1 : Int))) /\ True /\ ((p1.1 + 1, (p1.2.1 ++ ([(chL (fL c a.atoms) (sx6 p1.2.2) ((fL c b.atoms).getD (p1.1 : Int).toNat (⟨0, 0, 0⟩ : GAtom)))] : List (List Int))), (sx6 (chU (fL c a.atoms) (sx6 p1.2.2) ((fL c b.atoms).getD (p1.1 : Int).toNat (⟨0, 0, 0⟩ : GAtom))))).1 <= (fL c b.atoms).length /\ (p1.1 + 1, (p1.2.1 ++ ([(chL (fL c a.atoms) (sx6 p1.2.2) ((fL c b.atoms).getD (p1.1 : Int).toNat (⟨0, 0, 0⟩ : GAtom)))] : List (List Int))), (sx6 (chU (fL c a.atoms) (sx6 p1.2.2) ((fL c b.atoms).getD (p1.1 : Int).toNat (⟨0, 0, 0⟩ : GAtom))))).2.1.length = (p1.1 + 1, (p1.2.1 ++ ([(chL (fL c a.atoms) (sx6 p1.2.2) ((fL c b.atoms).getD (p1.1 : Int).toNat (⟨0, 0, 0⟩ : GAtom)))] : List (List Int))), (sx6 (chU (fL c a.atoms) (sx6 p1.2.2) ((fL c b.atoms).getD (p1.1 : Int).toNat (⟨0, 0, 0⟩ : GAtom))))).1 /\ mcI (fL c a.atoms) (fL c b.atoms) (p1.1 + 1, (p1.2.1 ++ ([(chL (fL c a.atoms) (sx6 p1.2.2) ((fL c b.atoms).getD (p1.1 : Int).toNat (⟨0, 0, 0⟩ : GAtom)))] : List (List Int))), (sx6 (chU (fL c a.atoms) (sx6 p1.2.2) ((fL c b.atoms).getD (p1.1 : Int).toNat (⟨0, 0, 0⟩ : GAtom))))).1 (p1.1 + 1, (p1.2.1 ++ ([(chL (fL c a.atoms) (sx6 p1.2.2) ((fL c b.atoms).getD (p1.1 : Int).toNat (⟨0, 0, 0⟩ : GAtom)))] : List (List Int))), (sx6 (chU (fL c a.atoms) (sx6 p1.2.2) ((fL c b.atoms).getD (p1.1 : Int).toNat (⟨0, 0, 0⟩ : GAtom))))).2.2) /\ ((fL c b.atoms).length - (p1.1 + 1, (p1.2.1 ++ ([(chL (fL c a.atoms) (sx6 p1.2.2) ((fL c b.atoms).getD (p1.1 : Int).toNat (⟨0, 0, 0⟩ : GAtom)))] : List (List Int))), (sx6 (chU (fL c a.atoms) (sx6 p1.2.2) ((fL c b.atoms).getD (p1.1 : Int).toNat (⟨0, 0, 0⟩ : GAtom))))).1 < (fL c b.atoms).length - p1.1) /\ TT /\ (VC_matchCase_2 c b) /\ (([.s (.c (.d (.val (.int .i64 ((p1.1 : Int) + (1 : Int))))))] : List S) = [.s (.c (.d (.val (.int .i64 ((p1.1 + 1, (p1.2.1 ++ ([(chL (fL c a.atoms) (sx6 p1.2.2) ((fL c b.atoms).getD (p1.1 : Int).toNat (⟨0, 0, 0⟩ : GAtom)))] : List (List Int))), (sx6 (chU (fL c a.atoms) (sx6 p1.2.2) ((fL c b.atoms).getD (p1.1 : Int).toNat (⟨0, 0, 0⟩ : GAtom))))).1 : Int)))))]) /\ (RM [some (.sl 384 .atom (fL c b.atoms))]) /\ (VC_matchCase_4 c a p1 b))))))
def VC_matchCase_6 (c : List Int) (b : GAsn) (a : GAsn) : Prop := (True /\ True /\ True /\ ((c.length = 9 /\ b.facts.all fV = true /\ b.facts.length <= 1048576) /\ True /\ True) /\ True /\ (vcIf (!(b.facts.all (fh c))) (VC_matchCase_1 a b c) (True /\ True /\ ((a.atoms.length <= 1048576 /\ a.atoms.all atV = true /\ c.length = 9) /\ True /\ TN /\ True) /\ (TN /\ True) /\ (TN /\ TN /\ True) /\ (TF /\ TF) /\ TN /\ True /\ True /\ ((b.atoms.length <= 1048576 /\ b.atoms.all atV = true /\ c.length = 9) /\ True /\ TN /\ True) /\ True /\ True /\ (((0, ([] : List (List Int)), (six false false false false false false)).1 <= (fL c b.atoms).length /\ (0, ([] : List (List Int)), (six false false false false false false)).2.1.length = (0, ([] : List (List Int)), (six false false false false false false)).1 /\ mcI (fL c a.atoms) (fL c b.atoms) (0, ([] : List (List Int)), (six false false false false false false)).1 (0, ([] : List (List Int)), (six false false false false false false)).2.2) /\ TT /\ (VC_matchCase_2 c b) /\ (([.s (.c (.d (.val (.int .i64 (0 : Int)))))] : List S) = [.s (.c (.d (.val (.int .i64 ((0, ([] : List (List Int)), (six false false false false false false)).1 : Int)))))]) /\ (RM [some (.sl 384 .atom (fL c b.atoms))]) /\ (([some (.blk [.own 320, .d (.val (.bool false)), .d (.val (.bool false)), .d (.val (.bool false)), .d (.val (.bool false)), .d (.val (.bool false)), .d (.val (.bool false)), .d (.val (.int .i64 (0 : Int)))])] : List (Option Res)) = [some (.blk [.own 320, .d (.val (.bool ((0, ([] : List (List Int)), (six false false false false false false)).2.2.getD 0 false))), .d (.val (.bool ((0, ([] : List (List Int)), (six false false false false false false)).2.2.getD 1 false))), .d (.val (.bool ((0, ([] : List (List Int)), (six false false false false false false)).2.2.getD 2 false))), .d (.val (.bool ((0, ([] : List (List Int)), (six false false false false false false)).2.2.getD 3 false))), .d (.val (.bool ((0, ([] : List (List Int)), (six false false false false false false)).2.2.getD 4 false))), .d (.val (.bool ((0, ([] : List (List Int)), (six false false false false false false)).2.2.getD 5 false))), .d (.val (.int .i64 (cnt (0, ([] : List (List Int)), (six false false false false false false)).2.2)))])]) /\ (((some (fL c a.atoms) : Option (List GAtom)) = some (fL c a.atoms)) /\ ((some ([] : List (List Int)) : Option (List (List Int))) = some ((0, ([] : List (List Int)), (six false false false false false false)).2.1)) /\ True) /\ TT) /\ (∀ p1 : Nat × List (List Int) × List Bool, (p1.1 <= (fL c b.atoms).length /\ p1.2.1.length = p1.1 /\ mcI (fL c a.atoms) (fL c b.atoms) p1.1 p1.2.2) -> True /\ (vcIf (decide ((p1.1 : Int) < (((fL c b.atoms).length : Nat) : Int))) ((0 <= (p1.1 : Int) /\ (p1.1 : Int) < (((fL c b.atoms).length : Nat) : Int)) /\ True /\ (TN /\ True) /\ (TF /\ TF) /\ TN /\ True /\ True /\ True /\ (VC_matchCase_5 c b p1 a)) (True /\ True /\ True /\ True /\ True /\ True /\ (vcIf ((cnt p1.2.2) != (((fL c a.atoms).length : Nat) : Int)) (VC_matchCase_1 a b c) (True /\ True /\ True /\ (true = MC a b c) /\ (True /\ True) /\ ((TF /\ TF) /\ True) /\ True /\ (True /\ True) /\ TF))))))))
def VC_matchCase (a : GAsn) (b : GAsn) (c : List Int) (k : Nat) : Prop := TN /\ TN /\ TN /\ TN /\ (VC_matchCase_6 c b a)
theorem vcn_matchCase (a : GAsn) (b : GAsn) (c : List Int) (k : Nat) (hp : asV a = true /\ asV b = true /\ c.length = 9) : VC_matchCase a b c k := by
 unfold VC_matchCase VC_matchCase_6 VC_matchCase_5 VC_matchCase_4 VC_matchCase_3 VC_matchCase_2 VC_matchCase_1
 simp only [cln, Nat.reduceEqDiff, Nat.reduceLeDiff, Nat.reduceAdd]
 have hA := asV_facts hp.1
 have hB := asV_facts hp.2.1
 have hLa := Nat.le_trans (fL_len c a.atoms) hA.2.2.2
 have hLb := Nat.le_trans (fL_len c b.atoms) hB.2.2.2
 all_goals (try simp only [opn])
 all_goals (repeat' (first | apply And.intro | intro _))
 all_goals (repeat (cases ‹_ /\ _›))
 all_goals (try (have h7 := ‹mcI _ _ _ _›; have h8 := sx6_eta h7.len; simp only [h8] at *))
 all_goals (try simp only [six_uc h7.len, six_ch h7.len] at *)
 all_goals (first | omega | rfl | assumption | (simp_all; done) | skip)
 all_goals (first
  | exact hA.2.2.1 | exact hB.2.2.1 | exact hB.1 | exact mc_no ‹_› | exact mcI_zero
  | exact mc_bad1 ‹_› h7 ‹_› ‹_› ‹_›
  | exact mc_bad2 ‹_› h7 ‹_› ‹_› ‹_›
  | exact mc_go1 h7 ‹_› ‹_› ‹_›
  | exact mc_go2 h7 ‹_› ‹_› ‹_›
  | exact mc_end1 ‹_› h7 ‹_› ‹_›
  | exact mc_end2 ‹_› h7 ‹_› ‹_›
  | exact h7.len
  | skip)
theorem ok_matchCase : FnOk Try.prog E 100 c_matchCase :=
 fn_okQ (l := L_matchCase) (lp := P_matchCase) (hp := hp_matchCase) (gcs := fun _ => none) (perm := fun _ => []) tabOk mix ⟨ok_iFilled, ok_factsHold, trivial⟩ ⟨ptok_cmCell, ptok_cmChain, trivial⟩ Try.func100 rfl (by kernel_rfl) (by decide) (by kernel_rfl) (anns := fun x _ => an_matchCase x.1 x.2.1 x.2.2.1) (fun ⟨a, b, c, _⟩ k hp _ => Eq.mp (by kernel_rfl) (vcn_matchCase a b c k hp)) (fun ⟨a, b, c, _⟩ _ => ⟨([], MC a b c, ()), rfl⟩)
abbrev c_failingCase : Con := ⟨[.asn, .asn], [.kase, .bool], fun (a, b, _) => asV a = true /\ asV b = true, .inl fun (a, b, _) => ((FC a b).headD (List.replicate 9 0), !(FC a b).isEmpty, ()), fun _ => 0⟩
abbrev L_failingCase : List (FuncId × Con) := [(99, c_termsIn), (100, c_matchCase)]
abbrev P_failingCase : List (FuncId × PT) := [(98, pt_possibleCases)]
def hp_failingCase : Nat -> Bool
 | 1 => true
 | _ => false
def ra_failingCase (a : GAsn) (b : GAsn) : St -> Option RAnn := fun se => some ⟨fun c => MC a b c, [2, 3, 4, 5], [47, 63, 79, 95], fun i => [], [47, 63, 79, 95], fun i => [], fun i => [], 300000⟩
def VC_failingCase_1 (a : GAsn) (b : GAsn) : Prop := TT /\ (RL [.s (.c (.ptr 47 0)), .s (.c (.ptr 63 0)), .s (.c (.ptr 79 0)), .s (.c (.ptr 95 0))]) /\ (RL []) /\ (RM [some (.blk [.d (.arr .fact a.facts), .d (.arr .atom a.atoms)]), some (.blk [.d (.arr .fact b.facts), .d (.arr .atom b.atoms)]), some (.vec .int (List.replicate 9 (0 : Int))), some (.blk [.d (.val (.bool false))])]) /\ (RM []) /\ True /\ TT
def VC_failingCase_2 (c2_0 : Int) (c2_1 : Int) (c2_2 : Int) (c2_3 : Int) (c2_4 : Int) (c2_5 : Int) (c2_6 : Int) (c2_7 : Int) (c2_8 : Int) : Prop := (([c2_0, c2_1, c2_2, c2_3, c2_4, c2_5, c2_6, c2_7, c2_8] : List Int).length = (List.replicate 9 (0 : Int)).length) /\ TF /\ TF
def VC_failingCase (a : GAsn) (b : GAsn) (k : Nat) : Prop := TT /\ TN /\ TN /\ (TN /\ True) /\ (TN /\ True) /\ TT /\ True /\ True /\ ((b.facts.length <= 281474976710656 /\ b.atoms.length <= 281474976710656) /\ True /\ True) /\ ((2 : Nat) <= 12) /\ TN /\ True /\ True /\ ((a.facts.length <= 281474976710656 /\ a.atoms.length <= 281474976710656) /\ True /\ True) /\ ((0 <= (tsA a) /\ (tsA a) < 512) /\ True /\ True) /\ True /\ True /\ (TN /\ True) /\ (TF /\ TF) /\ True /\ True /\ ((((134 : Nat) = 134) /\ ((none : Option Nat) = none) /\ (itPre a (bits .or .u16 (tsWith (tsA a) (0 : Int)) (tsA b)))) /\ TT /\ (VC_failingCase_1 a b)) /\ (∀ i1 : Nat, ∀ c2_0 : Int, ∀ c2_1 : Int, ∀ c2_2 : Int, ∀ c2_3 : Int, ∀ c2_4 : Int, ∀ c2_5 : Int, ∀ c2_6 : Int, ∀ c2_7 : Int, ∀ c2_8 : Int, ((itEn a (bits .or .u16 (tsWith (tsA a) (0 : Int)) (tsA b)))[i1]? = some ([c2_0, c2_1, c2_2, c2_3, c2_4, c2_5, c2_6, c2_7, c2_8] : List Int)) -> (((itEn a (bits .or .u16 (tsWith (tsA a) (0 : Int)) (tsA b))).take i1).all (fun c => MC a b c) = true) -> TT /\ (TN /\ True) /\ (VC_failingCase_2 c2_0 c2_1 c2_2 c2_3 c2_4 c2_5 c2_6 c2_7 c2_8) /\ ((none : Option Nat) = none) /\ TT /\ True /\ True /\ (9 = ([c2_0, c2_1, c2_2, c2_3, c2_4, c2_5, c2_6, c2_7, c2_8] : List Int).length * 1) /\ ((asV a = true /\ asV b = true /\ ([c2_0, c2_1, c2_2, c2_3, c2_4, c2_5, c2_6, c2_7, c2_8] : List Int).length = 9) /\ True /\ True /\ TN /\ True) /\ (∀ r3 : (List (List Int)) × Bool × Unit, (r3.2.1 = MC a b ([c2_0, c2_1, c2_2, c2_3, c2_4, c2_5, c2_6, c2_7, c2_8] : List Int)) -> True /\ True /\ True /\ True /\ True /\ TT /\ True /\ True /\ (vcIf (!r3.2.1) (TT /\ (9 = ([c2_0, c2_1, c2_2, c2_3, c2_4, c2_5, c2_6, c2_7, c2_8] : List Int).length * 1) /\ (VC_failingCase_2 c2_0 c2_1 c2_2 c2_3 c2_4 c2_5 c2_6 c2_7 c2_8) /\ (TF /\ TF) /\ ((MC a b ([c2_0, c2_1, c2_2, c2_3, c2_4, c2_5, c2_6, c2_7, c2_8] : List Int)) = false) /\ ((none : Option Nat) = none) /\ ((none : Option Nat) = none) /\ (((([c2_0, c2_1, c2_2, c2_3, c2_4, c2_5, c2_6, c2_7, c2_8] : List Int), true, ()) : (List Int) × Bool × Unit) = ((FC a b).headD (List.replicate 9 0), !(FC a b).isEmpty, ())) /\ True /\ True /\ True /\ True /\ TF) (((MC a b ([c2_0, c2_1, c2_2, c2_3, c2_4, c2_5, c2_6, c2_7, c2_8] : List Int)) = true) /\ ((none : Option Nat) = none) /\ (VC_failingCase_1 a b))))) /\ (((itEn a (bits .or .u16 (tsWith (tsA a) (0 : Int)) (tsA b))).all (fun c => MC a b c) = true) -> TT /\ True /\ (((List.replicate 9 (0 : Int)).length = (List.replicate 9 (0 : Int)).length) /\ TF /\ TF) /\ (TF /\ TF) /\ ((none : Option Nat) = none) /\ (((List.replicate 9 (0 : Int), false, ()) : (List Int) × Bool × Unit) = ((FC a b).headD (List.replicate 9 0), !(FC a b).isEmpty, ())) /\ True /\ True /\ True /\ True /\ TF)
theorem vcn_failingCase (a : GAsn) (b : GAsn) (k : Nat) (hp : asV a = true /\ asV b = true) : VC_failingCase a b k := by
 unfold VC_failingCase VC_failingCase_2 VC_failingCase_1
 simp only [cln, Nat.reduceEqDiff, Nat.reduceLeDiff, Nat.reduceAdd]
 have ha := hp.1
 have hb := hp.2
 have hs := asV_facts ha
 have hA := tsA_bd a
 have hB := tsA_bd b
 have hsb := asV_facts hb
 have hI := itEn_ent ha hb
 have hw := tsWith_bd (t := 0) hA.1 hA.2
 all_goals (try simp only [opn])
 all_goals (repeat' (first | apply And.intro | intro _))
 all_goals (first | omega | rfl | assumption | exact hI.2 | exact hI.2.2.1 | exact hI.2.2.2 | skip)
 all_goals (first
  | exact (fc_hit ha hb ‹_› ‹_› ((‹_ = MC a b _›).symm.trans ‹_›)).1.symm
  | (rw [(fc_hit (d := []) ha hb ‹_› ‹_› ((‹_ = MC a b _›).symm.trans ‹_›)).2]; rfl)
  | exact (‹_ = MC a b _›).symm.trans ‹_›
  | (rw [fc_none ha hb ‹_›]; rfl)
  | skip)
abbrev spc_failingCase (a : GAsn) (b : GAsn) : SpCode Bool := spR tab (lookF L_failingCase) (lookP P_failingCase) hp_failingCase (fun _ => none) (fun _ _ _ => none) (fun _ => []) Try.f53.ntmps 134 itPre itEn (ra_failingCase a b)
theorem spcok_failingCase (a : GAsn) (b : GAsn) (wE : World) (ro0 : Nat -> Option (Array Value)) (ρ : Nat) : SpcOk Fence.wide 0 Try.prog E (AC wE ro0 ρ) Try.f53.ntmps (spc_failingCase a b) :=
 spR_ok tabOk (kall_of (l := L_failingCase) ⟨ok_termsIn, ok_matchCase, trivial⟩) (pall_of (l := P_failingCase) ⟨ptok_possibleCases, trivial⟩) mix it_ok it_len it_run
theorem vcr_failingCase : ∀ x : Args c_failingCase.aks, c_failingCase.pre x -> vcY tab (lookF L_failingCase) (lookP P_failingCase) noSpB (spc_failingCase x.1 x.2.1) (fun b => !b) hp_failingCase (fun _ => none) (fun _ _ _ => none) (fun _ => []) (bodyOf Try.f53) (entry (encs c_failingCase.aks x) none) false (retR tab c_failingCase Try.f53.results.toList x) :=
 fun ⟨a, b, _⟩ hp => Eq.mp (by kernel_rfl) (vcn_failingCase a b 0 hp)
theorem ok_failingCase : FnOk Try.prog E 53 c_failingCase :=
 fnR_ok (con := c_failingCase) (fn := Try.f53) (l := L_failingCase) (lp := P_failingCase) (hp := hp_failingCase) (gcs := fun _ => none) (perm := fun _ => []) (spc := fun x => spc_failingCase x.1 x.2.1) (anns := fun x => (fun _ _ _ => none)) tabOk mix ⟨ok_termsIn, ok_matchCase, trivial⟩ ⟨ptok_possibleCases, trivial⟩ rfl Try.func53 rfl (by kernel_rfl) (by decide) (by kernel_rfl) (fun x _ => spcok_failingCase x.1 x.2.1) vcr_failingCase tot_fn
abbrev c_iEntails : Con := ⟨[.asn, .asn], [.bool], fun (a, b, _) => a.facts.length <= 281474976710656 /\ a.atoms.length <= 281474976710656 /\ b.facts.length <= 281474976710656 /\ b.atoms.length <= 281474976710656, .inl fun (a, b, _) => (ENT a b, ()), fun _ => 0⟩
abbrev L_iEntails : List (FuncId × Con) := [(37, c_iAssertionValid), (53, c_failingCase)]
abbrev P_iEntails : List (FuncId × PT) := []
def VC_iEntails_1 (a : GAsn) (b : GAsn) : Prop := True /\ (((false, ()) : Bool × Unit) = (ENT a b, ())) /\ True /\ True /\ True /\ True /\ TF
def VC_iEntails (a : GAsn) (b : GAsn) (k : Nat) : Prop := TN /\ TN /\ True /\ True /\ ((a.facts.length <= 281474976710656 /\ a.atoms.length <= 281474976710656) /\ True /\ True) /\ True /\ True /\ (vcIf (!(asV a)) (True /\ (VC_iEntails_1 a b)) (True /\ ((b.facts.length <= 281474976710656 /\ b.atoms.length <= 281474976710656) /\ True /\ True) /\ True /\ True /\ (vcIf (!(asV b)) (VC_iEntails_1 a b) (True /\ True /\ ((asV a = true /\ asV b = true) /\ True /\ True) /\ True /\ True /\ True /\ (TN /\ True) /\ ((((FC a b).headD (List.replicate 9 0)).length = (List.replicate 9 (0 : Int)).length) /\ TF /\ TF) /\ True /\ True /\ True /\ True /\ (((!(!(FC a b).isEmpty), ()) : Bool × Unit) = (ENT a b, ())) /\ True /\ True /\ True /\ True /\ TF))))
theorem vcn_iEntails (a : GAsn) (b : GAsn) (k : Nat) (hp : a.facts.length <= 281474976710656 /\ a.atoms.length <= 281474976710656 /\ b.facts.length <= 281474976710656 /\ b.atoms.length <= 281474976710656) : VC_iEntails a b k := by
 unfold VC_iEntails VC_iEntails_1
 simp only [cln, Nat.reduceEqDiff, Nat.reduceLeDiff, Nat.reduceAdd]
 all_goals (try simp only [opn])
 all_goals (repeat' (first | apply And.intro | intro _))
 all_goals (repeat (cases ‹_ /\ _›))
 all_goals (first | omega | rfl | assumption | exact (ent_no1 ‹_›).symm | exact (ent_no2 ‹_›).symm | (rw [ENT_FC ‹_› ‹_›, Bool.not_not]; done) | exact fc_len ‹_› ‹_› | skip)
theorem ok_iEntails : FnOk Try.prog E 20 c_iEntails :=
 fn_okQ (l := L_iEntails) (lp := P_iEntails) (hp := fun _ => false) (gcs := fun _ => none) (perm := fun _ => []) tabOk mix ⟨ok_iAssertionValid, ok_failingCase, trivial⟩ trivial Try.func20 rfl (by kernel_rfl) (by decide) (by kernel_rfl) (anns := fun x _ => fun _ _ => none) (fun ⟨a, b, _⟩ k hp _ => Eq.mp (by kernel_rfl) (vcn_iEntails a b k hp)) tot_fn
abbrev c_joinListsF : Con := ⟨[.sl .fact, .sl .fact], [.sl .fact], fun (a, b, _) => a.length <= 1048576 /\ b.length <= 1048576, .inl fun (a, b, _) => (a ++ b, ()), fun _ => 0⟩
abbrev L_joinListsF : List (FuncId × Con) := []
abbrev P_joinListsF : List (FuncId × PT) := []
def VC_joinListsF (a : List GFact) (b : List GFact) (k : Nat) : Prop := TN /\ True /\ True /\ True /\ True /\ (inK .i64 (((a.length : Nat) : Int) + ((b.length : Nat) : Int))) /\ (TN /\ (0 <= (0 : Int) /\ (0 : Int) <= (((a.length : Nat) : Int) + ((b.length : Nat) : Int)) /\ (((a.length : Nat) : Int) + ((b.length : Nat) : Int)) <= 4294967296)) /\ True /\ True /\ True /\ (TN /\ TF /\ TF /\ ((List.replicate 0 (⟨false, 0, 0⟩ : GFact)).length + a.length <= 4294967296)) /\ True /\ (TN /\ TF /\ TF /\ (((List.replicate 0 (⟨false, 0, 0⟩ : GFact)) ++ a).length + b.length <= 4294967296)) /\ True /\ (((((List.replicate 0 (⟨false, 0, 0⟩ : GFact)) ++ a) ++ b, ()) : (List GFact) × Unit) = (a ++ b, ())) /\ (True /\ True) /\ ((TF /\ TF) /\ True) /\ True /\ (True /\ True) /\ TF
theorem vcn_joinListsF (a : List GFact) (b : List GFact) (k : Nat) (hp : a.length <= 1048576 /\ b.length <= 1048576) : VC_joinListsF a b k := by
 unfold VC_joinListsF
 simp only [cln, Nat.reduceEqDiff, Nat.reduceLeDiff, Nat.reduceAdd]
 all_goals (try simp only [opn])
 all_goals (repeat' (first | apply And.intro | intro _))
 all_goals (first | omega | (simp_all; done) | grind [])
theorem ok_joinListsF : FnOk Try.prog E 78 c_joinListsF :=
 fn_okQ (l := L_joinListsF) (lp := P_joinListsF) (hp := fun _ => false) (gcs := fun _ => none) (perm := fun _ => []) tabOk mix trivial trivial Try.func78 rfl (by kernel_rfl) (by decide) (by kernel_rfl) (anns := fun x _ => fun _ _ => none) (fun ⟨a, b, _⟩ k hp _ => Eq.mp (by kernel_rfl) (vcn_joinListsF a b k hp)) tot_fn
abbrev c_joinListsA : Con := ⟨[.sl .atom, .sl .atom], [.sl .atom], fun (a, b, _) => a.length <= 1048576 /\ b.length <= 1048576, .inl fun (a, b, _) => (a ++ b, ()), fun _ => 0⟩
abbrev L_joinListsA : List (FuncId × Con) := []
abbrev P_joinListsA : List (FuncId × PT) := []
def VC_joinListsA (a : List GAtom) (b : List GAtom) (k : Nat) : Prop := TN /\ True /\ True /\ True /\ True /\ (inK .i64 (((a.length : Nat) : Int) + ((b.length : Nat) : Int))) /\ (TN /\ (0 <= (0 : Int) /\ (0 : Int) <= (((a.length : Nat) : Int) + ((b.length : Nat) : Int)) /\ (((a.length : Nat) : Int) + ((b.length : Nat) : Int)) <= 4294967296)) /\ True /\ True /\ True /\ (TN /\ TF /\ TF /\ ((List.replicate 0 (⟨0, 0, 0⟩ : GAtom)).length + a.length <= 4294967296)) /\ True /\ (TN /\ TF /\ TF /\ (((List.replicate 0 (⟨0, 0, 0⟩ : GAtom)) ++ a).length + b.length <= 4294967296)) /\ True /\ (((((List.replicate 0 (⟨0, 0, 0⟩ : GAtom)) ++ a) ++ b, ()) : (List GAtom) × Unit) = (a ++ b, ())) /\ (True /\ True) /\ ((TF /\ TF) /\ True) /\ True /\ (True /\ True) /\ TF
theorem vcn_joinListsA (a : List GAtom) (b : List GAtom) (k : Nat) (hp : a.length <= 1048576 /\ b.length <= 1048576) : VC_joinListsA a b k := by
 unfold VC_joinListsA
 simp only [cln, Nat.reduceEqDiff, Nat.reduceLeDiff, Nat.reduceAdd]
 all_goals (try simp only [opn])
 all_goals (repeat' (first | apply And.intro | intro _))
 all_goals (first | omega | (simp_all; done) | grind [])
theorem ok_joinListsA : FnOk Try.prog E 79 c_joinListsA :=
 fn_okQ (l := L_joinListsA) (lp := P_joinListsA) (hp := fun _ => false) (gcs := fun _ => none) (perm := fun _ => []) tabOk mix trivial trivial Try.func79 rfl (by kernel_rfl) (by decide) (by kernel_rfl) (anns := fun x _ => fun _ _ => none) (fun ⟨a, b, _⟩ k hp _ => Eq.mp (by kernel_rfl) (vcn_joinListsA a b k hp)) tot_fn
abbrev c_iStarAssertions : Con := ⟨[.asn, .asn], [.asn, .bool], fun (a, b, _) => a.facts.length <= 1048576 /\ a.atoms.length <= 1048576 /\ b.facts.length <= 1048576 /\ b.atoms.length <= 1048576, .inl fun (a, b, _) => (starL a b, starOk a b, ()), fun _ => 0⟩
abbrev L_iStarAssertions : List (FuncId × Con) := [(37, c_iAssertionValid), (78, c_joinListsF), (79, c_joinListsA)]
abbrev P_iStarAssertions : List (FuncId × PT) := []
def VC_iStarAssertions_1 (a : GAsn) (b : GAsn) : Prop := (((⟨([] : List GFact), ([] : List GAtom)⟩ : GAsn), false, ()) : GAsn × Bool × Unit) = (starL a b, starOk a b, ())
def VC_iStarAssertions_2 (a : GAsn) (b : GAsn) : Prop := (TN /\ TN /\ True) /\ (TF /\ TF) /\ True /\ (VC_iStarAssertions_1 a b) /\ ((((240 : Nat) ≠ 241) /\ True) /\ True /\ True) /\ ((TF /\ TF) /\ (TF /\ TF) /\ True) /\ True /\ (True /\ True /\ True) /\ TF
def VC_iStarAssertions (a : GAsn) (b : GAsn) (k : Nat) : Prop := TN /\ TN /\ (TN /\ TN /\ TN /\ True) /\ True /\ True /\ ((a.facts.length <= 281474976710656 /\ a.atoms.length <= 281474976710656) /\ True /\ True) /\ True /\ True /\ (vcIf (!(asV a)) (True /\ (VC_iStarAssertions_2 a b)) (True /\ ((b.facts.length <= 281474976710656 /\ b.atoms.length <= 281474976710656) /\ True /\ True) /\ True /\ True /\ (vcIf (!(asV b)) (VC_iStarAssertions_2 a b) (True /\ True /\ True /\ True /\ ((a.facts.length <= 1048576 /\ b.facts.length <= 1048576) /\ True /\ TN /\ True) /\ True /\ True /\ True /\ True /\ ((a.atoms.length <= 1048576 /\ b.atoms.length <= 1048576) /\ True /\ TN /\ True) /\ (TN /\ TN /\ True) /\ (TN /\ TN /\ TN /\ True) /\ (TF /\ TF) /\ True /\ (((⟨(a.facts ++ b.facts), (a.atoms ++ b.atoms)⟩ : GAsn).facts.length <= 281474976710656 /\ (⟨(a.facts ++ b.facts), (a.atoms ++ b.atoms)⟩ : GAsn).atoms.length <= 281474976710656) /\ True /\ True) /\ True /\ (vcIf (!(asV (⟨(a.facts ++ b.facts), (a.atoms ++ b.atoms)⟩ : GAsn))) ((TN /\ TN /\ True) /\ (TF /\ TF) /\ True /\ (VC_iStarAssertions_1 a b) /\ ((((480 : Nat) ≠ 481) /\ True) /\ True /\ True) /\ ((TF /\ TF) /\ (TF /\ TF) /\ True) /\ True /\ (True /\ True /\ True) /\ TF) (True /\ (TF /\ TF) /\ True /\ ((((⟨(a.facts ++ b.facts), (a.atoms ++ b.atoms)⟩ : GAsn), true, ()) : GAsn × Bool × Unit) = (starL a b, starOk a b, ())) /\ ((((320 : Nat) ≠ 400) /\ True) /\ True /\ True) /\ ((TF /\ TF) /\ (TF /\ TF) /\ True) /\ True /\ (True /\ True /\ True) /\ TF))))))
theorem vcn_iStarAssertions (a : GAsn) (b : GAsn) (k : Nat) (hp : a.facts.length <= 1048576 /\ a.atoms.length <= 1048576 /\ b.facts.length <= 1048576 /\ b.atoms.length <= 1048576) : VC_iStarAssertions a b k := by
 unfold VC_iStarAssertions VC_iStarAssertions_2 VC_iStarAssertions_1
 simp only [cln, Nat.reduceEqDiff, Nat.reduceLeDiff, Nat.reduceAdd]
 all_goals (try simp only [opn])
 all_goals (repeat' (first | apply And.intro | intro _))
 all_goals (first | omega | (simp_all; done) | grind [starL, starOk, starA])
theorem ok_iStarAssertions : FnOk Try.prog E 32 c_iStarAssertions :=
 fn_okQ (l := L_iStarAssertions) (lp := P_iStarAssertions) (hp := fun _ => false) (gcs := fun _ => none) (perm := fun _ => []) tabOk mix ⟨ok_iAssertionValid, ok_joinListsF, ok_joinListsA, trivial⟩ trivial Try.func32 rfl (by kernel_rfl) (by decide) (by kernel_rfl) (anns := fun x _ => fun _ _ => none) (fun ⟨a, b, _⟩ k hp _ => Eq.mp (by kernel_rfl) (vcn_iStarAssertions a b k hp)) tot_fn
abbrev c_frAcc : Con := ⟨[.int, .pasn, .pasn], [.bool], fun (m, b, a, _) => asV a = true /\ asV b = true, .inl fun (m, b, a, _) => (FRA m b a, ()), fun _ => 0⟩
abbrev L_frAcc : List (FuncId × Con) := [(20, c_iEntails), (32, c_iStarAssertions), (73, c_pickAtoms)]
abbrev P_frAcc : List (FuncId × PT) := []
def VC_frAcc (m : Int) (b : GAsn) (a : GAsn) (k : Nat) : Prop := True /\ True /\ True /\ True /\ ((a.facts.length <= 1048576 /\ a.atoms.length <= 1048576) /\ True /\ TN /\ TN /\ True) /\ ((b.facts.length <= 1048576 /\ b.atoms.length <= 1048576 /\ (⟨[], (pkA m a.atoms)⟩ : GAsn).facts.length <= 1048576 /\ (⟨[], (pkA m a.atoms)⟩ : GAsn).atoms.length <= 1048576) /\ True /\ TN /\ TN /\ True) /\ True /\ True /\ True /\ (TN /\ TN /\ TN /\ True) /\ (TF /\ TF) /\ True /\ True /\ True /\ (vcIf (starOk b (⟨[], (pkA m a.atoms)⟩ : GAsn)) (True /\ True /\ ((a.facts.length <= 281474976710656 /\ a.atoms.length <= 281474976710656 /\ (starL b (⟨[], (pkA m a.atoms)⟩ : GAsn)).facts.length <= 281474976710656 /\ (starL b (⟨[], (pkA m a.atoms)⟩ : GAsn)).atoms.length <= 281474976710656) /\ True /\ True) /\ True /\ True /\ ((((ENT a (starL b (⟨[], (pkA m a.atoms)⟩ : GAsn))), ()) : Bool × Unit) = (FRA m b a, ())) /\ True /\ True /\ True /\ True /\ TF) (True /\ True /\ (((false, ()) : Bool × Unit) = (FRA m b a, ())) /\ True /\ True /\ True /\ True /\ TF))
theorem vcn_frAcc (m : Int) (b : GAsn) (a : GAsn) (k : Nat) (hp : asV a = true /\ asV b = true) : VC_frAcc m b a k := by
 unfold VC_frAcc
 simp only [cln, Nat.reduceEqDiff, Nat.reduceLeDiff, Nat.reduceAdd]
 all_goals (try simp only [opn])
 all_goals (repeat' (first | apply And.intro | intro _))
 all_goals (repeat (cases ‹_ /\ _›))
 all_goals (first | with_reducible exact True.intro | (exfalso; contradiction) | omega | with_reducible assumption | with_reducible rfl | skip)
 all_goals (try have hA := fo_len6 ‹asV a = true›)
 all_goals (try have hB := fo_len6 ‹asV b = true›)
 all_goals (first
  | omega
  | with_reducible exact pk200 (by omega)
  | (with_reducible refine Nat.le_trans (m := 200) ?_ (by decide); first
   | with_reducible exact star_pkF (by omega) | with_reducible exact star_pkA (by omega) (by omega))
  | with_reducible exact fra_y ‹_› | with_reducible exact fra_n ‹_›
  | with_reducible exact (frm_no1 ‹_›).1 | with_reducible exact (frm_no1 ‹_›).2 | with_reducible exact (frm_no2 ‹_›).1 | with_reducible exact (frm_no2 ‹_›).2
  | with_reducible exact (frm_n ‹_› ‹_› ‹_›).1 | with_reducible exact (frm_n ‹_› ‹_› ‹_›).2
  | with_reducible exact (frm_y ‹_› ‹_› ‹_›).1 | with_reducible exact (frm_y ‹_› ‹_› ‹_›).2
  | skip)
abbrev cl_frAcc : ClC := ⟨fun m b a => asV a = true /\ asV b = true, fun m b a => FRA m b a⟩
theorem ok_frAcc : FnOk Try.prog E 82 c_frAcc :=
 fn_okQ (l := L_frAcc) (lp := P_frAcc) (hp := fun _ => false) (gcs := fun _ => none) (perm := fun _ => []) tabOk mix ⟨ok_iEntails, ok_iStarAssertions, ok_pickAtoms, trivial⟩ trivial Try.func82 rfl (by kernel_rfl) (by decide) (by kernel_rfl) (anns := fun x _ => fun _ _ => none) (fun ⟨m, b, a, _⟩ k hp _ => Eq.mp (by kernel_rfl) (vcn_frAcc m b a k hp)) tot_fn
abbrev c_iFrameOf : Con := ⟨[.asn, .asn], [.asn, .bool], fun (a, b, _) => a.facts.length <= 281474976710656 /\ a.atoms.length <= 281474976710656 /\ b.facts.length <= 281474976710656 /\ b.atoms.length <= 281474976710656, .inl fun (a, b, _) => (frmL a b, frmB a b, ()), fun _ => 0⟩
abbrev L_iFrameOf : List (FuncId × Con) := [(37, c_iAssertionValid), (73, c_pickAtoms)]
abbrev P_iFrameOf : List (FuncId × PT) := [(81, ptLM 82 cl_frAcc)]
def hp_iFrameOf : Nat -> Bool
 | 3 => true
 | _ => false
def VC_iFrameOf_1 (a : GAsn) (b : GAsn) : Prop := (((⟨([] : List GFact), ([] : List GAtom)⟩ : GAsn), false, ()) : GAsn × Bool × Unit) = (frmL a b, frmB a b, ())
def VC_iFrameOf_2 (a : GAsn) (b : GAsn) : Prop := (TN /\ TN /\ True) /\ (TF /\ TF) /\ True /\ (VC_iFrameOf_1 a b) /\ ((((256 : Nat) ≠ 257) /\ True) /\ True /\ True) /\ ((TF /\ TF) /\ (TF /\ TF) /\ True) /\ True /\ (True /\ True /\ True) /\ TF
def VC_iFrameOf (a : GAsn) (b : GAsn) (k : Nat) : Prop := TN /\ TN /\ (TN /\ TN /\ TN /\ True) /\ True /\ True /\ ((a.facts.length <= 281474976710656 /\ a.atoms.length <= 281474976710656) /\ True /\ True) /\ True /\ True /\ (vcIf (!(asV a)) (True /\ (VC_iFrameOf_2 a b)) (True /\ ((b.facts.length <= 281474976710656 /\ b.atoms.length <= 281474976710656) /\ True /\ True) /\ True /\ True /\ (vcIf (!(asV b)) (VC_iFrameOf_2 a b) (True /\ True /\ True /\ True /\ ((82 : Nat) = 82) /\ ((none : Option Nat) = none) /\ (0 <= ((a.atoms.length : Nat) : Int) /\ ((a.atoms.length : Nat) : Int) <= 62) /\ (∀ m1 : Int, (0 : Int) <= m1 -> m1 < (2 : Int) ^ (((a.atoms.length : Nat) : Int)).toNat -> asV a = true /\ asV b = true) /\ True /\ True /\ True /\ True /\ True /\ True /\ True /\ (vcIf (!(lmB (fun m1 => FRA m1 b a) ((a.atoms.length : Nat) : Int))) ((TN /\ TN /\ True) /\ (TF /\ TF) /\ True /\ (VC_iFrameOf_1 a b) /\ ((((432 : Nat) ≠ 433) /\ True) /\ True /\ True) /\ ((TF /\ TF) /\ (TF /\ TF) /\ True) /\ True /\ (True /\ True /\ True) /\ TF) (True /\ True /\ ((a.facts.length <= 1048576 /\ a.atoms.length <= 1048576) /\ True /\ TN /\ TN /\ True) /\ (TF /\ TF) /\ True /\ ((((⟨[], (pkA (lmI (fun m1 => FRA m1 b a) ((a.atoms.length : Nat) : Int)) a.atoms)⟩ : GAsn), true, ()) : GAsn × Bool × Unit) = (frmL a b, frmB a b, ())) /\ ((((480 : Nat) ≠ 481) /\ True) /\ True /\ True) /\ ((TF /\ TF) /\ (TF /\ TF) /\ True) /\ True /\ (True /\ True /\ True) /\ TF))))))
theorem vcn_iFrameOf (a : GAsn) (b : GAsn) (k : Nat) (hp : a.facts.length <= 281474976710656 /\ a.atoms.length <= 281474976710656 /\ b.facts.length <= 281474976710656 /\ b.atoms.length <= 281474976710656) : VC_iFrameOf a b k := by
 unfold VC_iFrameOf VC_iFrameOf_2 VC_iFrameOf_1
 simp only [cln, Nat.reduceEqDiff, Nat.reduceLeDiff, Nat.reduceAdd]
 all_goals (try simp only [opn])
 all_goals (repeat' (first | apply And.intro | intro _))
 all_goals (repeat (cases ‹_ /\ _›))
 all_goals (first | with_reducible exact True.intro | (exfalso; contradiction) | omega | with_reducible assumption | with_reducible rfl | skip)
 all_goals (try have hA := fo_len6 ‹asV a = true›)
 all_goals (try have hB := fo_len6 ‹asV b = true›)
 all_goals (first
  | omega
  | with_reducible exact pk200 (by omega)
  | (with_reducible refine Nat.le_trans (m := 200) ?_ (by decide); first
   | with_reducible exact star_pkF (by omega) | with_reducible exact star_pkA (by omega) (by omega))
  | with_reducible exact fra_y ‹_› | with_reducible exact fra_n ‹_›
  | with_reducible exact (frm_no1 ‹_›).1 | with_reducible exact (frm_no1 ‹_›).2 | with_reducible exact (frm_no2 ‹_›).1 | with_reducible exact (frm_no2 ‹_›).2
  | with_reducible exact (frm_n ‹_› ‹_› ‹_›).1 | with_reducible exact (frm_n ‹_› ‹_› ‹_›).2
  | with_reducible exact (frm_y ‹_› ‹_› ‹_›).1 | with_reducible exact (frm_y ‹_› ‹_› ‹_›).2
  | skip)
theorem ok_iFrameOf : FnOk Try.prog E 35 c_iFrameOf :=
 fn_okQ (l := L_iFrameOf) (lp := P_iFrameOf) (hp := hp_iFrameOf) (gcs := fun _ => none) (perm := fun _ => []) tabOk mix ⟨ok_iAssertionValid, ok_pickAtoms, trivial⟩ ⟨(ptok_lm (c := cl_frAcc) ok_frAcc), trivial⟩ Try.func35 rfl (by kernel_rfl) (by decide) (by kernel_rfl) (anns := fun x _ => fun _ _ => none) (fun ⟨a, b, _⟩ k hp _ => Eq.mp (by kernel_rfl) (vcn_iFrameOf a b k hp)) tot_fn
abbrev c_iUseFrame : Con := ⟨[.asn, .asn, .asn], [.asn, .bool], fun (a, p, q, _) => a.facts.length <= 281474976710656 /\ a.atoms.length <= 281474976710656 /\ p.facts.length <= 281474976710656 /\ p.atoms.length <= 281474976710656 /\ q.facts.length <= 281474976710656 /\ q.atoms.length <= 281474976710656, .inl fun (a, p, q, _) => (ufrL a p q, ufrB a p q, ()), fun _ => 0⟩
abbrev L_iUseFrame : List (FuncId × Con) := [(35, c_iFrameOf), (37, c_iAssertionValid), (78, c_joinListsF), (79, c_joinListsA)]
abbrev P_iUseFrame : List (FuncId × PT) := []
def VC_iUseFrame_1 (a : GAsn) (p : GAsn) (q : GAsn) : Prop := (((⟨([] : List GFact), ([] : List GAtom)⟩ : GAsn), false, ()) : GAsn × Bool × Unit) = (ufrL a p q, ufrB a p q, ())
def VC_iUseFrame_2 (a : GAsn) (p : GAsn) (q : GAsn) : Prop := (TN /\ TN /\ True) /\ (TF /\ TF) /\ True /\ (VC_iUseFrame_1 a p q) /\ ((((384 : Nat) ≠ 385) /\ True) /\ True /\ True) /\ ((TF /\ TF) /\ (TF /\ TF) /\ True) /\ True /\ (True /\ True /\ True) /\ TF
def VC_iUseFrame (a : GAsn) (p : GAsn) (q : GAsn) (k : Nat) : Prop := TN /\ TN /\ TN /\ (TN /\ TN /\ TN /\ True) /\ True /\ True /\ True /\ ((a.facts.length <= 281474976710656 /\ a.atoms.length <= 281474976710656 /\ p.facts.length <= 281474976710656 /\ p.atoms.length <= 281474976710656) /\ True /\ TN /\ TN /\ True) /\ True /\ True /\ True /\ (TN /\ TN /\ TN /\ True) /\ (TF /\ TF) /\ True /\ True /\ True /\ True /\ (vcIf (!(frmB a p)) (True /\ (VC_iUseFrame_2 a p q)) (True /\ ((q.facts.length <= 281474976710656 /\ q.atoms.length <= 281474976710656) /\ True /\ True) /\ True /\ True /\ (vcIf (!(asV q)) (VC_iUseFrame_2 a p q) (True /\ True /\ True /\ True /\ ((a.facts.length <= 1048576 /\ q.facts.length <= 1048576) /\ True /\ TN /\ True) /\ True /\ True /\ True /\ True /\ ((q.atoms.length <= 1048576 /\ ((frmL a p).atoms).length <= 1048576) /\ True /\ TN /\ True) /\ (TN /\ TN /\ True) /\ (TN /\ TN /\ TN /\ True) /\ (TF /\ TF) /\ True /\ (((⟨(a.facts ++ q.facts), (q.atoms ++ ((frmL a p).atoms))⟩ : GAsn).facts.length <= 281474976710656 /\ (⟨(a.facts ++ q.facts), (q.atoms ++ ((frmL a p).atoms))⟩ : GAsn).atoms.length <= 281474976710656) /\ True /\ True) /\ True /\ (vcIf (!(asV (⟨(a.facts ++ q.facts), (q.atoms ++ ((frmL a p).atoms))⟩ : GAsn))) ((TN /\ TN /\ True) /\ (TF /\ TF) /\ True /\ (VC_iUseFrame_1 a p q) /\ ((((624 : Nat) ≠ 625) /\ True) /\ True /\ True) /\ ((TF /\ TF) /\ (TF /\ TF) /\ True) /\ True /\ (True /\ True /\ True) /\ TF) (True /\ (TF /\ TF) /\ True /\ ((((⟨(a.facts ++ q.facts), (q.atoms ++ ((frmL a p).atoms))⟩ : GAsn), true, ()) : GAsn × Bool × Unit) = (ufrL a p q, ufrB a p q, ())) /\ ((((464 : Nat) ≠ 544) /\ True) /\ True /\ True) /\ ((TF /\ TF) /\ (TF /\ TF) /\ True) /\ True /\ (True /\ True /\ True) /\ TF))))))
theorem vcn_iUseFrame (a : GAsn) (p : GAsn) (q : GAsn) (k : Nat) (hp : a.facts.length <= 281474976710656 /\ a.atoms.length <= 281474976710656 /\ p.facts.length <= 281474976710656 /\ p.atoms.length <= 281474976710656 /\ q.facts.length <= 281474976710656 /\ q.atoms.length <= 281474976710656) : VC_iUseFrame a p q k := by
 unfold VC_iUseFrame VC_iUseFrame_2 VC_iUseFrame_1
 simp only [cln, Nat.reduceEqDiff, Nat.reduceLeDiff, Nat.reduceAdd]
 try simp only [frmL_facts, List.append_nil, List.nil_append]
 all_goals (try simp only [opn])
 all_goals (repeat' (first | apply And.intro | intro _))
 all_goals (repeat (cases ‹_ /\ _›))
 all_goals (first | with_reducible exact True.intro | (exfalso; contradiction) | omega | with_reducible assumption | with_reducible rfl | skip)
 all_goals (try have hA := frm_len6 ‹frmB a p = true›)
 all_goals (try have hB := fo_len6 ‹asV q = true›)
 all_goals (first
  | omega | (simp only [List.length_append, List.length_nil]; omega)
  | with_reducible exact (ufr_1 ‹_›).1 | with_reducible exact (ufr_1 ‹_›).2 | with_reducible exact (ufr_2 ‹_›).1 | with_reducible exact (ufr_2 ‹_›).2 | with_reducible exact (ufr_3 ‹_›).1 | with_reducible exact (ufr_3 ‹_›).2
  | with_reducible exact (ufr_4 ‹_› ‹_› ‹_›).1 | with_reducible exact (ufr_4 ‹_› ‹_› ‹_›).2
  | skip)
theorem ok_iUseFrame : FnOk Try.prog E 39 c_iUseFrame :=
 fn_okQ (l := L_iUseFrame) (lp := P_iUseFrame) (hp := fun _ => false) (gcs := fun _ => none) (perm := fun _ => []) tabOk mix ⟨ok_iFrameOf, ok_iAssertionValid, ok_joinListsF, ok_joinListsA, trivial⟩ trivial Try.func39 rfl (by kernel_rfl) (by decide) (by kernel_rfl) (anns := fun x _ => fun _ _ => none) (fun ⟨a, p, q, _⟩ k hp _ => Eq.mp (by kernel_rfl) (vcn_iUseFrame a p q k hp)) tot_fn
abbrev c_l1Is : Con := ⟨[.int], [.bool], fun _ => True, .inl fun (t, _) => (isT t, ()), fun _ => 0⟩
abbrev L_l1Is : List (FuncId × Con) := []
abbrev P_l1Is : List (FuncId × PT) := []
def VC_l1Is (t : Int) (k : Nat) : Prop := True /\ True /\ True /\ True /\ (vcIf (decide ((0 : Int) <= t)) (True /\ True /\ True /\ True /\ (((decide (t <= (8 : Int)), ()) : Bool × Unit) = (isT t, ())) /\ True /\ True /\ True /\ True /\ TF) (True /\ True /\ (((false, ()) : Bool × Unit) = (isT t, ())) /\ True /\ True /\ True /\ True /\ TF))
theorem vcn_l1Is (t : Int) (k : Nat) : VC_l1Is t k := by
 unfold VC_l1Is
 simp only [cln, Nat.reduceEqDiff, Nat.reduceLeDiff, Nat.reduceAdd]
 cases h : decide (0 <= t) <;> simp [vcIf, isT, h]
theorem ok_l1Is : FnOk Try.prog E 151 c_l1Is :=
 fn_okQ (l := L_l1Is) (lp := P_l1Is) (hp := fun _ => false) (gcs := fun _ => none) (perm := fun _ => []) tabOk mix trivial trivial Try.func151 rfl (by kernel_rfl) (by decide) (by kernel_rfl) (anns := fun x _ => fun _ _ => none) (fun ⟨t, _⟩ k _ _ => Eq.mp (by kernel_rfl) (vcn_l1Is t k)) tot_fn
abbrev c_l3Atom : Con := ⟨[.atom], [.bool], fun _ => True, .inl fun (x, _) => (atV x, ()), fun _ => 0⟩
abbrev L_l3Atom : List (FuncId × Con) := [(151, c_l1Is)]
abbrev P_l3Atom : List (FuncId × PT) := []
def VC_l3Atom_1 (x : GAtom) : Prop := True /\ True /\ (((false, ()) : Bool × Unit) = (atV x, ())) /\ True /\ True /\ True /\ True /\ TF
def VC_l3Atom_2 (x : GAtom) : Prop := True /\ True /\ (True /\ True /\ True) /\ True /\ True /\ (vcIf (isT x.a) (True /\ True /\ (True /\ True /\ True) /\ True /\ True /\ ((((isT x.b), ()) : Bool × Unit) = (atV x, ())) /\ True /\ True /\ True /\ True /\ TF) (VC_l3Atom_1 x))
def VC_l3Atom (x : GAtom) (k : Nat) : Prop := TN /\ True /\ True /\ True /\ True /\ True /\ (vcIf (x.kind == (1 : Int)) (True /\ True /\ (VC_l3Atom_2 x)) (True /\ True /\ True /\ True /\ True /\ (vcIf (x.kind == (2 : Int)) (VC_l3Atom_2 x) (True /\ True /\ (VC_l3Atom_1 x)))))
theorem vcn_l3Atom (x : GAtom) (k : Nat) : VC_l3Atom x k := by
 unfold VC_l3Atom VC_l3Atom_2 VC_l3Atom_1
 simp only [cln, Nat.reduceEqDiff, Nat.reduceLeDiff, Nat.reduceAdd]
 all_goals (try simp only [opn])
 all_goals (repeat' (first | apply And.intro | intro _))
 all_goals (first | omega | (simp_all; done) | grind [atV])
theorem ok_l3Atom : FnOk Try.prog E 122 c_l3Atom :=
 fn_okQ (l := L_l3Atom) (lp := P_l3Atom) (hp := fun _ => false) (gcs := fun _ => none) (perm := fun _ => []) tabOk mix ⟨ok_l1Is, trivial⟩ trivial Try.func122 rfl (by kernel_rfl) (by decide) (by kernel_rfl) (anns := fun x _ => fun _ _ => none) (fun ⟨x, _⟩ k _ _ => Eq.mp (by kernel_rfl) (vcn_l3Atom x k)) tot_fn
abbrev c_sFactValid : Con := ⟨[.fact], [.bool], fun _ => True, .inl fun (f, _) => (fV f, ()), fun _ => 0⟩
abbrev L_sFactValid : List (FuncId × Con) := [(151, c_l1Is)]
abbrev P_sFactValid : List (FuncId × PT) := []
def VC_sFactValid (f : GFact) (k : Nat) : Prop := TN /\ True /\ True /\ True /\ (True /\ True /\ True) /\ True /\ (vcIf (isT f.a) (True /\ True /\ (True /\ True /\ True) /\ True /\ True /\ ((((isT f.b), ()) : Bool × Unit) = (fV f, ())) /\ True /\ True /\ True /\ True /\ TF) (True /\ True /\ (((false, ()) : Bool × Unit) = (fV f, ())) /\ True /\ True /\ True /\ True /\ TF))
theorem vcn_sFactValid (f : GFact) (k : Nat) : VC_sFactValid f k := by
 unfold VC_sFactValid
 simp only [cln, Nat.reduceEqDiff, Nat.reduceLeDiff, Nat.reduceAdd]
 cases h : isT f.a <;> simp [vcIf, fV, h]
theorem ok_sFactValid : FnOk Try.prog E 152 c_sFactValid :=
 fn_okQ (l := L_sFactValid) (lp := P_sFactValid) (hp := fun _ => false) (gcs := fun _ => none) (perm := fun _ => []) tabOk mix ⟨ok_l1Is, trivial⟩ trivial Try.func152 rfl (by kernel_rfl) (by decide) (by kernel_rfl) (anns := fun x _ => fun _ _ => none) (fun ⟨f, _⟩ k _ _ => Eq.mp (by kernel_rfl) (vcn_sFactValid f k)) tot_fn
abbrev c_sFactsValid : Con := ⟨[.sl .fact], [.bool], fun (l, _) => l.length <= 281474976710656, .inl fun (l, _) => (fsV l, ()), fun _ => 0⟩
abbrev L_sFactsValid : List (FuncId × Con) := [(152, c_sFactValid)]
abbrev P_sFactsValid : List (FuncId × PT) := []
def an_sFactsValid (l : List GFact) : Nat -> St -> Option Ann
 | 2, se => some { α := Nat, ok := fun i => i <= l.length /\ (l.take i).all fV = true, mu := fun i => l.length - i, i0 := fun _ => 0, nx := fun a _ => (fun i => i + 1) a, live := [0], sets := fun i => [(3, sv (.int .i64 i))], mids := [], blks := fun i => [], owns := fun i => [], rd := fun r _ => r, base := 100000 }
 | _, _ => none
def VC_sFactsValid (l : List GFact) (k : Nat) : Prop := True /\ True /\ ((0 <= l.length /\ (l.take 0).all fV = true) /\ TT /\ (RL [.s (.c (.d (.arr .fact l)))]) /\ (([.s (.c (.d (.val (.int .i64 (0 : Int)))))] : List S) = [.s (.c (.d (.val (.int .i64 ((0 : Nat) : Int)))))]) /\ (RM []) /\ (RM []) /\ True /\ TT) /\ (∀ i1 : Nat, (i1 <= l.length /\ (l.take i1).all fV = true) -> True /\ True /\ True /\ True /\ (vcIf (decide (((i1 : Nat) : Int) < ((l.length : Nat) : Int))) (True /\ True /\ (0 <= ((i1 : Nat) : Int) /\ ((i1 : Nat) : Int) < ((l.length : Nat) : Int)) /\ True /\ (True /\ True /\ True) /\ True /\ (vcIf (!(fV (l.getD i1 (⟨false, 0, 0⟩ : GFact)))) (True /\ (((false, ()) : Bool × Unit) = (fsV l, ())) /\ True /\ True /\ True /\ True /\ TF) (True /\ (inK .i64 (((i1 : Nat) : Int) + (1 : Int))) /\ True /\ ((i1 + 1) <= l.length /\ (l.take (i1 + 1)).all fV = true) /\ (l.length - (i1 + 1) < l.length - i1) /\ TT /\ (RL [.s (.c (.d (.arr .fact l)))]) /\ (([.s (.c (.d (.val (.int .i64 (((i1 : Nat) : Int) + (1 : Int))))))] : List S) = [.s (.c (.d (.val (.int .i64 (((i1 + 1) : Nat) : Int)))))]) /\ (RM []) /\ (RM []) /\ True /\ TT))) (True /\ True /\ True /\ True /\ (((decide (((l.length : Nat) : Int) <= (12 : Int)), ()) : Bool × Unit) = (fsV l, ())) /\ True /\ True /\ True /\ True /\ TF)))
theorem vcn_sFactsValid (l : List GFact) (k : Nat) (hp : l.length <= 281474976710656) : VC_sFactsValid l k := by
 unfold VC_sFactsValid
 simp only [cln, Nat.reduceEqDiff, Nat.reduceLeDiff, Nat.reduceAdd]
 all_goals (try simp only [opn])
 all_goals (repeat' (first | apply And.intro | intro _))
 all_goals (first | omega | (simp_all; done) | grind [fsV, take_all, all_take, take_full, Ty.zero])
theorem ok_sFactsValid : FnOk Try.prog E 123 c_sFactsValid :=
 fn_okQ (l := L_sFactsValid) (lp := P_sFactsValid) (hp := fun _ => false) (gcs := fun _ => none) (perm := fun _ => []) tabOk mix ⟨ok_sFactValid, trivial⟩ trivial Try.func123 rfl (by kernel_rfl) (by decide) (by kernel_rfl) (anns := fun x _ => an_sFactsValid x.1) (fun ⟨l, _⟩ k hp _ => Eq.mp (by kernel_rfl) (vcn_sFactsValid l k hp)) tot_fn
abbrev c_sAssertionValid : Con := ⟨[.asn], [.bool], fun (a, _) => a.facts.length <= 281474976710656 /\ a.atoms.length <= 281474976710656, .inl fun (a, _) => (asV a, ()), fun _ => 0⟩
abbrev L_sAssertionValid : List (FuncId × Con) := [(122, c_l3Atom), (123, c_sFactsValid)]
abbrev P_sAssertionValid : List (FuncId × PT) := []
def an_sAssertionValid (a : GAsn) : Nat -> St -> Option Ann
 | 2, se => some { α := Nat, ok := fun i => i <= a.atoms.length /\ (a.atoms.take i).all atV = true, mu := fun i => a.atoms.length - i, i0 := fun _ => 0, nx := fun a _ => (fun i => i + 1) a, live := [1], sets := fun i => [(3, sv (.int .i64 i))], mids := [31], blks := fun i => [], owns := fun i => [], rd := fun r _ => r, base := 100000 }
 | _, _ => none
def VC_sAssertionValid_1 (a : GAsn) : Prop := (RM [some (.blk [.d (.arr .fact a.facts), .d (.arr .atom a.atoms)])]) /\ (RM []) /\ True /\ TT
def VC_sAssertionValid_2 (a : GAsn) : Prop := True /\ (((false, ()) : Bool × Unit) = (asV a, ())) /\ True /\ True /\ True /\ True /\ TF
def VC_sAssertionValid (a : GAsn) (k : Nat) : Prop := TN /\ True /\ True /\ ((0 <= a.atoms.length /\ (a.atoms.take 0).all atV = true) /\ TT /\ (RL [.s (.c (.ptr 31 0))]) /\ (([.s (.c (.d (.val (.int .i64 (0 : Int)))))] : List S) = [.s (.c (.d (.val (.int .i64 ((0 : Nat) : Int)))))]) /\ (VC_sAssertionValid_1 a)) /\ (∀ i1 : Nat, (i1 <= a.atoms.length /\ (a.atoms.take i1).all atV = true) -> True /\ True /\ True /\ True /\ True /\ (vcIf (decide (((i1 : Nat) : Int) < ((a.atoms.length : Nat) : Int))) (True /\ True /\ True /\ (0 <= ((i1 : Nat) : Int) /\ ((i1 : Nat) : Int) < ((a.atoms.length : Nat) : Int)) /\ True /\ (True /\ True /\ True) /\ True /\ (vcIf (!(atV (a.atoms.getD i1 (⟨0, 0, 0⟩ : GAtom)))) (VC_sAssertionValid_2 a) (True /\ (inK .i64 (((i1 : Nat) : Int) + (1 : Int))) /\ True /\ ((i1 + 1) <= a.atoms.length /\ (a.atoms.take (i1 + 1)).all atV = true) /\ (a.atoms.length - (i1 + 1) < a.atoms.length - i1) /\ TT /\ (RL [.s (.c (.ptr 31 0))]) /\ (([.s (.c (.d (.val (.int .i64 (((i1 : Nat) : Int) + (1 : Int))))))] : List S) = [.s (.c (.d (.val (.int .i64 (((i1 + 1) : Nat) : Int)))))]) /\ (VC_sAssertionValid_1 a)))) (True /\ True /\ ((a.facts.length <= 281474976710656) /\ True /\ True) /\ True /\ (vcIf (fsV a.facts) (True /\ True /\ True /\ True /\ True /\ True /\ (((decide (((a.atoms.length : Nat) : Int) <= (6 : Int)), ()) : Bool × Unit) = (asV a, ())) /\ True /\ True /\ True /\ True /\ TF) (True /\ (VC_sAssertionValid_2 a))))))
theorem vcn_sAssertionValid (a : GAsn) (k : Nat) (hp : a.facts.length <= 281474976710656 /\ a.atoms.length <= 281474976710656) : VC_sAssertionValid a k := by
 unfold VC_sAssertionValid VC_sAssertionValid_2 VC_sAssertionValid_1
 simp only [cln, Nat.reduceEqDiff, Nat.reduceLeDiff, Nat.reduceAdd]
 all_goals (try simp only [opn])
 all_goals (repeat' (first | apply And.intro | intro _))
 all_goals (first | omega | (simp_all; done) | grind [asV, take_all, all_take, take_full, Ty.zero])
theorem ok_sAssertionValid : FnOk Try.prog E 74 c_sAssertionValid :=
 fn_okQ (l := L_sAssertionValid) (lp := P_sAssertionValid) (hp := fun _ => false) (gcs := fun _ => none) (perm := fun _ => []) tabOk mix ⟨ok_l3Atom, ok_sFactsValid, trivial⟩ trivial Try.func74 rfl (by kernel_rfl) (by decide) (by kernel_rfl) (anns := fun x _ => an_sAssertionValid x.1) (fun ⟨a, _⟩ k hp _ => Eq.mp (by kernel_rfl) (vcn_sAssertionValid a k hp)) tot_fn
end Go.Proofs.Ytopjgjelkpkmmaa
