/-
  Contracts of single functions of the program, each shown by the engine: what a call returns for arguments within the contract's bounds.
-/
import Derived.Test.YtejcmcbpfnmlaaaFFnCasesOfa
import Derived.Test.YtejcmcbpfnmlaaaFFnCasesOfb
import Derived.Test.YtejcmcbpfnmlaaaEe
import Derived.Test.YtejcmcbpfnmlaaaEf
set_option linter.unusedSimpArgs false
set_option linter.unusedVariables false
set_option linter.unusedSectionVars false

namespace Go.Proofs.Ytejcmcbpfnmlaaa
open Go.SE Go.RowKit
set_option linter.unusedSimpArgs false
set_option linter.unusedVariables false
set_option maxHeartbeats 1000000
set_option maxRecDepth 100000
/-! tcList -/
abbrev c_tcList : Con := ⟨[.kase], [.sl .int], fun (c, _) => c.length = 9, .inl fun (c, _) => (c, ()), fun _ => 0⟩
abbrev L_tcList : List (FuncId × Con) := [(125, c_copyInts)]
abbrev P_tcList : List (FuncId × PT) := []
def VC_tcList (c : List Int) (k : Nat) : Prop := TN ∧ TN ∧ (c.length = 9 ∧ 9 ≤ 4294967296) ∧ ((c.length ≤ 1048576) ∧ True ∧ TN ∧ True) ∧ True ∧ (((c, ()) : (List Int) × Unit) = (c, ())) ∧ (True ∧ True) ∧ ((TF ∧ TF) ∧ True) ∧ True ∧ (True ∧ True) ∧ TF
theorem vcn_tcList (c : List Int) (k : Nat) (hp : c.length = 9) : VC_tcList c k := by
  unfold VC_tcList
  simp only [cln, Nat.reduceEqDiff, Nat.reduceLeDiff, Nat.reduceAdd]
  all_goals (try simp only [opn])
  all_goals (repeat' (first | apply And.intro | intro _))
  all_goals (first | omega | (simp_all; done) | grind [])
theorem vce_tcList (c : List Int) (k : Nat) : VC_tcList c k = vcQ tab (lookF L_tcList) (lookP P_tcList) (fun _ => false) (fun _ => none) (fun _ _ => none) (fun _ => []) (bodyOf Try.f71) (entry (encs c_tcList.aks (c, ())) (rdOf false k)) (retOk tab c_tcList Try.f71.results.toList (c, ()) k) := by kernel_rfl
theorem ok_tcList : FnOk Try.prog E 71 c_tcList :=
  fn_okQ (l := L_tcList) (lp := P_tcList) (hp := fun _ => false) (gcs := fun _ => none) (perm := fun _ => []) tabOk mix ⟨ok_copyInts, trivial⟩ trivial Try.func71 rfl (by kernel_rfl) (by decide) (by kernel_rfl) (anns := fun x _ => fun _ _ => none) (fun ⟨c, _⟩ k hp _ => (vce_tcList c k).mp (vcn_tcList c k hp)) tot_fn
end Go.Proofs.Ytejcmcbpfnmlaaa

namespace Go.Proofs.Ytejcmcbpfnmlaaa
open Go.SE Go.RowKit
set_option linter.unusedSimpArgs false
set_option linter.unusedVariables false
set_option maxHeartbeats 1000000
set_option maxRecDepth 100000
/-! iCasesOf -/
abbrev c_iCasesOf : Con := ⟨[.asn], [.sl .ints], fun (a, _) => a.facts.length ≤ 281474976710656 ∧ a.atoms.length ≤ 281474976710656, .inl fun (a, _) => (cond (asV a) (casesF a) [], ()), fun _ => 0⟩
abbrev L_iCasesOf : List (FuncId × Con) := [(19, c_iAssertionValid), (71, c_tcList)]
abbrev P_iCasesOf : List (FuncId × PT) := [(67, pt_possibleCases)]
def hp_iCasesOf : Nat → Bool
  | 4 => true
  | _ => false
def perm_iCasesOf : Nat → List (List Nat)
  | 6 => [[0, 1, 2, 3, 4, 5], [1, 0, 2, 3, 4, 5], [1, 2, 0, 3, 4, 5], [1, 2, 3, 0, 4, 5]]
  | _ => []
def ra_iCasesOf (a : GAsn) : St → Option RAnn := fun se => some ⟨fun _ => true, [2, 3], [32, 48, 63], fun i => [], [32], fun i => [(63, .blk [.own 7])], fun i => [⟨7, .cell 63 0, .ints, (itEn a (bits .or .u16 (tsWith (tsA a) 0) 0)).take i⟩], 300000⟩
def VC_iCasesOf_1 (a : GAsn) (k : Nat) (i1 : Nat) (c2_0 : Int) (c2_1 : Int) (c2_2 : Int) (c2_3 : Int) (c2_4 : Int) (c2_5 : Int) (c2_6 : Int) (c2_7 : Int) (c2_8 : Int) : Prop := ((True ∧ (9 = ([c2_0, c2_1, c2_2, c2_3, c2_4, c2_5, c2_6, c2_7, c2_8] : List Int).length * 1) ∧ ((([c2_0, c2_1, c2_2, c2_3, c2_4, c2_5, c2_6, c2_7, c2_8] : List Int).length = 9) ∧ True ∧ TN ∧ True) ∧ (TN ∧ TF ∧ True) ∧ (TN ∧ TF ∧ TF ∧ (((itEn a (bits .or .u16 (tsWith (tsA a) 0) 0)).take i1).length + ([([c2_0, c2_1, c2_2, c2_3, c2_4, c2_5, c2_6, c2_7, c2_8] : List Int)] : List (List Int)).length ≤ 4294967296)) ∧ (TF ∧ TF) ∧ (true = true) ∧ ((none : Option Nat) = none) ∧ TT ∧ (RL [.s (.c (.own 32)), .s (.c (.ptr 63 0))]) ∧ (RL []) ∧ (RM [some (.sl 32 .ints ([] : List (List Int)))]) ∧ (RM [some (.blk [.own 300240])]) ∧ (((some (((itEn a (bits .or .u16 (tsWith (tsA a) 0) 0)).take i1) ++ ([([c2_0, c2_1, c2_2, c2_3, c2_4, c2_5, c2_6, c2_7, c2_8] : List Int)] : List (List Int))) : Option (List (List Int))) = some ((itEn a (bits .or .u16 (tsWith (tsA a) 0) 0)).take (i1 + 1))) ∧ True) ∧ TT) ∧ ((9 = ([c2_0, c2_1, c2_2, c2_3, c2_4, c2_5, c2_6, c2_7, c2_8] : List Int).length * 1) ∧ True ∧ ((([c2_0, c2_1, c2_2, c2_3, c2_4, c2_5, c2_6, c2_7, c2_8] : List Int).length = 9) ∧ True ∧ TN ∧ True) ∧ (TN ∧ TF ∧ True) ∧ (TN ∧ TF ∧ TF ∧ (((itEn a (bits .or .u16 (tsWith (tsA a) 0) 0)).take i1).length + ([([c2_0, c2_1, c2_2, c2_3, c2_4, c2_5, c2_6, c2_7, c2_8] : List Int)] : List (List Int)).length ≤ 4294967296)) ∧ (TF ∧ TF) ∧ (true = true) ∧ ((none : Option Nat) = none) ∧ TT ∧ (RL [.s (.c (.own 32)), .s (.c (.ptr 63 0))]) ∧ (RL []) ∧ (RM [some (.sl 32 .ints ([] : List (List Int)))]) ∧ (RM [some (.blk [.own 300240])]) ∧ (((some (((itEn a (bits .or .u16 (tsWith (tsA a) 0) 0)).take i1) ++ ([([c2_0, c2_1, c2_2, c2_3, c2_4, c2_5, c2_6, c2_7, c2_8] : List Int)] : List (List Int))) : Option (List (List Int))) = some ((itEn a (bits .or .u16 (tsWith (tsA a) 0) 0)).take (i1 + 1))) ∧ True) ∧ TT) ∧ ((9 = ([c2_0, c2_1, c2_2, c2_3, c2_4, c2_5, c2_6, c2_7, c2_8] : List Int).length * 1) ∧ ((([c2_0, c2_1, c2_2, c2_3, c2_4, c2_5, c2_6, c2_7, c2_8] : List Int).length = 9) ∧ True ∧ TN ∧ True) ∧ True ∧ (TN ∧ TF ∧ True) ∧ (TN ∧ TF ∧ TF ∧ (((itEn a (bits .or .u16 (tsWith (tsA a) 0) 0)).take i1).length + ([([c2_0, c2_1, c2_2, c2_3, c2_4, c2_5, c2_6, c2_7, c2_8] : List Int)] : List (List Int)).length ≤ 4294967296)) ∧ (TF ∧ TF) ∧ (true = true) ∧ ((none : Option Nat) = none) ∧ TT ∧ (RL [.s (.c (.own 32)), .s (.c (.ptr 63 0))]) ∧ (RL []) ∧ (RM [some (.sl 32 .ints ([] : List (List Int)))]) ∧ (RM [some (.blk [.own 300240])]) ∧ (((some (((itEn a (bits .or .u16 (tsWith (tsA a) 0) 0)).take i1) ++ ([([c2_0, c2_1, c2_2, c2_3, c2_4, c2_5, c2_6, c2_7, c2_8] : List Int)] : List (List Int))) : Option (List (List Int))) = some ((itEn a (bits .or .u16 (tsWith (tsA a) 0) 0)).take (i1 + 1))) ∧ True) ∧ TT) ∧ ((9 = ([c2_0, c2_1, c2_2, c2_3, c2_4, c2_5, c2_6, c2_7, c2_8] : List Int).length * 1) ∧ ((([c2_0, c2_1, c2_2, c2_3, c2_4, c2_5, c2_6, c2_7, c2_8] : List Int).length = 9) ∧ True ∧ TN ∧ True) ∧ (TN ∧ TF ∧ True) ∧ True ∧ (TN ∧ TF ∧ TF ∧ (((itEn a (bits .or .u16 (tsWith (tsA a) 0) 0)).take i1).length + ([([c2_0, c2_1, c2_2, c2_3, c2_4, c2_5, c2_6, c2_7, c2_8] : List Int)] : List (List Int)).length ≤ 4294967296)) ∧ (TF ∧ TF) ∧ (true = true) ∧ ((none : Option Nat) = none) ∧ TT ∧ (RL [.s (.c (.own 32)), .s (.c (.ptr 63 0))]) ∧ (RL []) ∧ (RM [some (.sl 32 .ints ([] : List (List Int)))]) ∧ (RM [some (.blk [.own 300240])]) ∧ (((some (((itEn a (bits .or .u16 (tsWith (tsA a) 0) 0)).take i1) ++ ([([c2_0, c2_1, c2_2, c2_3, c2_4, c2_5, c2_6, c2_7, c2_8] : List Int)] : List (List Int))) : Option (List (List Int))) = some ((itEn a (bits .or .u16 (tsWith (tsA a) 0) 0)).take (i1 + 1))) ∧ True) ∧ TT) ∧ True)
def VC_iCasesOf (a : GAsn) (k : Nat) : Prop := TT ∧ TN ∧ TN ∧ TT ∧ True ∧ ((a.facts.length ≤ 281474976710656 ∧ a.atoms.length ≤ 281474976710656) ∧ True ∧ True) ∧ True ∧ (vcIf (!(asV a)) (TT ∧ TN ∧ ((none : Option Nat) = none) ∧ (((([] : List (List Int)), ()) : (List (List Int)) × Unit) = (cond (asV a) (casesF a) [], ())) ∧ (True ∧ True) ∧ ((TF ∧ TF) ∧ True) ∧ True ∧ (True ∧ True) ∧ TF) (TT ∧ (TN ∧ TN ∧ True) ∧ TT ∧ True ∧ ((2 : Nat) ≤ 12) ∧ TN ∧ True ∧ True ∧ ((a.facts.length ≤ 281474976710656 ∧ a.atoms.length ≤ 281474976710656) ∧ True ∧ True) ∧ ((0 ≤ (tsA a) ∧ (tsA a) < 512) ∧ True ∧ True) ∧ True ∧ True ∧ (TN ∧ True) ∧ (TF ∧ TF) ∧ True ∧ True ∧ ((((123 : Nat) = 123) ∧ ((none : Option Nat) = none) ∧ (itPre a (bits .or .u16 (tsWith (tsA a) (0 : Int)) (0 : Int)))) ∧ TT ∧ TT ∧ (RL [.s (.c (.own 32)), .s (.c (.ptr 63 0))]) ∧ (RL []) ∧ (RM [some (.sl 32 .ints ([] : List (List Int)))]) ∧ (RM [some (.blk [.own 48])]) ∧ (((some ([] : List (List Int)) : Option (List (List Int))) = some ((itEn a (bits .or .u16 (tsWith (tsA a) 0) 0)).take 0)) ∧ True) ∧ TT) ∧ (∀ i1 : Nat, ∀ c2_0 : Int, ∀ c2_1 : Int, ∀ c2_2 : Int, ∀ c2_3 : Int, ∀ c2_4 : Int, ∀ c2_5 : Int, ∀ c2_6 : Int, ∀ c2_7 : Int, ∀ c2_8 : Int, ((itEn a (bits .or .u16 (tsWith (tsA a) (0 : Int)) (0 : Int)))[i1]? = some ([c2_0, c2_1, c2_2, c2_3, c2_4, c2_5, c2_6, c2_7, c2_8] : List Int)) → (((itEn a (bits .or .u16 (tsWith (tsA a) (0 : Int)) (0 : Int))).take i1).all (fun _ => true) = true) → TT ∧ (TN ∧ True) ∧ ((([c2_0, c2_1, c2_2, c2_3, c2_4, c2_5, c2_6, c2_7, c2_8] : List Int).length = (List.replicate 9 (0 : Int)).length) ∧ TF ∧ TF) ∧ ((none : Option Nat) = none) ∧ True ∧ (VC_iCasesOf_1 a k i1 c2_0 c2_1 c2_2 c2_3 c2_4 c2_5 c2_6 c2_7 c2_8)) ∧ (((itEn a (bits .or .u16 (tsWith (tsA a) (0 : Int)) (0 : Int))).all (fun _ => true) = true) → TT ∧ True ∧ True ∧ ((none : Option Nat) = none) ∧ ((((itEn a (bits .or .u16 (tsWith (tsA a) 0) 0)).take ((itEn a (bits .or .u16 (tsWith (tsA a) (0 : Int)) (0 : Int))).length), ()) : (List (List Int)) × Unit) = (cond (asV a) (casesF a) [], ())) ∧ (True ∧ True) ∧ ((TF ∧ TF) ∧ True) ∧ True ∧ (True ∧ True) ∧ TF)))
theorem vcn_iCasesOf (a : GAsn) (k : Nat) (hp : a.facts.length ≤ 281474976710656 ∧ a.atoms.length ≤ 281474976710656) : VC_iCasesOf a k := by
  unfold VC_iCasesOf VC_iCasesOf_1
  simp only [cln, Nat.reduceEqDiff, Nat.reduceLeDiff, Nat.reduceAdd]
  all_goals (try simp only [opn])
  all_goals (repeat' (first | apply And.intro | intro _))
  all_goals (repeat (cases ‹_ ∧ _›))
  all_goals (first | omega | with_reducible assumption | (simp_all; done) | skip)
  all_goals (first
   | with_reducible exact ll_ne (by assumption) | with_reducible exact ll_no (by assumption)
   | exact ll_len ‹∀ x ∈ a, _› (by omega) | exact ll_len ‹∀ x ∈ b, _› (by omega)
   | with_reducible exact ll_step (by assumption) (by assumption) (by assumption) (by assumption)
   | with_reducible exact ll_end (by assumption) (by assumption) (by assumption)
   | with_reducible exact vA_of (by assumption) | with_reducible exact fl9_len _ | with_reducible exact sc_end (by assumption)
   | with_reducible exact (itl_bd (by assumption)).1.1 | with_reducible exact (itl_bd (by assumption)).1.2 | with_reducible exact (itl_bd (by assumption)).2.1 | with_reducible exact (itl_bd (by assumption)).2.2
   | with_reducible exact itl_pre (by assumption)
   | with_reducible exact itl_len (by assumption) | with_reducible exact itl_step (by assumption) | with_reducible exact itl_end (by assumption)
   | skip)
theorem vce_iCasesOf (a : GAsn) (k : Nat) : VC_iCasesOf a k = vcY tab (lookF L_iCasesOf) (lookP P_iCasesOf) noSpB (spR tab (lookF L_iCasesOf) (lookP P_iCasesOf) hp_iCasesOf (fun _ => none) (fun _ _ _ => none) (perm_iCasesOf) Try.f23.ntmps 123 itPre itEn (ra_iCasesOf a)) (fun b => !b) hp_iCasesOf (fun _ => none) (fun _ _ _ => none) (perm_iCasesOf) (bodyOf Try.f23) (entry (encs c_iCasesOf.aks (a, ())) none) false (retR tab c_iCasesOf Try.f23.results.toList (a, ())) := by kernel_rfl
abbrev spc_iCasesOf (a : GAsn) : SpCode Bool := spR tab (lookF L_iCasesOf) (lookP P_iCasesOf) hp_iCasesOf (fun _ => none) (fun _ _ _ => none) (perm_iCasesOf) Try.f23.ntmps 123 itPre itEn (ra_iCasesOf a)
theorem spcok_iCasesOf (a : GAsn) (wE : World) (ro0 : Nat → Option (Array Value)) (ρ : Nat) : SpcOk Fence.wide 0 Try.prog E (AC wE ro0 ρ) Try.f23.ntmps (spc_iCasesOf a) :=
  spR_ok tabOk (kall_of (l := L_iCasesOf) ⟨ok_iAssertionValid, ok_tcList, trivial⟩) (pall_of (l := P_iCasesOf) ⟨ptok_possibleCases, trivial⟩) mix it_ok it_len it_run
theorem vcr_iCasesOf : ∀ x : Args c_iCasesOf.aks, c_iCasesOf.pre x → vcY tab (lookF L_iCasesOf) (lookP P_iCasesOf) noSpB (spc_iCasesOf x.1) (fun b => !b) hp_iCasesOf (fun _ => none) (fun _ _ _ => none) (perm_iCasesOf) (bodyOf Try.f23) (entry (encs c_iCasesOf.aks x) none) false (retR tab c_iCasesOf Try.f23.results.toList x) :=
  fun ⟨a, _⟩ hp => (vce_iCasesOf a 0).mp (vcn_iCasesOf a 0 hp)
theorem ok_iCasesOf : FnOk Try.prog E 23 c_iCasesOf :=
  fnR_ok (con := c_iCasesOf) (fn := Try.f23) (l := L_iCasesOf) (lp := P_iCasesOf) (hp := hp_iCasesOf) (gcs := fun _ => none) (perm := perm_iCasesOf) (spc := fun x => spc_iCasesOf x.1) (anns := fun x => (fun _ _ _ => none)) tabOk mix ⟨ok_iAssertionValid, ok_tcList, trivial⟩ ⟨ptok_possibleCases, trivial⟩ rfl Try.func23 rfl (by kernel_rfl) (by decide) (by kernel_rfl) (fun x _ => spcok_iCasesOf x.1) vcr_iCasesOf tot_fn
end Go.Proofs.Ytejcmcbpfnmlaaa

namespace Go.Proofs.Ytejcmcbpfnmlaaa
open Go.SE Go.RowKit
set_option linter.unusedSimpArgs false
set_option linter.unusedVariables false
set_option maxHeartbeats 1000000
set_option maxRecDepth 100000
/-! slInts -/
abbrev c_slInts : Con := ⟨[.sl .int, .sl .int], [.bool], fun (a, b, _) => a.length ≤ 281474976710656 ∧ b.length ≤ 281474976710656, .inl fun (a, b, _) => (decide (a = b), ()), fun _ => 0⟩
abbrev L_slInts : List (FuncId × Con) := []
abbrev P_slInts : List (FuncId × PT) := []
def an_slInts (a : List Int) (b : List Int) : Nat → St → Option Ann
  | 4, se => some { α := Nat, ok := fun i => i ≤ a.length ∧ a.length = b.length ∧ a.take i = b.take i, mu := fun i => a.length - i, i0 := fun _ => 0, nx := fun a _ => (fun i => i + 1) a, live := [0, 1], sets := fun i => [(5, sv (.int .i64 i))], mids := [], blks := fun i => [], owns := fun i => [], rd := fun r _ => r, base := 100000 }
  | _, _ => none
def VC_slInts (a : List Int) (b : List Int) (k : Nat) : Prop := True ∧ True ∧ True ∧ True ∧ True ∧ True ∧ (vcIf (((a.length : Nat) : Int) != ((b.length : Nat) : Int)) (True ∧ (((false, ()) : Bool × Unit) = (decide (a = b), ())) ∧ True ∧ True ∧ True ∧ True ∧ TF) (True ∧ ((0 ≤ a.length ∧ a.length = b.length ∧ a.take 0 = b.take 0) ∧ TT ∧ (RL [.s (.c (.d (.arr .int a))), .s (.c (.d (.arr .int b)))]) ∧ (([.s (.c (.d (.val (.int .i64 (0 : Int)))))] : List S) = [.s (.c (.d (.val (.int .i64 ((0 : Nat) : Int)))))]) ∧ (RM []) ∧ (RM []) ∧ True ∧ TT) ∧ (∀ i1 : Nat, (i1 ≤ a.length ∧ a.length = b.length ∧ a.take i1 = b.take i1) → True ∧ True ∧ True ∧ True ∧ (vcIf (decide (((i1 : Nat) : Int) < ((a.length : Nat) : Int))) (True ∧ True ∧ (0 ≤ ((i1 : Nat) : Int) ∧ ((i1 : Nat) : Int) < ((a.length : Nat) : Int)) ∧ True ∧ True ∧ True ∧ (0 ≤ ((i1 : Nat) : Int) ∧ ((i1 : Nat) : Int) < ((b.length : Nat) : Int)) ∧ True ∧ True ∧ (vcIf ((a.getD i1 (0 : Int)) != (b.getD i1 (0 : Int))) (True ∧ (((false, ()) : Bool × Unit) = (decide (a = b), ())) ∧ True ∧ True ∧ True ∧ True ∧ TF) (True ∧ (inK .i64 (((i1 : Nat) : Int) + (1 : Int))) ∧ True ∧ ((i1 + 1) ≤ a.length ∧ a.length = b.length ∧ a.take (i1 + 1) = b.take (i1 + 1)) ∧ (a.length - (i1 + 1) < a.length - i1) ∧ TT ∧ (RL [.s (.c (.d (.arr .int a))), .s (.c (.d (.arr .int b)))]) ∧ (([.s (.c (.d (.val (.int .i64 (((i1 : Nat) : Int) + (1 : Int))))))] : List S) = [.s (.c (.d (.val (.int .i64 (((i1 + 1) : Nat) : Int)))))]) ∧ (RM []) ∧ (RM []) ∧ True ∧ TT))) (True ∧ (((true, ()) : Bool × Unit) = (decide (a = b), ())) ∧ True ∧ True ∧ True ∧ True ∧ TF)))))
theorem vcn_slInts (a : List Int) (b : List Int) (k : Nat) (hp : a.length ≤ 281474976710656 ∧ b.length ≤ 281474976710656) : VC_slInts a b k := by
  unfold VC_slInts
  simp only [cln, Nat.reduceEqDiff, Nat.reduceLeDiff, Nat.reduceAdd]
  all_goals (try simp only [opn])
  all_goals (repeat' (first | apply And.intro | intro _))
  all_goals (first | omega | (simp_all; done) | grind [same_step, same_not, take_full])
theorem vce_slInts (a : List Int) (b : List Int) (k : Nat) : VC_slInts a b k = vcQ tab (lookF L_slInts) (lookP P_slInts) (fun _ => false) (fun _ => none) (an_slInts a b) (fun _ => []) (bodyOf Try.f72) (entry (encs c_slInts.aks (a, b, ())) (rdOf false k)) (retOk tab c_slInts Try.f72.results.toList (a, b, ()) k) := by kernel_rfl
theorem ok_slInts : FnOk Try.prog E 72 c_slInts :=
  fn_okQ (l := L_slInts) (lp := P_slInts) (hp := fun _ => false) (gcs := fun _ => none) (perm := fun _ => []) tabOk mix trivial trivial Try.func72 rfl (by kernel_rfl) (by decide) (by kernel_rfl) (anns := fun x _ => an_slInts x.1 x.2.1) (fun ⟨a, b, _⟩ k hp _ => (vce_slInts a b k).mp (vcn_slInts a b k hp)) tot_fn
end Go.Proofs.Ytejcmcbpfnmlaaa

namespace Go.Proofs.Ytejcmcbpfnmlaaa
open Go.SE Go.RowKit
set_option linter.unusedSimpArgs false
set_option linter.unusedVariables false
set_option maxHeartbeats 1000000
set_option maxRecDepth 100000
/-! slLists -/
abbrev c_slLists : Con := ⟨[.sl .ints, .sl .ints], [.bool], fun (a, b, _) => a.length ≤ 281474976710656 ∧ b.length ≤ 281474976710656 ∧ (∀ x ∈ a, x.length ≤ 9) ∧ (∀ x ∈ b, x.length ≤ 9), .inl fun (a, b, _) => (decide (a = b), ()), fun _ => 0⟩
abbrev L_slLists : List (FuncId × Con) := [(72, c_slInts)]
abbrev P_slLists : List (FuncId × PT) := []
def an_slLists (a : List (List Int)) (b : List (List Int)) : Nat → St → Option Ann
  | 4, se => some { α := Nat, ok := fun i => i ≤ a.length ∧ a.length = b.length ∧ a.take i = b.take i, mu := fun i => a.length - i, i0 := fun _ => 0, nx := fun a _ => (fun i => i + 1) a, live := [0, 1], sets := fun i => [(5, sv (.int .i64 i))], mids := [], blks := fun i => [], owns := fun i => [], rd := fun r _ => r, base := 100000 }
  | _, _ => none
def VC_slLists (a : List (List Int)) (b : List (List Int)) (k : Nat) : Prop := True ∧ True ∧ True ∧ True ∧ True ∧ True ∧ (vcIf (((a.length : Nat) : Int) != ((b.length : Nat) : Int)) (True ∧ (((false, ()) : Bool × Unit) = (decide (a = b), ())) ∧ True ∧ True ∧ True ∧ True ∧ TF) (True ∧ ((0 ≤ a.length ∧ a.length = b.length ∧ a.take 0 = b.take 0) ∧ TT ∧ (RL [.s (.c (.d (.arr .ints a))), .s (.c (.d (.arr .ints b)))]) ∧ (([.s (.c (.d (.val (.int .i64 (0 : Int)))))] : List S) = [.s (.c (.d (.val (.int .i64 ((0 : Nat) : Int)))))]) ∧ (RM []) ∧ (RM []) ∧ True ∧ TT) ∧ (∀ i1 : Nat, (i1 ≤ a.length ∧ a.length = b.length ∧ a.take i1 = b.take i1) → True ∧ True ∧ True ∧ True ∧ (vcIf (decide (((i1 : Nat) : Int) < ((a.length : Nat) : Int))) (True ∧ True ∧ (0 ≤ ((i1 : Nat) : Int) ∧ ((i1 : Nat) : Int) < ((a.length : Nat) : Int)) ∧ True ∧ True ∧ True ∧ (0 ≤ ((i1 : Nat) : Int) ∧ ((i1 : Nat) : Int) < ((b.length : Nat) : Int)) ∧ True ∧ (((a.getD i1 ([] : List Int)).length ≤ 281474976710656 ∧ (b.getD i1 ([] : List Int)).length ≤ 281474976710656) ∧ True ∧ True) ∧ True ∧ (vcIf (!(decide ((a.getD i1 ([] : List Int)) = (b.getD i1 ([] : List Int))))) (True ∧ (((false, ()) : Bool × Unit) = (decide (a = b), ())) ∧ True ∧ True ∧ True ∧ True ∧ TF) (True ∧ (inK .i64 (((i1 : Nat) : Int) + (1 : Int))) ∧ True ∧ ((i1 + 1) ≤ a.length ∧ a.length = b.length ∧ a.take (i1 + 1) = b.take (i1 + 1)) ∧ (a.length - (i1 + 1) < a.length - i1) ∧ TT ∧ (RL [.s (.c (.d (.arr .ints a))), .s (.c (.d (.arr .ints b)))]) ∧ (([.s (.c (.d (.val (.int .i64 (((i1 : Nat) : Int) + (1 : Int))))))] : List S) = [.s (.c (.d (.val (.int .i64 (((i1 + 1) : Nat) : Int)))))]) ∧ (RM []) ∧ (RM []) ∧ True ∧ TT))) (True ∧ (((true, ()) : Bool × Unit) = (decide (a = b), ())) ∧ True ∧ True ∧ True ∧ True ∧ TF)))))
theorem vcn_slLists (a : List (List Int)) (b : List (List Int)) (k : Nat) (hp : a.length ≤ 281474976710656 ∧ b.length ≤ 281474976710656 ∧ (∀ x ∈ a, x.length ≤ 9) ∧ (∀ x ∈ b, x.length ≤ 9)) : VC_slLists a b k := by
  unfold VC_slLists
  simp only [cln, Nat.reduceEqDiff, Nat.reduceLeDiff, Nat.reduceAdd]
  all_goals (try simp only [opn])
  all_goals (repeat' (first | apply And.intro | intro _))
  all_goals (repeat (cases ‹_ ∧ _›))
  all_goals (first | omega | with_reducible assumption | (simp_all; done) | skip)
  all_goals (first
   | with_reducible exact ll_ne (by assumption) | with_reducible exact ll_no (by assumption)
   | exact ll_len ‹∀ x ∈ a, _› (by omega) | exact ll_len ‹∀ x ∈ b, _› (by omega)
   | with_reducible exact ll_step (by assumption) (by assumption) (by assumption) (by assumption)
   | with_reducible exact ll_end (by assumption) (by assumption) (by assumption)
   | with_reducible exact vA_of (by assumption) | with_reducible exact fl9_len _ | with_reducible exact sc_end (by assumption)
   | with_reducible exact (itl_bd (by assumption)).1.1 | with_reducible exact (itl_bd (by assumption)).1.2 | with_reducible exact (itl_bd (by assumption)).2.1 | with_reducible exact (itl_bd (by assumption)).2.2
   | with_reducible exact itl_pre (by assumption)
   | with_reducible exact itl_len (by assumption) | with_reducible exact itl_step (by assumption) | with_reducible exact itl_end (by assumption)
   | skip)
theorem vce_slLists (a : List (List Int)) (b : List (List Int)) (k : Nat) : VC_slLists a b k = vcQ tab (lookF L_slLists) (lookP P_slLists) (fun _ => false) (fun _ => none) (an_slLists a b) (fun _ => []) (bodyOf Try.f24) (entry (encs c_slLists.aks (a, b, ())) (rdOf false k)) (retOk tab c_slLists Try.f24.results.toList (a, b, ()) k) := by kernel_rfl
theorem ok_slLists : FnOk Try.prog E 24 c_slLists :=
  fn_okQ (l := L_slLists) (lp := P_slLists) (hp := fun _ => false) (gcs := fun _ => none) (perm := fun _ => []) tabOk mix ⟨ok_slInts, trivial⟩ trivial Try.func24 rfl (by kernel_rfl) (by decide) (by kernel_rfl) (anns := fun x _ => an_slLists x.1 x.2.1) (fun ⟨a, b, _⟩ k hp _ => (vce_slLists a b k).mp (vcn_slLists a b k hp)) tot_fn
end Go.Proofs.Ytejcmcbpfnmlaaa

namespace Go.Proofs.Ytejcmcbpfnmlaaa
open Go.SE Go.RowKit
set_option linter.unusedSimpArgs false
set_option linter.unusedVariables false
set_option maxHeartbeats 1000000
set_option maxRecDepth 100000
/-! l1Is -/
abbrev c_l1Is : Con := ⟨[.int], [.bool], fun _ => True, .inl fun (t, _) => (isT t, ()), fun _ => 0⟩
abbrev L_l1Is : List (FuncId × Con) := []
abbrev P_l1Is : List (FuncId × PT) := []
def VC_l1Is (t : Int) (k : Nat) : Prop := True ∧ True ∧ True ∧ True ∧ (vcIf (decide ((0 : Int) ≤ t)) (True ∧ True ∧ True ∧ True ∧ (((decide (t ≤ (8 : Int)), ()) : Bool × Unit) = (isT t, ())) ∧ True ∧ True ∧ True ∧ True ∧ TF) (True ∧ True ∧ (((false, ()) : Bool × Unit) = (isT t, ())) ∧ True ∧ True ∧ True ∧ True ∧ TF))
theorem vcn_l1Is (t : Int) (k : Nat) : VC_l1Is t k := by
  unfold VC_l1Is
  simp only [cln, Nat.reduceEqDiff, Nat.reduceLeDiff, Nat.reduceAdd]
  cases h : decide (0 ≤ t) <;> simp [vcIf, isT, h]
theorem vce_l1Is (t : Int) (k : Nat) : VC_l1Is t k = vcQ tab (lookF L_l1Is) (lookP P_l1Is) (fun _ => false) (fun _ => none) (fun _ _ => none) (fun _ => []) (bodyOf Try.f104) (entry (encs c_l1Is.aks (t, ())) (rdOf false k)) (retOk tab c_l1Is Try.f104.results.toList (t, ()) k) := by kernel_rfl
theorem ok_l1Is : FnOk Try.prog E 104 c_l1Is :=
  fn_okQ (l := L_l1Is) (lp := P_l1Is) (hp := fun _ => false) (gcs := fun _ => none) (perm := fun _ => []) tabOk mix trivial trivial Try.func104 rfl (by kernel_rfl) (by decide) (by kernel_rfl) (anns := fun x _ => fun _ _ => none) (fun ⟨t, _⟩ k _ _ => (vce_l1Is t k).mp (vcn_l1Is t k)) tot_fn
end Go.Proofs.Ytejcmcbpfnmlaaa

namespace Go.Proofs.Ytejcmcbpfnmlaaa
open Go.SE Go.RowKit
set_option linter.unusedSimpArgs false
set_option linter.unusedVariables false
set_option maxHeartbeats 1000000
set_option maxRecDepth 100000
/-! l3Atom -/
abbrev c_l3Atom : Con := ⟨[.atom], [.bool], fun _ => True, .inl fun (x, _) => (atV x, ()), fun _ => 0⟩
abbrev L_l3Atom : List (FuncId × Con) := [(104, c_l1Is)]
abbrev P_l3Atom : List (FuncId × PT) := []
def VC_l3Atom (x : GAtom) (k : Nat) : Prop := TN ∧ True ∧ True ∧ True ∧ True ∧ True ∧ (vcIf (x.kind == (1 : Int)) (True ∧ True ∧ True ∧ True ∧ (True ∧ True ∧ True) ∧ True ∧ True ∧ (vcIf (isT x.a) (True ∧ True ∧ (True ∧ True ∧ True) ∧ True ∧ True ∧ ((((isT x.b), ()) : Bool × Unit) = (atV x, ())) ∧ True ∧ True ∧ True ∧ True ∧ TF) (True ∧ True ∧ (((false, ()) : Bool × Unit) = (atV x, ())) ∧ True ∧ True ∧ True ∧ True ∧ TF))) (True ∧ True ∧ True ∧ True ∧ True ∧ (vcIf (x.kind == (2 : Int)) (True ∧ True ∧ (True ∧ True ∧ True) ∧ True ∧ True ∧ (vcIf (isT x.a) (True ∧ True ∧ (True ∧ True ∧ True) ∧ True ∧ True ∧ ((((isT x.b), ()) : Bool × Unit) = (atV x, ())) ∧ True ∧ True ∧ True ∧ True ∧ TF) (True ∧ True ∧ (((false, ()) : Bool × Unit) = (atV x, ())) ∧ True ∧ True ∧ True ∧ True ∧ TF))) (True ∧ True ∧ True ∧ True ∧ (((false, ()) : Bool × Unit) = (atV x, ())) ∧ True ∧ True ∧ True ∧ True ∧ TF))))
theorem vcn_l3Atom (x : GAtom) (k : Nat) : VC_l3Atom x k := by
  unfold VC_l3Atom
  simp only [cln, Nat.reduceEqDiff, Nat.reduceLeDiff, Nat.reduceAdd]
  all_goals (try simp only [opn])
  all_goals (repeat' (first | apply And.intro | intro _))
  all_goals (first | omega | (simp_all; done) | grind [atV])
theorem vce_l3Atom (x : GAtom) (k : Nat) : VC_l3Atom x k = vcQ tab (lookF L_l3Atom) (lookP P_l3Atom) (fun _ => false) (fun _ => none) (fun _ _ => none) (fun _ => []) (bodyOf Try.f126) (entry (encs c_l3Atom.aks (x, ())) (rdOf false k)) (retOk tab c_l3Atom Try.f126.results.toList (x, ()) k) := by kernel_rfl
theorem ok_l3Atom : FnOk Try.prog E 126 c_l3Atom :=
  fn_okQ (l := L_l3Atom) (lp := P_l3Atom) (hp := fun _ => false) (gcs := fun _ => none) (perm := fun _ => []) tabOk mix ⟨ok_l1Is, trivial⟩ trivial Try.func126 rfl (by kernel_rfl) (by decide) (by kernel_rfl) (anns := fun x _ => fun _ _ => none) (fun ⟨x, _⟩ k _ _ => (vce_l3Atom x k).mp (vcn_l3Atom x k)) tot_fn
end Go.Proofs.Ytejcmcbpfnmlaaa

namespace Go.Proofs.Ytejcmcbpfnmlaaa
open Go.SE Go.RowKit
set_option linter.unusedSimpArgs false
set_option linter.unusedVariables false
set_option maxHeartbeats 1000000
set_option maxRecDepth 100000
/-! sFactValid -/
abbrev c_sFactValid : Con := ⟨[.fact], [.bool], fun _ => True, .inl fun (f, _) => (fV f, ()), fun _ => 0⟩
abbrev L_sFactValid : List (FuncId × Con) := [(104, c_l1Is)]
abbrev P_sFactValid : List (FuncId × PT) := []
def VC_sFactValid (f : GFact) (k : Nat) : Prop := TN ∧ True ∧ True ∧ True ∧ (True ∧ True ∧ True) ∧ True ∧ (vcIf (isT f.a) (True ∧ True ∧ (True ∧ True ∧ True) ∧ True ∧ True ∧ ((((isT f.b), ()) : Bool × Unit) = (fV f, ())) ∧ True ∧ True ∧ True ∧ True ∧ TF) (True ∧ True ∧ (((false, ()) : Bool × Unit) = (fV f, ())) ∧ True ∧ True ∧ True ∧ True ∧ TF))
theorem vcn_sFactValid (f : GFact) (k : Nat) : VC_sFactValid f k := by
  unfold VC_sFactValid
  simp only [cln, Nat.reduceEqDiff, Nat.reduceLeDiff, Nat.reduceAdd]
  cases h : isT f.a <;> simp [vcIf, fV, h]
theorem vce_sFactValid (f : GFact) (k : Nat) : VC_sFactValid f k = vcQ tab (lookF L_sFactValid) (lookP P_sFactValid) (fun _ => false) (fun _ => none) (fun _ _ => none) (fun _ => []) (bodyOf Try.f97) (entry (encs c_sFactValid.aks (f, ())) (rdOf false k)) (retOk tab c_sFactValid Try.f97.results.toList (f, ()) k) := by kernel_rfl
theorem ok_sFactValid : FnOk Try.prog E 97 c_sFactValid :=
  fn_okQ (l := L_sFactValid) (lp := P_sFactValid) (hp := fun _ => false) (gcs := fun _ => none) (perm := fun _ => []) tabOk mix ⟨ok_l1Is, trivial⟩ trivial Try.func97 rfl (by kernel_rfl) (by decide) (by kernel_rfl) (anns := fun x _ => fun _ _ => none) (fun ⟨f, _⟩ k _ _ => (vce_sFactValid f k).mp (vcn_sFactValid f k)) tot_fn
end Go.Proofs.Ytejcmcbpfnmlaaa

namespace Go.Proofs.Ytejcmcbpfnmlaaa
open Go.SE Go.RowKit
set_option linter.unusedSimpArgs false
set_option linter.unusedVariables false
set_option maxHeartbeats 1000000
set_option maxRecDepth 100000
/-! sFactsValid -/
abbrev c_sFactsValid : Con := ⟨[.sl .fact], [.bool], fun (l, _) => l.length ≤ 281474976710656, .inl fun (l, _) => (fsV l, ()), fun _ => 0⟩
abbrev L_sFactsValid : List (FuncId × Con) := [(97, c_sFactValid)]
abbrev P_sFactsValid : List (FuncId × PT) := []
def an_sFactsValid (l : List GFact) : Nat → St → Option Ann
  | 2, se => some { α := Nat, ok := fun i => i ≤ l.length ∧ (l.take i).all fV = true, mu := fun i => l.length - i, i0 := fun _ => 0, nx := fun a _ => (fun i => i + 1) a, live := [0], sets := fun i => [(3, sv (.int .i64 i))], mids := [], blks := fun i => [], owns := fun i => [], rd := fun r _ => r, base := 100000 }
  | _, _ => none
def VC_sFactsValid (l : List GFact) (k : Nat) : Prop := True ∧ True ∧ ((0 ≤ l.length ∧ (l.take 0).all fV = true) ∧ TT ∧ (RL [.s (.c (.d (.arr .fact l)))]) ∧ (([.s (.c (.d (.val (.int .i64 (0 : Int)))))] : List S) = [.s (.c (.d (.val (.int .i64 ((0 : Nat) : Int)))))]) ∧ (RM []) ∧ (RM []) ∧ True ∧ TT) ∧ (∀ i1 : Nat, (i1 ≤ l.length ∧ (l.take i1).all fV = true) → True ∧ True ∧ True ∧ True ∧ (vcIf (decide (((i1 : Nat) : Int) < ((l.length : Nat) : Int))) (True ∧ True ∧ (0 ≤ ((i1 : Nat) : Int) ∧ ((i1 : Nat) : Int) < ((l.length : Nat) : Int)) ∧ True ∧ (True ∧ True ∧ True) ∧ True ∧ (vcIf (!(fV (l.getD i1 (⟨false, 0, 0⟩ : GFact)))) (True ∧ (((false, ()) : Bool × Unit) = (fsV l, ())) ∧ True ∧ True ∧ True ∧ True ∧ TF) (True ∧ (inK .i64 (((i1 : Nat) : Int) + (1 : Int))) ∧ True ∧ ((i1 + 1) ≤ l.length ∧ (l.take (i1 + 1)).all fV = true) ∧ (l.length - (i1 + 1) < l.length - i1) ∧ TT ∧ (RL [.s (.c (.d (.arr .fact l)))]) ∧ (([.s (.c (.d (.val (.int .i64 (((i1 : Nat) : Int) + (1 : Int))))))] : List S) = [.s (.c (.d (.val (.int .i64 (((i1 + 1) : Nat) : Int)))))]) ∧ (RM []) ∧ (RM []) ∧ True ∧ TT))) (True ∧ True ∧ True ∧ True ∧ (((decide (((l.length : Nat) : Int) ≤ (12 : Int)), ()) : Bool × Unit) = (fsV l, ())) ∧ True ∧ True ∧ True ∧ True ∧ TF)))
theorem vcn_sFactsValid (l : List GFact) (k : Nat) (hp : l.length ≤ 281474976710656) : VC_sFactsValid l k := by
  unfold VC_sFactsValid
  simp only [cln, Nat.reduceEqDiff, Nat.reduceLeDiff, Nat.reduceAdd]
  all_goals (try simp only [opn])
  all_goals (repeat' (first | apply And.intro | intro _))
  all_goals (first | omega | (simp_all; done) | grind [fsV, take_all, all_take, take_full, Ty.zero])
theorem vce_sFactsValid (l : List GFact) (k : Nat) : VC_sFactsValid l k = vcQ tab (lookF L_sFactsValid) (lookP P_sFactsValid) (fun _ => false) (fun _ => none) (an_sFactsValid l) (fun _ => []) (bodyOf Try.f127) (entry (encs c_sFactsValid.aks (l, ())) (rdOf false k)) (retOk tab c_sFactsValid Try.f127.results.toList (l, ()) k) := by kernel_rfl
theorem ok_sFactsValid : FnOk Try.prog E 127 c_sFactsValid :=
  fn_okQ (l := L_sFactsValid) (lp := P_sFactsValid) (hp := fun _ => false) (gcs := fun _ => none) (perm := fun _ => []) tabOk mix ⟨ok_sFactValid, trivial⟩ trivial Try.func127 rfl (by kernel_rfl) (by decide) (by kernel_rfl) (anns := fun x _ => an_sFactsValid x.1) (fun ⟨l, _⟩ k hp _ => (vce_sFactsValid l k).mp (vcn_sFactsValid l k hp)) tot_fn
end Go.Proofs.Ytejcmcbpfnmlaaa

namespace Go.Proofs.Ytejcmcbpfnmlaaa
open Go.SE Go.RowKit
set_option linter.unusedSimpArgs false
set_option linter.unusedVariables false
set_option maxHeartbeats 1000000
set_option maxRecDepth 100000
/-! sAssertionValid -/
abbrev c_sAssertionValid : Con := ⟨[.asn], [.bool], fun (a, _) => a.facts.length ≤ 281474976710656 ∧ a.atoms.length ≤ 281474976710656, .inl fun (a, _) => (asV a, ()), fun _ => 0⟩
abbrev L_sAssertionValid : List (FuncId × Con) := [(126, c_l3Atom), (127, c_sFactsValid)]
abbrev P_sAssertionValid : List (FuncId × PT) := []
def an_sAssertionValid (a : GAsn) : Nat → St → Option Ann
  | 2, se => some { α := Nat, ok := fun i => i ≤ a.atoms.length ∧ (a.atoms.take i).all atV = true, mu := fun i => a.atoms.length - i, i0 := fun _ => 0, nx := fun a _ => (fun i => i + 1) a, live := [1], sets := fun i => [(3, sv (.int .i64 i))], mids := [31], blks := fun i => [], owns := fun i => [], rd := fun r _ => r, base := 100000 }
  | _, _ => none
def VC_sAssertionValid (a : GAsn) (k : Nat) : Prop := TN ∧ True ∧ True ∧ ((0 ≤ a.atoms.length ∧ (a.atoms.take 0).all atV = true) ∧ TT ∧ (RL [.s (.c (.ptr 31 0))]) ∧ (([.s (.c (.d (.val (.int .i64 (0 : Int)))))] : List S) = [.s (.c (.d (.val (.int .i64 ((0 : Nat) : Int)))))]) ∧ (RM [some (.blk [.d (.arr .fact a.facts), .d (.arr .atom a.atoms)])]) ∧ (RM []) ∧ True ∧ TT) ∧ (∀ i1 : Nat, (i1 ≤ a.atoms.length ∧ (a.atoms.take i1).all atV = true) → True ∧ True ∧ True ∧ True ∧ True ∧ (vcIf (decide (((i1 : Nat) : Int) < ((a.atoms.length : Nat) : Int))) (True ∧ True ∧ True ∧ (0 ≤ ((i1 : Nat) : Int) ∧ ((i1 : Nat) : Int) < ((a.atoms.length : Nat) : Int)) ∧ True ∧ (True ∧ True ∧ True) ∧ True ∧ (vcIf (!(atV (a.atoms.getD i1 (⟨0, 0, 0⟩ : GAtom)))) (True ∧ (((false, ()) : Bool × Unit) = (asV a, ())) ∧ True ∧ True ∧ True ∧ True ∧ TF) (True ∧ (inK .i64 (((i1 : Nat) : Int) + (1 : Int))) ∧ True ∧ ((i1 + 1) ≤ a.atoms.length ∧ (a.atoms.take (i1 + 1)).all atV = true) ∧ (a.atoms.length - (i1 + 1) < a.atoms.length - i1) ∧ TT ∧ (RL [.s (.c (.ptr 31 0))]) ∧ (([.s (.c (.d (.val (.int .i64 (((i1 : Nat) : Int) + (1 : Int))))))] : List S) = [.s (.c (.d (.val (.int .i64 (((i1 + 1) : Nat) : Int)))))]) ∧ (RM [some (.blk [.d (.arr .fact a.facts), .d (.arr .atom a.atoms)])]) ∧ (RM []) ∧ True ∧ TT))) (True ∧ True ∧ ((a.facts.length ≤ 281474976710656) ∧ True ∧ True) ∧ True ∧ (vcIf (fsV a.facts) (True ∧ True ∧ True ∧ True ∧ True ∧ True ∧ (((decide (((a.atoms.length : Nat) : Int) ≤ (6 : Int)), ()) : Bool × Unit) = (asV a, ())) ∧ True ∧ True ∧ True ∧ True ∧ TF) (True ∧ True ∧ (((false, ()) : Bool × Unit) = (asV a, ())) ∧ True ∧ True ∧ True ∧ True ∧ TF)))))
theorem vcn_sAssertionValid (a : GAsn) (k : Nat) (hp : a.facts.length ≤ 281474976710656 ∧ a.atoms.length ≤ 281474976710656) : VC_sAssertionValid a k := by
  unfold VC_sAssertionValid
  simp only [cln, Nat.reduceEqDiff, Nat.reduceLeDiff, Nat.reduceAdd]
  all_goals (try simp only [opn])
  all_goals (repeat' (first | apply And.intro | intro _))
  all_goals (first | omega | (simp_all; done) | grind [asV, take_all, all_take, take_full, Ty.zero])
theorem vce_sAssertionValid (a : GAsn) (k : Nat) : VC_sAssertionValid a k = vcQ tab (lookF L_sAssertionValid) (lookP P_sAssertionValid) (fun _ => false) (fun _ => none) (an_sAssertionValid a) (fun _ => []) (bodyOf Try.f73) (entry (encs c_sAssertionValid.aks (a, ())) (rdOf false k)) (retOk tab c_sAssertionValid Try.f73.results.toList (a, ()) k) := by kernel_rfl
theorem ok_sAssertionValid : FnOk Try.prog E 73 c_sAssertionValid :=
  fn_okQ (l := L_sAssertionValid) (lp := P_sAssertionValid) (hp := fun _ => false) (gcs := fun _ => none) (perm := fun _ => []) tabOk mix ⟨ok_l3Atom, ok_sFactsValid, trivial⟩ trivial Try.func73 rfl (by kernel_rfl) (by decide) (by kernel_rfl) (anns := fun x _ => an_sAssertionValid x.1) (fun ⟨a, _⟩ k hp _ => (vce_sAssertionValid a k).mp (vcn_sAssertionValid a k hp)) tot_fn
end Go.Proofs.Ytejcmcbpfnmlaaa

namespace Go.Proofs.Ytejcmcbpfnmlaaa
open Go.SE Go.RowKit
set_option linter.unusedSimpArgs false
set_option linter.unusedVariables false
set_option maxHeartbeats 1000000
set_option maxRecDepth 100000
/-! l5Open -/
abbrev c_l5Open : Con := ⟨[], [.sl .int], fun _ => True, .inl fun _ => (opens, ()), fun _ => 0⟩
abbrev L_l5Open : List (FuncId × Con) := []
abbrev P_l5Open : List (FuncId × PT) := []
def an_l5Open  : Nat → St → Option Ann
  | 2, se => some { α := Nat, ok := fun i => i ≤ 8, mu := fun i => 8 - i, i0 := fun _ => 0, nx := fun a _ => (fun i => i + 1) a, live := [0], sets := fun i => [], mids := [0], blks := fun i => [], owns := fun i => [⟨7, .slot 1, .int, 0 :: List.replicate i (-1)⟩], rd := fun r _ => r, base := 100000 }
  | _, _ => none
def VC_l5Open (k : Nat) : Prop := TN ∧ (TN ∧ True) ∧ True ∧ ((0 ≤ 8) ∧ TT ∧ (RL [.s (.c (.own 0))]) ∧ (RL []) ∧ (RM [some (.sl 0 .int ([] : List Int))]) ∧ (RM []) ∧ (((some ([(0 : Int)] : List Int) : Option (List Int)) = some (0 :: List.replicate 0 (-1))) ∧ True) ∧ TT) ∧ (∀ i1 : Nat, (i1 ≤ 8) → True ∧ True ∧ True ∧ (vcIf (decide ((((0 :: List.replicate i1 (-1)).length : Nat) : Int) ≤ (8 : Int))) (True ∧ (TN ∧ True) ∧ (TN ∧ TF ∧ TF ∧ ((0 :: List.replicate i1 (-1)).length + ([(-1 : Int)] : List Int).length ≤ 4294967296)) ∧ True ∧ ((i1 + 1) ≤ 8) ∧ (8 - (i1 + 1) < 8 - i1) ∧ TT ∧ (RL [.s (.c (.own 0))]) ∧ (RL []) ∧ (RM [some (.sl 0 .int ([] : List Int))]) ∧ (RM []) ∧ (((some ((0 :: List.replicate i1 (-1)) ++ ([(-1 : Int)] : List Int)) : Option (List Int)) = some (0 :: List.replicate (i1 + 1) (-1))) ∧ True) ∧ TT) (True ∧ True ∧ (((0 :: List.replicate i1 (-1), ()) : (List Int) × Unit) = (opens, ())) ∧ (True ∧ True) ∧ ((TF ∧ TF) ∧ True) ∧ True ∧ (True ∧ True) ∧ TF)))
theorem vcn_l5Open  (k : Nat) : VC_l5Open  k := by
  unfold VC_l5Open
  simp only [cln, Nat.reduceEqDiff, Nat.reduceLeDiff, Nat.reduceAdd]
  all_goals (try simp only [opn])
  all_goals (repeat' (first | apply And.intro | intro _))
  all_goals (repeat (cases ‹_ ∧ _›))
  all_goals (first | omega | rfl | assumption | (simp_all; done) | skip)
  all_goals (first
   | exact open_lt (by assumption) | (have h1 := open_lt (by assumption); omega) | (rw [List.replicate_succ']; rfl) | exact open_end (by assumption) (by assumption) | skip)
theorem vce_l5Open  (k : Nat) : VC_l5Open  k = vcQ tab (lookF L_l5Open) (lookP P_l5Open) (fun _ => false) (fun _ => none) (an_l5Open ) (fun _ => []) (bodyOf Try.f99) (entry (encs c_l5Open.aks ()) (rdOf false k)) (retOk tab c_l5Open Try.f99.results.toList () k) := by kernel_rfl
theorem ok_l5Open : FnOk Try.prog E 99 c_l5Open :=
  fn_okQ (l := L_l5Open) (lp := P_l5Open) (hp := fun _ => false) (gcs := fun _ => none) (perm := fun _ => []) tabOk mix trivial trivial Try.func99 rfl (by kernel_rfl) (by decide) (by kernel_rfl) (anns := fun x _ => an_l5Open ) (fun _ k _ _ => (vce_l5Open  k).mp (vcn_l5Open  k)) tot_fn
end Go.Proofs.Ytejcmcbpfnmlaaa

namespace Go.Proofs.Ytejcmcbpfnmlaaa
open Go.SE Go.RowKit
set_option linter.unusedSimpArgs false
set_option linter.unusedVariables false
set_option maxHeartbeats 1000000
set_option maxRecDepth 100000
/-! l5Filled -/
abbrev c_l5Filled : Con := ⟨[.sl .atom, .sl .int], [.sl .atom], fun (l, c, _) => l.length ≤ 1048576 ∧ l.all atV = true ∧ c.length = 9, .inl fun (l, c, _) => (fL c l, ()), fun _ => 0⟩
abbrev L_l5Filled : List (FuncId × Con) := []
abbrev P_l5Filled : List (FuncId × PT) := []
def an_l5Filled (l : List GAtom) (c : List Int) : Nat → St → Option Ann
  | 3, se => some { α := Nat, ok := fun i => i ≤ l.length, mu := fun i => l.length - i, i0 := fun _ => 0, nx := fun a _ => (fun i => i + 1) a, live := [0, 1, 4], sets := fun i => [(6, sv (.int .i64 i))], mids := [64], blks := fun i => [], owns := fun i => [⟨7, .slot 5, .atom, fL c (l.take i)⟩], rd := fun r _ => r, base := 100000 }
  | _, _ => none
def VC_l5Filled_1 (l : List GAtom) (c : List Int) (k : Nat) (i1 : Nat) : Prop := ((0 ≤ ((i1 : Nat) : Int) ∧ ((i1 : Nat) : Int) < ((l.length : Nat) : Int)) ∧ True ∧ True ∧ (0 ≤ ((l.getD i1 (⟨0, 0, 0⟩ : GAtom)).b) ∧ ((l.getD i1 (⟨0, 0, 0⟩ : GAtom)).b) < ((c.length : Nat) : Int)) ∧ True ∧ True ∧ (TN ∧ True) ∧ (TF ∧ TF) ∧ True ∧ True ∧ True ∧ True ∧ (vcIf (((l.getD i1 (⟨0, 0, 0⟩ : GAtom)).kind) == (1 : Int)) (True ∧ True ∧ True ∧ (TN ∧ True) ∧ (TN ∧ TF ∧ TF ∧ ((fL c (l.take i1)).length + ([(⟨(l.getD i1 (⟨0, 0, 0⟩ : GAtom)).kind, (c.getD ((l.getD i1 (⟨0, 0, 0⟩ : GAtom)).a).toNat (0 : Int)), (c.getD ((l.getD i1 (⟨0, 0, 0⟩ : GAtom)).b).toNat (0 : Int))⟩ : GAtom)] : List GAtom).length ≤ 4294967296)) ∧ True ∧ True ∧ (inK .i64 (((i1 : Nat) : Int) + (1 : Int))) ∧ True ∧ ((i1 + 1) ≤ l.length) ∧ (l.length - (i1 + 1) < l.length - i1) ∧ TT ∧ (RL [.s (.c (.d (.arr .atom l))), .s (.c (.d (.arr .int c))), .s (.c (.own 64))]) ∧ (([.s (.c (.d (.val (.int .i64 (((i1 : Nat) : Int) + (1 : Int))))))] : List S) = [.s (.c (.d (.val (.int .i64 (((i1 + 1) : Nat) : Int)))))]) ∧ (RM [some (.sl 64 .atom ([] : List GAtom))]) ∧ (RM []) ∧ (((some ((fL c (l.take i1)) ++ ([(⟨(l.getD i1 (⟨0, 0, 0⟩ : GAtom)).kind, (c.getD ((l.getD i1 (⟨0, 0, 0⟩ : GAtom)).a).toNat (0 : Int)), (c.getD ((l.getD i1 (⟨0, 0, 0⟩ : GAtom)).b).toNat (0 : Int))⟩ : GAtom)] : List GAtom)) : Option (List GAtom)) = some (fL c (l.take (i1 + 1)))) ∧ True) ∧ TT) (True ∧ True ∧ True ∧ True ∧ True ∧ True ∧ (vcIf ((c.getD ((l.getD i1 (⟨0, 0, 0⟩ : GAtom)).a).toNat (0 : Int)) != (c.getD ((l.getD i1 (⟨0, 0, 0⟩ : GAtom)).b).toNat (0 : Int))) (True ∧ True ∧ (TN ∧ True) ∧ (TN ∧ TF ∧ TF ∧ ((fL c (l.take i1)).length + ([(⟨(l.getD i1 (⟨0, 0, 0⟩ : GAtom)).kind, (c.getD ((l.getD i1 (⟨0, 0, 0⟩ : GAtom)).a).toNat (0 : Int)), (c.getD ((l.getD i1 (⟨0, 0, 0⟩ : GAtom)).b).toNat (0 : Int))⟩ : GAtom)] : List GAtom).length ≤ 4294967296)) ∧ True ∧ True ∧ (inK .i64 (((i1 : Nat) : Int) + (1 : Int))) ∧ True ∧ ((i1 + 1) ≤ l.length) ∧ (l.length - (i1 + 1) < l.length - i1) ∧ TT ∧ (RL [.s (.c (.d (.arr .atom l))), .s (.c (.d (.arr .int c))), .s (.c (.own 64))]) ∧ (([.s (.c (.d (.val (.int .i64 (((i1 : Nat) : Int) + (1 : Int))))))] : List S) = [.s (.c (.d (.val (.int .i64 (((i1 + 1) : Nat) : Int)))))]) ∧ (RM [some (.sl 64 .atom ([] : List GAtom))]) ∧ (RM []) ∧ (((some ((fL c (l.take i1)) ++ ([(⟨(l.getD i1 (⟨0, 0, 0⟩ : GAtom)).kind, (c.getD ((l.getD i1 (⟨0, 0, 0⟩ : GAtom)).a).toNat (0 : Int)), (c.getD ((l.getD i1 (⟨0, 0, 0⟩ : GAtom)).b).toNat (0 : Int))⟩ : GAtom)] : List GAtom)) : Option (List GAtom)) = some (fL c (l.take (i1 + 1)))) ∧ True) ∧ TT) (True ∧ (inK .i64 (((i1 : Nat) : Int) + (1 : Int))) ∧ True ∧ ((i1 + 1) ≤ l.length) ∧ (l.length - (i1 + 1) < l.length - i1) ∧ TT ∧ (RL [.s (.c (.d (.arr .atom l))), .s (.c (.d (.arr .int c))), .s (.c (.own 64))]) ∧ (([.s (.c (.d (.val (.int .i64 (((i1 : Nat) : Int) + (1 : Int))))))] : List S) = [.s (.c (.d (.val (.int .i64 (((i1 + 1) : Nat) : Int)))))]) ∧ (RM [some (.sl 64 .atom ([] : List GAtom))]) ∧ (RM []) ∧ (((some (fL c (l.take i1)) : Option (List GAtom)) = some (fL c (l.take (i1 + 1)))) ∧ True) ∧ TT)))))
def VC_l5Filled (l : List GAtom) (c : List Int) (k : Nat) : Prop := TN ∧ (TN ∧ True) ∧ True ∧ True ∧ ((0 ≤ l.length) ∧ TT ∧ (RL [.s (.c (.d (.arr .atom l))), .s (.c (.d (.arr .int c))), .s (.c (.own 64))]) ∧ (([.s (.c (.d (.val (.int .i64 (0 : Int)))))] : List S) = [.s (.c (.d (.val (.int .i64 ((0 : Nat) : Int)))))]) ∧ (RM [some (.sl 64 .atom ([] : List GAtom))]) ∧ (RM []) ∧ (((some ([] : List GAtom) : Option (List GAtom)) = some (fL c (l.take 0))) ∧ True) ∧ TT) ∧ (∀ i1 : Nat, (i1 ≤ l.length) → True ∧ True ∧ True ∧ True ∧ (vcIf (decide (((i1 : Nat) : Int) < ((l.length : Nat) : Int))) (True ∧ True ∧ (0 ≤ ((i1 : Nat) : Int) ∧ ((i1 : Nat) : Int) < ((l.length : Nat) : Int)) ∧ True ∧ True ∧ True ∧ True ∧ True ∧ (0 ≤ ((i1 : Nat) : Int) ∧ ((i1 : Nat) : Int) < ((l.length : Nat) : Int)) ∧ True ∧ True ∧ (0 ≤ ((l.getD i1 (⟨0, 0, 0⟩ : GAtom)).a) ∧ ((l.getD i1 (⟨0, 0, 0⟩ : GAtom)).a) < ((c.length : Nat) : Int)) ∧ True ∧ True ∧ True ∧ True ∧ (VC_l5Filled_1 l c k i1)) (True ∧ True ∧ (((fL c (l.take i1), ()) : (List GAtom) × Unit) = (fL c l, ())) ∧ (True ∧ True) ∧ ((TF ∧ TF) ∧ True) ∧ True ∧ (True ∧ True) ∧ TF)))
theorem vcn_l5Filled (l : List GAtom) (c : List Int) (k : Nat) (hp : l.length ≤ 1048576 ∧ l.all atV = true ∧ c.length = 9) : VC_l5Filled l c k := by
  unfold VC_l5Filled VC_l5Filled_1
  simp only [cln, Nat.reduceEqDiff, Nat.reduceLeDiff, Nat.reduceAdd]
  have hV := hp.2.1
  have hL : ∀ i, (fL c (l.take i)).length ≤ 1048576 := fun i => Nat.le_trans (fL_len _ _) (by simp; omega)
  all_goals (try simp only [opn])
  all_goals (repeat' (first | apply And.intro | intro _))
  all_goals (repeat (cases ‹_ ∧ _›))
  all_goals (first | omega | rfl | assumption | (simp_all; done) | skip)
  all_goals (first
   | (have h1 := atom_idx (l := l) hV (by assumption); omega)
   | exact Nat.le_trans (hL _) (by decide)
   | (rw [fL_step (d := ⟨0, 0, 0⟩) (by assumption)]; unfold filB cl; simp_all; done)
   | (rw [fL_step (d := ⟨0, 0, 0⟩) (by assumption)]; unfold filB cl; rw [beq_eq_false_iff_ne.2 (by assumption : ¬ (_ : GAtom).kind = 1), beq_eq_false_iff_ne.2 (by assumption)]; rfl)
   | (rw [fL_step (d := ⟨0, 0, 0⟩) (by assumption)]; unfold filB cl; rw [beq_eq_false_iff_ne.2 (by assumption : ¬ (_ : GAtom).kind = 1), beq_iff_eq.2 (by assumption)]; rfl)
   | (rw [take_full (l := l) (by assumption)]; done) | skip)
theorem vce_l5Filled (l : List GAtom) (c : List Int) (k : Nat) : VC_l5Filled l c k = vcQ tab (lookF L_l5Filled) (lookP P_l5Filled) (fun _ => false) (fun _ => none) (an_l5Filled l c) (fun _ => []) (bodyOf Try.f106) (entry (encs c_l5Filled.aks (l, c, ())) (rdOf false k)) (retOk tab c_l5Filled Try.f106.results.toList (l, c, ()) k) := by kernel_rfl
theorem ok_l5Filled : FnOk Try.prog E 106 c_l5Filled :=
  fn_okQ (l := L_l5Filled) (lp := P_l5Filled) (hp := fun _ => false) (gcs := fun _ => none) (perm := fun _ => []) tabOk mix trivial trivial Try.func106 rfl (by kernel_rfl) (by decide) (by kernel_rfl) (anns := fun x _ => an_l5Filled x.1 x.2.1) (fun ⟨l, c, _⟩ k hp _ => (vce_l5Filled l c k).mp (vcn_l5Filled l c k hp)) tot_fn
end Go.Proofs.Ytejcmcbpfnmlaaa

namespace Go.Proofs.Ytejcmcbpfnmlaaa
open Go.SE Go.RowKit
set_option linter.unusedSimpArgs false
set_option linter.unusedVariables false
set_option maxHeartbeats 1000000
set_option maxRecDepth 100000
/-! l5Fits -/
abbrev c_l5Fits : Con := ⟨[.sl .fact, .sl .int], [.bool], fun (l, c, _) => l.length ≤ 1048576 ∧ l.all fV = true ∧ c.length = 9, .inl fun (l, c, _) => (sFit l c, ()), fun _ => 0⟩
abbrev L_l5Fits : List (FuncId × Con) := []
abbrev P_l5Fits : List (FuncId × PT) := []
def an_l5Fits (l : List GFact) (c : List Int) : Nat → St → Option Ann
  | 2, se => some { α := Nat, ok := fun i => i ≤ l.length ∧ sFit (l.take i) c = true, mu := fun i => l.length - i, i0 := fun _ => 0, nx := fun a _ => (fun i => i + 1) a, live := [0, 1], sets := fun i => [(5, sv (.int .i64 i))], mids := [], blks := fun i => [], owns := fun i => [], rd := fun r _ => r, base := 100000 }
  | _, _ => none
def VC_l5Fits (l : List GFact) (c : List Int) (k : Nat) : Prop := True ∧ True ∧ ((0 ≤ l.length ∧ sFit (l.take 0) c = true) ∧ TT ∧ (RL [.s (.c (.d (.arr .fact l))), .s (.c (.d (.arr .int c)))]) ∧ (([.s (.c (.d (.val (.int .i64 (0 : Int)))))] : List S) = [.s (.c (.d (.val (.int .i64 ((0 : Nat) : Int)))))]) ∧ (RM []) ∧ (RM []) ∧ True ∧ TT) ∧ (∀ i1 : Nat, (i1 ≤ l.length ∧ sFit (l.take i1) c = true) → True ∧ True ∧ True ∧ True ∧ (vcIf (decide (((i1 : Nat) : Int) < ((l.length : Nat) : Int))) (True ∧ True ∧ True ∧ (0 ≤ ((i1 : Nat) : Int) ∧ ((i1 : Nat) : Int) < ((l.length : Nat) : Int)) ∧ True ∧ True ∧ (0 ≤ ((l.getD i1 (⟨false, 0, 0⟩ : GFact)).a) ∧ ((l.getD i1 (⟨false, 0, 0⟩ : GFact)).a) < ((c.length : Nat) : Int)) ∧ True ∧ True ∧ True ∧ True ∧ True ∧ (0 ≤ ((i1 : Nat) : Int) ∧ ((i1 : Nat) : Int) < ((l.length : Nat) : Int)) ∧ True ∧ True ∧ (0 ≤ ((l.getD i1 (⟨false, 0, 0⟩ : GFact)).b) ∧ ((l.getD i1 (⟨false, 0, 0⟩ : GFact)).b) < ((c.length : Nat) : Int)) ∧ True ∧ True ∧ True ∧ True ∧ True ∧ (vcIf (decide ((0 : Int) ≤ (c.getD ((l.getD i1 (⟨false, 0, 0⟩ : GFact)).a).toNat (0 : Int)))) (True ∧ True ∧ True ∧ True ∧ (vcIf (decide ((0 : Int) ≤ (c.getD ((l.getD i1 (⟨false, 0, 0⟩ : GFact)).b).toNat (0 : Int)))) (True ∧ True ∧ True ∧ True ∧ True ∧ (0 ≤ ((i1 : Nat) : Int) ∧ ((i1 : Nat) : Int) < ((l.length : Nat) : Int)) ∧ True ∧ True ∧ True ∧ True ∧ (vcIf (((c.getD ((l.getD i1 (⟨false, 0, 0⟩ : GFact)).a).toNat (0 : Int)) == (c.getD ((l.getD i1 (⟨false, 0, 0⟩ : GFact)).b).toNat (0 : Int))) != ((l.getD i1 (⟨false, 0, 0⟩ : GFact)).eq)) (True ∧ (((false, ()) : Bool × Unit) = (sFit l c, ())) ∧ True ∧ True ∧ True ∧ True ∧ TF) (True ∧ (inK .i64 (((i1 : Nat) : Int) + (1 : Int))) ∧ True ∧ ((i1 + 1) ≤ l.length ∧ sFit (l.take (i1 + 1)) c = true) ∧ (l.length - (i1 + 1) < l.length - i1) ∧ TT ∧ (RL [.s (.c (.d (.arr .fact l))), .s (.c (.d (.arr .int c)))]) ∧ (([.s (.c (.d (.val (.int .i64 (((i1 : Nat) : Int) + (1 : Int))))))] : List S) = [.s (.c (.d (.val (.int .i64 (((i1 + 1) : Nat) : Int)))))]) ∧ (RM []) ∧ (RM []) ∧ True ∧ TT))) (True ∧ True ∧ (inK .i64 (((i1 : Nat) : Int) + (1 : Int))) ∧ True ∧ ((i1 + 1) ≤ l.length ∧ sFit (l.take (i1 + 1)) c = true) ∧ (l.length - (i1 + 1) < l.length - i1) ∧ TT ∧ (RL [.s (.c (.d (.arr .fact l))), .s (.c (.d (.arr .int c)))]) ∧ (([.s (.c (.d (.val (.int .i64 (((i1 : Nat) : Int) + (1 : Int))))))] : List S) = [.s (.c (.d (.val (.int .i64 (((i1 + 1) : Nat) : Int)))))]) ∧ (RM []) ∧ (RM []) ∧ True ∧ TT))) (True ∧ True ∧ True ∧ True ∧ (inK .i64 (((i1 : Nat) : Int) + (1 : Int))) ∧ True ∧ ((i1 + 1) ≤ l.length ∧ sFit (l.take (i1 + 1)) c = true) ∧ (l.length - (i1 + 1) < l.length - i1) ∧ TT ∧ (RL [.s (.c (.d (.arr .fact l))), .s (.c (.d (.arr .int c)))]) ∧ (([.s (.c (.d (.val (.int .i64 (((i1 : Nat) : Int) + (1 : Int))))))] : List S) = [.s (.c (.d (.val (.int .i64 (((i1 + 1) : Nat) : Int)))))]) ∧ (RM []) ∧ (RM []) ∧ True ∧ TT))) (True ∧ (((true, ()) : Bool × Unit) = (sFit l c, ())) ∧ True ∧ True ∧ True ∧ True ∧ TF)))
theorem vcn_l5Fits (l : List GFact) (c : List Int) (k : Nat) (hp : l.length ≤ 1048576 ∧ l.all fV = true ∧ c.length = 9) : VC_l5Fits l c k := by
  unfold VC_l5Fits
  simp only [cln, Nat.reduceEqDiff, Nat.reduceLeDiff, Nat.reduceAdd]
  have hV := hp.2.1
  all_goals (try simp only [opn])
  all_goals (repeat' (first | apply And.intro | intro _))
  all_goals (repeat (cases ‹_ ∧ _›))
  all_goals (first | omega | rfl | assumption | (simp_all; done) | skip)
  all_goals (first
   | (have h1 := fact_idx (l := l) hV (by assumption); omega)
   | (symm; exact sFit_no (by assumption) (by assumption) (by assumption) (by unfold fh cl; rw [beq_eq_false_iff_ne]; assumption))
   | (rw [sFit_step (d := ⟨false, 0, 0⟩) (by assumption)]; unfold fh cl; simp_all; done)
   | (rw [take_full (l := l) (by assumption)] at *; simp_all; done) | skip)
theorem vce_l5Fits (l : List GFact) (c : List Int) (k : Nat) : VC_l5Fits l c k = vcQ tab (lookF L_l5Fits) (lookP P_l5Fits) (fun _ => false) (fun _ => none) (an_l5Fits l c) (fun _ => []) (bodyOf Try.f145) (entry (encs c_l5Fits.aks (l, c, ())) (rdOf false k)) (retOk tab c_l5Fits Try.f145.results.toList (l, c, ()) k) := by kernel_rfl
theorem ok_l5Fits : FnOk Try.prog E 145 c_l5Fits :=
  fn_okQ (l := L_l5Fits) (lp := P_l5Fits) (hp := fun _ => false) (gcs := fun _ => none) (perm := fun _ => []) tabOk mix trivial trivial Try.func145 rfl (by kernel_rfl) (by decide) (by kernel_rfl) (anns := fun x _ => an_l5Fits x.1 x.2.1) (fun ⟨l, c, _⟩ k hp _ => (vce_l5Fits l c k).mp (vcn_l5Fits l c k hp)) tot_fn
end Go.Proofs.Ytejcmcbpfnmlaaa

namespace Go.Proofs.Ytejcmcbpfnmlaaa
open Go.SE Go.RowKit
set_option linter.unusedSimpArgs false
set_option linter.unusedVariables false
set_option maxHeartbeats 1000000
set_option maxRecDepth 100000
/-! l5Early -/
abbrev c_l5Early : Con := ⟨[.sl .atom, .sl .int], [.bool], fun (l, c, _) => l.length ≤ 1048576 ∧ l.all atV = true ∧ c.length = 9 ∧ le8 c = true, .inl fun (l, c, _) => (sEarly l c, ()), fun _ => 0⟩
abbrev L_l5Early : List (FuncId × Con) := []
abbrev P_l5Early : List (FuncId × PT) := []
def an_l5Early (l : List GAtom) (c : List Int) : Nat → St → Option Ann
  | 3, se => some { α := Nat, ok := fun i => i ≤ l.length ∧ okS [] (est c (l.take i)) = true, mu := fun i => l.length - i, i0 := fun _ => 0, nx := fun a _ => (fun i => i + 1) a, live := [0, 1], sets := fun i => [(6, sv (.int .i64 i))], mids := [], blks := fun i => [], owns := fun i => [⟨7, .slot 5, .bool, fl9 (fun t => (est c (l.take i)).contains t)⟩], rd := fun r _ => r, base := 100000 }
  | _, _ => none
def VC_l5Early_1 (l : List GAtom) (c : List Int) (k : Nat) (i1 : Nat) : Prop := ((0 ≤ ((l.getD i1 (⟨0, 0, 0⟩ : GAtom)).a) ∧ ((l.getD i1 (⟨0, 0, 0⟩ : GAtom)).a) < ((c.length : Nat) : Int)) ∧ True ∧ True ∧ True ∧ True ∧ (0 ≤ ((i1 : Nat) : Int) ∧ ((i1 : Nat) : Int) < ((l.length : Nat) : Int)) ∧ True ∧ True ∧ True ∧ True ∧ (vcIf (((l.getD i1 (⟨0, 0, 0⟩ : GAtom)).kind) != (1 : Int)) (True ∧ True ∧ (inK .i64 (((i1 : Nat) : Int) + (1 : Int))) ∧ True ∧ ((i1 + 1) ≤ l.length ∧ okS [] (est c (l.take (i1 + 1))) = true) ∧ (l.length - (i1 + 1) < l.length - i1) ∧ TT ∧ (RL [.s (.c (.d (.arr .atom l))), .s (.c (.d (.arr .int c)))]) ∧ (([.s (.c (.d (.val (.int .i64 (((i1 : Nat) : Int) + (1 : Int))))))] : List S) = [.s (.c (.d (.val (.int .i64 (((i1 + 1) : Nat) : Int)))))]) ∧ (RM []) ∧ (RM []) ∧ (((some (fl9 (fun t => (est c (l.take i1)).contains t)) : Option (List Bool)) = some (fl9 (fun t => (est c (l.take (i1 + 1))).contains t))) ∧ True) ∧ TT) (True ∧ True ∧ True ∧ (vcIf (decide ((c.getD ((l.getD i1 (⟨0, 0, 0⟩ : GAtom)).a).toNat (0 : Int)) < (0 : Int))) (True ∧ (inK .i64 (((i1 : Nat) : Int) + (1 : Int))) ∧ True ∧ ((i1 + 1) ≤ l.length ∧ okS [] (est c (l.take (i1 + 1))) = true) ∧ (l.length - (i1 + 1) < l.length - i1) ∧ TT ∧ (RL [.s (.c (.d (.arr .atom l))), .s (.c (.d (.arr .int c)))]) ∧ (([.s (.c (.d (.val (.int .i64 (((i1 : Nat) : Int) + (1 : Int))))))] : List S) = [.s (.c (.d (.val (.int .i64 (((i1 + 1) : Nat) : Int)))))]) ∧ (RM []) ∧ (RM []) ∧ (((some (fl9 (fun t => (est c (l.take i1)).contains t)) : Option (List Bool)) = some (fl9 (fun t => (est c (l.take (i1 + 1))).contains t))) ∧ True) ∧ TT) (True ∧ True ∧ True ∧ (vcIf ((c.getD ((l.getD i1 (⟨0, 0, 0⟩ : GAtom)).a).toNat (0 : Int)) == (0 : Int)) (True ∧ True ∧ (((false, ()) : Bool × Unit) = (sEarly l c, ())) ∧ True ∧ True ∧ True ∧ True ∧ TF) (True ∧ True ∧ (0 ≤ (c.getD ((l.getD i1 (⟨0, 0, 0⟩ : GAtom)).a).toNat (0 : Int)) ∧ (c.getD ((l.getD i1 (⟨0, 0, 0⟩ : GAtom)).a).toNat (0 : Int)) < (((fl9 (fun t => (est c (l.take i1)).contains t)).length : Nat) : Int)) ∧ True ∧ True ∧ (vcIf ((fl9 (fun t => (est c (l.take i1)).contains t)).getD (c.getD ((l.getD i1 (⟨0, 0, 0⟩ : GAtom)).a).toNat (0 : Int)).toNat false) (True ∧ (((false, ()) : Bool × Unit) = (sEarly l c, ())) ∧ True ∧ True ∧ True ∧ True ∧ TF) (True ∧ True ∧ (0 ≤ (c.getD ((l.getD i1 (⟨0, 0, 0⟩ : GAtom)).a).toNat (0 : Int)) ∧ (c.getD ((l.getD i1 (⟨0, 0, 0⟩ : GAtom)).a).toNat (0 : Int)) < (((fl9 (fun t => (est c (l.take i1)).contains t)).length : Nat) : Int)) ∧ (TF ∧ TF ∧ True ∧ ((7 : Nat) ∉ ([] : List Nat))) ∧ True ∧ (inK .i64 (((i1 : Nat) : Int) + (1 : Int))) ∧ True ∧ ((i1 + 1) ≤ l.length ∧ okS [] (est c (l.take (i1 + 1))) = true) ∧ (l.length - (i1 + 1) < l.length - i1) ∧ TT ∧ (RL [.s (.c (.d (.arr .atom l))), .s (.c (.d (.arr .int c)))]) ∧ (([.s (.c (.d (.val (.int .i64 (((i1 : Nat) : Int) + (1 : Int))))))] : List S) = [.s (.c (.d (.val (.int .i64 (((i1 + 1) : Nat) : Int)))))]) ∧ (RM []) ∧ (RM []) ∧ (((some ((fl9 (fun t => (est c (l.take i1)).contains t)).set (c.getD ((l.getD i1 (⟨0, 0, 0⟩ : GAtom)).a).toNat (0 : Int)).toNat true) : Option (List Bool)) = some (fl9 (fun t => (est c (l.take (i1 + 1))).contains t))) ∧ True) ∧ TT)))))))))
def VC_l5Early (l : List GAtom) (c : List Int) (k : Nat) : Prop := True ∧ (TN ∧ (0 ≤ (9 : Int) ∧ (9 : Int) ≤ (9 : Int) ∧ (9 : Int) ≤ 4294967296)) ∧ True ∧ True ∧ ((0 ≤ l.length ∧ okS [] (est c (l.take 0)) = true) ∧ TT ∧ (RL [.s (.c (.d (.arr .atom l))), .s (.c (.d (.arr .int c)))]) ∧ (([.s (.c (.d (.val (.int .i64 (0 : Int)))))] : List S) = [.s (.c (.d (.val (.int .i64 ((0 : Nat) : Int)))))]) ∧ (RM []) ∧ (RM []) ∧ (((some (List.replicate 9 false) : Option (List Bool)) = some (fl9 (fun t => (est c (l.take 0)).contains t))) ∧ True) ∧ TT) ∧ (∀ i1 : Nat, (i1 ≤ l.length ∧ okS [] (est c (l.take i1)) = true) → True ∧ True ∧ True ∧ True ∧ (vcIf (decide (((i1 : Nat) : Int) < ((l.length : Nat) : Int))) (True ∧ True ∧ True ∧ (0 ≤ ((i1 : Nat) : Int) ∧ ((i1 : Nat) : Int) < ((l.length : Nat) : Int)) ∧ True ∧ True ∧ (VC_l5Early_1 l c k i1)) (True ∧ (((true, ()) : Bool × Unit) = (sEarly l c, ())) ∧ True ∧ True ∧ True ∧ True ∧ TF)))
theorem vcn_l5Early (l : List GAtom) (c : List Int) (k : Nat) (hp : l.length ≤ 1048576 ∧ l.all atV = true ∧ c.length = 9 ∧ le8 c = true) : VC_l5Early l c k := by
  unfold VC_l5Early VC_l5Early_1
  simp only [cln, Nat.reduceEqDiff, Nat.reduceLeDiff, Nat.reduceAdd]
  have h8 := le8_get hp.2.2.2
  have hV := hp.2.1
  all_goals (try simp only [opn])
  all_goals (repeat' (first | apply And.intro | intro _))
  all_goals (repeat (cases ‹_ ∧ _›))
  all_goals (first | omega | rfl | assumption | (simp_all; done) | skip)
  all_goals (first
   | (have h1 := atom_idx (l := l) hV (by assumption); omega)
   | (rw [early_skip (d := ⟨0, 0, 0⟩) (by assumption) (.inl (by assumption))]; done)
   | (rw [early_skip (d := ⟨0, 0, 0⟩) (by assumption) (.inl (by assumption))]; assumption)
   | (rw [early_skip (d := ⟨0, 0, 0⟩) (by assumption) (.inr (by assumption))]; done)
   | (rw [early_skip (d := ⟨0, 0, 0⟩) (by assumption) (.inr (by assumption))]; assumption)
   | exact early_no (d := ⟨0, 0, 0⟩) (by assumption) (by assumption) (by assumption) (by assumption) (.inl (by assumption))
   | exact early_no (d := ⟨0, 0, 0⟩) (by assumption) (by assumption) (by assumption) (by assumption) (.inr (by assumption))
   | exact (early_go (d := ⟨0, 0, 0⟩) (by assumption) (by assumption) (by assumption) (by assumption) (by assumption) (by assumption) (by assumption)).1
   | exact (early_go (d := ⟨0, 0, 0⟩) (by assumption) (by assumption) (by assumption) (by assumption) (by assumption) (by assumption) (by assumption)).2
   | (rw [fl9_len]; exact Int.lt_of_le_of_lt (h8 _) (by decide))
   | (unfold sEarly; rw [take_full (l := l) (by assumption)] at *; simp_all; done) | skip)
theorem vce_l5Early (l : List GAtom) (c : List Int) (k : Nat) : VC_l5Early l c k = vcQ tab (lookF L_l5Early) (lookP P_l5Early) (fun _ => false) (fun _ => none) (an_l5Early l c) (fun _ => []) (bodyOf Try.f146) (entry (encs c_l5Early.aks (l, c, ())) (rdOf false k)) (retOk tab c_l5Early Try.f146.results.toList (l, c, ()) k) := by kernel_rfl
theorem ok_l5Early : FnOk Try.prog E 146 c_l5Early :=
  fn_okQ (l := L_l5Early) (lp := P_l5Early) (hp := fun _ => false) (gcs := fun _ => none) (perm := fun _ => []) tabOk mix trivial trivial Try.func146 rfl (by kernel_rfl) (by decide) (by kernel_rfl) (anns := fun x _ => an_l5Early x.1 x.2.1) (fun ⟨l, c, _⟩ k hp _ => (vce_l5Early l c k).mp (vcn_l5Early l c k hp)) tot_fn
end Go.Proofs.Ytejcmcbpfnmlaaa
