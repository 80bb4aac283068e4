/-
  Contracts of single functions of the program, each shown by the engine: what a call returns for arguments within the contract's bounds.
-/
import Derived.Test.YtejcmcbpfnmlaaaFFnExactEquivalenta
import Derived.Test.YtejcmcbpfnmlaaaFFnExactEquivalente
import Derived.Test.YtejcmcbpfnmlaaaFFnExactEquivalentg
import Derived.Test.YtejcmcbpfnmlaaaEf
import Derived.Test.YtejcmcbpfnmlaaaEg
import Derived.Test.YtejcmcbpfnmlaaaFFnExactEquivalentd
import Derived.Test.YtejcmcbpfnmlaaaEe
import Derived.Test.YtejcmcbpfnmlaaaFFnExactEquivalentb
set_option linter.unusedSimpArgs false
set_option linter.unusedVariables false
set_option linter.unusedSectionVars false

namespace Go.Proofs.Ytejcmcbpfnmlaaa
open Go.SE Go.RowKit
set_option linter.unusedSimpArgs false
set_option linter.unusedVariables false
set_option maxHeartbeats 1000000
set_option maxRecDepth 100000
/-! failingCase -/
abbrev c_failingCase : Con := ⟨[.asn, .asn], [.kase, .bool], fun (a, b, _) => asV a = true ∧ asV b = true, .inl fun (a, b, _) => ((FC a b).headD (List.replicate 9 0), !(FC a b).isEmpty, ()), fun _ => 0⟩
abbrev L_failingCase : List (FuncId × Con) := [(76, c_termsIn), (117, c_matchCase)]
abbrev P_failingCase : List (FuncId × PT) := [(67, pt_possibleCases)]
def hp_failingCase : Nat → Bool
  | 1 => true
  | _ => false
def ra_failingCase (a : GAsn) (b : GAsn) : St → Option RAnn := fun se => some ⟨fun c => MC a b c, [2, 3, 4, 5], [47, 63, 79, 95], fun i => [], [47, 63, 79, 95], fun i => [], fun i => [], 300000⟩
def VC_failingCase_1 (a : GAsn) (b : GAsn) (k : Nat) : Prop := ((TN ∧ True) ∧ (TF ∧ TF) ∧ True ∧ True ∧ ((((123 : Nat) = 123) ∧ ((none : Option Nat) = none) ∧ (itPre a (bits .or .u16 (tsWith (tsA a) (0 : Int)) (tsA b)))) ∧ TT ∧ TT ∧ (RL [.s (.c (.ptr 47 0)), .s (.c (.ptr 63 0)), .s (.c (.ptr 79 0)), .s (.c (.ptr 95 0))]) ∧ (RL []) ∧ (RM [some (.blk [.d (.arr .fact a.facts), .d (.arr .atom a.atoms)]), some (.blk [.d (.arr .fact b.facts), .d (.arr .atom b.atoms)]), some (.vec .int (List.replicate 9 (0 : Int))), some (.blk [.d (.val (.bool false))])]) ∧ (RM []) ∧ True ∧ TT) ∧ (∀ i1 : Nat, ∀ c2_0 : Int, ∀ c2_1 : Int, ∀ c2_2 : Int, ∀ c2_3 : Int, ∀ c2_4 : Int, ∀ c2_5 : Int, ∀ c2_6 : Int, ∀ c2_7 : Int, ∀ c2_8 : Int, ((itEn a (bits .or .u16 (tsWith (tsA a) (0 : Int)) (tsA b)))[i1]? = some ([c2_0, c2_1, c2_2, c2_3, c2_4, c2_5, c2_6, c2_7, c2_8] : List Int)) → (((itEn a (bits .or .u16 (tsWith (tsA a) (0 : Int)) (tsA b))).take i1).all (fun c => MC a b c) = true) → TT ∧ (TN ∧ True) ∧ ((([c2_0, c2_1, c2_2, c2_3, c2_4, c2_5, c2_6, c2_7, c2_8] : List Int).length = (List.replicate 9 (0 : Int)).length) ∧ TF ∧ TF) ∧ ((none : Option Nat) = none) ∧ TT ∧ True ∧ True ∧ (9 = ([c2_0, c2_1, c2_2, c2_3, c2_4, c2_5, c2_6, c2_7, c2_8] : List Int).length * 1) ∧ ((asV a = true ∧ asV b = true ∧ ([c2_0, c2_1, c2_2, c2_3, c2_4, c2_5, c2_6, c2_7, c2_8] : List Int).length = 9) ∧ True ∧ True ∧ TN ∧ True) ∧ (∀ r3 : (List (List Int)) × Bool × Unit, (r3.2.1 = MC a b ([c2_0, c2_1, c2_2, c2_3, c2_4, c2_5, c2_6, c2_7, c2_8] : List Int)) → True ∧ True ∧ True ∧ True ∧ True ∧ TT ∧ True ∧ True ∧ (vcIf (!r3.2.1) (TT ∧ (9 = ([c2_0, c2_1, c2_2, c2_3, c2_4, c2_5, c2_6, c2_7, c2_8] : List Int).length * 1) ∧ ((([c2_0, c2_1, c2_2, c2_3, c2_4, c2_5, c2_6, c2_7, c2_8] : List Int).length = (List.replicate 9 (0 : Int)).length) ∧ TF ∧ TF) ∧ (TF ∧ TF) ∧ ((MC a b ([c2_0, c2_1, c2_2, c2_3, c2_4, c2_5, c2_6, c2_7, c2_8] : List Int)) = false) ∧ ((none : Option Nat) = none) ∧ ((none : Option Nat) = none) ∧ (((([c2_0, c2_1, c2_2, c2_3, c2_4, c2_5, c2_6, c2_7, c2_8] : List Int), true, ()) : (List Int) × Bool × Unit) = ((FC a b).headD (List.replicate 9 0), !(FC a b).isEmpty, ())) ∧ True ∧ True ∧ True ∧ True ∧ TF) (((MC a b ([c2_0, c2_1, c2_2, c2_3, c2_4, c2_5, c2_6, c2_7, c2_8] : List Int)) = true) ∧ ((none : Option Nat) = none) ∧ TT ∧ (RL [.s (.c (.ptr 47 0)), .s (.c (.ptr 63 0)), .s (.c (.ptr 79 0)), .s (.c (.ptr 95 0))]) ∧ (RL []) ∧ (RM [some (.blk [.d (.arr .fact a.facts), .d (.arr .atom a.atoms)]), some (.blk [.d (.arr .fact b.facts), .d (.arr .atom b.atoms)]), some (.vec .int (List.replicate 9 (0 : Int))), some (.blk [.d (.val (.bool false))])]) ∧ (RM []) ∧ True ∧ TT)))) ∧ (((itEn a (bits .or .u16 (tsWith (tsA a) (0 : Int)) (tsA b))).all (fun c => MC a b c) = true) → TT ∧ True ∧ (((List.replicate 9 (0 : Int)).length = (List.replicate 9 (0 : Int)).length) ∧ TF ∧ TF) ∧ (TF ∧ TF) ∧ ((none : Option Nat) = none) ∧ (((List.replicate 9 (0 : Int), false, ()) : (List Int) × Bool × Unit) = ((FC a b).headD (List.replicate 9 0), !(FC a b).isEmpty, ())) ∧ True ∧ True ∧ True ∧ True ∧ TF))
def VC_failingCase (a : GAsn) (b : GAsn) (k : Nat) : Prop := TT ∧ TN ∧ TN ∧ (TN ∧ True) ∧ (TN ∧ True) ∧ TT ∧ True ∧ True ∧ ((b.facts.length ≤ 281474976710656 ∧ b.atoms.length ≤ 281474976710656) ∧ True ∧ True) ∧ ((2 : Nat) ≤ 12) ∧ TN ∧ True ∧ True ∧ ((a.facts.length ≤ 281474976710656 ∧ a.atoms.length ≤ 281474976710656) ∧ True ∧ True) ∧ ((0 ≤ (tsA a) ∧ (tsA a) < 512) ∧ True ∧ True) ∧ True ∧ True ∧ (VC_failingCase_1 a b k)
theorem vcn_failingCase (a : GAsn) (b : GAsn) (k : Nat) (hp : asV a = true ∧ asV b = true) : VC_failingCase a b k := by
  unfold VC_failingCase VC_failingCase_1
  simp only [TT, TF, TN, RL, RM, true_and, and_true, eq_self, implies_true, forall_const, List.cons.injEq, S.s.injEq, S0.c.injEq, S0.agg.injEq, CV.d.injEq, CV.own.injEq, CV.ptr.injEq, DC.val.injEq, Value.int.injEq, Value.bool.injEq, Option.some.injEq, Res.blk.injEq, Prod.mk.injEq, inK, min_i64, max_i64, min_u16, max_u16, min_u8, max_u8, min_u64, max_u64, vcIf_true, vcIf_false, List.mem_nil_iff, List.not_mem_nil, not_false_eq_true, Nat.reduceEqDiff, Nat.reduceLeDiff, ne_eq, Bool.and_true, Nat.add_zero, List.append_nil, List.nil_append, List.length_nil, List.length_cons, Nat.zero_add, Nat.reduceAdd, Int.toNat_natCast, Nat.sub_zero, List.drop_zero, List.map_nil, List.take_zero, forall_eq]
  have ha := hp.1
  have hb := hp.2
  have hs := asV_facts ha
  have hA := tsA_bd a
  have hB := tsA_bd b
  have hsb := asV_facts hb
  have hI := itEn_ent ha hb
  have hw := tsWith_bd (t := 0) hA.1 hA.2
  all_goals (try simp only [vcIf_iff, decide_eq_true_eq, decide_eq_false_iff_not, bne_iff_ne, ne_eq, beq_iff_eq, beq_eq_false_iff_ne, bne_eq_false_iff_eq, Bool.not_eq_true', Bool.not_eq_false', Int.ofNat_lt, Int.natCast_inj])
  all_goals (repeat' (first | apply And.intro | intro _))
  all_goals (first | omega | rfl | assumption | exact hI.2 | exact hI.2.2.1 | exact hI.2.2.2 | skip)
  all_goals (first
   | exact (fc_hit ha hb (by assumption) (by assumption) ((‹_ = MC a b _›).symm.trans (by assumption))).1.symm
   | (rw [(fc_hit (d := []) ha hb (by assumption) (by assumption) ((‹_ = MC a b _›).symm.trans (by assumption))).2]; rfl)
   | exact (‹_ = MC a b _›).symm.trans (by assumption)
   | (rw [fc_none ha hb (by assumption)]; rfl)
   | skip)
theorem vce_failingCase (a : GAsn) (b : GAsn) (k : Nat) : VC_failingCase a b k = vcY tab (lookF L_failingCase) (lookP P_failingCase) noSpB (spR tab (lookF L_failingCase) (lookP P_failingCase) hp_failingCase (fun _ => none) (fun _ _ _ => none) (fun _ => []) Try.f121.ntmps 123 itPre itEn (ra_failingCase a b)) (fun b => !b) hp_failingCase (fun _ => none) (fun _ _ _ => none) (fun _ => []) (bodyOf Try.f121) (entry (encs c_failingCase.aks (a, b, ())) none) false (retR tab c_failingCase Try.f121.results.toList (a, b, ())) := by kernel_rfl
abbrev spc_failingCase (a : GAsn) (b : GAsn) : SpCode Bool := spR tab (lookF L_failingCase) (lookP P_failingCase) hp_failingCase (fun _ => none) (fun _ _ _ => none) (fun _ => []) Try.f121.ntmps 123 itPre itEn (ra_failingCase a b)
theorem spcok_failingCase (a : GAsn) (b : GAsn) (wE : World) (ro0 : Nat → Option (Array Value)) (ρ : Nat) : SpcOk Fence.wide 0 Try.prog E (AC wE ro0 ρ) Try.f121.ntmps (spc_failingCase a b) :=
  spR_ok tabOk (kall_of (l := L_failingCase) ⟨ok_termsIn, ok_matchCase, trivial⟩) (pall_of (l := P_failingCase) ⟨ptok_possibleCases, trivial⟩) mix it_ok it_len it_run
theorem vcr_failingCase : ∀ x : Args c_failingCase.aks, c_failingCase.pre x → vcY tab (lookF L_failingCase) (lookP P_failingCase) noSpB (spc_failingCase x.1 x.2.1) (fun b => !b) hp_failingCase (fun _ => none) (fun _ _ _ => none) (fun _ => []) (bodyOf Try.f121) (entry (encs c_failingCase.aks x) none) false (retR tab c_failingCase Try.f121.results.toList x) :=
  fun ⟨a, b, _⟩ hp => (vce_failingCase a b 0).mp (vcn_failingCase a b 0 hp)
theorem ok_failingCase : FnOk Try.prog E 121 c_failingCase :=
  fnR_ok (con := c_failingCase) (fn := Try.f121) (l := L_failingCase) (lp := P_failingCase) (hp := hp_failingCase) (gcs := fun _ => none) (perm := fun _ => []) (spc := fun x => spc_failingCase x.1 x.2.1) (anns := fun x => (fun _ _ _ => none)) tabOk mix ⟨ok_termsIn, ok_matchCase, trivial⟩ ⟨ptok_possibleCases, trivial⟩ rfl Try.func121 rfl (by kernel_rfl) (by decide) (by kernel_rfl) (fun x _ => spcok_failingCase x.1 x.2.1) vcr_failingCase tot_fn
end Go.Proofs.Ytejcmcbpfnmlaaa

namespace Go.Proofs.Ytejcmcbpfnmlaaa
open Go.SE Go.RowKit
set_option linter.unusedSimpArgs false
set_option linter.unusedVariables false
set_option maxHeartbeats 1000000
set_option maxRecDepth 100000
/-! iEntails -/
abbrev c_iEntails : Con := ⟨[.asn, .asn], [.bool], fun (a, b, _) => a.facts.length ≤ 281474976710656 ∧ a.atoms.length ≤ 281474976710656 ∧ b.facts.length ≤ 281474976710656 ∧ b.atoms.length ≤ 281474976710656, .inl fun (a, b, _) => (ENT a b, ()), fun _ => 0⟩
abbrev L_iEntails : List (FuncId × Con) := [(19, c_iAssertionValid), (121, c_failingCase)]
abbrev P_iEntails : List (FuncId × PT) := []
def VC_iEntails (a : GAsn) (b : GAsn) (k : Nat) : Prop := TN ∧ TN ∧ True ∧ True ∧ ((a.facts.length ≤ 281474976710656 ∧ a.atoms.length ≤ 281474976710656) ∧ True ∧ True) ∧ True ∧ True ∧ (vcIf (!(asV a)) (True ∧ True ∧ (((false, ()) : Bool × Unit) = (ENT a b, ())) ∧ True ∧ True ∧ True ∧ True ∧ TF) (True ∧ ((b.facts.length ≤ 281474976710656 ∧ b.atoms.length ≤ 281474976710656) ∧ True ∧ True) ∧ True ∧ True ∧ (vcIf (!(asV b)) (True ∧ (((false, ()) : Bool × Unit) = (ENT a b, ())) ∧ True ∧ True ∧ True ∧ True ∧ TF) (True ∧ True ∧ ((asV a = true ∧ asV b = true) ∧ True ∧ True) ∧ True ∧ True ∧ True ∧ (TN ∧ True) ∧ ((((FC a b).headD (List.replicate 9 0)).length = (List.replicate 9 (0 : Int)).length) ∧ TF ∧ TF) ∧ True ∧ True ∧ True ∧ True ∧ (((!(!(FC a b).isEmpty), ()) : Bool × Unit) = (ENT a b, ())) ∧ True ∧ True ∧ True ∧ True ∧ TF))))
theorem vcn_iEntails (a : GAsn) (b : GAsn) (k : Nat) (hp : a.facts.length ≤ 281474976710656 ∧ a.atoms.length ≤ 281474976710656 ∧ b.facts.length ≤ 281474976710656 ∧ b.atoms.length ≤ 281474976710656) : VC_iEntails a b k := by
  unfold VC_iEntails
  simp only [TT, TF, TN, RL, RM, true_and, and_true, eq_self, implies_true, forall_const, List.cons.injEq, S.s.injEq, S0.c.injEq, S0.agg.injEq, CV.d.injEq, CV.own.injEq, CV.ptr.injEq, DC.val.injEq, Value.int.injEq, Value.bool.injEq, Option.some.injEq, Res.blk.injEq, Prod.mk.injEq, inK, min_i64, max_i64, min_u16, max_u16, min_u8, max_u8, min_u64, max_u64, vcIf_true, vcIf_false, List.mem_nil_iff, List.not_mem_nil, not_false_eq_true, Nat.reduceEqDiff, Nat.reduceLeDiff, ne_eq, Bool.and_true, Nat.add_zero, List.append_nil, List.nil_append, List.length_nil, List.length_cons, Nat.zero_add, Nat.reduceAdd, Int.toNat_natCast, Nat.sub_zero, List.drop_zero, List.map_nil, List.take_zero, forall_eq]
  all_goals (try simp only [vcIf_iff, decide_eq_true_eq, decide_eq_false_iff_not, bne_iff_ne, ne_eq, beq_iff_eq, beq_eq_false_iff_ne, bne_eq_false_iff_eq, Bool.not_eq_true', Bool.not_eq_false', Int.ofNat_lt, Int.natCast_inj])
  all_goals (repeat' (first | apply And.intro | intro _))
  all_goals (repeat (cases ‹_ ∧ _›))
  all_goals (first | omega | rfl | assumption | exact (ent_no1 (by assumption)).symm | exact (ent_no2 (by assumption)).symm | (rw [ENT_FC (by assumption) (by assumption), Bool.not_not]; done) | exact fc_len (by assumption) (by assumption) | skip)
theorem vce_iEntails (a : GAsn) (b : GAsn) (k : Nat) : VC_iEntails a b k = vcQ tab (lookF L_iEntails) (lookP P_iEntails) (fun _ => false) (fun _ => none) (fun _ _ => none) (fun _ => []) (bodyOf Try.f56) (entry (encs c_iEntails.aks (a, b, ())) (rdOf false k)) (retOk tab c_iEntails Try.f56.results.toList (a, b, ()) k) := by kernel_rfl
theorem vc_iEntails (a : GAsn) (b : GAsn) (k : Nat) (hp : a.facts.length ≤ 281474976710656 ∧ a.atoms.length ≤ 281474976710656 ∧ b.facts.length ≤ 281474976710656 ∧ b.atoms.length ≤ 281474976710656) : vcQ tab (lookF L_iEntails) (lookP P_iEntails) (fun _ => false) (fun _ => none) (fun _ _ => none) (fun _ => []) (bodyOf Try.f56) (entry (encs c_iEntails.aks (a, b, ())) (rdOf false k)) (retOk tab c_iEntails Try.f56.results.toList (a, b, ()) k) := (vce_iEntails a b k).mp (vcn_iEntails a b k hp)
theorem ok_iEntails : FnOk Try.prog E 56 c_iEntails :=
  fn_okQ (l := L_iEntails) (lp := P_iEntails) (hp := fun _ => false) (gcs := fun _ => none) (perm := fun _ => []) tabOk mix ⟨ok_iAssertionValid, ok_failingCase, trivial⟩ trivial Try.func56 rfl (by kernel_rfl) (by decide) (by kernel_rfl) (anns := fun x _ => fun _ _ => none) (fun ⟨a, b, _⟩ k hp _ => vc_iEntails a b k hp) tot_fn
end Go.Proofs.Ytejcmcbpfnmlaaa

namespace Go.Proofs.Ytejcmcbpfnmlaaa
open Go.SE Go.RowKit
set_option linter.unusedSimpArgs false
set_option linter.unusedVariables false
set_option maxHeartbeats 1000000
set_option maxRecDepth 100000
/-! iEquivalent -/
abbrev c_iEquivalent : Con := ⟨[.asn, .asn], [.bool], fun (a, b, _) => a.facts.length ≤ 281474976710656 ∧ a.atoms.length ≤ 281474976710656 ∧ b.facts.length ≤ 281474976710656 ∧ b.atoms.length ≤ 281474976710656, .inl fun (a, b, _) => (ENT a b && ENT b a, ()), fun _ => 0⟩
abbrev L_iEquivalent : List (FuncId × Con) := [(56, c_iEntails)]
abbrev P_iEquivalent : List (FuncId × PT) := []
def VC_iEquivalent (a : GAsn) (b : GAsn) (k : Nat) : Prop := TN ∧ TN ∧ True ∧ True ∧ True ∧ ((a.facts.length ≤ 281474976710656 ∧ a.atoms.length ≤ 281474976710656 ∧ b.facts.length ≤ 281474976710656 ∧ b.atoms.length ≤ 281474976710656) ∧ True ∧ True) ∧ True ∧ (vcIf (ENT a b) (True ∧ True ∧ ((b.facts.length ≤ 281474976710656 ∧ b.atoms.length ≤ 281474976710656 ∧ a.facts.length ≤ 281474976710656 ∧ a.atoms.length ≤ 281474976710656) ∧ True ∧ True) ∧ True ∧ True ∧ ((((ENT b a), ()) : Bool × Unit) = (ENT a b && ENT b a, ())) ∧ True ∧ True ∧ True ∧ True ∧ TF) (True ∧ True ∧ (((false, ()) : Bool × Unit) = (ENT a b && ENT b a, ())) ∧ True ∧ True ∧ True ∧ True ∧ TF))
theorem vcn_iEquivalent (a : GAsn) (b : GAsn) (k : Nat) (hp : a.facts.length ≤ 281474976710656 ∧ a.atoms.length ≤ 281474976710656 ∧ b.facts.length ≤ 281474976710656 ∧ b.atoms.length ≤ 281474976710656) : VC_iEquivalent a b k := by
  unfold VC_iEquivalent
  simp only [TT, TF, TN, RL, RM, true_and, and_true, eq_self, implies_true, forall_const, List.cons.injEq, S.s.injEq, S0.c.injEq, S0.agg.injEq, CV.d.injEq, CV.own.injEq, CV.ptr.injEq, DC.val.injEq, Value.int.injEq, Value.bool.injEq, Option.some.injEq, Res.blk.injEq, Prod.mk.injEq, inK, min_i64, max_i64, min_u16, max_u16, min_u8, max_u8, min_u64, max_u64, vcIf_true, vcIf_false, List.mem_nil_iff, List.not_mem_nil, not_false_eq_true, Nat.reduceEqDiff, Nat.reduceLeDiff, ne_eq, Bool.and_true, Nat.add_zero, List.append_nil, List.nil_append, List.length_nil, List.length_cons, Nat.zero_add, Nat.reduceAdd, Int.toNat_natCast, Nat.sub_zero, List.drop_zero, List.map_nil, List.take_zero, forall_eq]
  all_goals (try simp only [vcIf_iff, decide_eq_true_eq, decide_eq_false_iff_not, bne_iff_ne, ne_eq, beq_iff_eq, beq_eq_false_iff_ne, bne_eq_false_iff_eq, Bool.not_eq_true', Bool.not_eq_false', Int.ofNat_lt, Int.natCast_inj])
  all_goals (repeat' (first | apply And.intro | intro _))
  all_goals (repeat (cases ‹_ ∧ _›))
  all_goals (first | omega | rfl | assumption | (simp_all; done) | skip)
theorem vce_iEquivalent (a : GAsn) (b : GAsn) (k : Nat) : VC_iEquivalent a b k = vcQ tab (lookF L_iEquivalent) (lookP P_iEquivalent) (fun _ => false) (fun _ => none) (fun _ _ => none) (fun _ => []) (bodyOf Try.f58) (entry (encs c_iEquivalent.aks (a, b, ())) (rdOf false k)) (retOk tab c_iEquivalent Try.f58.results.toList (a, b, ()) k) := by kernel_rfl
theorem vc_iEquivalent (a : GAsn) (b : GAsn) (k : Nat) (hp : a.facts.length ≤ 281474976710656 ∧ a.atoms.length ≤ 281474976710656 ∧ b.facts.length ≤ 281474976710656 ∧ b.atoms.length ≤ 281474976710656) : vcQ tab (lookF L_iEquivalent) (lookP P_iEquivalent) (fun _ => false) (fun _ => none) (fun _ _ => none) (fun _ => []) (bodyOf Try.f58) (entry (encs c_iEquivalent.aks (a, b, ())) (rdOf false k)) (retOk tab c_iEquivalent Try.f58.results.toList (a, b, ()) k) := (vce_iEquivalent a b k).mp (vcn_iEquivalent a b k hp)
theorem ok_iEquivalent : FnOk Try.prog E 58 c_iEquivalent :=
  fn_okQ (l := L_iEquivalent) (lp := P_iEquivalent) (hp := fun _ => false) (gcs := fun _ => none) (perm := fun _ => []) tabOk mix ⟨ok_iEntails, trivial⟩ trivial Try.func58 rfl (by kernel_rfl) (by decide) (by kernel_rfl) (anns := fun x _ => fun _ _ => none) (fun ⟨a, b, _⟩ k hp _ => vc_iEquivalent a b k hp) tot_fn
end Go.Proofs.Ytejcmcbpfnmlaaa

namespace Go.Proofs.Ytejcmcbpfnmlaaa
open Go.SE Go.RowKit
set_option linter.unusedSimpArgs false
set_option linter.unusedVariables false
set_option maxHeartbeats 1000000
set_option maxRecDepth 100000
/-! FnExactEquivalent -/
abbrev c_FnExactEquivalent : Con := ⟨[.asn, .asn], [.bool], fun (a, b, _) => a.facts.length ≤ 281474976710656 ∧ a.atoms.length ≤ 281474976710656 ∧ b.facts.length ≤ 281474976710656 ∧ b.atoms.length ≤ 281474976710656, .inl fun (a, b, _) => (true, ()), fun _ => 0⟩
abbrev L_FnExactEquivalent : List (FuncId × Con) := [(48, c_szAssertion), (50, c_toAssertion), (53, c_eqAssertion), (57, c_sEquivalent), (58, c_iEquivalent)]
abbrev P_FnExactEquivalent : List (FuncId × PT) := []
def VC_FnExactEquivalent (a : GAsn) (b : GAsn) (k : Nat) : Prop := TN ∧ TN ∧ True ∧ True ∧ True ∧ True ∧ ((a.facts.length ≤ 281474976710656 ∧ a.atoms.length ≤ 281474976710656 ∧ 0 ≤ (1048576 : Int) ∧ (1048576 : Int) ≤ 1048576) ∧ True ∧ True) ∧ True ∧ True ∧ True ∧ (vcIf (decide ((szA a (1048576 : Int)) < (0 : Int))) (True ∧ (((true, ()) : Bool × Unit) = (true, ())) ∧ True ∧ True ∧ True ∧ True ∧ TF) (True ∧ True ∧ ((b.facts.length ≤ 281474976710656 ∧ b.atoms.length ≤ 281474976710656 ∧ 0 ≤ (szA a (1048576 : Int)) ∧ (szA a (1048576 : Int)) ≤ 1048576) ∧ True ∧ True) ∧ True ∧ True ∧ True ∧ (vcIf (decide ((szA b (szA a (1048576 : Int))) < (0 : Int))) (True ∧ (((true, ()) : Bool × Unit) = (true, ())) ∧ True ∧ True ∧ True ∧ True ∧ TF) (True ∧ ((a.facts.length ≤ 1048576 ∧ a.atoms.length ≤ 1048576) ∧ True ∧ TN ∧ TN ∧ True) ∧ True ∧ ((b.facts.length ≤ 1048576 ∧ b.atoms.length ≤ 1048576) ∧ True ∧ TN ∧ TN ∧ True) ∧ ((a.facts.length ≤ 281474976710656 ∧ a.atoms.length ≤ 281474976710656 ∧ b.facts.length ≤ 281474976710656 ∧ b.atoms.length ≤ 281474976710656) ∧ True ∧ True) ∧ True ∧ True ∧ ((a.facts.length ≤ 1048576 ∧ a.atoms.length ≤ 1048576) ∧ True ∧ TN ∧ TN ∧ True) ∧ (TN ∧ TN ∧ TN ∧ True) ∧ (TF ∧ TF) ∧ True ∧ ((b.facts.length ≤ 1048576 ∧ b.atoms.length ≤ 1048576) ∧ True ∧ TN ∧ TN ∧ True) ∧ (TN ∧ TN ∧ TN ∧ True) ∧ (TF ∧ TF) ∧ True ∧ True ∧ ((a.facts.length ≤ 281474976710656 ∧ a.atoms.length ≤ 281474976710656 ∧ b.facts.length ≤ 281474976710656 ∧ b.atoms.length ≤ 281474976710656) ∧ True ∧ True) ∧ True ∧ True ∧ True ∧ True ∧ (vcIf ((ENT a b && ENT b a) != (ENT a b && ENT b a)) (True ∧ (((false, ()) : Bool × Unit) = (true, ())) ∧ True ∧ True ∧ True ∧ True ∧ TF) (True ∧ True ∧ ((a.facts.length ≤ 1048576 ∧ a.atoms.length ≤ 1048576) ∧ True ∧ TN ∧ TN ∧ True) ∧ ((a.facts.length ≤ 281474976710656 ∧ a.atoms.length ≤ 281474976710656 ∧ a.facts.length ≤ 281474976710656 ∧ a.atoms.length ≤ 281474976710656) ∧ True ∧ True) ∧ True ∧ (vcIf (!(decide (a = a))) (True ∧ (((false, ()) : Bool × Unit) = (true, ())) ∧ True ∧ True ∧ True ∧ True ∧ TF) (True ∧ True ∧ ((b.facts.length ≤ 1048576 ∧ b.atoms.length ≤ 1048576) ∧ True ∧ TN ∧ TN ∧ True) ∧ ((b.facts.length ≤ 281474976710656 ∧ b.atoms.length ≤ 281474976710656 ∧ b.facts.length ≤ 281474976710656 ∧ b.atoms.length ≤ 281474976710656) ∧ True ∧ True) ∧ True ∧ (vcIf (!(decide (b = b))) (True ∧ (((false, ()) : Bool × Unit) = (true, ())) ∧ True ∧ True ∧ True ∧ True ∧ TF) (True ∧ (((true, ()) : Bool × Unit) = (true, ())) ∧ True ∧ True ∧ True ∧ True ∧ TF))))))))))
theorem vcn_FnExactEquivalent (a : GAsn) (b : GAsn) (k : Nat) (hp : a.facts.length ≤ 281474976710656 ∧ a.atoms.length ≤ 281474976710656 ∧ b.facts.length ≤ 281474976710656 ∧ b.atoms.length ≤ 281474976710656) : VC_FnExactEquivalent a b k := by
  unfold VC_FnExactEquivalent
  simp only [TT, TF, TN, RL, RM, true_and, and_true, eq_self, implies_true, forall_const, List.cons.injEq, S.s.injEq, S0.c.injEq, S0.agg.injEq, CV.d.injEq, CV.own.injEq, CV.ptr.injEq, DC.val.injEq, Value.int.injEq, Value.bool.injEq, Option.some.injEq, Res.blk.injEq, Prod.mk.injEq, inK, min_i64, max_i64, min_u16, max_u16, min_u8, max_u8, min_u64, max_u64, vcIf_true, vcIf_false, List.mem_nil_iff, List.not_mem_nil, not_false_eq_true, Nat.reduceEqDiff, Nat.reduceLeDiff, ne_eq, Bool.and_true, Nat.add_zero, List.append_nil, List.nil_append, List.length_nil, List.length_cons, Nat.zero_add, Nat.reduceAdd, Int.toNat_natCast, Nat.sub_zero, List.drop_zero, List.map_nil, List.take_zero, forall_eq, bne_self_eq_false, beq_self_eq_true, decide_true, eq_self, Bool.not_true, Bool.not_false, vcIf_true, vcIf_false, Bool.false_and, Bool.true_and, Bool.or_false, Bool.or_true]
  all_goals (try simp only [vcIf_iff, decide_eq_true_eq, decide_eq_false_iff_not, bne_iff_ne, ne_eq, beq_iff_eq, beq_eq_false_iff_ne, bne_eq_false_iff_eq, Bool.not_eq_true', Bool.not_eq_false', Int.ofNat_lt, Int.natCast_inj])
  all_goals (repeat' (first | apply And.intro | intro _))
  all_goals (first | omega | (simp_all; done) | grind [szA, sz1])
theorem vce_FnExactEquivalent (a : GAsn) (b : GAsn) (k : Nat) : VC_FnExactEquivalent a b k = vcQ tab (lookF L_FnExactEquivalent) (lookP P_FnExactEquivalent) (fun _ => false) (fun _ => none) (fun _ _ => none) (fun _ => []) (bodyOf Try.f14) (entry (encs c_FnExactEquivalent.aks (a, b, ())) (rdOf false k)) (retOk tab c_FnExactEquivalent Try.f14.results.toList (a, b, ()) k) := by kernel_rfl
theorem vc_FnExactEquivalent (a : GAsn) (b : GAsn) (k : Nat) (hp : a.facts.length ≤ 281474976710656 ∧ a.atoms.length ≤ 281474976710656 ∧ b.facts.length ≤ 281474976710656 ∧ b.atoms.length ≤ 281474976710656) : vcQ tab (lookF L_FnExactEquivalent) (lookP P_FnExactEquivalent) (fun _ => false) (fun _ => none) (fun _ _ => none) (fun _ => []) (bodyOf Try.f14) (entry (encs c_FnExactEquivalent.aks (a, b, ())) (rdOf false k)) (retOk tab c_FnExactEquivalent Try.f14.results.toList (a, b, ()) k) := (vce_FnExactEquivalent a b k).mp (vcn_FnExactEquivalent a b k hp)
theorem ok_FnExactEquivalent : FnOk Try.prog E 14 c_FnExactEquivalent :=
  fn_okQ (l := L_FnExactEquivalent) (lp := P_FnExactEquivalent) (hp := fun _ => false) (gcs := fun _ => none) (perm := fun _ => []) tabOk mix ⟨ok_szAssertion, ok_toAssertion, ok_eqAssertion, ok_sEquivalent, ok_iEquivalent, trivial⟩ trivial Try.func14 rfl (by kernel_rfl) (by decide) (by kernel_rfl) (anns := fun x _ => fun _ _ => none) (fun ⟨a, b, _⟩ k hp _ => vc_FnExactEquivalent a b k hp) tot_fn
end Go.Proofs.Ytejcmcbpfnmlaaa
