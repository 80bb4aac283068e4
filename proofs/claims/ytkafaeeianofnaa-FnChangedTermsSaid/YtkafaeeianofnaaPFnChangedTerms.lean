/-
  The law FnChangedTerms of the program holds: for every input it returns true and leaves its arguments as they were. No conditions.
-/
import Derived.Test.YtkafaeeianofnaaRows
import Derived.Test.YtkafaeeianofnaaS
import Derived.Test.YtkafaeeianofnaaFFnChangedTermsd
set_option linter.unusedSimpArgs false
set_option linter.unusedVariables false
set_option linter.unusedSectionVars false

namespace Go.Proofs.Ytkafaeeianofnaa
open Go.SE Go.RowKit
theorem joined_FnChangedTerms : joinedFacts Try.pinned.checked.prog 6 Try.f6 Rows.fnChangedTermsSpec Rows.fnChangedTermsRow = true := by
  unfold joinedFacts
  rw [sf_big.1, sf_big.2.1, sf_big.2.2]
  kernel_rfl
set_option maxRecDepth 100000 in
theorem lifted_FnChangedTerms (os : Os) (started : os.Started) (H : Type) (enc : TypeId × Value → H) :
    ReturnsInHanded {} Try.checked os 6 .any (Rows.fnChangedTermsSpec.pre6 enc Try.prog Try.f6 Rows.fnChangedTermsRow.domain false) (Rows.fnChangedTermsSpec.post enc Try.prog Try.f6 false true false false) := by
  refine returnsInHanded_of_change_sized (C := Try.checked) own started (by kernel_rfl) Try.func6
    (ChangeSpec.witness6 (enc := enc) (C := Try.checked) false ⟨#[], #[.slice none 0 0], []⟩ 8 (by kernel_rfl) (by kernel_rfl) (by kernel_rfl) (by kernel_rfl)) ?_
  intro W base args ds gs before hval0 hW hcnd hwt _
  letI : Base := ⟨W.heap.size, W.heap.size, Nat.le_refl _⟩
  have hval : ∀ (j : Nat) t v, Try.f6.params[j]? = some t → args[j]? = some v → Value.okWide Try.prog W .any base t v := hval0
  have hW' := hW
  obtain ⟨p, q, hA0, hV, rfl, hfz, hnd⟩ := hW
  have hA : DataW.TrodAll enc Try.prog W 0 (fun _ => true) true Try.f6.params.toList args.toList ds p := hA0
  obtain ⟨rfl, rfl⟩ := ChangeShapes.trodVars_none hV
  have hwt0 : (DataW.weightsEach Try.prog (Try.f6.params.toList ++ []) (ds ++ [])).all (· ≤ reachBytes) = true := hwt
  rw [List.append_nil, List.append_nil] at hwt0
  have hwt' : ∀ k ∈ DataW.weightsEach Try.prog Try.f6.params.toList ds, k ≤ reachBytes := fun k hk => of_decide_eq_true (List.all_eq_true.1 hwt0 k hk)
  rw [Try.params6] at hA hval hwt'
  obtain ⟨v0, d0, rfl, rfl, h0⟩ := ChangeShapes.trodAll_one hA
  obtain ⟨x0, hl0, hp0⟩ := par_sl (t := .u8) (q := elU8 Try.prog) (fun _ => opens_u8) (by kernel_rfl) h0 (hval 0 _ v0 rfl rfl) (fun k hk => hwt' k (by simp [DataW.weightsEach, hk]))
  refine (law_calls ⟨rfl, rfl⟩ ok_FnChangedTerms rfl (fun x r h => by rw [show r = (true, ()) from h]) (x0, ()) (Nat.le_trans hl0 (by decide)) [v0] (argsR_cons hp0 argsR_nil)).mono fun e W' ⟨he, hb⟩ => ?_
  subst he
  exact ⟨_, rfl, law_post laidOut (by rw [Try.params6]; decide +kernel) (by kernel_rfl) (bt := 4) (by kernel_rfl) rfl (fun ds h => by
      rw [Try.params6] at h
      match ds, h with
      | [a0], _ => rfl) hW' hb⟩
/-- The statement. -/
theorem FnChangedTerms_proved : Rows.FnChangedTermsSaid :=
  OpenClaim.holds_of_wide 6 Try.f6 rfl rfl rfl rfl rfl rfl rfl ⟨rfl, rfl, rfl, rfl, rfl⟩ rfl rfl rfl rfl rfl (by kernel_rfl) Try.func6 joined_FnChangedTerms
    (of_decide_eq_true (by kernel_rfl)) (by unfold Func.isWrapper; first | (rw [if_pos (by decide +kernel)]; kernel_rfl) | (rw [if_neg (by decide +kernel)]; exact ⟨rfl, rfl⟩))
    (fun os started H enc _ => lifted_FnChangedTerms os started H enc)
#print axioms FnChangedTerms_proved
end Go.Proofs.Ytkafaeeianofnaa
