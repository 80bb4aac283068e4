/-
  The law FnExactRunBasic of the program holds: for every input it returns true and leaves its arguments as they were. No conditions.
-/
import Derived.Test.YtkafaeeianofnaaRows
import Derived.Test.YtkafaeeianofnaaS
import Derived.Test.YtkafaeeianofnaaEd
import Derived.Test.YtkafaeeianofnaaFFnExactRunBasicd
set_option linter.unusedSimpArgs false
set_option linter.unusedVariables false
set_option linter.unusedSectionVars false

namespace Go.Proofs.Ytkafaeeianofnaa
open Go.SE Go.RowKit
theorem joined_FnExactRunBasic : joinedFacts Try.pinned.checked.prog 11 Try.f11 Rows.fnExactRunBasicSpec Rows.fnExactRunBasicRow = true := by
  unfold joinedFacts
  rw [sf_big.1, sf_big.2.1, sf_big.2.2]
  kernel_rfl
set_option maxRecDepth 100000 in
theorem lifted_FnExactRunBasic (os : Os) (started : os.Started) (H : Type) (enc : TypeId × Value → H) :
    ReturnsInHanded {} Try.checked os 11 .any (Rows.fnExactRunBasicSpec.pre6 enc Try.prog Try.f11 Rows.fnExactRunBasicRow.domain false) (Rows.fnExactRunBasicSpec.post enc Try.prog Try.f11 false true false false) := by
  refine returnsInHanded_of_change_sized (C := Try.checked) own started (by kernel_rfl) Try.func11
    (ChangeSpec.witness6 (enc := enc) (C := Try.checked) false ⟨#[], #[.agg #[.slice none 0 0, .slice none 0 0], .agg #[.int .i64 0, .int .i64 0, .int .i64 0, .bool false, .int .i64 0, .int .i64 0, .slice none 0 0, .slice none 0 0, .slice none 0 0, .slice none 0 0]], []⟩ 8 (by kernel_rfl) (by kernel_rfl) (by kernel_rfl) (by kernel_rfl)) ?_
  intro W base args ds gs before hval0 hW hcnd hwt _
  letI : Base := ⟨W.heap.size⟩
  have hval : ∀ (j : Nat) t v, Try.f11.params[j]? = some t → args[j]? = some v → Value.okWide Try.prog W .any base t v := hval0
  have hW' := hW
  obtain ⟨p, q, hA0, hV, rfl, hfz, hnd⟩ := hW
  have hA : DataW.TrodAll enc Try.prog W 0 (fun _ => true) true Try.f11.params.toList args.toList ds p := hA0
  obtain ⟨rfl, rfl⟩ := ChangeShapes.trodVars_none hV
  have hwt0 : (DataW.weightsEach Try.prog (Try.f11.params.toList ++ []) (ds ++ [])).all (· ≤ reachBytes) = true := hwt
  rw [List.append_nil, List.append_nil] at hwt0
  have hwt' : ∀ k ∈ DataW.weightsEach Try.prog Try.f11.params.toList ds, k ≤ reachBytes := fun k hk => of_decide_eq_true (List.all_eq_true.1 hwt0 k hk)
  rw [Try.params11] at hA hval hwt'
  obtain ⟨v0, v1, d0, d1, p0, p1, rfl, rfl, rfl, h0, h1⟩ := ChangeShapes.trodAll_two hA
  obtain ⟨x0, hl0, hm0, hp0⟩ := par_state (by kernel_rfl) (by kernel_rfl) h0 (hval 0 _ v0 rfl rfl) (fun k hk => hwt' k (by simp [DataW.weightsEach, hk]))
  obtain ⟨x1, hl1, hp1⟩ := par_cmd (by kernel_rfl) h1 (hval 1 _ v1 rfl rfl) (fun k hk => hwt' k (by simp [DataW.weightsEach, hk]))
  refine (lw_FnExactRunBasic W rfl x0 x1 ⟨(Nat.le_trans hl0 (by decide)), (Nat.le_trans hm0 (by decide)), hl1⟩ (argsR_cons hp0 (argsR_cons hp1 argsR_nil))).mono fun e W' ⟨he, hb⟩ => ?_
  subst he
  exact ⟨_, rfl, law_post laidOut (by rw [Try.params11]; decide +kernel) (by kernel_rfl) (bt := 4) (by kernel_rfl) rfl (fun ds h => by
      rw [Try.params11] at h
      match ds, h with
      | [a0, a1], _ => rfl) hW' hb⟩
/-- The statement. -/
theorem FnExactRunBasic_proved : Rows.FnExactRunBasicSaid :=
  OpenClaim.holds_of_wide 11 Try.f11 rfl rfl rfl rfl rfl rfl rfl ⟨rfl, rfl, rfl, rfl, rfl⟩ rfl rfl rfl rfl rfl (by kernel_rfl) Try.func11 joined_FnExactRunBasic
    (of_decide_eq_true (by kernel_rfl)) (by unfold Func.isWrapper; first | (rw [if_pos (by decide +kernel)]; kernel_rfl) | (rw [if_neg (by decide +kernel)]; exact ⟨rfl, rfl⟩))
    (fun os started H enc _ => lifted_FnExactRunBasic os started H enc)
#print axioms FnExactRunBasic_proved
end Go.Proofs.Ytkafaeeianofnaa
