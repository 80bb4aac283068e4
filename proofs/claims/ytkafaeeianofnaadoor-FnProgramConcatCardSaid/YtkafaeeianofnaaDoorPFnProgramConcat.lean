/-
  The law FnProgramConcat of the program holds: for every input it returns true and leaves its arguments as they were; the listed variable is tied to the program's text. No conditions.
-/
import Derived.Test.YtkafaeeianofnaaDoorRows
import Derived.Test.YtkafaeeianofnaaDoorTie
import Derived.Test.YtkafaeeianofnaaDoorCards
import Derived.SevenTiedAt
import Derived.Test.YtkafaeeianofnaaDoorFFnProgramConcata
import Derived.Test.YtkafaeeianofnaaDoorFFnProgramConcate
set_option linter.unusedSimpArgs false
set_option linter.unusedVariables false
set_option linter.unusedSectionVars false

namespace Go.Proofs.YtkafaeeianofnaaDoor
open Go.SE Go.RowKit
theorem joined_FnProgramConcat : joinedFacts Tryd.pinned.checked.prog 4 Tryd.f4 Rows.fnProgramConcatSpec Rows.fnProgramConcatRow = true := by
  unfold joinedFacts
  rw [sf_big.1, sf_big.2.1, sf_big.2.2]
  kernel_rfl
set_option maxRecDepth 100000 in
theorem lifted_FnProgramConcat (os : Os) (started : os.Started) (H : Type) (enc : TypeId × Value → H) :
    ReturnsInHanded {} Tryd.checked os 4 .any (fun w args => (Rows.fnProgramConcatSpec.pre enc Tryd.prog Tryd.f4 [] false w args ∧ laidMetH Tryd.prog Rows.fnCountCmdsRow.laid w) ∧ sizedMet enc Tryd.prog Tryd.f4 (OpenSpec.ofChange Rows.fnProgramConcatSpec) false w args) (Rows.fnProgramConcatSpec.post enc Tryd.prog Tryd.f4 false true false false) := by
  refine returnsInHanded_of_change_and (C := Tryd.checked) (X := fun w _ => laidMetH Tryd.prog Rows.fnCountCmdsRow.laid w) (fun _ _ _ hh h => h.of_heap hh) own started (by kernel_rfl) Tryd.func4
    (ChangeSpec.witness_shaped (enc := enc) (C := Tryd.checked) (os := os) (X := fun w _ => laidMetH Tryd.prog Rows.fnCountCmdsRow.laid w) false (World.doorLaid Tryd.prog 14 os) #[.slice none 0 0, .slice none 0 0] 8 rfl (World.shaped_of_RefB (by kernel_rfl) (by kernel_rfl)) (by kernel_rfl) (by kernel_rfl) (by kernel_rfl) (door_met os _)) ?_
  intro W base args ds gs before hval0 hW _ hwt hL _
  obtain ⟨ty0, fz0, hrow⟩ := names_at hL
  letI : Base := rowBase W ty0 fz0 hrow
  haveI : Names := rowBase_names hrow
  have hB : BaseAt W := rowBase_at hrow
  have hval : ∀ (j : Nat) t v, Tryd.f4.params[j]? = some t → args[j]? = some v → Value.okWide Tryd.prog W .any base t v := hval0
  have hW' := hW
  obtain ⟨p, q, hA0, hV, rfl, hfz, hnd⟩ := hW
  have hA : DataW.TrodAll enc Tryd.prog W 0 (fun _ => true) true Tryd.f4.params.toList args.toList ds p := hA0
  rw [Tryd.params4] at hA hval hwt
  obtain ⟨v0, v1, d0, d1, p0, p1, rfl, rfl, rfl, h0, h1⟩ := ChangeShapes.trodAll_two hA
  obtain ⟨x0, hl0, hp0⟩ := par_sl (t := .u8) (q := elU8 Tryd.prog) (fun _ => opens_u8) (by kernel_rfl) h0 (hval 0 _ v0 rfl rfl) (fun k hk => of_decide_eq_true (List.all_eq_true.1 hwt k (by simp [DataW.weightsEach]; exact .inl hk)))
  obtain ⟨x1, hl1, hp1⟩ := par_sl (t := .u8) (q := elU8 Tryd.prog) (fun _ => opens_u8) (by kernel_rfl) h1 (hval 1 _ v1 rfl rfl) (fun k hk => of_decide_eq_true (List.all_eq_true.1 hwt k (by simp [DataW.weightsEach]; exact .inr (.inl hk))))
  refine (law_calls hB ok_FnProgramConcat rfl (fun x r h => by rw [show r = (true, ()) from h]) (x0, x1, ()) ⟨(Nat.le_trans hl0 (by decide)), (Nat.le_trans hl1 (by decide))⟩ [v0, v1] (argsR_cons hp0 (argsR_cons hp1 argsR_nil))).mono fun e W' ⟨he, hb⟩ => ?_
  subst he
  exact ⟨_, rfl, law_post_var laidOut (by rw [Tryd.params4]; decide +kernel) (by kernel_rfl) (bt := 4) (by kernel_rfl) rfl (by kernel_rfl) (fun ds g1 h => by
      rw [Tryd.params4] at h
      match ds, h with
      | [a0, a1], _ => rfl) rfl hW' hb⟩
/-- The row. -/
theorem FnProgramConcat_row : Rows.FnProgramConcatSaid :=
  OpenClaim.holds_of_wide 4 Tryd.f4 rfl rfl rfl rfl rfl rfl rfl ⟨rfl, rfl, rfl, rfl, rfl⟩ rfl rfl rfl rfl rfl (by kernel_rfl) Tryd.func4 joined_FnProgramConcat
    (of_decide_eq_true (by kernel_rfl)) (by unfold Func.isWrapper; first | (rw [if_pos (by decide +kernel)]; kernel_rfl) | (rw [if_neg (by decide +kernel)]; exact ⟨rfl, rfl⟩))
    (fun os started H enc _ => lifted_FnProgramConcat os started H enc)
/-- The statement: the tied card. -/
theorem FnProgramConcat_proved : Rows.FnProgramConcatCardSaid :=
  Claim7.holds_tied_plain_at .later [] [.data] true (true, "fcd4d04753f7385cabb357aa8c9f15d2c2d7d66b0079566cc5e7aff1d8c8f4b1") false
    FnProgramConcat_row (fun _ h => by cases h) (by kernel_rfl) (fun _ h => by cases h) fnProgramConcat_row_tie rfl ⟨rfl, rfl⟩ (by kernel_rfl) rfl
    (fun f fn hf hfn => by
      obtain rfl : f = 4 := Option.some.inj ((show Tryd.prog.funcNamed Rows.fnProgramConcatRow.func = some 4 by kernel_rfl).symm.trans hf) |>.symm
      obtain rfl : fn = Tryd.f4 := (Option.some.inj (Tryd.func4.symm.trans hfn)).symm
      exact ⟨by kernel_rfl, fun j t ht => by
        rw [Tryd.params4] at ht
        have hm : t ∈ ([22, 22] : List TypeId) := by simpa using Array.mem_of_getElem? ht
        have hall : (([22, 22] : List TypeId).all fun u => !Tryd.prog.wantsStandIn u) = true := by kernel_rfl
        exact (show Tryd.prog.wantsStandIn t = false by simpa using List.all_eq_true.1 hall t hm)⟩)
    (by kernel_rfl)
#print axioms FnProgramConcat_proved
end Go.Proofs.YtkafaeeianofnaaDoor
