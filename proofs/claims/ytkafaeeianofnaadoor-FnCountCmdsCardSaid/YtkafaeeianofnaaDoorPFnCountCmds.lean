/-
  The law FnCountCmds of the program holds: for every input it returns true and leaves its arguments as they were; the listed variable is tied to the program's text. No conditions.
-/
import Derived.Test.YtkafaeeianofnaaDoorRows
import Derived.Test.YtkafaeeianofnaaDoorTie
import Derived.Test.YtkafaeeianofnaaDoorCards
import Derived.SevenTiedAt
import Derived.Test.YtkafaeeianofnaaDoorFFnCountCmdsa
import Derived.Test.YtkafaeeianofnaaDoorFFnCountCmdsd
set_option linter.unusedSimpArgs false
set_option linter.unusedVariables false
set_option linter.unusedSectionVars false

namespace Go.Proofs.YtkafaeeianofnaaDoor
open Go.SE Go.RowKit
theorem joined_FnCountCmds : joinedFacts Tryd.pinned.checked.prog 3 Tryd.f3 Rows.fnCountCmdsSpec Rows.fnCountCmdsRow = true := by
  unfold joinedFacts
  rw [sf_big.1, sf_big.2.1, sf_big.2.2]
  kernel_rfl
set_option maxRecDepth 100000 in
theorem lifted_FnCountCmds (os : Os) (started : os.Started) (H : Type) (enc : TypeId × Value → H) :
    ReturnsInHanded {} Tryd.checked os 3 .any (fun w args => (Rows.fnCountCmdsSpec.pre enc Tryd.prog Tryd.f3 [] false w args ∧ laidMetH Tryd.prog Rows.fnCountCmdsRow.laid w) ∧ sizedMet enc Tryd.prog Tryd.f3 (OpenSpec.ofChange Rows.fnCountCmdsSpec) false w args) (Rows.fnCountCmdsSpec.post enc Tryd.prog Tryd.f3 false true false false) := by
  refine returnsInHanded_of_change_and (C := Tryd.checked) (X := fun w _ => laidMetH Tryd.prog Rows.fnCountCmdsRow.laid w) (fun _ _ _ hh h => h.of_heap hh) own started (by kernel_rfl) Tryd.func3
    (ChangeSpec.witness_shaped (enc := enc) (C := Tryd.checked) (os := os) (X := fun w _ => laidMetH Tryd.prog Rows.fnCountCmdsRow.laid w) false (World.doorLaid Tryd.prog 14 os) #[.slice none 0 0] 8 rfl (World.shaped_of_RefB (by kernel_rfl) (by kernel_rfl)) (by kernel_rfl) (by kernel_rfl) (by kernel_rfl) (door_met os _)) ?_
  intro W base args ds gs before hval0 hW _ hwt hL _
  obtain ⟨ty0, fz0, hrow⟩ := names_at hL
  letI : Base := rowBase W ty0 fz0 hrow
  haveI : Names := rowBase_names hrow
  have hB : BaseAt W := rowBase_at hrow
  have hval : ∀ (j : Nat) t v, Tryd.f3.params[j]? = some t → args[j]? = some v → Value.okWide Tryd.prog W .any base t v := hval0
  have hW' := hW
  obtain ⟨p, q, hA0, hV, rfl, hfz, hnd⟩ := hW
  have hA : DataW.TrodAll enc Tryd.prog W 0 (fun _ => true) true Tryd.f3.params.toList args.toList ds p := hA0
  rw [Tryd.params3] at hA hval hwt
  obtain ⟨v0, d0, rfl, rfl, h0⟩ := ChangeShapes.trodAll_one hA
  obtain ⟨x0, hl0, hp0⟩ := par_sl (t := .u8) (q := elU8 Tryd.prog) (fun _ => opens_u8) (by kernel_rfl) h0 (hval 0 _ v0 rfl rfl) (fun k hk => of_decide_eq_true (List.all_eq_true.1 hwt k (by simp [DataW.weightsEach]; exact .inl hk)))
  refine (law_calls hB ok_FnCountCmds rfl (fun x r h => by rw [show r = (true, ()) from h]) (x0, ()) (Nat.le_trans hl0 (by decide)) [v0] (argsR_cons hp0 argsR_nil)).mono fun e W' ⟨he, hb⟩ => ?_
  subst he
  exact ⟨_, rfl, law_post_var laidOut (by rw [Tryd.params3]; decide +kernel) (by kernel_rfl) (bt := 4) (by kernel_rfl) rfl (by kernel_rfl) (fun ds g1 h => by
      rw [Tryd.params3] at h
      match ds, h with
      | [a0], _ => rfl) rfl hW' hb⟩
/-- The row. -/
theorem FnCountCmds_row : Rows.FnCountCmdsSaid :=
  OpenClaim.holds_of_wide 3 Tryd.f3 rfl rfl rfl rfl rfl rfl rfl ⟨rfl, rfl, rfl, rfl, rfl⟩ rfl rfl rfl rfl rfl (by kernel_rfl) Tryd.func3 joined_FnCountCmds
    (of_decide_eq_true (by kernel_rfl)) (by unfold Func.isWrapper; first | (rw [if_pos (by decide +kernel)]; kernel_rfl) | (rw [if_neg (by decide +kernel)]; exact ⟨rfl, rfl⟩))
    (fun os started H enc _ => lifted_FnCountCmds os started H enc)
/-- The statement: the tied card. -/
theorem FnCountCmds_proved : Rows.FnCountCmdsCardSaid :=
  Claim7.holds_tied_plain_at .later [] [.data] true (true, "fcd4d04753f7385cabb357aa8c9f15d2c2d7d66b0079566cc5e7aff1d8c8f4b1") false
    FnCountCmds_row (fun _ h => by cases h) (by kernel_rfl) (fun _ h => by cases h) fnCountCmds_row_tie rfl ⟨rfl, rfl⟩ (by kernel_rfl) rfl
    (fun f fn hf hfn => by
      obtain rfl : f = 3 := Option.some.inj ((show Tryd.prog.funcNamed Rows.fnCountCmdsRow.func = some 3 by kernel_rfl).symm.trans hf) |>.symm
      obtain rfl : fn = Tryd.f3 := (Option.some.inj (Tryd.func3.symm.trans hfn)).symm
      exact ⟨by kernel_rfl, fun j t ht => by
        rw [Tryd.params3] at ht
        have hm : t ∈ ([22] : List TypeId) := by simpa using Array.mem_of_getElem? ht
        have hall : (([22] : List TypeId).all fun u => !Tryd.prog.wantsStandIn u) = true := by kernel_rfl
        exact (show Tryd.prog.wantsStandIn t = false by simpa using List.all_eq_true.1 hall t hm)⟩)
    (by kernel_rfl)
#print axioms FnCountCmds_proved
end Go.Proofs.YtkafaeeianofnaaDoor
