/-
  Parts of a symbolic engine over the program's code: how operations, regions, loops and calls are shown to keep contracts. No conditions.
-/
import Derived.Test.YtejcmcbpfnmlaaaEf
import Derived.Test.YtejcmcbpfnmlaaaEe
set_option linter.unusedSimpArgs false
set_option linter.unusedVariables false
set_option linter.unusedSectionVars false

namespace Go.SE
open Go.RowKit

def isAd (n : Int) : Bool := decide (1 ≤ n) && decide (n ≤ 8)
theorem isAd_iff {n : Int} : isAd n = true ↔ 1 ≤ n ∧ n ≤ 8 := by unfold isAd; simp
theorem isAd_no {n : Int} : isAd n = false ↔ ¬ (1 ≤ n ∧ n ≤ 8) := by rw [← isAd_iff]; simp
theorem isAd_T {n : Int} (h : isAd n = true) : isT n = true := by have := isAd_iff.1 h; exact isT_iff.2 ⟨by omega, by omega⟩
def csHas (s n : Int) : Bool := isAd n && tsHas s n
section
variable {s : GState}
theorem stV_all (h : stV s = true) : s.vals.length = 8 ∧ s.heap.length = 8 ∧ s.vals.all isT = true ∧ s.heap.all hv = true := by
  unfold stV at h
  simp only [Bool.and_eq_true, beq_iff_eq] at h
  exact ⟨h.1.1.1, h.1.1.2, h.1.2, h.2⟩
theorem ct_no {n : Int} (h : isAd n = false) : ct s n = -1 := by unfold ct; rw [if_neg (isAd_no.1 h)]
theorem ct_yes {n : Int} (h : isAd n = true) : ct s n = s.heap.getD (n - 1).toNat 0 := by unfold ct; rw [if_pos (isAd_iff.1 h)]
theorem ct_bd (h : stV s = true) (n : Int) : -1 ≤ ct s n ∧ ct s n ≤ 8 := by
  obtain ⟨_, h2, _, h4⟩ := stV_all h
  unfold ct
  split
  · have hi : (n - 1).toNat < s.heap.length := by omega
    have := List.all_eq_true.1 h4 _ (List.getElem_mem hi)
    rw [List.getD_eq_getElem?_getD, List.getElem?_eq_getElem hi]
    unfold hv at this
    simp only [Bool.or_eq_true, beq_iff_eq] at this
    rcases this with this | this
    · show -1 ≤ s.heap[(n - 1).toNat] ∧ s.heap[(n - 1).toNat] ≤ 8
      omega
    · have := isT_iff.1 this
      show -1 ≤ s.heap[(n - 1).toNat] ∧ s.heap[(n - 1).toNat] ≤ 8
      omega
  · omega
theorem al_isAd {n : Int} (h : al s n = true) : isAd n = true := isAd_iff.2 (al_range h)
end

/-! ## the way -/
structure wkI (s : GState) (x y : Int) (w : List Int) (q : Int) : Prop where
  le : w.length ≤ 8
  bd : -1 ≤ q ∧ q ≤ 8
  eq : walk s y 8 x = (walk s y (8 - w.length) q).map (w ++ ·)
section
variable {s : GState} {x y q : Int} {w : List Int}
theorem wkI_zero (h : isT x = true) : wkI s x y [] x := ⟨by simp, by have := isT_iff.1 h; omega, by simp⟩
theorem wk_end (h : wkI s x y w q) (e : q = y) : walk s y 8 x = some w := by
  rw [h.eq]
  cases 8 - w.length <;> simp [walk, e]
theorem wk_no (h : wkI s x y w q) (e : ¬ q = y) (ha : al s q = false) : walk s y 8 x = none := by
  rw [h.eq]
  cases 8 - w.length <;> simp [walk, e, ha]
theorem wk_full (h : wkI s x y w q) (e : ¬ q = y) (hl : 8 ≤ w.length) : walk s y 8 x = none := by
  rw [h.eq, show 8 - w.length = 0 by omega]
  simp [walk, e]
theorem wk_go (hs : stV s = true) (h : wkI s x y w q) (e : ¬ q = y) (ha : al s q = true) (hl : w.length < 8) : wkI s x y (w ++ [q]) (ct s q) := by
  refine ⟨by simp; omega, ct_bd hs q, ?_⟩
  rw [h.eq, show 8 - w.length = (8 - (w ++ [q]).length) + 1 by simp; omega, walk, if_neg e, ha, cond_true, Option.map_map]
  congr 1
  funext z
  simp
end
def wkL (s : GState) (x y : Int) : List Int := (cond (stV s && (isT x && isT y)) (walk s y 8 x) none).getD []
def wkB (s : GState) (x y : Int) : Bool := (cond (stV s && (isT x && isT y)) (walk s y 8 x) none).isSome
section
variable {s : GState} {x y q : Int} {w : List Int}
theorem wk_ok (h : stV s = true) (hx : isT x = true) (hy : isT y = true) : wkL s x y = (walk s y 8 x).getD [] ∧ wkB s x y = (walk s y 8 x).isSome := by
  unfold wkL wkB; rw [h, hx, hy]; exact ⟨rfl, rfl⟩
theorem wk_bad (h : (stV s && (isT x && isT y)) = false) : wkL s x y = [] ∧ wkB s x y = false := by unfold wkL wkB; rw [h]; exact ⟨rfl, rfl⟩
theorem wk_bad1 (h : stV s = false) : wkL s x y = [] ∧ wkB s x y = false := wk_bad (by rw [h]; rfl)
theorem wk_bad2 (h : isT x = false) : wkL s x y = [] ∧ wkB s x y = false := wk_bad (by rw [h]; simp)
theorem wk_bad3 (h : isT y = false) : wkL s x y = [] ∧ wkB s x y = false := wk_bad (by rw [h]; simp)
theorem wk_some (h : walk s y 8 x = some w) (hs : stV s = true) (hx : isT x = true) (hy : isT y = true) : wkL s x y = w ∧ wkB s x y = true := by obtain ⟨a, b⟩ := wk_ok hs hx hy; rw [a, b, h]; exact ⟨rfl, rfl⟩
theorem wk_none (h : walk s y 8 x = none) (hs : stV s = true) (hx : isT x = true) (hy : isT y = true) : wkL s x y = [] ∧ wkB s x y = false := by obtain ⟨a, b⟩ := wk_ok hs hx hy; rw [a, b, h]; exact ⟨rfl, rfl⟩
end

/-! ## the cells of an atom -/
def acS (s : GState) (x : GAtom) : Option (List Int) := cond (stV s && atV x) (acO s x) none
def acL (s : GState) (x : GAtom) : List Int := (acS s x).getD []
def acB (s : GState) (x : GAtom) : Bool := (acS s x).isSome
section
variable {s : GState} {x : GAtom}
theorem ac_bad1 (h : stV s = false) : acL s x = [] ∧ acB s x = false := by unfold acL acB acS; rw [h]; exact ⟨rfl, rfl⟩
theorem ac_bad2 (h : atV x = false) : acL s x = [] ∧ acB s x = false := by unfold acL acB acS; rw [h, Bool.and_false]; exact ⟨rfl, rfl⟩
theorem ac_list (hs : stV s = true) (hx : atV x = true) (hk : x.kind = 2) : acL s x = wkL s (tv s.vals x.a) (tv s.vals x.b) ∧ acB s x = wkB s (tv s.vals x.a) (tv s.vals x.b) := by
  have h1 := isT_iff.2 (tv_isT hs (atV_isT hx).1)
  have h2 := isT_iff.2 (tv_isT hs (atV_isT hx).2)
  obtain ⟨e1, e2⟩ := wk_ok hs h1 h2
  rw [e1, e2]
  unfold acL acB acS acO
  rw [hs, hx, if_pos hk]
  exact ⟨rfl, rfl⟩
theorem ac_no (hs : stV s = true) (hx : atV x = true) (hk : ¬ x.kind = 2) (h : ¬ ct s (tv s.vals x.a) = tv s.vals x.b) : acL s x = [] ∧ acB s x = false := by
  unfold acL acB acS acO
  rw [hs, hx, if_neg hk]
  simp [h]
theorem ac_yes (hs : stV s = true) (hx : atV x = true) (hk : ¬ x.kind = 2) (h : ct s (tv s.vals x.a) = tv s.vals x.b) : acL s x = [tv s.vals x.a] ∧ acB s x = true := by
  unfold acL acB acS acO
  rw [hs, hx, if_neg hk]
  simp [h]
theorem ac_al (h : acB s x = true) : ∀ n ∈ acL s x, al s n = true := by
  unfold acB acS at h
  cases hc : (stV s && atV x) with
  | false => rw [hc] at h; cases h
  | true =>
    rw [hc, cond_true] at h
    rw [Bool.and_eq_true] at hc
    obtain ⟨c, hcc⟩ := Option.isSome_iff_exists.1 h
    intro n hn
    unfold acL acS at hn
    rw [hc.1, hc.2, show (true && true) = true from rfl, cond_true, hcc] at hn
    exact (acO_al hc.1 hc.2 hcc).1 n hn
theorem ac_eq (hs : stV s = true) (hx : atV x = true) : acO s x = cond (acB s x) (some (acL s x)) none := by
  unfold acB acL acS
  rw [hs, hx]
  show _ = cond (acO s x).isSome (some ((acO s x).getD [])) none
  cases acO s x <;> rfl
theorem walk_len {to : Int} : ∀ (f : Nat) (q : Int) (L : List Int), walk s to f q = some L → L.length ≤ f := by
  intro f
  induction f with
  | zero => intro q L h; simp only [walk] at h; split at h <;> simp_all
  | succ f ih =>
    intro q L h
    simp only [walk] at h
    split at h
    · injection h with h; subst h; simp
    · cases ha : al s q with
      | false => rw [ha] at h; cases h
      | true =>
        rw [ha, cond_true] at h
        cases hw : walk s to f (ct s q) with
        | none => rw [hw] at h; cases h
        | some M =>
          rw [hw] at h
          injection h with h
          subst h
          have := ih _ _ hw
          simp only [List.length_cons]
          omega
theorem acL_len : (acL s x).length ≤ 8 := by
  unfold acL acS
  cases hc : (stV s && atV x) with
  | false => simp
  | true =>
    rw [cond_true]
    unfold acO
    split
    · cases hw : walk s (tv s.vals x.b) 8 (tv s.vals x.a) with
      | none => simp
      | some L => exact walk_len _ _ _ hw
    · split <;> simp
end

/-! ## the cells of all atoms -/
/-- the cells of the first i atoms -/
def ptL (s : GState) (l : List GAtom) (i : Nat) : List Int := (l.take i).flatMap (acL s)
structure ptI (s : GState) (l : List GAtom) (i : Nat) : Prop where
  le : i ≤ l.length
  eq : ptO s [] l = ptO s (ptL s l i) (l.drop i)
  al : ∀ n ∈ ptL s l i, SE.al s n = true
def nw (L c : List Int) (j : Nat) : Prop := ∀ k : Nat, k < j → (L ++ c.take k).contains (c.getD k 0) = false
section
variable {s : GState} {l : List GAtom} {i j : Nat}
theorem ptL_succ (hi : i < l.length) : ptL s l (i + 1) = ptL s l i ++ acL s (l.getD i ⟨0, 0, 0⟩) := by
  unfold ptL
  rw [List.take_add_one, List.getElem?_eq_getElem hi, List.flatMap_append, List.getD_eq_getElem?_getD, List.getElem?_eq_getElem hi]
  simp
theorem ptI_zero : ptI s l 0 := ⟨Nat.zero_le _, rfl, fun n hn => by cases hn⟩
theorem ptO_at {L : List Int} (hs : stV s = true) (hl : l.all atV = true) (hi : i < l.length) : ptO s L (l.drop i) = cond (acB s (l.getD i ⟨0, 0, 0⟩)) (cond ((acL s (l.getD i ⟨0, 0, 0⟩)).all (fun n => !L.contains n) && decide (acL s (l.getD i ⟨0, 0, 0⟩)).Nodup) (ptO s (L ++ acL s (l.getD i ⟨0, 0, 0⟩)) (l.drop (i + 1))) none) none := by
  have hx : atV (l.getD i ⟨0, 0, 0⟩) = true := all_get (d := (⟨0, 0, 0⟩ : GAtom)) hl hi
  have e : l.drop i = l.getD i ⟨0, 0, 0⟩ :: l.drop (i + 1) := by
    rw [List.drop_eq_getElem_cons hi, List.getD_eq_getElem?_getD, List.getElem?_eq_getElem hi]; rfl
  rw [e, ptO, ac_eq hs hx]
  cases acB s (l.getD i ⟨0, 0, 0⟩) <;> rfl
theorem con_no {M : List Int} {y : Int} : M.contains y = false ↔ y ∉ M := by rw [← Bool.not_eq_true, List.contains_iff_mem]
theorem nw_iff {L c : List Int} : (c.all (fun n => !L.contains n) && decide c.Nodup) = true ↔ nw L c c.length := by
  rw [Bool.and_eq_true, List.all_eq_true, decide_eq_true_eq]
  have gd : ∀ (k : Nat) (hk : k < c.length), c.getD k 0 = c[k] := fun k hk => by rw [List.getD_eq_getElem?_getD, List.getElem?_eq_getElem hk]; rfl
  constructor
  · rintro ⟨h1, h2⟩ k hk
    rw [gd k hk, con_no, List.mem_append]
    rintro (h | h)
    · have := h1 c[k] (List.getElem_mem hk)
      rw [Bool.not_eq_true', con_no] at this
      exact this h
    · obtain ⟨m, hm, e⟩ := List.mem_iff_getElem.1 h
      rw [List.length_take] at hm
      rw [List.getElem_take] at e
      exact List.pairwise_iff_getElem.1 h2 m k (by omega) hk (by omega) e
  · intro h
    refine ⟨fun n hn => ?_, List.pairwise_iff_getElem.2 fun m k hm hk hmk e => ?_⟩
    · obtain ⟨k, hk, rfl⟩ := List.mem_iff_getElem.1 hn
      have := h k hk
      rw [gd k hk, con_no, List.mem_append] at this
      rw [Bool.not_eq_true', con_no]
      exact fun hh => this (.inl hh)
    · have := h k hk
      rw [gd k hk, con_no, List.mem_append] at this
      exact this (.inr (List.mem_iff_getElem.2 ⟨m, by rw [List.length_take]; omega, by rw [List.getElem_take]; exact e⟩))
theorem nw_zero {L c : List Int} : nw L c 0 := fun k hk => by omega
theorem nw_step {L c : List Int} (h : nw L c j) (hj : (L ++ c.take j).contains (c.getD j 0) = false) : nw L c (j + 1) := fun k hk => by
  by_cases e : k = j
  · subst e; exact hj
  · exact h k (by omega)
theorem pt_bad (hs : stV s = true) (hl : l.all atV = true) (h : ptI s l i) (hi : i < l.length) (hb : acB s (l.getD i ⟨0, 0, 0⟩) = false) : ptO s [] l = none := by
  rw [h.eq, ptO_at hs hl hi, hb]; rfl
theorem pt_dup (hs : stV s = true) (hl : l.all atV = true) (h : ptI s l i) (hi : i < l.length) (hj : j < (acL s (l.getD i ⟨0, 0, 0⟩)).length) (hc : (ptL s l i ++ (acL s (l.getD i ⟨0, 0, 0⟩)).take j).contains ((acL s (l.getD i ⟨0, 0, 0⟩)).getD j 0) = true) : ptO s [] l = none := by
  rw [h.eq, ptO_at hs hl hi]
  cases hb : acB s (l.getD i ⟨0, 0, 0⟩) with
  | false => rfl
  | true =>
    rw [cond_true]
    cases hq : ((acL s (l.getD i ⟨0, 0, 0⟩)).all (fun n => !(ptL s l i).contains n) && decide (acL s (l.getD i ⟨0, 0, 0⟩)).Nodup) with
    | false => rfl
    | true =>
      have := nw_iff.1 hq j hj
      rw [hc] at this; cases this
theorem pt_next (hs : stV s = true) (hl : l.all atV = true) (h : ptI s l i) (hi : i < l.length) (hb : acB s (l.getD i ⟨0, 0, 0⟩) = true) (hj : ¬ j < (acL s (l.getD i ⟨0, 0, 0⟩)).length) (hj2 : j ≤ (acL s (l.getD i ⟨0, 0, 0⟩)).length) (hn : nw (ptL s l i) (acL s (l.getD i ⟨0, 0, 0⟩)) j) : ptI s l (i + 1) := by
  have e : j = (acL s (l.getD i ⟨0, 0, 0⟩)).length := by omega
  subst e
  refine ⟨hi, ?_, ?_⟩
  · rw [h.eq, ptO_at hs hl hi, hb, nw_iff.2 hn, ptL_succ hi]; rfl
  · intro n hm
    rw [ptL_succ hi, List.mem_append] at hm
    rcases hm with hm | hm
    · exact h.al n hm
    · exact ac_al hb n hm
theorem pt_end (h : ptI s l i) (hi : ¬ i < l.length) : ptO s [] l = some (ptL s l i) := by
  rw [h.eq, List.drop_of_length_le (by omega), ptO]
end
/-! ## sets of addresses, as the program keeps them -/
theorem csHas_mask {L : List Int} {n : Int} : csHas (maskS L) n = (isAd n && L.contains n) := by
  unfold csHas
  rw [maskS_has]
  cases h : isAd n with
  | false => rfl
  | true => rw [isAd_T h]; rfl
theorem mask_take {L c : List Int} {j : Nat} (hj : j < c.length) : maskS (L ++ c.take (j + 1)) = tsWith (maskS (L ++ c.take j)) (c.getD j 0) := by
  rw [List.take_add_one, List.getElem?_eq_getElem hj, List.getD_eq_getElem?_getD, List.getElem?_eq_getElem hj, ← List.append_assoc]
  exact maskS_app _ _
def usL (s : GState) (i : Nat) : List Int := (addrs.take i).filter (al s)
theorem usL_step {s : GState} {i : Nat} (hi : i < 8) : usL s (i + 1) = cond (al s ((i : Int) + 1)) (usL s i ++ [(i : Int) + 1]) (usL s i) := by
  unfold usL
  rw [List.take_add_one, List.filter_append]
  have e : addrs[i]? = some ((i : Int) + 1) := by
    match i, hi with
    | 0, _ | 1, _ | 2, _ | 3, _ | 4, _ | 5, _ | 6, _ | 7, _ => rfl
  rw [e]
  show _ ++ List.filter _ [(i : Int) + 1] = _
  cases h : al s ((i : Int) + 1) <;> simp [h]
theorem mask_eq {L M : List Int} (h : ∀ n, isT n = true → L.contains n = M.contains n) : maskS L = maskS M := by
  have h1 := maskS_bd L
  have h2 := maskS_bd M
  have key : (maskS L).toNat = (maskS M).toNat := by
    apply Nat.eq_of_testBit_eq
    intro k
    by_cases hk : k < 9
    · have a1 := maskS_has (k : Int) L
      have a2 := maskS_has (k : Int) M
      have ht : isT (k : Int) = true := isT_iff.2 ⟨by omega, by omega⟩
      unfold tsHas at a1 a2
      rw [ht, Bool.true_and, Bool.true_and, Int.toNat_natCast] at a1 a2
      rw [a1, a2, h _ ht]
    · rw [Nat.testBit_lt_two_pow, Nat.testBit_lt_two_pow]
      · exact Nat.lt_of_lt_of_le (by omega) (Nat.pow_le_pow_right (by decide) (show 9 ≤ k by omega))
      · exact Nat.lt_of_lt_of_le (by omega) (Nat.pow_le_pow_right (by decide) (show 9 ≤ k by omega))
  omega
theorem mask_inj {L M : List Int} (h : maskS L = maskS M) {n : Int} (hn : isT n = true) : L.contains n = M.contains n := by
  have a1 := maskS_has n L
  have a2 := maskS_has n M
  rw [h, a2, hn] at a1
  simpa using a1.symm

def poO (s : GState) (a : GAsn) : Option (List Int) := cond (stV s && (asV a && fctB s a.facts)) (ptO s [] a.atoms) none
def poL (s : GState) (a : GAsn) : List Int := (poO s a).getD []
def poB (s : GState) (a : GAsn) : Bool := (poO s a).isSome
section
variable {s : GState} {a : GAsn} {i : Nat}
theorem po_bad (h : (stV s && (asV a && fctB s a.facts)) = false) : poL s a = [] ∧ poB s a = false := by unfold poL poB poO; rw [h]; exact ⟨rfl, rfl⟩
theorem po_bad1 (h : stV s = false) : poL s a = [] ∧ poB s a = false := po_bad (by rw [h]; rfl)
theorem po_bad2 (h : asV a = false) : poL s a = [] ∧ poB s a = false := po_bad (by rw [h]; simp)
theorem po_bad3 (h : fctB s a.facts = false) : poL s a = [] ∧ poB s a = false := po_bad (by rw [h]; simp)
theorem po_ok (hs : stV s = true) (ha : asV a = true) (hf : fctB s a.facts = true) : poO s a = ptO s [] a.atoms := by unfold poO; rw [hs, ha, hf]; rfl
theorem po_none (hs : stV s = true) (ha : asV a = true) (hf : fctB s a.facts = true) (h : ptO s [] a.atoms = none) : poL s a = [] ∧ poB s a = false := by
  unfold poL poB; rw [po_ok hs ha hf, h]; exact ⟨rfl, rfl⟩
theorem po_some (hs : stV s = true) (ha : asV a = true) (hf : fctB s a.facts = true) {L : List Int} (h : ptO s [] a.atoms = some L) : poL s a = L ∧ poB s a = true := by
  unfold poL poB; rw [po_ok hs ha hf, h]; exact ⟨rfl, rfl⟩
theorem hol_po (hs : stV s = true) (ha : asV a = true) : HOL s a = (poB s a && addrs.all fun n => (poL s a).contains n == al s n) := by
  unfold HOL poB poL poO
  rw [hs, ha]
  cases fctB s a.facts with
  | false => rfl
  | true =>
    simp only [Bool.true_and, cond_true]
    cases ptO s [] a.atoms <;> rfl
theorem hol_no1 (h : stV s = false) : HOL s a = false := by unfold HOL; rw [h]; rfl
theorem hol_no2 (h : asV a = false) : HOL s a = false := by unfold HOL; rw [h]; simp
theorem po_v (h : poB s a = true) : stV s = true ∧ asV a = true ∧ fctB s a.facts = true := by
  unfold poB poO at h
  cases hc : (stV s && (asV a && fctB s a.facts)) with
  | false => rw [hc] at h; cases h
  | true => simp only [Bool.and_eq_true] at hc; exact ⟨hc.1, hc.2.1, hc.2.2⟩
theorem hol_poF (h : poB s a = false) : HOL s a = false := by
  cases hs : stV s with
  | false => exact hol_no1 hs
  | true =>
    cases ha : asV a with
    | false => exact hol_no2 ha
    | true => rw [hol_po hs ha, h]; rfl
theorem usL8 (n : Int) : (usL s 8).contains n = al s n := by
  rw [Bool.eq_iff_iff, List.contains_iff_mem]
  unfold usL
  rw [show addrs.take 8 = addrs from rfl, List.mem_filter]
  constructor
  · exact fun h => h.2
  · intro h
    refine ⟨?_, h⟩
    have := al_range h
    unfold addrs
    simp only [List.mem_cons, List.mem_nil_iff, or_false]
    omega
theorem ptO_al (hs : stV s = true) : ∀ (l : List GAtom) (L M : List Int), l.all atV = true → (∀ n ∈ L, al s n = true) → ptO s L l = some M → ∀ n ∈ M, al s n = true := by
  intro l
  induction l with
  | nil => intro L M _ hL h; simp only [ptO] at h; injection h with h; subst h; exact hL
  | cons x l ih =>
    intro L M hv hL h
    simp only [List.all_cons, Bool.and_eq_true] at hv
    simp only [ptO] at h
    cases hc : acO s x with
    | none => rw [hc] at h; cases h
    | some c =>
      rw [hc] at h
      simp only at h
      cases hd : (c.all (fun n => !L.contains n) && decide c.Nodup) with
      | false => rw [hd] at h; cases h
      | true =>
        rw [hd, cond_true] at h
        refine ih _ _ hv.2 (fun n hn => ?_) h
        rcases List.mem_append.1 hn with hn | hn
        · exact hL n hn
        · exact (acO_al hs hv.1 hc).1 n hn
theorem po_al (h : poB s a = true) : ∀ n ∈ poL s a, al s n = true := by
  obtain ⟨hs, ha, hf⟩ := po_v h
  unfold poB at h
  obtain ⟨L, hL⟩ := Option.isSome_iff_exists.1 h
  have e : poL s a = L := by unfold poL; rw [hL]; rfl
  rw [e]
  rw [po_ok hs ha hf] at hL
  exact ptO_al hs _ _ _ (asV_facts ha).2.2.1 (fun n hn => by cases hn) hL
theorem hol_mask (h : poB s a = true) : (maskS (poL s a) == maskS (usL s 8)) = HOL s a := by
  obtain ⟨hs, ha, _⟩ := po_v h
  rw [hol_po hs ha, h, Bool.true_and, Bool.eq_iff_iff, beq_iff_eq, List.all_eq_true]
  constructor
  · intro he n hn
    have hT : isT n = true := by
      unfold addrs at hn
      simp only [List.mem_cons, List.mem_nil_iff, or_false] at hn
      exact isT_iff.2 ⟨by omega, by omega⟩
    rw [mask_inj he hT, usL8]
    simp
  · intro ha'
    refine mask_eq fun n hn => ?_
    rw [usL8]
    by_cases hm : n ∈ addrs
    · simpa using ha' n hm
    · have h2 : al s n = false := by
        cases hq : al s n with
        | false => rfl
        | true =>
          exfalso
          have := al_range hq
          apply hm
          unfold addrs
          simp only [List.mem_cons, List.mem_nil_iff, or_false]
          omega
      rw [h2, con_no]
      exact fun hh => by rw [po_al h n hh] at h2; cases h2
end

theorem cs_yes {z n : Int} (h0 : 0 ≤ z) (h1 : z < 512) (h : isAd n = true) : (bits .and .u16 (z.fdiv (2 ^ min n.toNat IntKind.u16.bits)) 1 == 1) = csHas z n := by
  unfold csHas
  rw [tsHas_eq h0 h1 (isAd_T h), h]; rfl
theorem cs_no {z n : Int} (h : isAd n = false) : false = csHas z n := by unfold csHas; rw [h]; rfl
theorem or_mask {L : List Int} {n : Int} (h : isT n = true) : bits .or .u16 (maskS L) (IntKind.u16.wrap (1 * 2 ^ min n.toNat IntKind.u16.bits)) = maskS (L ++ [n]) := by
  rw [tsWith_eq (maskS_bd L).1 (maskS_bd L).2 h, maskS_app]
theorem us1 {s : GState} {i : Nat} (hi : (i : Int) + 1 ≤ 8) (h : al s ((i : Int) + 1) = true) : bits .or .u16 (maskS (usL s i)) (IntKind.u16.wrap (1 * 2 ^ min ((i : Int) + 1).toNat IntKind.u16.bits)) = maskS (usL s (i + 1)) := by
  rw [or_mask (isT_iff.2 ⟨by omega, by omega⟩), usL_step (by omega), h]; rfl
theorem us2 {s : GState} {i : Nat} (hi : (i : Int) + 1 ≤ 8) (h : al s ((i : Int) + 1) = false) : maskS (usL s i) = maskS (usL s (i + 1)) := by
  rw [usL_step (by omega), h]; rfl
theorem us3 {s : GState} {i : Nat} (h : i ≤ 8) (hi : ¬ (i : Int) + 1 ≤ 8) : maskS (usL s i) = maskS (usL s 8) := by rw [show i = 8 by omega]
section
variable {l : List GFact} {v : List Int} {i : Nat}
theorem fsV_all (h : fsV l = true) : l.all fV = true := by unfold fsV at h; simp only [Bool.and_eq_true] at h; exact h.2
theorem fho_no1 (h : fsV l = false) : false = (fsV l && (v.length == 8 && l.all (holdF v))) := by rw [h]; rfl
theorem fho_no2 (h : ¬ ((v.length : Nat) : Int) = 8) : false = (fsV l && (v.length == 8 && l.all (holdF v))) := by rw [show (v.length == 8) = false by rw [beq_eq_false_iff_ne]; omega]; simp
theorem fho_no3 (hi : i < l.length) (h : ¬ (tv v (l.getD i ⟨false, 0, 0⟩).a == tv v (l.getD i ⟨false, 0, 0⟩).b) = (l.getD i ⟨false, 0, 0⟩).eq) : false = (fsV l && (v.length == 8 && l.all (holdF v))) := by
  have : l.all (holdF v) = false := by
    rw [List.all_eq_false]
    refine ⟨l.getD i ⟨false, 0, 0⟩, ?_, by unfold holdF; simpa using h⟩
    rw [List.getD_eq_getElem?_getD, List.getElem?_eq_getElem hi]; exact List.getElem_mem hi
  rw [this]; simp
theorem fho_idx (hl : fsV l = true) (hi : i < l.length) : isT (l.getD i ⟨false, 0, 0⟩).a = true ∧ isT (l.getD i ⟨false, 0, 0⟩).b = true := fV_isT (all_get (d := (⟨false, 0, 0⟩ : GFact)) (fsV_all hl) hi)
theorem fho_step (hi : i < l.length) (h0 : (l.take i).all (holdF v) = true) (h : (tv v (l.getD i ⟨false, 0, 0⟩).a == tv v (l.getD i ⟨false, 0, 0⟩).b) = (l.getD i ⟨false, 0, 0⟩).eq) : (l.take (i + 1)).all (holdF v) = true := by
  rw [List.take_add_one, List.all_append, h0, List.getElem?_eq_getElem hi]
  rw [List.getD_eq_getElem?_getD, List.getElem?_eq_getElem hi] at h
  simpa [holdF] using h
theorem fho_end (hl : fsV l = true) (hv : v.length = 8) (hi : ¬ i < l.length) (h0 : (l.take i).all (holdF v) = true) : true = (fsV l && (v.length == 8 && l.all (holdF v))) := by
  rw [List.take_of_length_le (by omega)] at h0
  rw [hl, hv, h0]; rfl
end

section
variable {s : GState} {a : GAsn} {i j : Nat}
theorem fct_iff (hs : stV s = true) (ha : asV a = true) : (fsV a.facts && (s.vals.length == 8 && a.facts.all (holdF s.vals))) = fctB s a.facts := by
  have h1 := asV_facts ha
  have h2 := stV_all hs
  have e1 : fsV a.facts = true := by unfold fsV; rw [h1.1, decide_eq_true h1.2.1]; rfl
  rw [e1, h2.1]; rfl
theorem mz {L : List Int} {b : Bool} (h : L = [] ∧ b = false) : 0 = maskS L ∧ false = b := by rw [h.1, h.2]; exact ⟨rfl, rfl⟩
theorem po_q1 (h : stV s = false) : 0 = maskS (poL s a) ∧ false = poB s a := mz (po_bad1 h)
theorem po_q2 (h : asV a = false) : 0 = maskS (poL s a) ∧ false = poB s a := mz (po_bad2 h)
theorem po_q3 (hs : stV s = true) (ha : asV a = true) (h : (fsV a.facts && (s.vals.length == 8 && a.facts.all (holdF s.vals))) = false) : 0 = maskS (poL s a) ∧ false = poB s a := by rw [fct_iff hs ha] at h; exact mz (po_bad3 h)
theorem po_q4 (hs : stV s = true) (ha : asV a = true) (hf : fctB s a.facts = true) (h : ptI s a.atoms i) (hi : i < a.atoms.length) (hb : acB s (a.atoms.getD i ⟨0, 0, 0⟩) = false) : 0 = maskS (poL s a) ∧ false = poB s a := mz (po_none hs ha hf (pt_bad hs (asV_facts ha).2.2.1 h hi hb))
theorem po_q5 (hs : stV s = true) (ha : asV a = true) (hf : fctB s a.facts = true) (h : ptI s a.atoms i) (hi : i < a.atoms.length) (hj : j < (acL s (a.atoms.getD i ⟨0, 0, 0⟩)).length) (hc : csHas (maskS (ptL s a.atoms i ++ (acL s (a.atoms.getD i ⟨0, 0, 0⟩)).take j)) ((acL s (a.atoms.getD i ⟨0, 0, 0⟩)).getD j 0) = true) : 0 = maskS (poL s a) ∧ false = poB s a := by
  rw [csHas_mask, Bool.and_eq_true] at hc
  exact mz (po_none hs ha hf (pt_dup hs (asV_facts ha).2.2.1 h hi hj hc.2))
theorem ac_get (hb : acB s (a.atoms.getD i ⟨0, 0, 0⟩) = true) (hj : j < (acL s (a.atoms.getD i ⟨0, 0, 0⟩)).length) : isAd ((acL s (a.atoms.getD i ⟨0, 0, 0⟩)).getD j 0) = true := al_isAd (ac_al hb _ (getD_mem hj))
theorem po_g1 (hb : acB s (a.atoms.getD i ⟨0, 0, 0⟩) = true) (hj : j < (acL s (a.atoms.getD i ⟨0, 0, 0⟩)).length) (hc : csHas (maskS (ptL s a.atoms i ++ (acL s (a.atoms.getD i ⟨0, 0, 0⟩)).take j)) ((acL s (a.atoms.getD i ⟨0, 0, 0⟩)).getD j 0) = false) (hn : nw (ptL s a.atoms i) (acL s (a.atoms.getD i ⟨0, 0, 0⟩)) j) : nw (ptL s a.atoms i) (acL s (a.atoms.getD i ⟨0, 0, 0⟩)) (j + 1) := by
  rw [csHas_mask, ac_get hb hj, Bool.true_and] at hc
  exact nw_step hn hc
theorem po_g2 (hb : acB s (a.atoms.getD i ⟨0, 0, 0⟩) = true) (hj : j < (acL s (a.atoms.getD i ⟨0, 0, 0⟩)).length) : bits .or .u16 (maskS (ptL s a.atoms i ++ (acL s (a.atoms.getD i ⟨0, 0, 0⟩)).take j)) (IntKind.u16.wrap (1 * 2 ^ min ((acL s (a.atoms.getD i ⟨0, 0, 0⟩)).getD j 0).toNat IntKind.u16.bits)) = maskS (ptL s a.atoms i ++ (acL s (a.atoms.getD i ⟨0, 0, 0⟩)).take (j + 1)) := by
  rw [mask_take hj, tsWith_eq (maskS_bd _).1 (maskS_bd _).2 (isAd_T (ac_get hb hj))]
theorem po_n (hs : stV s = true) (ha : asV a = true) (h : ptI s a.atoms i) (hi : i < a.atoms.length) (hb : acB s (a.atoms.getD i ⟨0, 0, 0⟩) = true) (hj : ¬ j < (acL s (a.atoms.getD i ⟨0, 0, 0⟩)).length) (hj2 : j ≤ (acL s (a.atoms.getD i ⟨0, 0, 0⟩)).length) (hn : nw (ptL s a.atoms i) (acL s (a.atoms.getD i ⟨0, 0, 0⟩)) j) : ptI s a.atoms (i + 1) ∧ maskS (ptL s a.atoms i ++ (acL s (a.atoms.getD i ⟨0, 0, 0⟩)).take j) = maskS (ptL s a.atoms (i + 1)) := by
  refine ⟨pt_next hs (asV_facts ha).2.2.1 h hi hb hj hj2 hn, ?_⟩
  rw [ptL_succ hi, List.take_of_length_le (by omega)]
theorem po_e (hs : stV s = true) (ha : asV a = true) (hf : fctB s a.facts = true) (h : ptI s a.atoms i) (hi : ¬ i < a.atoms.length) : maskS (ptL s a.atoms i) = maskS (poL s a) ∧ true = poB s a := by
  obtain ⟨a1, a2⟩ := po_some hs ha hf (pt_end h hi)
  rw [a1, a2]; exact ⟨rfl, rfl⟩
end
theorem jb {s : GState} {x : GAtom} {j : Nat} (hj : j < (acL s x).length) : (j : Int) + 1 ≤ 9223372036854775807 := by
  have := acL_len (s := s) (x := x)
  omega
end Go.SE

namespace Go.SE
open Go.RowKit

section
variable {s : GState} {a : GAsn} {i j : Nat}
theorem pa_at (ha : asV a = true) (hi : i < a.atoms.length) : atV (a.atoms.getD i ⟨0, 0, 0⟩) = true := all_get (asV_facts ha).2.2.1 hi
end
end Go.SE

namespace Go.SE
open Go.RowKit

section
variable {a : GAsn} {l : List Int} {i : Nat}
theorem tv_T (hl : l.length = 8) (hall : l.all isT = true) {t : Int} (ht : isT t = true) : isT (tv l t) = true := by
  obtain ⟨t0, t8⟩ := isT_iff.1 ht
  unfold tv
  split
  · rfl
  · have hi : (t - 1).toNat < l.length := by omega
    have := List.all_eq_true.1 hall _ (List.getElem_mem hi)
    rw [List.getD_eq_getElem?_getD, List.getElem?_eq_getElem hi]
    exact this
theorem all_set (h : l.all isT = true) {n : Nat} {v : Int} (hv : isT v = true) : (l.set n v).all isT = true := by
  rw [List.all_eq_true] at h ⊢
  intro x hx
  rcases List.mem_or_eq_of_mem_set hx with hx | hx
  · exact h x hx
  · rw [hx]; exact hv
theorem mem_T {r k n : Int} (h : r ∈ [0, n, n, 1 + k]) (hn : 1 ≤ n ∧ n ≤ 8) (hk : 1 ≤ (5 : Int) → 0 ≤ k ∧ k < 5) : isT r = true := by
  have hk := hk (by omega)
  simp only [List.mem_cons, List.not_mem_nil, or_false] at h
  rw [isT_iff]; omega
theorem bu_f (ha : asV a = true) (hi : i < a.facts.length) : isT (a.facts.getD i ⟨false, 0, 0⟩).a = true ∧ isT (a.facts.getD i ⟨false, 0, 0⟩).b = true ∧ a.facts.length ≤ 12 := by
  have h := fV_isT (all_get (d := (⟨false, 0, 0⟩ : GFact)) (asV_facts ha).1 hi)
  exact ⟨h.1, h.2, (asV_facts ha).2.1⟩
theorem bu_a (ha : asV a = true) (hi : i < a.atoms.length) : isT (a.atoms.getD i ⟨0, 0, 0⟩).a = true ∧ isT (a.atoms.getD i ⟨0, 0, 0⟩).b = true ∧ a.atoms.length ≤ 6 := by
  have h := atV_isT (pa_at ha hi)
  exact ⟨h.1, h.2, (asV_facts ha).2.2.2⟩
theorem bu_fa (ha : asV a = true) (hi : i < a.facts.length) : (a.facts.getD i ⟨false, 0, 0⟩).a ≤ 8 ∧ a.facts.length ≤ 12 := by
  have h := bu_f ha hi
  exact ⟨(isT_iff.1 h.1).2, h.2.2⟩
theorem bu_v (ha : asV a = true) (hi : i < a.atoms.length) (hl : l.length = 8) (hall : l.all isT = true) : 0 ≤ tv l (a.atoms.getD i ⟨0, 0, 0⟩).a ∧ tv l (a.atoms.getD i ⟨0, 0, 0⟩).a ≤ 8 ∧ a.atoms.length ≤ 6 :=
  have h := bu_a ha hi
  ⟨(isT_iff.1 (tv_T hl hall h.1)).1, (isT_iff.1 (tv_T hl hall h.1)).2, h.2.2⟩
theorem bu_v1 (ha : asV a = true) (hi : i < a.atoms.length) (hl : l.length = 8) (hall : l.all isT = true) : -9223372036854775808 ≤ tv l (a.atoms.getD i ⟨0, 0, 0⟩).a - 1 := by have := bu_v ha hi hl hall; omega
theorem bu_v2 (ha : asV a = true) (hi : i < a.atoms.length) (hl : l.length = 8) (hall : l.all isT = true) : tv l (a.atoms.getD i ⟨0, 0, 0⟩).a - 1 ≤ 9223372036854775807 := by have := bu_v ha hi hl hall; omega
theorem bu_v3 (ha : asV a = true) (hi : i < a.atoms.length) (hl : l.length = 8) (hall : l.all isT = true) (h : ¬ tv l (a.atoms.getD i ⟨0, 0, 0⟩).a = 0) : 0 ≤ tv l (a.atoms.getD i ⟨0, 0, 0⟩).a - 1 := by have := bu_v ha hi hl hall; omega
theorem bu_v4 {m : List Int} (ha : asV a = true) (hi : i < a.atoms.length) (hl : l.length = 8) (hall : l.all isT = true) (h : m.length = 8) : tv l (a.atoms.getD i ⟨0, 0, 0⟩).a - 1 < (m.length : Int) := by have := bu_v ha hi hl hall; omega
end
end Go.SE

namespace Go.SE
open Go.RowKit

section
variable {P : Program} {E : Ty → TypeId} {tab : TypeId → Option TI} {w0 : World} {M : MM} {n : Nat} {o : Oper} {st : St} {a : Act} {w : World}

def opensX (fo : Nat) : List Oper → Option (Nat × Nat × List Oper)
  | ⟨some d1, .move (.tmp 0), _, _, _, none⟩ :: ⟨some d2, .call ⟨.value (.func f), args, _⟩, _, _, _, none⟩ :: l =>
    match args.toList with
    | [.tmp e1] => if e1 = d1 ∧ f = fo then some (d1, d2, l) else none
    | _ => none
  | _ => none
theorem opensX_some {fo : Nat} {l l2 : List Oper} {d1 d2 : Nat} (h : opensX fo l = some (d1, d2, l2)) : ∃ o1 o2 args tys, l = o1 :: o2 :: l2 ∧ o1.dst = some d1 ∧ o1.op = .move (.tmp 0) ∧ o1.guard = none ∧
    o2.dst = some d2 ∧ o2.op = .call ⟨.value (.func fo), args, tys⟩ ∧ args.toList = [.tmp d1] ∧ o2.guard = none := by
  unfold opensX at h
  split at h
  · split at h
    · rename_i ha
      split at h
      · rename_i e
        obtain ⟨rfl, rfl⟩ := e
        injection h with h
        injection h with h1 h
        injection h with h2 h3
        subst h1 h2 h3
        exact ⟨_, _, _, _, rfl, rfl, rfl, rfl, rfl, rfl, ha, rfl⟩
      · cases h
    · cases h
  · cases h
def openSX (d1 d2 : Nat) (st : St) : St :=
  { st with env := upd (upd st.env d1 (st.env 0)) d2 (.s (.c .rdr)), rd := some 0 }
def openKX (tab : TypeId → Option TI) (K : FuncId → Option Con) (pts : FuncId → Option PT) (hp : Nat → Bool) (anns : Nat → St → Option Ann) (perm : Nat → List (List Nat)) (gl : List Nat × List Nat) (n : Nat) (ops : Array Oper) (rest : Code) (Q : XK → St → Prop) (st1 : St) : Option (Nat × Nat × List Oper) → Prop
  | some (d1, d2, l) => (d1 < n ∧ d2 < n ∧ d1 ≠ 0) ∧ st1.rd = none ∧ gcB gl.1 gl.2 st1 = true ∧ (noREB st1.env gl.1 && noRMB st1.mem gl.2) = true ∧ openA ((gcSt (fun _ => none) gl.1 gl.2 st1).env 0) ∧
      vcOpsP tab K pts ops l (openSX d1 d2 (gcSt (fun _ => none) gl.1 gl.2 st1)) fun st' => vcQ tab K pts hp (fun _ => none) anns perm rest st' Q
  | none => False

def vcOpenX (tab : TypeId → Option TI) (K : FuncId → Option Con) (pts : FuncId → Option PT) (hp : Nat → Bool) (anns : Nat → St → Option Ann) (perm : Nat → List (List Nat)) (gl : List Nat × List Nat) (fo n : Nat) : Code → St → (XK → St → Prop) → Prop
  | .seq c0 (.seq (.region _ ops false) rest), st, Q => vcQ tab K pts hp (fun _ => none) anns perm c0 st (seqK (fun st1 => openKX tab K pts hp anns perm gl n ops rest Q st1 (opensX fo ops.toList)) Q)
  | _, _, _ => False

theorem draw_fnX {K : FuncId → Option Con} {pts : FuncId → Option PT} {hp : Nat → Bool} {gl : List Nat × List Nat} (ht : TabOk P E tab) (hmix : P.follows .mixedOrders = true) (hKA : KAll P E K) (hPA : PAll P E pts) {perm : Nat → List (List Nat)} {fo : FuncId} (hopen : OpenOk P fo)
    (hfo : ∃ fn c, P.funcs[fo]? = some fn ∧ (fn.name == "runtime.NumGoroutine") = false ∧ fn.body = some c) {f : FuncId} {fn : Func} {con : Con} (hf : P.funcs[f]? = some fn) (hb : fn.body = some (bodyOf fn))
    (hname : (fn.name == "runtime.NumGoroutine") = false) (hn : con.aks.length ≤ fn.ntmps) (hok : codeOkP tab K hp perm fn.ntmps (bodyOf fn) = true) (hrd : hasRdr con.aks = false) (hrk : noRk con.rks = true) {anns : Args con.aks → Nat → St → Option Ann}
    (hvc : ∀ x, con.pre x → vcOpenX tab K pts hp (anns x) perm gl fo fn.ntmps (bodyOf fn) (entry (encs con.aks x) none) (retOk tab con fn.results.toList x 0)) (htot : ∀ x, con.pre x → ∃ r, con.post x r) : FnOk P E f con := by
  refine ⟨⟨fn, _, hf, hname, hb⟩, ?_, htot⟩
  intro w0 ro0 ρ k x vs id0 hpre hin _ hargs
  have hlen : vs.length = con.aks.length := by
    rw [hargs.1]
    have : ∀ (ks : List AK) (x : Args ks), (encs ks x).length = ks.length := by
      intro ks
      induction ks with
      | nil => intro x; rfl
      | cons k ks ih => intro x; obtain ⟨x, xs⟩ := x; simp [encs, ih]
    exact this _ _
  refine calls_of_wp hf hb ?_
  -- the end
  have fin : ∀ (ρ' : Nat) (st' : St) (a' : Act) (w' : World), Rel E w0 (MOf false ρ' ro0) fn.ntmps st' a' w' → retOk tab con fn.results.toList x 0 .ret st' →
      a'.defers = [] ∧ ∃ v, (results fn a'.tmps).run P w' = .ok v w' ∧ ∃ v1 r g, Ending.returned v = .returned v1 ∧ con.post x r ∧ Ext (fun b => hasRdr con.aks = true ∧ b = ρ) w0 w' ∧ g.ρ = ρ ∧ ResOk E w0 w' ro0 con.rks id0 r v1 g ∧ (hasRdr con.aks = true → RdStep w0 w' ρ (k + con.cost x)) := by
    intro ρ' st' a' w' hr hv
    have hr' : Rel E w0 (MOf (hasRdr con.aks) ρ' ro0) fn.ntmps st' a' w' := by rw [hrd]; exact hr
    obtain ⟨v, h1, r, g, h2, h3, h4, h5, h6⟩ := exit_ok (k := 0) id0 ht hin (fun h => by rw [hrd] at h; cases h) hr' hv
    refine ⟨hr.defers, v, h1, v, r, { g with ρ := ρ }, rfl, h2, ⟨h3.os, h3.tape, h3.output, h3.size, fun c hc _ => h3.block c hc fun ⟨h, _⟩ => by rw [hrd] at h; cases h⟩, rfl, ⟨h5.ro, h5.ro', ?_, ?_, h5.new, h5.dist⟩, fun h => by rw [hrd] at h; cases h⟩
    · exact S.R.rho (pack1_noR (ress_noR _ _ _ hrk)) h5.val
    · intro id q hq
      have := h5.res id q hq
      obtain ⟨_, _, f', t, xs, e⟩ := ress_range _ _ _ _ _ hq
      subst e
      exact this
  have hv0 := hvc x hpre
  revert hok hv0
  generalize bodyOf fn = body
  intro hok hv0
  unfold vcOpenX at hv0
  split at hv0
  · rename_i c0 rid ops rest
    simp only [codeOkP, Bool.and_eq_true] at hok
    have hrel : Rel E w0 (MOf false ρ ro0) fn.ntmps (entry (encs con.aks x) (rdOf false 0)) { tmps := vs.toArray ++ Array.replicate (fn.ntmps - vs.toArray.size) undef, defers := [] } w0 := entry_rel hin (fun h => by cases h) hargs (by omega)
    refine wp_seq (codeQ_sound ht hKA hPA hmix (draw_sound ht (tab_small ht) hKA hmix _ _ _) OOk.none c0 _ _ _ _ _ hok.1 hrel hv0 ?_)
    intro xk st1 a1 w1 hr1 hk1
    cases xk with
    | exit id => exact hk1.elim
    | ret => exact fin ρ st1 a1 w1 hr1 hk1
    | normal =>
      have hk1 : openKX tab K pts hp (anns x) perm gl fn.ntmps ops rest (retOk tab con fn.results.toList x 0) st1 (opensX fo ops.toList) := hk1
      unfold openKX at hk1
      split at hk1
      · rename_i e1' e2' l2 hd
        obtain ⟨d, hde⟩ : ∃ d : Nat × Nat, d = (e1', e2') := ⟨_, rfl⟩
        have hd1' : e1' = d.1 := by rw [hde]
        have hd2' : e2' = d.2 := by rw [hde]
        subst hd1' hd2'
        clear hde
        obtain ⟨⟨hd1, hd2, hd0⟩, hrd1, hgc, hnr, hA, hvr⟩ := hk1
        simp only [Bool.and_eq_true] at hnr
        have hno := noR_gc hnr.1 hnr.2
        unfold gcB at hgc
        simp only [Bool.and_eq_true] at hgc
        replace hr1 := hr1.gc (OOk.none (ρ := ρ) (ro0 := ro0)) (live := gl.1) (ids := gl.2) ⟨closedEB_ok hgc.1, closedMB_ok hgc.2, fun j hj => (by cases hj)⟩
        replace hrd1 : (gcSt (fun _ => none) gl.1 gl.2 st1).rd = none := hrd1
        generalize gcSt (fun _ => none) gl.1 gl.2 st1 = st1 at hr1 hrd1 hno hA hvr
        obtain ⟨o1, o2, args, tys, hl, e1, e2, e3, e4, e5, e6, e7⟩ := opensX_some hd
        refine wp_seq (wp_region_list ?_)
        have hops := opsOk_mem (show opsOk fn.ntmps ops.toList = true from hok.2.1.1)
        rw [hl] at hops ⊢
        -- the text
        unfold wpList
        rw [if_pos (by simp [Region.wanted, e3])]
        refine .inl ?_
        unfold Oper.wp
        rw [show (execOp a1.eval o1).run P w1 = .ok (.value (a1.eval (.tmp 0))) w1 by simp [execOp, e2], Oper.upon_value, e1]
        have hS : ∃ code, st1.env 0 = .s (.c (.d (.arr .u8 code))) := by
          unfold openA at hA
          split at hA
          · rename_i c hc; exact ⟨c, hc⟩
          · exact hA.elim
        obtain ⟨code, henv0⟩ := hS
        have hev : a1.eval (.tmp 0) = a1.tmps.getD 0 undef := rfl
        have hr2 := hr1.put1 hd1 (s := st1.env 0) (v := a1.eval (.tmp 0)) (fun g _ henv => henv 0) (fun id hid => hr1.cl.1 0 id hid)
        have hno2 : NoR { st1 with env := upd st1.env d.1 (st1.env 0) } := ⟨fun y => by
          show noRS (upd st1.env d.1 (st1.env 0) y) = true
          by_cases e : y = d.1
          · subst e; rw [upd_same]; exact hno.1 0
          · rw [upd_ne _ _ e]; exact hno.1 y, hno.2⟩
        generalize ha2 : a1.put (some d.1) (a1.eval (.tmp 0)) = a2 at hr2 ⊢
        -- the call
        unfold wpList
        rw [if_pos (by simp [Region.wanted, e7])]
        refine .inl ?_
        obtain ⟨fn', c', hf', hname', hbody'⟩ := hfo
        unfold Oper.wp
        rw [run_call hf' hname' hbody' e5, Oper.upon_enter]
        obtain ⟨g, hg, henv⟩ := hr2.good
        have hargv : args.map a2.eval = #[a2.tmps.getD d.1 undef] := by
          apply Array.ext'
          rw [Array.toList_map, e6]
          rfl
        rw [hargv]
        have hdr : DR g.ro (.arr .u8 code) (a2.tmps.getD d.1 undef) := by
          have h1 := henv d.1
          have h2 : ({ st1 with env := upd st1.env d.1 (st1.env 0) } : St).env d.1 = .s (.c (.d (.arr .u8 code))) := by
            show upd st1.env d.1 (st1.env 0) d.1 = _
            rw [upd_same]; exact henv0
          rw [h2] at h1
          exact h1
        refine Calls.mono (hopen w1 g.ro code _ hg.ro hdr) fun e w2 he => ?_
        obtain ⟨b, ro', rfl, q1, q2, q3, q4, q5⟩ := he
        have hr3 := rel_open hr2 hg henv hrd1 hno2 q1 q2 q3 q4 q5
        rw [e4]
        have hr4 := hr3.put1 hd2 (s := .s (.c .rdr)) (v := .pointer (some ⟨b, 0, none⟩)) (fun g' hg' _ => by
          show _ = _
          rw [hg'.rho]; rfl) (fun id hid => by simp [S.refs, S0.refs, CV.refs] at hid)
        refine seqP_sound ht hKA hPA (k := fun st' => vcQ tab K pts hp (fun _ => none) (anns x) perm rest st' (retOk tab con fn.results.toList x 0)) (fun st' a' w' hr' hk' => ?_) l2 _ _ _ (fun o ho => hops o (by simp [ho])) hr4 hvr
        refine codeQ_sound ht hKA hPA hmix (draw_sound ht (tab_small ht) hKA hmix _ _ _) OOk.none rest _ _ _ (retOk tab con fn.results.toList x 0) _ hok.2.2 hr' hk' ?_
        intro xk st' a' w' hr hk
        cases xk with
        | normal => exact fin b st' a' w' hr hk
        | ret => exact fin b st' a' w' hr hk
        | exit id => exact hk.elim
      · exact hk1.elim
  · exact hv0.elim
end
end Go.SE

namespace Go.SE
open Go.RowKit

structure CCon where
  k1 : List AK
  t : Ty
  k2 : List AK
  pre : Args k1 → List t.den → Args k2 → Prop
  out : Args k1 → List t.den → Args k2 → List t.den

def ptCk {t : Ty} (pre : Prop) (ys : List t.den) (fam id base : Nat) (ids : List Nat) (st : St) (k : S → St → Prop) : Prop :=
  st.sp id = false ∧ st.fr id = false ∧ notSpent st ids ∧ notIn id ids ∧ st.rd = none ∧ st.mem base = none ∧ pre ∧
    k (.s (.c (.own base))) { st with mem := upd (upd (kill fam id st.mem) id (some .dead)) base (some (.sl base t ys)), fr := sets st.fr ids }

def ptC4 (c : CCon) (base : Nat) (st : St) (k : S → St → Prop) (x1 : Args c.k1) (x2 : Args c.k2) (id : Nat) (ids : List Nat) : Option Res → Prop
  | some (.sl fam t' xs) => match castL c.t t' xs with
    | some xs => ptCk (c.pre x1 xs x2) (c.out x1 xs x2) fam id base ids st k
    | none => False
  | _ => False

def ptC3 (c : CCon) (base : Nat) (st : St) (k : S → St → Prop) (x1 : Args c.k1) (id : Nat) (ids : Option (List Nat)) (x2 : Option (Args c.k2)) : Prop :=
  match ids, x2 with
  | some ids, some x2 => ptC4 c base st k x1 x2 id ids (st.mem id)
  | _, _ => False

def ptC2 (c : CCon) (args : List S0) (base : Nat) (st : St) (k : S → St → Prop) (x1 : Option (Args c.k1)) : Option S0 → Prop
  | some (.c (.own id)) => match x1 with
    | some x1 => ptC3 c base st k x1 id (ownsC st.mem (refsAr (args.take c.k1.length ++ args.drop (c.k1.length + 1)))) (decs st.mem c.k2 (args.drop (c.k1.length + 1)))
    | none => False
  | _ => False

def ptC (c : CCon) : PT := fun args base st k => ptC2 c args base st k (decs st.mem c.k1 (args.take c.k1.length)) args[c.k1.length]?

section
variable {P : Program} {E : Ty → TypeId} {tab : TypeId → Option TI} {K : FuncId → Option Con} {pts : FuncId → Option PT} {hp : Nat → Bool} {perm : Nat → List (List Nat)}

def isoStC (c : CCon) (x1 : Args c.k1) (xs : List c.t.den) (x2 : Args c.k2) : St :=
  { env := envOf (encs c.k1 x1 ++ .c (.own 7) :: encs c.k2 x2) 0, mem := upd (fun _ => none) 7 (some (.sl 7 c.t xs)), sp := fun _ => false, fr := fun _ => false, base := 16, rd := none }

def isoC (t : Ty) (ys : List t.den) (st : St) : List S0 → Prop
  | [.c (.own k)] => isoM t ys (st.mem k) ∧ st.sp k = false ∧ st.fr k = false
  | _ => False

def isoQC (tab : TypeId → Option TI) (c : CCon) (rvs : List ResultVar) (x1 : Args c.k1) (xs : List c.t.den) (x2 : Args c.k2) : XK → St → Prop
  | .exit _, _ => False
  | _, st => match loadsS tab st rvs with
    | some ss => isoC c.t (c.out x1 xs x2) st ss
    | none => False

theorem iso_callC (ht : TabOk P E tab) (hKA : KAll P E K) (hPA : PAll P E pts) (hmix : P.follows .mixedOrders = true) (hdr : ∀ w0 M n, DrawSound P E tab K w0 M n) {f : FuncId} {fn : Func} (hf : P.funcs[f]? = some fn) (hb : fn.body = some (bodyOf fn)) {c : CCon} (hn : c.k1.length + c.k2.length + 1 ≤ fn.ntmps)
    (hok : codeOkP tab K hp perm fn.ntmps (bodyOf fn) = true) {anns : Args c.k1 → List c.t.den → Args c.k2 → Nat → St → Option Ann}
    (hvc : ∀ x1 xs x2, c.pre x1 xs x2 → vcQ tab K pts hp (fun _ => none) (anns x1 xs x2) perm (bodyOf fn) (isoStC c x1 xs x2) (isoQC tab c fn.results.toList x1 xs x2))
    {w : World} {ro : Nat → Option (Array Value)} {ρ : Nat} {x1 : Args c.k1} {xs : List c.t.den} {x2 : Args c.k2} (hpre : c.pre x1 xs x2) {vs1 vs2 : List Value} {v : Value} (hin : ROin w ro) (h1 : ArgsR (argG ro ρ) (encs c.k1 x1) vs1) (h2 : ArgsR (argG ro ρ) (encs c.k2 x2) vs2)
    (hone : v.oneCell' = true) (hv : ResR E w { ro, κ := fun _ => v, ln := fun _ => xs.length, ρ } 7 (.sl 7 c.t xs)) (hvb : ∀ b, blkOf v = some b → ro b = none) :
    Calls P f (vs1 ++ v :: vs2).toArray w fun e w' => ∃ u ro', e = .returned u ∧ u.oneCell' = true ∧ Ext (fun b => blkOf v = some b) w w' ∧ ROin w' ro' ∧ (∀ b vs, ro b = some vs → ro' b = some vs) ∧ (∀ b vs, ro' b = some vs → ro b = some vs ∨ w.heap.size ≤ b ∨ blkOf v = some b) ∧
      ResR E w' { ro := ro', κ := fun _ => u, ln := fun _ => (c.out x1 xs x2).length, ρ } 7 (.sl 7 c.t (c.out x1 xs x2)) ∧ ∀ b, blkOf u = some b → (w.heap.size ≤ b ∨ blkOf v = some b) ∧ ro' b = none := by
  let M : MM := ⟨fun b => blkOf v = some b, ro, ρ, fun _ => none, fun _ => none, ro⟩
  let g : G := { ro, κ := fun id => if id = 7 then v else undef, ln := fun id => if id = 7 then xs.length else 0, ρ }
  have one : ∀ id r, (isoStC c x1 xs x2).mem id = some r → id = 7 ∧ r = .sl 7 c.t xs := by
    intro id r h
    simp only [isoStC, upd] at h
    split at h
    · rename_i e; injection h with h; exact ⟨e, h.symm⟩
    · cases h
  have hκ : ∀ b, blkOf (g.κ 7) = some b → blkOf v = some b := fun b h => h
  have hgood : Good E w M g (isoStC c x1 xs x2) w := by
    refine ⟨Ext.refl _ _, hin, ?_, ?_, ?_, ?_, (fun m hm => by cases hm), (fun h => (h rfl).elim), (fun b vs hb => .inl hb), rfl, (fun _ _ h => by cases h), ⟨(fun _ _ h => by cases h), fun b vs hb => hb⟩⟩
    · intro id r h
      obtain ⟨rfl, rfl⟩ := one id r h
      exact hv
    · intro i j r s hi hj hij
      exact (hij ((one i r hi).1.trans (one j s hj).1.symm)).elim
    · intro id r h _ b hb
      rw [(one id r h).1] at hb
      exact .inr (hκ b hb)
    · intro id r h _ b hb _ _
      rw [(one id r h).1] at hb
      exact hvb b (hκ b hb)
  have hOO : OOk (fun _ => none) M := ⟨fun _ _ h => (by cases h), fun _ h => (by rcases h with h | h <;> cases h), fun _ h => (by cases h)⟩
  have hargs : ∀ (j : Nat) (s : S0), (encs c.k1 x1 ++ .c (.own 7) :: encs c.k2 x2)[j]? = some s → ∃ u, (vs1 ++ v :: vs2)[j]? = some u ∧ s.R g u ∧ ∀ id ∈ s.refs, id = 7 := by
    intro j s hj
    have l1 := h1.1
    by_cases hlt : j < (encs c.k1 x1).length
    · rw [List.getElem?_append_left hlt] at hj
      obtain ⟨u, hu, hr⟩ := h1.2 j s hj
      have hrf := encs_refs c.k1 x1 j s hj
      exact ⟨u, by rw [List.getElem?_append_left (by omega)]; exact hu, S0.R.mono (g := argG ro ρ) (g' := g) (fun _ _ h => h) rfl (fun id hid => by rw [hrf] at hid; cases hid) hr, fun id hid => by rw [hrf] at hid; cases hid⟩
    · rw [List.getElem?_append_right (by omega)] at hj
      rw [List.getElem?_append_right (by omega)]
      have hjj : j - vs1.length = j - (encs c.k1 x1).length := by rw [l1]
      rw [hjj]
      cases hm : j - (encs c.k1 x1).length with
      | zero =>
        rw [hm] at hj
        simp at hj
        subst hj
        exact ⟨v, rfl, ⟨rfl, hone⟩, fun id hid => by simpa [S0.refs, CV.refs] using hid⟩
      | succ i =>
        rw [hm] at hj
        have hj : (encs c.k2 x2)[i]? = some s := by simpa using hj
        obtain ⟨u, hu, hr⟩ := h2.2 i s hj
        have hrf := encs_refs c.k2 x2 i s hj
        exact ⟨u, by simpa using hu, S0.R.mono (g := argG ro ρ) (g' := g) (fun _ _ h => h) rfl (fun id hid => by rw [hrf] at hid; cases hid) hr, fun id hid => by rw [hrf] at hid; cases hid⟩
  have hvl : (vs1 ++ v :: vs2).length = (encs c.k1 x1 ++ S0.c (.own 7) :: encs c.k2 x2).length := by simp [h1.1, h2.1]
  have hel : (encs c.k1 x1 ++ S0.c (.own 7) :: encs c.k2 x2).length ≤ fn.ntmps := by simp [encs_len]; omega
  have hrel : Rel E w M fn.ntmps (isoStC c x1 xs x2) { tmps := (vs1 ++ v :: vs2).toArray ++ Array.replicate (fn.ntmps - (vs1 ++ v :: vs2).toArray.size) undef, defers := [] } w := by
    refine ⟨⟨?_, ?_⟩, by simp at hvl hel ⊢; omega, rfl, g, hgood, ?_⟩
    · intro j id hid
      have e : (isoStC c x1 xs x2).env j = envOf (encs c.k1 x1 ++ .c (.own 7) :: encs c.k2 x2) 0 j := rfl
      rw [e] at hid
      rcases envOf_cases (encs c.k1 x1 ++ .c (.own 7) :: encs c.k2 x2) 0 j with h3 | ⟨i, s, h3, _, h5⟩
      · rw [h3] at hid; simp [SE.junk, S.refs, S0.refs, CV.refs] at hid
      · rw [h5] at hid
        obtain ⟨_, _, _, h6⟩ := hargs i s h3
        have := h6 id hid
        subst this
        rfl
    · intro j r h id hid
      obtain ⟨rfl, rfl⟩ := one j r h
      simp [Res.refs] at hid
    · intro j
      have e : (isoStC c x1 xs x2).env j = envOf (encs c.k1 x1 ++ .c (.own 7) :: encs c.k2 x2) 0 j := rfl
      rw [e]
      rcases envOf_cases (encs c.k1 x1 ++ .c (.own 7) :: encs c.k2 x2) 0 j with h3 | ⟨i, s, h3, h4, h5⟩
      · rw [h3]; trivial
      · rw [h5]
        obtain ⟨u, hu, hr, _⟩ := hargs i s h3
        have hj : j = i := by omega
        subst hj
        have hlt : j < (vs1 ++ v :: vs2).length := (List.getElem?_eq_some_iff.1 hu).1
        have : ((vs1 ++ v :: vs2).toArray ++ Array.replicate (fn.ntmps - (vs1 ++ v :: vs2).toArray.size) undef).getD j undef = u := by
          rw [Array.getD_eq_getD_getElem?, Array.getElem?_append_left (by simpa using hlt), List.getElem?_toArray, hu]; rfl
        show S.R _ _ (((vs1 ++ v :: vs2).toArray ++ Array.replicate (fn.ntmps - (vs1 ++ v :: vs2).toArray.size) undef).getD j undef)
        rw [this]
        exact hr
  refine calls_of_wp hf hb ?_
  refine codeQ_sound ht hKA hPA hmix (hdr _ _ _) hOO (bodyOf fn) _ _ _ _ _ hok hrel (hvc x1 xs x2 hpre) ?_
  intro xk st' a' w' hr hk
  have fin : isoQC tab c fn.results.toList x1 xs x2 .ret st' → a'.defers = [] ∧ ∃ u, (results fn a'.tmps).run P w' = .ok u w' ∧ ∃ u' ro', Ending.returned u = .returned u' ∧ u'.oneCell' = true ∧ Ext (fun b => blkOf v = some b) w w' ∧ ROin w' ro' ∧ (∀ b vs, ro b = some vs → ro' b = some vs) ∧ (∀ b vs, ro' b = some vs → ro b = some vs ∨ w.heap.size ≤ b ∨ blkOf v = some b) ∧
      ResR E w' { ro := ro', κ := fun _ => u', ln := fun _ => (c.out x1 xs x2).length, ρ } 7 (.sl 7 c.t (c.out x1 xs x2)) ∧ ∀ b, blkOf u' = some b → (w.heap.size ≤ b ∨ blkOf v = some b) ∧ ro' b = none := by
    intro hk
    unfold isoQC at hk
    simp only at hk
    split at hk
    · rename_i ss hload
      unfold isoC at hk
      split at hk
      · rename_i k'
        obtain ⟨hm7, hsp, hfr⟩ := hk
        obtain ⟨g', hg', henv⟩ := hr.good
        obtain ⟨us, hrun, hus, _⟩ := loads_run (P := P) ht hg' henv hr.cl hload
        obtain ⟨u, hu, hur⟩ := hus.2 0 _ rfl
        have hus1 : us = [u] := by
          have hl := hus.1
          match us, hl with
          | [q], _ => simp at hu; rw [hu]
        subst hus1
        have hres := results_run (fn := fn) hrun
        obtain ⟨huκ, hone'⟩ : u = g'.κ k' ∧ u.oneCell' = true := hur
        unfold isoM at hm7
        split at hm7
        · rename_i fam t' ys hm
          obtain ⟨ht', hq⟩ := castL_eq hm7
          subst ht'
          cases hq
          obtain ⟨hln, hR⟩ := hg'.res k' _ hm
          refine ⟨hr.defers, u, hres, u, g'.ro, rfl, hone', hg'.ext, hg'.ro, hg'.keep.2, fun b vs hb => ?_, ⟨rfl, ?_⟩, fun b hb => ⟨?_, ?_⟩⟩
          · rcases hg'.roo b vs hb with h | h | h
            · exact .inl h
            · exact .inr (.inl h)
            · exact .inr (.inr h)
          · rw [← huκ] at hR
            exact hR
          · exact hg'.fresh k' _ hm trivial b (by rw [← huκ]; exact hb)
          · exact hg'.wro k' _ hm trivial b (by rw [← huκ]; exact hb) hsp hfr
        · exact hm7.elim
      · exact hk.elim
    · exact hk.elim
  cases xk with
  | normal => exact fin hk
  | ret => exact fin hk
  | exit id => exact hk.elim

theorem ptC_ok (ht : TabOk P E tab) (hKA : KAll P E K) (hPA : PAll P E pts) (hmix : P.follows .mixedOrders = true) (hdr : ∀ w0 M n, DrawSound P E tab K w0 M n) {f : FuncId} {fn : Func} (hf : P.funcs[f]? = some fn) (hb : fn.body = some (bodyOf fn)) (hname : (fn.name == "runtime.NumGoroutine") = false) {c : CCon} (hn : c.k1.length + c.k2.length + 1 ≤ fn.ntmps)
    (hok : codeOkP tab K hp perm fn.ntmps (bodyOf fn) = true) {anns : Args c.k1 → List c.t.den → Args c.k2 → Nat → St → Option Ann}
    (hvc : ∀ x1 xs x2, c.pre x1 xs x2 → vcQ tab K pts hp (fun _ => none) (anns x1 xs x2) perm (bodyOf fn) (isoStC c x1 xs x2) (isoQC tab c fn.results.toList x1 xs x2)) : PTOk P E f (ptC c) := by
  refine ⟨⟨fn, _, hf, hname, hb⟩, ?_⟩
  intro w0 M g st w args vs base k hg hcl hrefs hargs hv
  unfold ptC ptC2 at hv
  split at hv
  · rename_i id hid
    split at hv
    · rename_i x1 hx1
      unfold ptC3 at hv
      split at hv
      · rename_i ids x2 hids hx2
        unfold ptC4 at hv
        split at hv
        · rename_i fam t' xs0 hm
          split at hv
          · rename_i xs hcast
            obtain ⟨ht', hq⟩ := castL_eq hcast
            subst ht'
            cases hq
            obtain ⟨hsp, hfr, hns, hni, hrd, hbase, hpre, hk⟩ := hv
            rw [refsAr_eq] at hids
            obtain ⟨rfl, hsl⟩ := ownsC_mem hids
            have hnotin : id ∉ refsT (args.take c.k1.length ++ args.drop (c.k1.length + 1)) := notIn_mem hni
            obtain ⟨ro', hro, hdr', hg1⟩ := hg.freeze (refsT (args.take c.k1.length ++ args.drop (c.k1.length + 1))) fun i hi => ⟨notSpent_mem hns i hi, hsl i hi⟩
            have hlent : ∀ i ∈ refsT (args.take c.k1.length ++ args.drop (c.k1.length + 1)), Lent st.mem g.κ ro' i := by
              intro i hi
              refine ⟨fun f t xs hmm => hdr' i hi f t xs hmm, fun t xs hmm => ?_⟩
              obtain ⟨f, t', xs', hm'⟩ := hsl i hi
              rw [hmm] at hm'; cases hm'
            have hlt : c.k1.length < args.length := (List.getElem?_eq_some_iff.1 hid).1
            have hvl := hargs.1
            obtain ⟨v, hv0, hvr⟩ := hargs.2 c.k1.length _ hid
            obtain ⟨hvκ, hvone⟩ : v = g.κ id ∧ v.oneCell' = true := hvr
            have happ : ∀ (l1 l2 : List S0), refsT (l1 ++ l2) = refsT l1 ++ refsT l2 := by
              intro l1 l2
              induction l1 with
              | nil => rfl
              | cons x l ih => simp [refsT, ih]
            have hA1 : ArgsR g (args.take c.k1.length) (vs.take c.k1.length) := by
              refine ⟨by simp [hvl], fun j s hj => ?_⟩
              have hj1 : j < c.k1.length := by
                have := (List.getElem?_eq_some_iff.1 hj).1
                simp at this; omega
              rw [List.getElem?_take_of_lt hj1] at hj ⊢
              exact hargs.2 j s hj
            have hA2 : ArgsR g (args.drop (c.k1.length + 1)) (vs.drop (c.k1.length + 1)) := by
              refine ⟨by simp [hvl], fun j s hj => ?_⟩
              rw [List.getElem?_drop] at hj ⊢
              exact hargs.2 _ s hj
            have hB1 := decs_R (ro' := ro') hro hx1 hA1 fun i hi => hlent i (by rw [happ]; exact List.mem_append_left _ hi)
            have hB2 := decs_R (ro' := ro') hro hx2 hA2 fun i hi => hlent i (by rw [happ]; exact List.mem_append_right _ hi)
            have hfr1 : ({ st with fr := sets st.fr (refsT (args.take c.k1.length ++ args.drop (c.k1.length + 1))) } : St).fr id = false := by
              show sets st.fr _ id = false
              rw [sets_get, hfr]
              simp [hnotin]
            have hvb : ∀ b, blkOf v = some b → ro' b = none := fun b hb' => hg1.wro id _ hm trivial b (by show blkOf (g.κ id) = some b; rw [← hvκ]; exact hb') hsp hfr1
            have hRes : ResR E w { ro := ro', κ := fun _ => v, ln := fun _ => xs.length, ρ := g.ρ } 7 (.sl 7 c.t xs) := by
              obtain ⟨hln, hR⟩ := hg1.res id _ hm
              have hR : ((g.κ id = .slice none 0 0 ∧ xs = []) ∨ ∃ b cap cur, g.κ id = .slice (some ⟨b, 0, none⟩) xs.length cap ∧ w.heap[b]? = some (.cells cur (E c.t) (0, 0)) ∧ xs.length ≤ cap ∧ cap ≤ maxLen ∧ cur.size = cap * c.t.sz ∧ RowR ro' (flat c.t xs) cur 0) := hR
              rw [← hvκ] at hR
              exact ⟨rfl, hR⟩
            have hvs : vs = vs.take c.k1.length ++ v :: vs.drop (c.k1.length + 1) := by
              have h1 : vs.drop c.k1.length = v :: vs.drop (c.k1.length + 1) := by
                rw [List.drop_eq_getElem_cons (by omega)]
                congr 1
                rw [List.getElem?_eq_getElem (by omega)] at hv0
                injection hv0
              rw [← h1, List.take_append_drop]
            rw [hvs]
            refine Calls.mono (iso_callC ht hKA hPA hmix hdr hf hb hn hok hvc (ρ := g.ρ) hpre hg1.ro hB1 hB2 hvone hRes hvb) fun e w' he => ?_
            obtain ⟨u, ro2, rfl, hone2, hext, hin2, hmono, hroo, hR2, hblk⟩ := he
            obtain ⟨g2, hg2⟩ : ∃ g2 : G, g2 = { ro := ro2, κ := fun i => if i = base then u else g.κ i, ln := fun i => if i = base then (c.out x1 xs x2).length else g.ln i, ρ := g.ρ } := ⟨_, rfl⟩
            obtain ⟨st2, hst2⟩ : ∃ st2 : St, st2 = { st with mem := upd (upd (kill fam id st.mem) id (some .dead)) base (some (.sl base c.t (c.out x1 xs x2))), fr := sets st.fr (refsT (args.take c.k1.length ++ args.drop (c.k1.length + 1))) } := ⟨_, rfl⟩
            rw [← hst2] at hk
            have hidb : id ≠ base := fun e => by rw [e, hbase] at hm; cases hm
            have κo : ∀ i, (st.mem i).isSome = true → g2.κ i = g.κ i ∧ g2.ln i = g.ln i := fun i hi => by
              have : i ≠ base := fun e => by rw [e, hbase] at hi; cases hi
              rw [hg2]; simp [this]
            have κb : g2.κ base = u ∧ g2.ln base = (c.out x1 xs x2).length := by rw [hg2]; simp
            have hro2 : g2.ro = ro2 := by rw [hg2]
            have hmono2 : ∀ b vs, g.ro b = some vs → ro2 b = some vs := fun b vs h => hmono b vs (hro b vs h)
            -- what lives afterwards
            have memc : ∀ i r, st2.mem i = some r → r.live → (i = base ∧ r = .sl base c.t (c.out x1 xs x2)) ∨ (i ≠ base ∧ i ≠ id ∧ st.mem i = some r ∧ ∀ t ys, r ≠ .sl fam t ys) := by
              intro i r hi hl
              rw [hst2] at hi
              rcases upd_cases hi with ⟨h1, h2⟩ | ⟨h1, h2⟩
              · exact .inl ⟨h1, h2⟩
              · rcases upd_cases h2 with ⟨_, h4⟩ | ⟨h3, h4⟩
                · subst h4; exact hl.elim
                · refine .inr ⟨h1, h3, ?_⟩
                  unfold kill at h4
                  split at h4
                  · rename_i f t xs' hmi
                    split at h4
                    · injection h4 with h4; subst h4; exact hl.elim
                    · rename_i hne
                      injection h4 with h4
                      subst h4
                      exact ⟨hmi, fun t' ys e => by injection e with e1; exact hne ⟨h3, e1⟩⟩
                  · rename_i hno
                    exact ⟨h4, fun t' ys e => by subst e; exact hno _ _ _ h4⟩
            have hother : ∀ i r, st.mem i = some r → r.live → i ≠ id → (∀ t ys, r ≠ .sl fam t ys) → ∀ b, blkOf (g.κ i) = some b → b < w.heap.size ∧ blkOf v ≠ some b := by
              intro i r hi hl hne hnf b hb
              refine ⟨(hg.res i r hi).lt hl hb, fun e => ?_⟩
              obtain ⟨f, t, xs1, ys1, e1, e2, _⟩ := hg.sep i id r _ hi hm hne hl trivial b hb (by rw [← hvκ]; exact e)
              injection e2 with e3
              subst e3
              exact hnf _ _ e1
            have hstay : ∀ b, b < w.heap.size → blkOf v ≠ some b → w'.heap[b]? = w.heap[b]? := fun b hb' hne => hext.block b hb' hne
            have hvfresh : ∀ b, blkOf v = some b → w0.heap.size ≤ b ∨ M.can b := fun b hb => hg.fresh id _ hm trivial b (by rw [← hvκ]; exact hb)
            have hub : ∀ b, blkOf u = some b → w0.heap.size ≤ b ∨ M.can b := fun b hb => by
              rcases (hblk b hb).1 with h | h
              · exact .inl (Nat.le_trans hg.ext.size h)
              · exact hvfresh b h
            refine ⟨u, _, st2, g2, rfl, hk, ?_, ⟨κb.1.symm, hone2⟩, ?_, ?_, fun i hi => ⟨?_, (κo i hi).1, (κo i hi).2⟩, fun b vs h => by rw [hro2]; exact hmono2 b vs h, by rw [hg2]⟩
            · refine ⟨⟨hext.os.trans hg.ext.os, hext.tape.trans hg.ext.tape, hext.output.trans hg.ext.output, Nat.le_trans hg.ext.size hext.size, fun b hb hc => ?_⟩, by rw [hro2]; exact hin2, ?_, ?_, ?_, ?_, ?_, ?_, ?_, by rw [hg2]; exact hg.rho, ?_, ?_, ?_⟩
              · rw [hstay b (Nat.lt_of_lt_of_le hb hg.ext.size) fun e => by
                  rcases hvfresh b e with h | h
                  · omega
                  · exact hc h]
                exact hg.ext.block b hb hc
              · intro i r hi
                by_cases hl : r.live
                · rcases memc i r hi hl with ⟨rfl, rfl⟩ | ⟨h1, h2, h3, h4⟩
                  · obtain ⟨_, q⟩ := hR2
                    refine ⟨κb.2, ?_⟩
                    rw [κb.1, hro2]
                    exact q
                  · have ho := hother i r h3 hl h2 h4
                    exact (hg.res i r h3).keep (fun b hb => hstay b (ho b hb).1 (ho b hb).2) (fun b vs h => by rw [hro2]; exact hmono2 b vs h) (by rw [hg2]) (κo i (by rw [h3]; rfl)) fun j hj => κo j (hcl i r h3 j hj)
                · cases r <;> first | exact (hl trivial).elim | trivial
              · intro i j r s hi hj hij hli hlj b hbi hbj
                rcases memc i r hi hli with ⟨rfl, rfl⟩ | ⟨h1, h2, h3, h4⟩ <;> rcases memc j s hj hlj with ⟨rfl, rfl⟩ | ⟨k1, k2, k3, k4⟩
                · exact (hij rfl).elim
                · exfalso
                  rw [κb.1] at hbi
                  rw [(κo j (by rw [k3]; rfl)).1] at hbj
                  have ho := hother j s k3 hlj k2 k4 b hbj
                  rcases (hblk b hbi).1 with h | h
                  · omega
                  · exact ho.2 h
                · exfalso
                  rw [κb.1] at hbj
                  rw [(κo i (by rw [h3]; rfl)).1] at hbi
                  have ho := hother i r h3 hli h2 h4 b hbi
                  rcases (hblk b hbj).1 with h | h
                  · omega
                  · exact ho.2 h
                · rw [(κo i (by rw [h3]; rfl)).1] at hbi
                  rw [(κo j (by rw [k3]; rfl)).1] at hbj
                  rw [hst2]
                  exact hg.sep i j r s h3 k3 hij hli hlj b hbi hbj
              · intro i r hi hl b hb
                rcases memc i r hi hl with ⟨rfl, rfl⟩ | ⟨h1, h2, h3, h4⟩
                · rw [κb.1] at hb; exact hub b hb
                · rw [(κo i (by rw [h3]; rfl)).1] at hb; exact hg.fresh i r h3 hl b hb
              · intro i r hi hl b hb hs1 hs2
                rw [hro2]
                rcases memc i r hi hl with ⟨rfl, rfl⟩ | ⟨h1, h2, h3, h4⟩
                · rw [κb.1] at hb; exact (hblk b hb).2
                · rw [(κo i (by rw [h3]; rfl)).1] at hb
                  have ho := hother i r h3 hl h2 h4 b hb
                  have hn := hg1.wro i r h3 hl b hb (by rw [hst2] at hs1; exact hs1) (by rw [hst2] at hs2; exact hs2)
                  cases hq : ro2 b with
                  | none => rfl
                  | some vs =>
                    rcases hroo b vs hq with h | h | h
                    · have h : ro' b = some vs := h
                      rw [show ro' b = none from hn] at h; cases h
                    · omega
                    · exact (ho.2 h).elim
              · intro m hm2; rw [hst2] at hm2; have hm2 : st.rd = some m := hm2; rw [hrd] at hm2; cases hm2
              · intro hm2; rw [hst2] at hm2; exact absurd hrd hm2
              · intro b vs hb
                rw [hro2] at hb
                rcases hroo b vs hb with h | h | h
                · exact hg1.roo b vs h
                · exact .inr (.inl (Nat.le_trans hg.ext.size h))
                · rcases hvfresh b h with h | h
                  · exact .inr (.inl h)
                  · exact .inr (.inr h)
              · intro i u' hu'
                obtain ⟨p1, p2⟩ := hg.pin i u' hu'
                exact ⟨by rw [hst2]; exact upd_dom (upd_dom (kill_dom p1)), (κo i p1).1.trans p2⟩
              · intro i u' hu'
                obtain ⟨p1, p2⟩ := hg.keep.1 i u' hu'
                exact ⟨by rw [hst2]; exact upd_dom (upd_dom (kill_dom p1)), (κo i p1).2.trans p2⟩
              · intro b vs hb
                rw [hro2]
                exact hmono2 b vs (hg.keep.2 b vs hb)
            · intro i hi
              simp only [S.refs, S0.refs, CV.refs, List.mem_singleton] at hi
              subst hi
              rw [hst2]
              simp [upd]
            · intro i r hi j hj
              rw [hst2]
              refine upd_dom (upd_dom (kill_dom ?_))
              rw [hst2] at hi
              rcases upd_cases hi with ⟨_, h⟩ | ⟨_, h⟩
              · subst h; simp [Res.refs] at hj
              · rcases upd_cases h with ⟨_, h⟩ | ⟨_, h⟩
                · subst h; simp [Res.refs] at hj
                · rcases kill_cases h with h | h
                  · exact hcl i r h j hj
                  · subst h; simp [Res.refs] at hj
            · rw [hst2]; exact upd_dom (upd_dom (kill_dom hi))
          · exact hv.elim
        · exact hv.elim
      · exact hv.elim
    · exact hv.elim
  · exact hv.elim

abbrev CCon.lim (c : CCon) (mu : Args c.k1 → List c.t.den → Args c.k2 → Nat) (m : Nat) : CCon := { c with pre := fun x l y => c.pre x l y ∧ mu x l y < m }

theorem ptC_lim {c : CCon} (mu : Args c.k1 → List c.t.den → Args c.k2 → Nat) {args : List S0} {base : Nat} {st : St} {k : S → St → Prop} (h : ptC c args base st k) : ∃ m, ptC (c.lim mu m) args base st k := by
  unfold ptC ptC2 at h
  split at h
  · rename_i id hid
    split at h
    · rename_i x1 hx1
      unfold ptC3 at h
      split at h
      · rename_i ids x2 hids hx2
        unfold ptC4 at h
        split at h
        · rename_i fam t' xs hm
          split at h
          · rename_i xs' hc
            obtain ⟨a1, a2, a3, a4, a5, a6, a7, a8⟩ := h
            refine ⟨mu x1 xs' x2 + 1, ?_⟩
            have e4 : ptC4 (c.lim mu (mu x1 xs' x2 + 1)) base st k x1 x2 id ids (st.mem id) := by
              rw [hm]
              unfold ptC4
              dsimp only
              split
              · rename_i ys hys
                have hy2 : castL c.t t' xs = some ys := hys
                rw [hc] at hy2
                cases hy2
                exact ⟨a1, a2, a3, a4, a5, a6, ⟨a7, Nat.lt_succ_self _⟩, a8⟩
              · rename_i hys
                have hy2 : castL c.t t' xs = none := hys
                rw [hc] at hy2
                cases hy2
            have e3 : ptC3 (c.lim mu (mu x1 xs' x2 + 1)) base st k x1 id (ownsC st.mem (refsAr (args.take c.k1.length ++ args.drop (c.k1.length + 1)))) (decs st.mem c.k2 (args.drop (c.k1.length + 1))) := by
              rw [hids, hx2]; exact e4
            show ptC2 (c.lim mu (mu x1 xs' x2 + 1)) args base st k (decs st.mem c.k1 (args.take c.k1.length)) args[c.k1.length]?
            rw [hid, hx1]
            exact e3
          · exact h.elim
        · exact h.elim
      · exact h.elim
    · exact h.elim
  · exact h.elim

theorem ptC_zero {c : CCon} {mu : Args c.k1 → List c.t.den → Args c.k2 → Nat} {args : List S0} {base : Nat} {st : St} {k : S → St → Prop} (h : ptC (c.lim mu 0) args base st k) : False := by
  unfold ptC ptC2 at h
  split at h
  · split at h
    · unfold ptC3 at h
      split at h
      · unfold ptC4 at h
        split at h
        · split at h
          · obtain ⟨_, _, _, _, _, _, a7, _⟩ := h
            exact absurd a7.2 (Nat.not_lt_zero _)
          · exact h
        · exact h
      · exact h
    · exact h
  · exact h

theorem ptC_rec {f : FuncId} {c : CCon} {mu : Args c.k1 → List c.t.den → Args c.k2 → Nat} (h : ∀ m, PTOk P E f (ptC (c.lim mu m)) → PTOk P E f (ptC (c.lim mu (m + 1)))) (h0 : ∃ fn b, P.funcs[f]? = some fn ∧ (fn.name == "runtime.NumGoroutine") = false ∧ fn.body = some b) : PTOk P E f (ptC c) := by
  have all : ∀ m, PTOk P E f (ptC (c.lim mu m)) := by
    intro m
    induction m with
    | zero => exact ⟨h0, fun _ _ _ _ _ _ _ _ _ _ _ _ _ hv => (ptC_zero hv).elim⟩
    | succ m ih => exact h m ih
  refine ⟨h0, fun w0 M g st w args vs base k h1 h2 h3 h4 hv => ?_⟩
  obtain ⟨m, hv'⟩ := ptC_lim mu hv
  exact (all m).call w0 M g st w args vs base k h1 h2 h3 h4 hv'

theorem cons_ok {l : List (FuncId × Con)} {lp : List (FuncId × PT)} (ht : TabOk P E tab) (hmix : P.follows .mixedOrders = true) (hl : AllOk P E l) (hlp : AllPt P E lp) {f : FuncId} {fn : Func} (hf : P.funcs[f]? = some fn) (hb : fn.body = some (bodyOf fn)) (hname : (fn.name == "runtime.NumGoroutine") = false) {c : CCon} (hn : c.k1.length + c.k2.length + 1 ≤ fn.ntmps)
    (hok : codeOkP tab (lookF l) hp perm fn.ntmps (bodyOf fn) = true) {anns : Args c.k1 → List c.t.den → Args c.k2 → Nat → St → Option Ann}
    (hvc : ∀ x1 xs x2, c.pre x1 xs x2 → vcQ tab (lookF l) (lookP lp) hp (fun _ => none) (anns x1 xs x2) perm (bodyOf fn) (isoStC c x1 xs x2) (isoQC tab c fn.results.toList x1 xs x2)) : PTOk P E f (ptC c) :=
  ptC_ok ht (kall_of hl) (pall_of hlp) hmix (fun _ _ _ => draw_sound ht (tab_small ht) (kall_of hl) hmix _ _ _) hf hb hname hn hok hvc
end
end Go.SE

namespace Go.SE
open Go.RowKit

def mdV (c : List Int) : Nat → List Int × Int
  | 0 => (List.replicate 8 0, 0)
  | i + 1 => cond (cl c ((i + 1 : Nat) : Int) == ((i + 1 : Nat) : Int)) ((mdV c i).1.set i ((mdV c i).2 + 1), (mdV c i).2 + 1)
      (cond (decide (0 < cl c ((i + 1 : Nat) : Int))) ((mdV c i).1.set i ((mdV c i).1.getD (cl c ((i + 1 : Nat) : Int) - 1).toNat 0), (mdV c i).2) (mdV c i))
structure CaseOk (a : GAsn) (c : List Int) : Prop where
  len : c.length = 9
  le : ∀ t : Nat, t < 9 → cl c t ≤ t
  le8 : le8 c = true
  idx : ∀ x ∈ fL c a.atoms, isT x.a = true ∧ isT x.b = true ∧ 1 ≤ tv (mdV c 8).1 x.a ∧ tv (mdV c 8).1 x.a ≤ 8
end Go.SE

namespace Go.SE
open Go.RowKit

def brS (fin : List Int → Bool) (a : GAsn) (tm : List Bool) (c : List Int) (t : Int) (i : Nat) : CG := (List.range i).flatMap (brE fin a tm c t)
section
variable {fin : List Int → Bool} {a : GAsn} {tm : List Bool} {c : List Int} {t : Int} {i : Nat}
theorem brS_zero : brS fin a tm c t 0 = [] := rfl
theorem brS_succ : brS fin a tm c t (i + 1) = brS fin a tm c t i ++ brE fin a tm c t i := by
  unfold brS
  rw [List.range_succ, List.flatMap_append]
  simp
theorem brS_skip (hlt : (i : Int) < t) (hne : ¬ c.getD i 0 = (i : Int)) : brS fin a tm c t (i + 1) = brS fin a tm c t i := by
  rw [brS_succ]
  unfold brE
  rw [decide_eq_false (by omega), show (c.getD i 0 == (i : Int)) = false by simpa using hne]
  simp
theorem brE_take (hg : (i : Int) = t ∨ c.getD i 0 = (i : Int)) : brE fin a tm c t i = sQ fin a tm (c.set t.toNat (i : Int)) (t + 1) := by
  unfold brE
  have : (decide ((i : Int) = t) || c.getD i 0 == (i : Int)) = true := by
    rcases hg with hg | hg
    · rw [decide_eq_true hg]; rfl
    · rw [hg]; simp
  rw [this, cond_true]
theorem brS_take (hg : (i : Int) = t ∨ c.getD i 0 = (i : Int)) : brS fin a tm c t (i + 1) = brS fin a tm c t i ++ sQ fin a tm (c.set t.toNat (i : Int)) (t + 1) := by
  rw [brS_succ, brE_take hg]
theorem brS_full (h : ¬ 8 < t) (h0 : 0 ≤ t) (hf : sFits a c = true) (ht : tm.getD t.toNat false = true) (hi : (i : Int) ≤ t + 1) (he : ¬ (i : Int) ≤ t) : brS fin a tm c t i = sQ fin a tm c t := by
  rw [sQ_all h h0 hf ht, show i = t.toNat + 1 by omega]
  rfl
theorem brS_mono {j : Nat} (h : i ≤ j) : (brS fin a tm c t i).length ≤ (brS fin a tm c t j).length := by
  induction h with
  | refl => exact Nat.le_refl _
  | step _ ih => rw [brS_succ, List.length_append]; omega
theorem brS_le (h : ¬ 8 < t) (h0 : 0 ≤ t) (hf : sFits a c = true) (ht : tm.getD t.toNat false = true) (he : (i : Int) ≤ t) (hg : (i : Int) = t ∨ c.getD i 0 = (i : Int)) : (brS fin a tm c t i).length + (sQ fin a tm (c.set t.toNat (i : Int)) (t + 1)).length ≤ (sQ fin a tm c t).length := by
  rw [← brS_full (i := t.toNat + 1) h h0 hf ht (by omega) (by omega)]
  have := brS_mono (fin := fin) (a := a) (tm := tm) (c := c) (t := t) (i := i + 1) (j := t.toNat + 1) (by omega)
  rw [brS_take hg, List.length_append] at this
  exact this
theorem brS_fit {o : List (List Int)} {N : Nat} (hN : o.length + List.length (sQ fin a tm c t) ≤ N) (h : ¬ 8 < t) (h0 : 1 ≤ t) (hf : sFits a c = true) (ht : tm.getD t.toNat false = true) (he : (i : Int) ≤ t) (hg : (i : Int) = t ∨ c.getD i 0 = (i : Int)) : (o ++ brS fin a tm c t i).length + List.length (sQ fin a tm (c.set t.toNat (i : Int)) (t + 1)) ≤ N := by
  have := brS_le (fin := fin) h (by omega) hf ht he hg
  rw [List.length_append]
  omega
end
theorem fm_len {α β : Type} {l : List α} {g : α → List β} {n : Nat} (h : ∀ x ∈ l, (g x).length ≤ n) : (l.flatMap g).length ≤ l.length * n := by
  induction l with
  | nil => simp
  | cons x l ih =>
    rw [List.flatMap_cons, List.length_append, List.length_cons, Nat.add_mul, Nat.one_mul]
    have := ih fun y hy => h y (by simp [hy])
    have := h x (by simp)
    omega
theorem sEn_len {fit fin : List Int → Bool} {has : Nat → Bool} : ∀ (f t : Nat) (c : List Int), t + f ≤ 9 → (sEn fit fin has f t c).length ≤ 9 ^ f := by
  intro f
  induction f with
  | zero =>
    intro t c h
    simp only [sEn]
    cases fit c <;> cases fin c <;> simp
  | succ f ih =>
    intro t c h
    simp only [sEn]
    have hp : 0 < 9 ^ f := Nat.pow_pos (by decide)
    cases fit c with
    | false => simp
    | true =>
      cases has t with
      | false => simp only [cond_true, cond_false]; have := ih (t + 1) c (by omega); rw [Nat.pow_succ]; omega
      | true =>
        simp only [cond_true]
        refine Nat.le_trans (fm_len (n := 9 ^ f) fun k _ => ?_) ?_
        · cases k == t || c.getD k 0 == (k : Int) with
          | false => simp
          | true => exact ih _ _ (by omega)
        · rw [List.length_range, Nat.pow_succ, Nat.mul_comm]
          exact Nat.mul_le_mul_left _ (by omega)
theorem sQ_max {fin : List Int → Bool} {a : GAsn} {tm : List Bool} {c : List Int} : (sQ fin a tm c 1).length ≤ 4294967296 := Nat.le_trans (sEn_len 8 1 c (by decide)) (by decide)

def qT (t : Int) : Int → Bool := fun k => t == k
theorem fl9_one {a : GAsn} {t : Int} (ht : isT t = true) : (fl9 (occ a)).set t.toNat true = fl9 (fun k => occ a k || qT t k) := by
  rw [fl9_set ht]; rfl
theorem further1 {t : Int} (ht : isT t = true) : (0 ≤ tsWith 0 t ∧ tsWith 0 t < 512) ∧ ∀ k, tsHas (tsWith 0 t) k = qT t k := by
  refine ⟨tsWith_bd (by decide) (by decide), fun k => ?_⟩
  rw [tsHas_with (by decide) ht, tsHas_zero, Bool.false_or]
  rfl
theorem itEn_one {a : GAsn} (ha : asV a = true) {t : Int} (ht : isT t = true) : itEn a (bits .or .u16 (tsWith (tsA a) 0) (tsWith 0 t)) = casesB a (hz a (qT t)) ∧ itPre a (bits .or .u16 (tsWith (tsA a) 0) (tsWith 0 t)) := by
  obtain ⟨⟨h1, h2⟩, h3⟩ := further1 ht
  obtain ⟨e1, e2⟩ := itEn_or ha h1 h2
  refine ⟨?_, e2⟩
  rw [e1, hz_congr fun k _ => h3 k]
theorem sAlc {a : GAsn} (ha : asV a = true) {t : Int} (ht : isT t = true) : sQ (sFin a) a ((fl9 (occ a)).set t.toNat true) opens 1 = casesB a (hz a (qT t)) := by
  rw [fl9_one ht, sQ_cases (has := hz a (qT t)) fun k h1 h2 => by rw [hz_get h1 h2]]
  exact casesS_eq' (hz_named ha _) rfl

def bgn (l : List GAtom) (c : Int) : Bool := l.any fun x => x.a == c
def ALC (a : GAsn) (t : Int) : Bool := asV a && (isT t && (casesB a (hz a (qT t))).all fun c => bgn (fL c a.atoms) (c.getD t.toNat 0))
theorem bgn_yes {l : List GAtom} {c : Int} {i : Nat} {d : GAtom} (hi : i < l.length) (h : (l.getD i d).a = c) : bgn l c = true := by
  unfold bgn
  rw [List.any_eq_true]
  refine ⟨l.getD i d, ?_, by simpa using h⟩
  rw [List.getD_eq_getElem?_getD, List.getElem?_eq_getElem hi]; exact List.getElem_mem hi
theorem bgn_step {l : List GAtom} {c : Int} {i : Nat} {d : GAtom} (hi : i < l.length) (h : bgn (l.take i) c = false) (hn : ¬ (l.getD i d).a = c) : bgn (l.take (i + 1)) c = false := by
  have e : l.take (i + 1) = l.take i ++ [l.getD i d] := by
    rw [List.take_add_one, List.getD_eq_getElem?_getD, List.getElem?_eq_getElem hi]; rfl
  unfold bgn at h ⊢
  rw [e, List.any_append, h]
  simpa using hn
theorem bgn_end {l : List GAtom} {c : Int} {i : Nat} (hi : ¬ i < l.length) (h : bgn (l.take i) c = false) : bgn l c = false := by
  rw [List.take_of_length_le (by omega)] at h; exact h

section
variable {a : GAsn} {t : Int}
theorem alc_max (ha : asV a = true) (ht : isT t = true) : List.length (casesB a (hz a (qT t))) ≤ 4294967296 := by
  rw [← sAlc ha ht]; exact sQ_max
theorem alc_mem (ha : asV a = true) (ht : isT t = true) {c : List Int} (h : c ∈ casesB a (hz a (qT t))) : c.length = 9 := by
  rw [← sAlc ha ht] at h
  exact sQ_len c h
theorem alc_get {i : Nat} (hi : i < List.length (casesB a (hz a (qT t)))) : List.getD (casesB a (hz a (qT t))) i [] ∈ casesB a (hz a (qT t)) := by
  rw [List.getD_eq_getElem?_getD, List.getElem?_eq_getElem hi]; exact List.getElem_mem hi
theorem alc_len (ha : asV a = true) (ht : isT t = true) {i : Nat} (hi : i < List.length (casesB a (hz a (qT t)))) : (List.getD (casesB a (hz a (qT t))) i []).length = 9 := alc_mem ha ht (alc_get hi)
theorem alc_bad1 (ha : asV a = false) : ALC a t = false := by unfold ALC; rw [ha]; rfl
theorem alc_bad2 (ht : isT t = false) : ALC a t = false := by unfold ALC; rw [ht]; simp
theorem alc_no (ha : asV a = true) (ht : isT t = true) {c : List Int} (hc : c ∈ casesB a (hz a (qT t))) (hb : bgn (fL c a.atoms) (c.getD t.toNat 0) = false) : ALC a t = false := by
  unfold ALC
  rw [ha, ht, Bool.true_and, Bool.true_and]
  rw [List.all_eq_false]
  exact ⟨c, hc, by rw [hb]; simp⟩
theorem alc_all (ha : asV a = true) (ht : isT t = true) (h : (List.all (casesB a (hz a (qT t))) fun c => bgn (fL c a.atoms) (c.getD t.toNat 0)) = true) : ALC a t = true := by
  unfold ALC
  rw [ha, ht, h]; rfl
theorem alc_it (ha : asV a = true) (ht : isT t = true) {c : List Int} {i : Nat} (h : (itEn a (bits .or .u16 (tsWith (tsA a) 0) (tsWith 0 t)))[i]? = some c) (hb : bgn (fL c a.atoms) (c.getD t.toNat 0) = false) : ALC a t = false := by
  rw [(itEn_one ha ht).1] at h
  exact alc_no ha ht (List.mem_of_getElem? h) hb
theorem alc_its (ha : asV a = true) (ht : isT t = true) (h : (List.all (itEn a (bits .or .u16 (tsWith (tsA a) 0) (tsWith 0 t))) fun c => bgn (fL c a.atoms) (c.getD t.toNat 0)) = true) : ALC a t = true := by
  rw [(itEn_one ha ht).1] at h
  exact alc_all ha ht h
theorem alc_step {l : CG} {p : List Int → Bool} {i : Nat} (hi : i < List.length l) (h : (List.take i l).all p = true) (hb : p (List.getD l i []) = true) : (List.take (i + 1) l).all p = true := by
  have e : List.take (i + 1) l = List.take i l ++ [List.getD l i []] := by
    rw [List.take_add_one, List.getD_eq_getElem?_getD, List.getElem?_eq_getElem hi]; rfl
  rw [e, List.all_append, h]
  simpa using hb
theorem alc_end {l : CG} {p : List Int → Bool} {i : Nat} (hi : ¬ i < List.length l) (h : (List.take i l).all p = true) : List.all l p = true := by
  rw [List.take_of_length_le (by omega)] at h; exact h
end

end Go.SE

namespace Go.SE
open Go.RowKit

theorem bgn_ex {c : List Int} {l : List GAtom} {x : Int} (h : bgn (fL c l) x = true) : ∃ y ∈ filt (cl c) l, cl c y.a = x := by
  unfold bgn at h
  rw [List.any_eq_true] at h
  obtain ⟨y, hy, e⟩ := h
  unfold fL at hy
  rw [List.mem_filter, List.mem_map] at hy
  obtain ⟨⟨z, hz, rfl⟩, hk⟩ := hy
  exact ⟨z, List.mem_filter.2 ⟨hz, hk⟩, by simpa using e⟩
end Go.SE

namespace Go.SE
open Go.RowKit

section
variable {s : GState} {a : GAsn} {f : GFact} {x t : Int}
theorem fh_all (hs : stV s = true) (hf : fV f = true) : (fsV [f] && (s.vals.length == 8 && [f].all (holdF s.vals))) = ((tv s.vals f.a == tv s.vals f.b) == f.eq) := by
  unfold fsV
  rw [(stV_all hs).1]
  simp only [List.all_cons, List.all_nil, hf, Bool.and_true, holdF]
  rfl
theorem imp_fV (hi : IMP a f = true) : fV f = true := (imp_iff.1 hi).2.1
theorem imp_fh (hi : IMP a f = true) (h : HOL s a = true) : (fsV [f] && (s.vals.length == 8 && [f].all (holdF s.vals))) = true := by
  rw [fh_all (hol_poss h).1 (imp_fV hi), imp_hol hi h]; simp
theorem imp_fh2 (hi : IMP a f = true) (h : HOL s a = true) (hn : (fsV [f] && (s.vals.length == 8 && [f].all (holdF s.vals))) = false) : False := by
  rw [imp_fh hi h] at hn; cases hn
theorem st1_of (h : starOk a ⟨[f], []⟩ = true) : asV a = true ∧ fV f = true ∧ asV ⟨a.facts ++ [f], a.atoms⟩ = true ∧ starL a ⟨[f], []⟩ = ⟨a.facts ++ [f], a.atoms⟩ := by
  have e : starL a ⟨[f], []⟩ = starA a ⟨[f], []⟩ := by unfold starL; rw [h]; rfl
  unfold starOk at h
  simp only [Bool.and_eq_true] at h
  obtain ⟨⟨h1, h2⟩, h3⟩ := h
  have e2 : starA a ⟨[f], []⟩ = ⟨a.facts ++ [f], a.atoms⟩ := by unfold starA; rw [List.append_nil]
  rw [e2] at h3 e
  have h4 := (asV_facts h2).1
  simp only [List.all_cons, List.all_nil, Bool.and_true] at h4
  exact ⟨h1, h4, h3, e⟩
theorem hol_star (h : starOk a ⟨[f], []⟩ = true) (hs : stV s = true) : HOL s (starL a ⟨[f], []⟩) = (HOL s a && (fsV [f] && (s.vals.length == 8 && [f].all (holdF s.vals)))) := by
  obtain ⟨h1, h2, h3, e⟩ := st1_of h
  rw [e, hol_add h1 h3, fh_all hs h2]
theorem hol_star1 (h : starOk a ⟨[f], []⟩ = true) (hs : stV s = true) (ht : HOL s a = true) : HOL s (starL a ⟨[f], []⟩) = (fsV [f] && (s.vals.length == 8 && [f].all (holdF s.vals))) := by
  rw [hol_star h hs, ht]; rfl
theorem hol_star0 (h : starOk a ⟨[f], []⟩ = true) (ht : HOL s a = false) : HOL s (starL a ⟨[f], []⟩) = false := by
  obtain ⟨h1, h2, h3, e⟩ := st1_of h
  rw [e, hol_add h1 h3, ht]; rfl
theorem hol_starI (h : starOk a ⟨[f], []⟩ = true) (hi : IMP a f = true) : HOL s a = HOL s (starL a ⟨[f], []⟩) := by
  obtain ⟨h1, h2, h3, e⟩ := st1_of h
  rw [e, hol_add h1 h3]
  cases hh : HOL s a with
  | false => rfl
  | true => rw [imp_hol hi hh]; simp
theorem cons_neg (h : starOk a ⟨[negF f], []⟩ = true) : (asV (starL a ⟨[negF f], []⟩) && !(casesF (starL a ⟨[negF f], []⟩)).isEmpty) = !IMP a f := by
  obtain ⟨h1, h2, h3, e⟩ := st1_of h
  rw [e, h3, imp_neg (f := f) h1 h2 h3]; rfl
/-! ## substitution -/
theorem tv_rT {u : Int} (e : tv s.vals x = tv s.vals t) : tv s.vals (rT u x t) = tv s.vals u := by
  unfold rT
  split
  · rename_i h; rw [h, e]
  · rfl
theorem ac_sub {y : GAtom} (e : tv s.vals x = tv s.vals t) : acO s (sA x t y) = acO s y := by
  unfold acO sA
  simp only [tv_rT e]
theorem pt_sub (e : tv s.vals x = tv s.vals t) : ∀ (l : List GAtom) (L : List Int), ptO s L (l.map (sA x t)) = ptO s L l := by
  intro l
  induction l with
  | nil => intro L; rfl
  | cons y l ih =>
    intro L
    simp only [List.map_cons, ptO, ac_sub e, ih]
theorem hol_sub (h : subOk a x t = true) (e : tv s.vals x = tv s.vals t) : HOL s (subL a x t) = HOL s a := by
  obtain ⟨h1, _, h3, _⟩ := subOk_iff.1 h
  rw [subL_of h]
  unfold HOL
  have e1 : fctB s (subA a x t).facts = fctB s a.facts := by
    unfold fctB subA
    rw [List.all_map]
    congr 1
    funext f
    simp only [Function.comp, sF, tv_rT e]
  have e2 : ptO s [] (subA a x t).atoms = ptO s [] a.atoms := pt_sub e _ _
  rw [e1, e2, h1, subA_val h1 h3]
theorem hol_subV (h : subOk a x t = true) (h1 : (stV s && isT x) = true) (h2 : (stV s && isT t) = true) (e : cond (stV s && isT x) (tv s.vals x) 0 = cond (stV s && isT t) (tv s.vals t) 0) : HOL s (subL a x t) = HOL s a := by
  rw [h1, h2] at e
  exact hol_sub h e
/-! ## allocation -/
theorem alc_v (h : ALC a t = true) {v : Int → Int} (hv : possV a v) : ∃ y ∈ filt v a.atoms, v y.a = v t := by
  unfold ALC at h
  simp only [Bool.and_eq_true] at h
  obtain ⟨ha, ht, hall⟩ := h
  have hn := hz_named ha (qT t)
  have t9 := isT_iff.1 ht
  have hht : hz a (qT t) t.toNat = true := hz_has ht (by unfold qT; simp)
  have key := (cases_all hn rfl (fun v => a.atoms.any fun y => (y.kind == 1 || !(v y.a == v y.b)) && (v y.a == v t)) fun v w hvw => by
    rw [Bool.eq_iff_iff, List.any_eq_true, List.any_eq_true]
    refine exists_congr fun y => and_congr_right fun hy => ?_
    obtain ⟨a1, a2, a3, a4, a5, a6⟩ := hn.2 y hy
    rw [hvw y.a y.b a1 a2 a5 a3 a4 a6, hvw y.a t a1 a2 a5 t9.1 t9.2 hht]).1 (by
    rw [List.all_eq_true] at hall ⊢
    intro c hc
    obtain ⟨y, hy, e⟩ := bgn_ex (hall c hc)
    obtain ⟨hy1, hy2⟩ := List.mem_filter.1 hy
    rw [List.any_eq_true]
    refine ⟨y, hy1, ?_⟩
    rw [hy2, Bool.true_and, beq_iff_eq]
    exact e) v hv
  rw [List.any_eq_true] at key
  obtain ⟨y, hy, hk⟩ := key
  simp only [Bool.and_eq_true, beq_iff_eq] at hk
  exact ⟨y, List.mem_filter.2 ⟨hy, hk.1⟩, hk.2⟩
theorem alc_T (h : ALC a t = true) : isT t = true := by
  unfold ALC at h
  simp only [Bool.and_eq_true] at h
  exact h.2.1
theorem alc_hol (h : ALC a t = true) (hh : HOL s a = true) : al s (tv s.vals t) = true := by
  obtain ⟨y, hy, e⟩ := alc_v h (hol_poss hh).2.2
  unfold HOL at hh
  simp only [Bool.and_eq_true] at hh
  obtain ⟨hs, ha, hf, hp⟩ := hh
  cases hpt : ptO s [] a.atoms with
  | none => rw [hpt] at hp; cases hp
  | some M =>
    obtain ⟨_, h2, _⟩ := ptO_parts hs _ _ _ (asV_facts ha).2.2.1 hpt
    rw [← e]; exact (h2 y hy).1
theorem alc_q1 (h : ALC a t = true) (hh : HOL s a = true) (hn : (stV s && isT t) = false) : False := by
  rw [(hol_poss hh).1, alc_T h] at hn; cases hn
theorem alc_q2 (h : ALC a t = true) (hh : HOL s a = true) : (stV s && al s (cond (stV s && isT t) (tv s.vals t) 0)) = true := by
  rw [(hol_poss hh).1, alc_T h]
  show (true && al s (tv s.vals t)) = true
  rw [alc_hol h hh]; rfl
theorem alc_q3 (h : ALC a t = true) (hh : HOL s a = true) (hn : (stV s && al s (cond (stV s && isT t) (tv s.vals t) 0)) = false) : False := by
  rw [alc_q2 h hh] at hn; cases hn
end
end Go.SE
