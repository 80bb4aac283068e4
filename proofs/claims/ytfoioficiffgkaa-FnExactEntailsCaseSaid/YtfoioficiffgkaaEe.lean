/-
  Parts of a symbolic engine over the program's code: how operations, regions, loops and calls are shown to keep contracts. No conditions.
-/
import Derived.Laws.BitsAllLaws
import Derived.RangeFuncCalls
import Derived.OrdersIn
import Derived.RangeFuncIn
import Derived.RangeFuncRecord
import Derived.Test.YtfoioficiffgkaaEd
set_option linter.unusedSimpArgs false
set_option linter.unusedVariables false
set_option linter.unusedSectionVars false

namespace Go.SE
open Go.RowKit

section
variable {P : Program} {E : Ty → TypeId} {w0 : World} {M : MM} {n : Nat} {st st' : St} {a : Act} {w : World}

theorem okO_mem {O : Nat → Option Res} {ρ : Nat → Nat} : ∀ {l : List Nat}, okO O ρ l → ∀ j ∈ l, ((O j).isSome = true → ρ j = j) ∧ (O j = none → O (ρ j) = none) := by
  intro l
  induction l with
  | nil => intro _ j h; cases h
  | cons x l ih =>
    intro h j hj
    rcases List.mem_cons.1 hj with rfl | hj
    · have h1 := h.1
      cases hO : O j with
      | none => rw [hO] at h1; exact ⟨fun h => (by cases h), fun _ => h1⟩
      | some r => rw [hO] at h1; exact ⟨fun _ => h1, fun h => (by cases h)⟩
    · exact ih h.2 j hj

theorem inL_false {l : List Nat} {j : Nat} : inL l j = false ↔ j ∉ l := by
  rw [← inL_mem]; cases inL l j <;> simp

theorem adds_key {k : Nat} {r : Res} : ∀ {l : List (Nat × Res)} {m : Nat → Option Res}, k ∈ l.map (·.1) → adds m l k = some r → (k, r) ∈ l := by
  intro l
  induction l with
  | nil => intro m hk; cases hk
  | cons p l ih =>
    intro m hk h
    obtain ⟨j, s⟩ := p
    by_cases hl : k ∈ l.map (·.1)
    · exact List.mem_cons_of_mem _ (ih hl h)
    · have hkj : k = j := by
        rcases List.mem_cons.1 hk with h | h
        · exact h
        · exact (hl h).elim
      subst hkj
      rw [adds, adds_old (fun p hp e => hl (List.mem_map.2 ⟨p, hp, e⟩)), upd_same] at h
      injection h with h
      subst h
      exact List.mem_cons_self

theorem ownRes_keys : ∀ (l : List Own), (ownRes l).map (·.1) = l.map (·.id) := by
  intro l
  induction l with
  | nil => rfl
  | cons x l ih => simp [ownRes, ih]

theorem Rel.headP {O : Nat → Option Res} (h : Rel E w0 M n st' a w) (hO : OOk O M) {live : List Nat} {sets : List (Nat × S)} {mids : List Nat} {blks : List (Nat × Res)} {owns : List Own} {base : Nat} {rd : Option Nat} (hf : fitsP O live sets mids blks owns rd st st') :
    Rel E w0 M n (SE.headP O live sets mids blks owns base rd st) a w := by
  have hOs := hO.dom h
  unfold fitsP at hf
  split at hf
  · exact hf.elim
  rename_i m hm
  obtain ⟨f1, f2, f3, f4, f5, f6, f7, f8, f9, f10, f11, f12, f14, f15, f16, f13⟩ := hf
  obtain ⟨hkeys, hsrc⟩ := renL_spec hm
  have n6 := allDiff_nodup f6
  have n7 := allDiff_nodup f7
  have n8 := allDiff_nodup f8
  have nodup3 : (mids ++ (blks.map (·.1) ++ owns.map (·.id))).Nodup := n6
  have nown : (owns.map (·.id)).Nodup := (List.nodup_append.1 (List.nodup_append.1 nodup3).2.1).2.1
  -- what stays keeps its number
  have stay : ∀ x ∈ mids ++ blks.map (·.1), lookR m x = x := by
    intro x hx
    refine lookR_id ?_
    rw [hkeys]
    intro ho
    have h1 : ((mids ++ blks.map (·.1)) ++ owns.map (·.id)).Nodup := by rw [List.append_assoc]; exact nodup3
    exact (List.nodup_append.1 h1).2.2 x hx x ho rfl
  have stayO : ∀ x, (O x).isSome = true → lookR m x = x := by
    intro x hx
    by_cases hin : x ∈ idsC mids blks owns
    · exact (okO_mem f14 x hin).1 hx
    · refine lookR_id ?_
      rw [hkeys]
      intro ho
      exact hin (by simp only [idsC, List.mem_append]; exact .inr (.inr ho))
  obtain ⟨g, hg, henv⟩ := h.good
  have idsM : ∀ x ∈ mids, x ∈ idsC mids blks owns := fun x hx => by simp only [idsC, List.mem_append]; exact .inl hx
  have idsB : ∀ x ∈ blks.map (·.1), x ∈ idsC mids blks owns := fun x hx => by simp only [idsC, List.mem_append]; exact .inr (.inl hx)
  have idsW : ∀ x ∈ owns.map (·.id), x ∈ idsC mids blks owns := fun x hx => by simp only [idsC, List.mem_append]; exact .inr (.inr hx)
  have hmemcases : ∀ k r, (SE.headP O live sets mids blks owns base rd st).mem k = some r → (∃ o ∈ owns, k = o.id ∧ r = .sl o.id o.t o.xs) ∨ ((k, r) ∈ blks) ∨ (k ∈ mids ∧ st'.mem k = some r) ∨ (k ∉ idsC mids blks owns ∧ (O k).isSome = true ∧ O k = some r ∧ st'.mem k = some r) := by
    intro k r hk
    have hk : adds (adds (tabM O st.mem mids) blks) (ownRes owns) k = some r := hk
    by_cases h1 : k ∈ owns.map (·.id)
    · obtain ⟨o, h2, h3⟩ := ownRes_mem (adds_key (by rw [ownRes_keys]; exact h1) hk)
      injection h3 with h3 h4
      exact .inl ⟨o, h2, h3, h4⟩
    · rw [adds_old (fun p hp e => h1 (by rw [← ownRes_keys]; exact List.mem_map.2 ⟨p, hp, e⟩))] at hk
      by_cases h2 : k ∈ blks.map (·.1)
      · exact .inr (.inl (adds_key h2 hk))
      · rw [adds_old (fun p hp e => h2 (List.mem_map.2 ⟨p, hp, e⟩)), tabM_get] at hk
        split at hk
        · rename_i e
          by_cases hmid : k ∈ mids
          · exact .inr (.inr (.inl ⟨hmid, by rw [(memSame_mem f3 k hmid).2.1]; exact hk⟩))
          · rw [inL_false.2 hmid] at e
            simp only [Bool.false_or] at e
            have hin : k ∉ idsC mids blks owns := by
              simp only [idsC, List.mem_append, not_or]
              exact ⟨hmid, h2, h1⟩
            obtain ⟨e1, e2, _⟩ := f15 k e (inL_false.2 hin)
            exact .inr (.inr (.inr ⟨hin, e, by rw [← e1]; exact hk, by rw [e2]; exact hk⟩))
        · cases hk
  have hdom : ∀ k, (inL (idsC mids blks owns) k || (O k).isSome) = true → ((SE.headP O live sets mids blks owns base rd st).mem k).isSome = true := by
    intro k hk
    show (adds (adds (tabM O st.mem mids) blks) (ownRes owns) k).isSome = true
    by_cases h1 : k ∈ owns.map (·.id)
    · obtain ⟨o, ho, rfl⟩ := List.mem_map.1 h1
      exact adds_new (ownRes_of ho)
    · by_cases h2 : k ∈ blks.map (·.1)
      · obtain ⟨p, hp, rfl⟩ := List.mem_map.1 h2
        exact adds_isSome (adds_new (k := p.1) (r := p.2) hp)
      · refine adds_isSome (adds_isSome ?_)
        rw [tabM_get]
        by_cases h3 : k ∈ mids
        · rw [if_pos (by simp [inL_mem.2 h3])]
          exact (memSame_mem f3 k h3).1
        · have hin : k ∉ idsC mids blks owns := by
            simp only [idsC, List.mem_append, not_or]
            exact ⟨h3, h2, h1⟩
          rw [inL_false.2 hin] at hk
          simp only [Bool.false_or] at hk
          rw [if_pos (by simp [hk]), (f15 k hk (inL_false.2 hin)).1]
          exact hk
  have spfr : ∀ k, (k ∈ blks.map (·.1) ++ owns.map (·.id) → (SE.headP O live sets mids blks owns base rd st).sp k = false ∧ (SE.headP O live sets mids blks owns base rd st).fr k = false) ∧
      (k ∉ blks.map (·.1) ++ owns.map (·.id) → (inL mids k || (O k).isSome) = true → (SE.headP O live sets mids blks owns base rd st).sp k = st.sp k ∧ (SE.headP O live sets mids blks owns base rd st).fr k = st.fr k) := by
    intro k
    constructor
    · intro hk
      have := inL_mem.2 hk
      simp [SE.headP, this]
    · intro hk hk2
      have := inL_false.2 hk
      simp [SE.headP, this, tabQ_get, hk2]
  -- each number at the head: what it is in st'
  have there : ∀ k r, (SE.headP O live sets mids blks owns base rd st).mem k = some r → (k ∈ idsC mids blks owns ∨ (k ∉ idsC mids blks owns ∧ (O k).isSome = true ∧ O k = some r ∧ st'.mem k = some r)) ∧
      (SE.headP O live sets mids blks owns base rd st).sp k = st'.sp (lookR m k) ∧ (SE.headP O live sets mids blks owns base rd st).fr k = st'.fr (lookR m k) ∧
      ((r.live → ∃ r', st'.mem (lookR m k) = some r' ∧ r'.live ∧ ((∃ f t xs, r' = .sl f t xs) ↔ (∃ f t xs, r = .sl f t xs))) ∧ ResR E w (g.ren (lookR m)) k r) ∧ ∀ id ∈ r.refs, (inL (idsC mids blks owns) id || (O id).isSome) = true := by
    intro k r hk
    rcases hmemcases k r hk with ⟨o, ho, rfl, rfl⟩ | hk | ⟨hin, hk⟩ | ⟨hin, hOk, hOr, hk⟩
    · obtain ⟨h1, h2, f, h3⟩ := memOwns_mem f5 o ho
      have hmem : o.id ∈ owns.map (·.id) := List.mem_map_of_mem ho
      have hs := (spfr o.id).1 (List.mem_append_right _ hmem)
      refine ⟨.inl (idsW _ hmem), by rw [hs.1, h1], by rw [hs.2, h2], ⟨fun _ => ⟨_, h3, trivial, ⟨fun _ => ⟨_, _, _, rfl⟩, fun _ => ⟨_, _, _, rfl⟩⟩⟩, ?_⟩, by simp [Res.refs]⟩
      exact hg.res _ _ h3
    · obtain ⟨h1, h2, h3, h4⟩ := memBlks_mem f4 (k, r) hk
      simp only at h1 h2 h3 h4
      have hmem : k ∈ blks.map (·.1) := List.mem_map.2 ⟨(k, r), hk, rfl⟩
      have hs := (spfr k).1 (List.mem_append_left _ hmem)
      have hst : lookR m k = k := stay k (List.mem_append_right _ hmem)
      refine ⟨.inl (idsB _ hmem), by rw [hs.1, hst, h2], by rw [hs.2, hst, h3], ⟨fun hl => ⟨r.ren (lookR m), by rw [hst]; exact h1, ?_, ?_⟩, ?_⟩, closedRO_mem f12 (k, r) hk⟩
      · rcases h4 with ⟨cs, rfl⟩ | ⟨t, xs, rfl⟩ <;> trivial
      · rcases h4 with ⟨cs, rfl⟩ | ⟨t, xs, rfl⟩ <;> simp [Res.ren]
      · have hr := hg.res _ _ h1
        rcases h4 with ⟨cs, rfl⟩ | ⟨t, xs, rfl⟩
        · obtain ⟨b, vs, ty, h5, h6, h7⟩ := hr
          exact ⟨b, vs, ty, by show g.κ (lookR m k) = _; rw [hst]; exact h5, h6, h7.ren⟩
        · obtain ⟨h0, b, vs, ty, h5, h6, h7⟩ := hr
          exact ⟨by show g.ln (lookR m k) = _; rw [hst]; exact h0, b, vs, ty, by show g.κ (lookR m k) = _; rw [hst]; exact h5, h6, h7⟩
    · obtain ⟨_, h1, h2, h3⟩ := memSame_mem f3 k hin
      have hst : lookR m k = k := stay k (List.mem_append_left _ hin)
      have hnot : k ∉ blks.map (·.1) ++ owns.map (·.id) := fun hh => (List.nodup_append.1 nodup3).2.2 _ hin _ hh rfl
      have hs := (spfr k).2 hnot (by simp [inL_mem.2 hin])
      have hcl := closedMO_mem f11 k hin r (by rw [← h1]; exact hk)
      have hren : ∀ id ∈ r.refs, lookR m id = id := by
        intro id hid
        have := hcl id hid
        cases hi : inL (mids ++ blks.map (·.1)) id with
        | true => exact stay id (inL_mem.1 hi)
        | false => rw [hi] at this; simp at this; exact stayO id (by simp [this])
      have hcl2 : ∀ id ∈ r.refs, (inL (idsC mids blks owns) id || (O id).isSome) = true := by
        intro id hid
        have := hcl id hid
        cases hi : inL (mids ++ blks.map (·.1)) id with
        | true =>
          have hi' := inL_mem.1 hi
          have : id ∈ idsC mids blks owns := by
            rcases List.mem_append.1 hi' with h | h
            · exact idsM _ h
            · exact idsB _ h
          simp [inL_mem.2 this]
        | false => rw [hi] at this; simp at this; simp [this]
      refine ⟨.inl (idsM _ hin), by rw [hs.1, hst, h2], by rw [hs.2, hst, h3], ⟨fun hl => ⟨r, by rw [hst]; exact hk, hl, Iff.rfl⟩, ?_⟩, hcl2⟩
      refine (hg.res k r hk).keep (g' := g.ren (lookR m)) (fun _ _ => rfl) (fun _ _ h => h) rfl ?_ ?_
      · show g.κ (lookR m k) = _ ∧ g.ln (lookR m k) = _
        rw [hst]
        exact ⟨rfl, rfl⟩
      · intro i hi
        show g.κ (lookR m i) = _ ∧ g.ln (lookR m i) = _
        rw [hren i hi]
        exact ⟨rfl, rfl⟩
    · have hst : lookR m k = k := stayO k hOk
      have hnot : k ∉ blks.map (·.1) ++ owns.map (·.id) := fun hh => hin (by simp only [idsC, List.mem_append] at hh ⊢; exact .inr hh)
      have hs := (spfr k).2 hnot (by simp [hOk])
      obtain ⟨e1, e2, e3, e4⟩ := f15 k hOk (inL_false.2 hin)
      have hren : ∀ id ∈ r.refs, (O id).isSome = true := hO.cl k r hOr
      refine ⟨.inr ⟨hin, hOk, hOr, hk⟩, by rw [hs.1, hst, e3], by rw [hs.2, hst, e4], ⟨fun hl => ⟨r, by rw [hst]; exact hk, hl, Iff.rfl⟩, ?_⟩, fun id hid => by simp [hren id hid]⟩
      refine (hg.res k r hk).keep (g' := g.ren (lookR m)) (fun _ _ => rfl) (fun _ _ h => h) rfl ?_ ?_
      · show g.κ (lookR m k) = _ ∧ g.ln (lookR m k) = _
        rw [hst]
        exact ⟨rfl, rfl⟩
      · intro i hi
        show g.κ (lookR m i) = _ ∧ g.ln (lookR m i) = _
        rw [stayO i (hren i hi)]
        exact ⟨rfl, rfl⟩
  have injL : ∀ i ∈ idsC mids blks owns, ∀ j ∈ idsC mids blks owns, i ≠ j → lookR m i ≠ lookR m j := by
    intro i hi j hj hij e
    have hp := List.nodup_iff_pairwise_ne.1 n7
    rw [List.pairwise_map] at hp
    have key : ∀ (l : List Nat), l.Pairwise (fun a b => lookR m a ≠ lookR m b) → i ∈ l → j ∈ l → False := by
      intro l
      induction l with
      | nil => intro _ h; simp at h
      | cons x l ih =>
        intro hp hi hj
        obtain ⟨h1, h2⟩ := List.pairwise_cons.1 hp
        rcases List.mem_cons.1 hi with rfl | hi2 <;> rcases List.mem_cons.1 hj with rfl | hj2
        · exact hij rfl
        · exact h1 j hj2 e
        · exact h1 i hi2 e.symm
        · exact ih h2 hi2 hj2
    exact key _ hp hi hj
  -- a number that is named, and one that lay there and is not
  have mixed : ∀ i ∈ idsC mids blks owns, ∀ j, j ∉ idsC mids blks owns → (O j).isSome = true → lookR m i ≠ j := by
    intro i hi j hj hOj e
    cases hOi : O i with
    | some r =>
      rw [(okO_mem f14 i hi).1 (by simp [hOi])] at e
      exact hj (e ▸ hi)
    | none =>
      have := (okO_mem f14 i hi).2 hOi
      rw [e] at this
      rw [this] at hOj
      cases hOj
  have hrd : ∀ k, (SE.headP O live sets mids blks owns base rd st).rd = some k → ∃ j, st'.rd = some j ∧ j ≤ k ∧ k ≤ rdLimit := by
    intro k hk
    have hk' : rd = some k := hk
    rw [hk'] at f13
    cases hr : st'.rd with
    | none => rw [hr] at f13; exact f13.elim
    | some j => rw [hr] at f13; exact ⟨j, rfl, f13⟩
  refine ⟨⟨?_, fun j r hj id hid => hdom id ((there j r hj).2.2.2.2 id hid)⟩, h.size, h.defers, g.ren (lookR m), ⟨hg.ext, hg.ro, fun id r hid => (there id r hid).2.2.2.1.2, ?_, ?_, ?_, ?_, ?_, hg.roo, hg.rho, ?_, ⟨?_, hg.keep.2⟩⟩, ?_⟩
  · -- what the slots name
    intro x id hid
    rcases puts_cases x sets (puts (keepE live st.env) (ownEnv owns)) with ⟨v, h1, h2⟩ | h1
    · have : (SE.headP O live sets mids blks owns base rd st).env x = v := h2
      rw [this] at hid
      exact hdom id (closedVO_mem f10 (x, v) h1 id hid)
    · rcases puts_cases x (ownEnv owns) (keepE live st.env) with ⟨v, h2, h3⟩ | h2
      · have : (SE.headP O live sets mids blks owns base rd st).env x = v := by show puts _ _ x = _; rw [h1, h3]
        rw [this] at hid
        obtain ⟨o, h4, _, h6⟩ := ownEnv_mem h2
        simp only at h6
        subst h6
        simp [S.refs, S0.refs, CV.refs] at hid
        subst hid
        exact hdom _ (by simp [inL_mem.2 (idsW _ (List.mem_map_of_mem h4))])
      · have : (SE.headP O live sets mids blks owns base rd st).env x = keepE live st.env x := by show puts _ _ x = _; rw [h1, h2]
        rw [this] at hid
        unfold keepE at hid
        split at hid
        · rename_i hin
          have := closedEO_mem f9 x (inL_mem.1 hin) id hid
          refine hdom id ?_
          cases hi : inL (mids ++ blks.map (·.1)) id with
          | true =>
            have hi' := inL_mem.1 hi
            have : id ∈ idsC mids blks owns := by
              rcases List.mem_append.1 hi' with h | h
              · exact idsM _ h
              · exact idsB _ h
            simp [inL_mem.2 this]
          | false => rw [hi] at this; simp at this; simp [this]
        · simp [SE.junk, S.refs, S0.refs, CV.refs] at hid
  · intro i j r s hi hj hij hli hlj b hbi hbj
    obtain ⟨i1, i2, i3, ⟨i4, i5⟩, _⟩ := there i r hi
    obtain ⟨j1, j2, j3, ⟨j4, j5⟩, _⟩ := there j s hj
    obtain ⟨r', ri1, ri2, _⟩ := i4 hli
    obtain ⟨s', sj1, sj2, _⟩ := j4 hlj
    rcases i1 with i1 | ⟨i1, iO, iOr, iM⟩ <;> rcases j1 with j1 | ⟨j1, jO, jOr, jM⟩
    · obtain ⟨f, t, xs, ys, h1, h2, _⟩ := hg.sep _ _ r' s' ri1 sj1 (injL i i1 j j1 hij) ri2 sj2 b hbi hbj
      subst h1 h2
      exact (famsOf_diff n8 (List.mem_map_of_mem i1) (List.mem_map_of_mem j1) (injL i i1 j j1 hij) ri1 sj1).elim
    · have e := stayO j jO
      have hbj' : blkOf (g.κ (lookR m j)) = some b := hbj
      rw [e] at sj1 hbj'
      obtain ⟨f, t, xs, ys, h1, h2, _⟩ := hg.sep _ _ r' s' ri1 sj1 (mixed i i1 j j1 jO) ri2 sj2 b hbi hbj'
      subst h1 h2
      rw [jM] at sj1
      injection sj1 with sj1
      subst sj1
      exact (notIn_mem (f16 j f t ys jOr (inL_false.2 j1)) (famsOf_mem (List.mem_map_of_mem i1) ri1)).elim
    · have e := stayO i iO
      have hbi' : blkOf (g.κ (lookR m i)) = some b := hbi
      rw [e] at ri1 hbi'
      obtain ⟨f, t, xs, ys, h1, h2, _⟩ := hg.sep _ _ s' r' sj1 ri1 (mixed j j1 i i1 iO) sj2 ri2 b hbj hbi'
      subst h1 h2
      rw [iM] at ri1
      injection ri1 with ri1
      subst ri1
      exact (notIn_mem (f16 i f t ys iOr (inL_false.2 i1)) (famsOf_mem (List.mem_map_of_mem j1) sj1)).elim
    · have e := stayO i iO
      have e' := stayO j jO
      have hbi' : blkOf (g.κ (lookR m i)) = some b := hbi
      have hbj' : blkOf (g.κ (lookR m j)) = some b := hbj
      rw [e] at ri1 hbi' i2
      rw [e'] at sj1 hbj' j2
      obtain ⟨f, t, xs, ys, h1, h2, h3⟩ := hg.sep i j r' s' ri1 sj1 hij ri2 sj2 b hbi' hbj'
      rw [iM] at ri1
      rw [jM] at sj1
      injection ri1 with ri1
      injection sj1 with sj1
      subst ri1 sj1
      exact ⟨f, t, xs, ys, h1, h2, fun hs => by rw [i2] at hs; rw [j2]; exact h3 hs⟩
  · intro i r hi hl b hb
    obtain ⟨i1, i2, i3, ⟨i4, i5⟩, _⟩ := there i r hi
    obtain ⟨r', ri1, ri2, _⟩ := i4 hl
    exact hg.fresh _ r' ri1 ri2 b hb
  · intro i r hi hl b hb h1 h2
    obtain ⟨i1, i2, i3, ⟨i4, i5⟩, _⟩ := there i r hi
    obtain ⟨r', ri1, ri2, _⟩ := i4 hl
    exact hg.wro _ r' ri1 ri2 b hb (by rw [← i2]; exact h1) (by rw [← i3]; exact h2)
  · intro k hk
    obtain ⟨j, hj, hle, hlim⟩ := hrd k hk
    obtain ⟨⟨_, hout, code, v, p, ty, hc, hd, hl, h0, hp⟩, hin, hno⟩ := hg.rd j hj
    refine ⟨⟨hlim, hout, code, v, p, ty, hc, hd, hl, h0, by omega⟩, hin, ?_⟩
    intro i r hi hl
    obtain ⟨i1, i2, i3, ⟨i4, i5⟩, _⟩ := there i r hi
    obtain ⟨r', ri1, ri2, _⟩ := i4 hl
    exact hno _ r' ri1 ri2
  · intro hn
    cases hk : (SE.headP O live sets mids blks owns base rd st).rd with
    | none => exact (hn hk).elim
    | some k =>
      obtain ⟨j, hj, _⟩ := hrd k hk
      exact hg.rds (by rw [hj]; simp)
  · intro id v hv
    have hi := hO.pin id (.inl (by simp [hv]))
    refine ⟨hdom id (by simp [hi]), ?_⟩
    show g.κ (lookR m id) = v
    rw [stayO id hi]
    exact (hg.pin id v hv).2
  · intro id v hv
    have hi := hO.pin id (.inr (by simp [hv]))
    refine ⟨hdom id (by simp [hi]), ?_⟩
    show g.ln (lookR m id) = v
    rw [stayO id hi]
    exact (hg.keep.1 id v hv).2
  · intro x
    rcases puts_cases x sets (puts (keepE live st.env) (ownEnv owns)) with ⟨v, h1, h2⟩ | h1
    · have e : (SE.headP O live sets mids blks owns base rd st).env x = v := h2
      rw [e]
      have := henv x
      rw [envSets_mem f2 _ h1] at this
      exact S.ren_R this
    · rcases puts_cases x (ownEnv owns) (keepE live st.env) with ⟨v, h2, h3⟩ | h2
      · have e : (SE.headP O live sets mids blks owns base rd st).env x = v := by show puts _ _ x = _; rw [h1, h3]
        rw [e]
        obtain ⟨o, h4, h5, h6⟩ := ownEnv_mem h2
        simp only at h5 h6
        subst h6
        have hs := hsrc nown o h4
        rw [h5] at hs
        simp only [srcId] at hs
        split at hs
        · rename_i id he
          injection hs with hs
          have := henv x
          rw [he, hs] at this
          exact this
        · cases hs
      · have e : (SE.headP O live sets mids blks owns base rd st).env x = keepE live st.env x := by show puts _ _ x = _; rw [h1, h2]
        rw [e]
        unfold keepE
        split
        · rename_i hin
          have hin' := inL_mem.1 hin
          have := henv x
          rw [envSame_mem f1 x hin'] at this
          refine S.R.mono (g := g) (g' := g.ren (lookR m)) (fun _ _ h => h) rfl (fun id hid => ?_) this
          show g.κ (lookR m id) = _ ∧ g.ln (lookR m id) = _
          have hc := closedEO_mem f9 x hin' id hid
          have : lookR m id = id := by
            cases hi : inL (mids ++ blks.map (·.1)) id with
            | true => exact stay id (inL_mem.1 hi)
            | false => rw [hi] at hc; simp at hc; exact stayO id (by simp [hc])
          rw [this]
          exact ⟨rfl, rfl⟩
        · trivial

end
end Go.SE

namespace Go.SE
open Go.RowKit

section
variable {P : Program} {E : Ty → TypeId} {tab : TypeId → Option TI} {K : FuncId → Option Con} {O : Nat → Option Res} {pts : FuncId → Option PT} {hp : Nat → Bool} {gcs : Nat → Option (List Nat × List Nat)} {anns : Nat → Option Ann} {perm : Nat → List (List Nat)} {w0 : World} {M : MM} {n : Nat}

def codeOkP (tab : TypeId → Option TI) (K : FuncId → Option Con) (hp : Nat → Bool) (perm : Nat → List (List Nat)) (n : Nat) : Code → Bool
  | .region id ops draw => opsOk n ops.toList && (match hp id with
    | false => (match perm id with
      | [] => !draw || drawOk K tab ops
      | l :: ls => draw && permOk ops (l :: ls))
    | true => (match perm id with
      | [] => !draw
      | [[]] => draw && drawLast K tab ops
      | [l] => draw && permOk ops [l]
      | _ => false))
  | .seq a b => codeOkP tab K hp perm n a && codeOkP tab K hp perm n b
  | .block _ c => codeOkP tab K hp perm n c
  | .loop c => codeOkP tab K hp perm n c
  | .cond _ a b => codeOkP tab K hp perm n a && codeOkP tab K hp perm n b
  | _ => true

theorem OOk.none {h : Bool} {ρ : Nat} {ro0 : Nat → Option (Array Value)} : OOk (fun _ => Option.none) (MOf h ρ ro0) :=
  ⟨fun _ _ h => (by cases h), fun _ h => (by rcases h with h | h <;> cases h), fun _ h => (by cases h)⟩

def AllPt (P : Program) (E : Ty → TypeId) : List (FuncId × PT) → Prop
  | [] => True
  | (f, c) :: l => PTOk P E f c ∧ AllPt P E l

theorem pall_of : ∀ {l : List (FuncId × PT)}, AllPt P E l → PAll P E (lookP l) := by
  intro l
  induction l with
  | nil => intro _ f con h; cases h
  | cons p l ih =>
    intro h f con hf
    obtain ⟨a, b⟩ := p
    simp only [lookP] at hf
    split at hf
    · rename_i e; injection hf with hf; subst e hf; exact h.1
    · exact ih h.2 f con hf

end
end Go.SE

namespace Go.SE
open Go.RowKit

abbrev TT : Prop := true = true
abbrev TF : Prop := false = false
abbrev TN : Prop := (none : Option Res) = none
abbrev RL (l : List S) : Prop := l = l
abbrev RM (l : List (Option Res)) : Prop := l = l

def allInB (ids : List Nat) : List Nat → Bool
  | [] => true
  | x :: l => inL ids x && allInB ids l
def closedEB (e : Nat → S) (ids : List Nat) : List Nat → Bool
  | [] => true
  | j :: l => allInB ids (e j).refs && closedEB e ids l
def closedMB (m : Nat → Option Res) (ids : List Nat) : List Nat → Bool
  | [] => true
  | j :: l => (match m j with
      | some r => allInB ids r.refs
      | none => true) && closedMB m ids l
def closedVB (ids : List Nat) : List (Nat × S) → Bool
  | [] => true
  | (_, v) :: l => allInB ids v.refs && closedVB ids l
def closedRB (ids : List Nat) : List (Nat × Res) → Bool
  | [] => true
  | (_, r) :: l => allInB ids r.refs && closedRB ids l
def notInB (x : Nat) : List Nat → Bool
  | [] => true
  | y :: l => !(x == y) && notInB x l
def allDiffB : List Nat → Bool
  | [] => true
  | x :: l => notInB x l && allDiffB l

theorem allInB_ok {O : Nat → Option Res} {ids : List Nat} : ∀ {l : List Nat}, allInB ids l = true → allInO O ids l := by
  intro l
  induction l with
  | nil => intro _; trivial
  | cons x l ih => intro h; simp only [allInB, Bool.and_eq_true] at h; exact ⟨by simp [h.1], ih h.2⟩
theorem closedEB_ok {O : Nat → Option Res} {e : Nat → S} {ids : List Nat} : ∀ {l : List Nat}, closedEB e ids l = true → closedEO O e ids l := by
  intro l
  induction l with
  | nil => intro _; trivial
  | cons x l ih => intro h; simp only [closedEB, Bool.and_eq_true] at h; exact ⟨allInB_ok h.1, ih h.2⟩
theorem closedMB_ok {O m : Nat → Option Res} {ids : List Nat} : ∀ {l : List Nat}, closedMB m ids l = true → closedMO O m ids l := by
  intro l
  induction l with
  | nil => intro _; trivial
  | cons x l ih =>
    intro h
    simp only [closedMB, Bool.and_eq_true] at h
    refine ⟨?_, ih h.2⟩
    have h1 := h.1
    cases hm : m x with
    | none => trivial
    | some r => rw [hm] at h1; exact allInB_ok h1
theorem closedVB_ok {O : Nat → Option Res} {ids : List Nat} : ∀ {l : List (Nat × S)}, closedVB ids l = true → closedVO O ids l := by
  intro l
  induction l with
  | nil => intro _; trivial
  | cons x l ih => intro h; obtain ⟨j, v⟩ := x; simp only [closedVB, Bool.and_eq_true] at h; exact ⟨allInB_ok h.1, ih h.2⟩
theorem closedRB_ok {O : Nat → Option Res} {ids : List Nat} : ∀ {l : List (Nat × Res)}, closedRB ids l = true → closedRO O ids l := by
  intro l
  induction l with
  | nil => intro _; trivial
  | cons x l ih => intro h; obtain ⟨j, v⟩ := x; simp only [closedRB, Bool.and_eq_true] at h; exact ⟨allInB_ok h.1, ih h.2⟩
theorem notInB_ok {x : Nat} : ∀ {l : List Nat}, notInB x l = true → notIn x l := by
  intro l
  induction l with
  | nil => intro _; trivial
  | cons y l ih => intro h; simp only [notInB, Bool.and_eq_true, Bool.not_eq_true', beq_eq_false_iff_ne] at h; exact ⟨h.1, ih h.2⟩
theorem allDiffB_ok : ∀ {l : List Nat}, allDiffB l = true → allDiff l := by
  intro l
  induction l with
  | nil => intro _; trivial
  | cons y l ih => intro h; simp only [allDiffB, Bool.and_eq_true] at h; exact ⟨notInB_ok h.1, ih h.2⟩

def gcB (live ids : List Nat) (st : St) : Bool := closedEB st.env ids live && closedMB st.mem ids ids

def gcQ (st : St) (k : St → Prop) : Option (List Nat × List Nat) → Prop
  | none => k st
  | some (live, ids) => gcB live ids st = true ∧ k (gcSt (fun _ => none) live ids st)

theorem gcQ_ok {st : St} {k k' : St → Prop} (hk : ∀ s, k s → k' s) : ∀ {g : Option (List Nat × List Nat)}, gcQ st k g → gcK (fun _ => none) st k' g := by
  intro g
  cases g with
  | none => exact hk st
  | some p =>
    obtain ⟨live, ids⟩ := p
    intro h
    have h1 := h.1
    unfold gcB at h1
    simp only [Bool.and_eq_true] at h1
    exact ⟨⟨closedEB_ok h1.1, closedMB_ok h1.2, fun j hj => (by cases hj)⟩, hk _ h.2⟩

def eqB (a b : Bool) : Bool := match a, b with
  | true, true => true
  | false, false => true
  | _, _ => false
theorem eqB_ok {a b : Bool} (h : eqB a b = true) : a = b := by cases a <;> cases b <;> first | rfl | cases h

def memSpB (st st' : St) : List Nat → Bool
  | [] => true
  | j :: l => ((st.mem j).isSome && eqB (st'.sp j) (st.sp j) && eqB (st'.fr j) (st.fr j)) && memSpB st st' l
def blkSpB (st : St) : List (Nat × Res) → Bool
  | [] => true
  | (j, r) :: l => (!(st.sp j) && !(st.fr j) && match r with
      | .blk _ => true
      | .vec _ _ => true
      | _ => false) && blkSpB st l
def ownSpB (st : St) (ρ : Nat → Nat) : List Own → Bool
  | [] => true
  | o :: l => (!(st.sp (ρ o.id)) && !(st.fr (ρ o.id))) && ownSpB st ρ l
def ownEq (st : St) (ρ : Nat → Nat) : List Own → Prop
  | [] => True
  | o :: l => (match st.mem (ρ o.id) with
      | some (.sl _ t xs) => castL o.t t xs = some o.xs
      | _ => False) ∧ ownEq st ρ l

def rdQ : Option Nat → Option Nat → Prop
  | none, none => TT
  | some n, some m => n ≤ m ∧ m ≤ 1099511627776
  | _, _ => False

def fitsB (live : List Nat) (sets : List (Nat × S)) (mids : List Nat) (blks : List (Nat × Res)) (owns : List Own) (st st' : St) (m : List (Nat × Nat)) : Bool :=
  allDiffB (idsC mids blks owns) && (allDiffB ((idsC mids blks owns).map (lookR m)) && (allDiffB (famsOf st' ((idsC mids blks owns).map (lookR m))) &&
    (closedEB st.env (mids ++ blks.map (·.1)) live && (closedVB (idsC mids blks owns) sets && (closedMB st.mem (mids ++ blks.map (·.1)) mids && (closedRB (idsC mids blks owns) blks &&
    (memSpB st st' mids && (blkSpB st' blks && ownSpB st' (lookR m) owns))))))))

def fitsQ1 (live : List Nat) (sets : List (Nat × S)) (mids : List Nat) (blks : List (Nat × Res)) (owns : List Own) (rd : Option Nat) (st st' : St) : Option (List (Nat × Nat)) → Prop
  | none => False
  | some m => fitsB live sets mids blks owns st st' m = true ∧ live.map st'.env = live.map st.env ∧ sets.map (fun p => st'.env p.1) = sets.map (fun p => p.2.ren (lookR m)) ∧
      mids.map st'.mem = mids.map st.mem ∧ blks.map (fun p => st'.mem p.1) = blks.map (fun p => some (p.2.ren (lookR m))) ∧ ownEq st' (lookR m) owns ∧ rdQ st'.rd rd

def fitsQ (live : List Nat) (sets : List (Nat × S)) (mids : List Nat) (blks : List (Nat × Res)) (owns : List Own) (rd : Option Nat) (st st' : St) : Prop :=
  fitsQ1 live sets mids blks owns rd st st' (renL st' owns)

theorem envSame_of {e e' : Nat → S} : ∀ {l : List Nat}, l.map e = l.map e' → envSame e e' l := by
  intro l
  induction l with
  | nil => intro _; trivial
  | cons x l ih => intro h; simp only [List.map_cons, List.cons.injEq] at h; exact ⟨h.1, ih h.2⟩
theorem envSets_of {e : Nat → S} {ρ : Nat → Nat} : ∀ {l : List (Nat × S)}, l.map (fun p => e p.1) = l.map (fun p => p.2.ren ρ) → envSets e ρ l := by
  intro l
  induction l with
  | nil => intro _; trivial
  | cons x l ih => intro h; obtain ⟨j, v⟩ := x; simp only [List.map_cons, List.cons.injEq] at h; exact ⟨h.1, ih h.2⟩
theorem memSame_of {st st' : St} : ∀ {l : List Nat}, memSpB st st' l = true → l.map st'.mem = l.map st.mem → memSame st st' l := by
  intro l
  induction l with
  | nil => intro _ _; trivial
  | cons x l ih =>
    intro hb h
    simp only [List.map_cons, List.cons.injEq] at h
    simp only [memSpB, Bool.and_eq_true] at hb
    exact ⟨⟨hb.1.1.1, h.1, eqB_ok hb.1.1.2, eqB_ok hb.1.2⟩, ih hb.2 h.2⟩
theorem memBlks_of {st : St} {ρ : Nat → Nat} : ∀ {l : List (Nat × Res)}, blkSpB st l = true → l.map (fun p => st.mem p.1) = l.map (fun p => some (p.2.ren ρ)) → memBlks st ρ l := by
  intro l
  induction l with
  | nil => intro _ _; trivial
  | cons x l ih =>
    intro hb h
    obtain ⟨j, r⟩ := x
    simp only [List.map_cons, List.cons.injEq] at h
    simp only [blkSpB, Bool.and_eq_true, Bool.not_eq_true'] at hb
    refine ⟨⟨h.1, hb.1.1.1, hb.1.1.2, ?_⟩, ih hb.2 h.2⟩
    cases r <;> first | trivial | (have := hb.1.2; cases this)
theorem memOwns_of {st : St} {ρ : Nat → Nat} : ∀ {l : List Own}, ownSpB st ρ l = true → ownEq st ρ l → memOwns st ρ l := by
  intro l
  induction l with
  | nil => intro _ _; trivial
  | cons x l ih =>
    intro hb h
    simp only [ownSpB, Bool.and_eq_true, Bool.not_eq_true'] at hb
    exact ⟨⟨hb.1.1, hb.1.2, h.1⟩, ih hb.2 h.2⟩

theorem okO_none {ρ : Nat → Nat} : ∀ l : List Nat, okO (fun _ => none) ρ l := by
  intro l
  induction l with
  | nil => trivial
  | cons x l ih => exact ⟨rfl, ih⟩

theorem fitsQ_ok {live : List Nat} {sets : List (Nat × S)} {mids : List Nat} {blks : List (Nat × Res)} {owns : List Own} {rd : Option Nat} {st st' : St} (h : fitsQ live sets mids blks owns rd st st') : fitsP (fun _ => none) live sets mids blks owns rd st st' := by
  unfold fitsQ at h
  unfold fitsP
  cases hm : renL st' owns with
  | none => rw [hm] at h; exact h.elim
  | some m =>
    rw [hm] at h
    obtain ⟨hb, h1, h2, h3, h4, h5, h6⟩ := h
    unfold fitsB at hb
    simp only [Bool.and_eq_true] at hb
    obtain ⟨b1, b2, b3, b4, b5, b6, b7, b8, b9, b10⟩ := hb
    refine ⟨envSame_of h1, envSets_of h2, memSame_of b8 h3, memBlks_of b9 h4, memOwns_of b10 h5, allDiffB_ok b1, allDiffB_ok b2, allDiffB_ok b3, closedEB_ok b4, closedVB_ok b5, closedMB_ok b6, closedRB_ok b7, okO_none _, fun j hj => (by cases hj), fun j f t xs hj => (by cases hj), ?_⟩
    cases h7 : st'.rd <;> cases rd <;> rw [h7] at h6
    · trivial
    · exact h6.elim
    · exact h6.elim
    · exact h6

def vcLoopQ (body : St → (XK → St → Prop) → Prop) (st : St) (Q : XK → St → Prop) : Option Ann → Prop
  | none => False
  | some ⟨α, ok, mu, i0, nx, live, sets, mids, blks, owns, rd, base⟩ => (ok (i0 st) ∧ fitsQ live (sets (i0 st)) mids (blks (i0 st)) (owns (i0 st)) (rd st.rd (i0 st)) st st) ∧
      ∀ a : α, ok a → body (headP (fun _ => none) live (sets a) mids (blks a) (owns a) base (rd st.rd a) st) (seqK (fun st' => ok (nx a st') ∧ mu (nx a st') < mu a ∧ fitsQ live (sets (nx a st')) mids (blks (nx a st')) (owns (nx a st')) (rd st.rd (nx a st')) st st') Q)

section
variable (tab : TypeId → Option TI) (K : FuncId → Option Con) (pts : FuncId → Option PT) (hp : Nat → Bool) (gcs : Nat → Option (List Nat × List Nat)) (anns : Nat → St → Option Ann) (perm : Nat → List (List Nat))

def vcQ : Code → St → (XK → St → Prop) → Prop
  | .skip, st, Q => Q .normal st
  | .region id ops _, st, Q => vcRegP tab K pts ops st (Q .normal) (hp id) (perm id)
  | .seq a b, st, Q => vcQ a st (seqK (fun st' => gcQ st' (fun s => vcQ b s Q) (gcs (firstReg b))) Q)
  | .cond c a b, st, Q => condK (vcQ a st Q) (vcQ b st Q) (ev st c)
  | .block id c, st, Q => vcQ c st (blockK id Q)
  | .loop c, st, Q => vcLoopQ (fun st' Q' => vcQ c st' Q') st Q (anns (firstReg c) st)
  | .exit id, st, Q => Q (.exit id) st
  | .ret, st, Q => Q .ret st
  | _, _, _ => False

end

section
variable {P : Program} {E : Ty → TypeId} {tab : TypeId → Option TI} {K : FuncId → Option Con} {pts : FuncId → Option PT} {hp : Nat → Bool} {gcs : Nat → Option (List Nat × List Nat)} {anns : Nat → St → Option Ann} {perm : Nat → List (List Nat)} {w0 : World} {M : MM} {n : Nat}

open Classical in
theorem codeQ_sound (ht : TabOk P E tab) (hKA : KAll P E K) (hPA : PAll P E pts) (hmix : P.follows .mixedOrders = true) (hdr : DrawSound P E tab K w0 M n) (hOO : OOk (fun _ => none) M) : ∀ (c : Code) (st : St) (a : Act) (w : World) (Qs : XK → St → Prop) (Q : Exit → Act → World → Prop), codeOkP tab K hp perm n c = true → Rel E w0 M n st a w → vcQ tab K pts hp gcs anns perm c st Qs →
    (∀ x st' a' w', Rel E w0 M n st' a' w' → Qs x st' → Q x.exit' a' w') → c.wp P Q a w := by
  have hO := hOO
  intro c
  induction c with
  | skip => intro st a w Qs Q _ h hv hQ; exact wp_skip (hQ .normal st a w h hv)
  | region id ops draw =>
    intro st a w Qs Q hok h hv hQ
    simp only [codeOkP, Bool.and_eq_true] at hok
    obtain ⟨hok1, hok2⟩ := hok
    simp only [vcQ] at hv
    cases hh : hp id with
    | false =>
      rw [hh] at hv hok2
      cases hpm : perm id with
      | nil =>
        rw [hpm] at hv hok2
        simp only [vcRegP, vcReg] at hv
        simp only at hok2
        cases draw with
        | false => exact wp_region_list (seq_sound ht hKA (fun st' a' w' hr hk => hQ .normal st' a' w' hr hk) ops.toList st a w (opsOk_mem hok1) h hv)
        | true => exact hdr id ops st a w _ Q (by simpa using hok2) hok1 h hv fun st' a' w' hr hk => hQ .normal st' a' w' hr hk
      | cons l ls =>
        rw [hpm] at hv hok2
        simp only [vcRegP, vcReg] at hv
        simp only [Bool.and_eq_true, permOk, List.all_eq_true] at hok2
        obtain ⟨hd, hp1, hp2⟩ := hok2
        subst hd
        refine wp_region_any hmix (any_sound ht hKA hok1 (fun st' a' w' hr hk => hQ .normal st' a' w' hr hk) _ _ st a _ hp1 h.drawn fun x hx => vcEach_mem hv x ?_)
        have := hp2 x hx
        simpa using this
    | true =>
      rw [hh] at hv hok2
      cases hpm : perm id with
      | nil =>
        rw [hpm] at hv hok2
        simp only [vcRegP] at hv
        simp only [Bool.not_eq_true'] at hok2
        subst hok2
        exact wp_region_list (seqP_sound ht hKA hPA (fun st' a' w' hr hk => hQ .normal st' a' w' hr hk) ops.toList st a w (opsOk_mem hok1) h hv)
      | cons l ls =>
        rw [hpm] at hv hok2
        cases ls with
        | cons l' ls => cases l <;> cases hok2
        | nil =>
        cases l with
        | nil =>
          simp only [vcRegP] at hv
          simp only [Bool.and_eq_true] at hok2
          obtain ⟨hd, hdl⟩ := hok2
          subst hd
          exact draw_last ht (tab_small ht) hKA hPA hmix hdl hok1 h hv fun st' a' w' hr hk => hQ .normal st' a' w' hr hk
        | cons i0 l =>
          simp only [vcRegP] at hv
          simp only [Bool.and_eq_true, permOk, List.all_eq_true] at hok2
          obtain ⟨hd, hp1, hp2⟩ := hok2
          subst hd
          refine wp_region_any hmix (one_sound ht hKA hPA hok1 (fun st' a' w' hr hk => hQ .normal st' a' w' hr hk) _ (i0 :: l) _ st a _ hp1 (fun x hx => ?_) h.drawn hv)
          have := hp2 x hx
          simpa using this
  | seq x y ihx ihy =>
    intro st a w Qs Q hok h hv hQ
    simp only [codeOkP, Bool.and_eq_true] at hok
    refine wp_seq (ihx st a w _ _ hok.1 h hv fun k st' a' w' hr hk => ?_)
    cases k with
    | normal =>
      simp only [seqK] at hk
      have hk2 := gcQ_ok (k' := fun s => vcQ tab K pts hp gcs anns perm y s Qs) (fun _ h => h) hk
      unfold gcK at hk2
      split at hk2
      · exact ihy st' a' w' Qs Q hok.2 hr hk2 hQ
      · exact ihy _ a' w' Qs Q hok.2 (hr.gc hO hk2.1) hk2.2 hQ
    | exit id => exact hQ (.exit id) st' a' w' hr hk
    | ret => exact hQ .ret st' a' w' hr hk
  | cond cnd x y ihx ihy =>
    intro st a w Qs Q hok h hv hQ
    simp only [codeOkP, Bool.and_eq_true] at hok
    simp only [vcQ] at hv
    unfold condK at hv
    split at hv
    · rename_i t he
      have hval := (ev_val h he).1
      cases t with
      | true => exact wp_cond_true hval (ihx st a w Qs Q hok.1 h (vcIf_t hv) hQ)
      | false => exact wp_cond_false hval (ihy st a w Qs Q hok.2 h (vcIf_f hv) hQ)
    · exact hv.elim
  | block id x ih =>
    intro st a w Qs Q hok h hv hQ
    refine wp_block (ih st a w _ _ hok h hv fun k st' a' w' hr hk => ?_)
    cases k with
    | normal => exact hQ .normal st' a' w' hr hk
    | exit id' =>
      simp only [XK.exit', Exit.inBlock]
      simp only [blockK] at hk
      split
      · rename_i e; rw [if_pos e] at hk; exact hQ .normal st' a' w' hr hk
      · rename_i e; rw [if_neg e] at hk; exact hQ (.exit id') st' a' w' hr hk
    | ret => exact hQ .ret st' a' w' hr hk
  | loop x ih =>
    intro st a w Qs Q hok h hv hQ
    simp only [vcQ] at hv
    unfold vcLoopQ at hv
    split at hv
    · exact hv.elim
    · rename_i α ok mu i0 nx live sets mids blks owns rd base hA
      obtain ⟨⟨ho0, hf0⟩, hround⟩ := hv
      let α0 : α := i0 st
      let hd : α → St := fun α => SE.headP (fun _ => none) live (sets α) mids (blks α) (owns α) base (rd st.rd α) st
      have hex : ∀ (a : Act) (w : World), (∃ α, ok α ∧ Rel E w0 M n (hd α) a w) → ∃ m, ∃ α, ok α ∧ Rel E w0 M n (hd α) a w ∧ mu α = m :=
        fun a w ⟨α, h1, h2⟩ => ⟨_, α, h1, h2, rfl⟩
      let μ : Act → World → Nat := fun a w => if hh : ∃ m, ∃ α, ok α ∧ Rel E w0 M n (hd α) a w ∧ mu α = m then Classical.choose (least hh) else 0
      refine wp_loop (fun a w => ∃ α, ok α ∧ Rel E w0 M n (hd α) a w) μ ⟨α0, ho0, h.headP hO (fitsQ_ok hf0)⟩ ?_
      intro a w hI
      have hh := hex a w hI
      obtain ⟨α, h1, h2, h3⟩ := (Classical.choose_spec (least hh)).1
      have hμ : μ a w = mu α := by simp only [μ, dif_pos hh]; exact h3.symm
      refine ih _ a w _ _ hok h2 (hround α h1) fun k st' a' w' hr hk => ?_
      cases k with
      | normal =>
        obtain ⟨g1, g2, g3⟩ := hk
        have hrel : Rel E w0 M n (hd (nx α st')) a' w' := hr.headP hO (fitsQ_ok g3)
        refine ⟨⟨nx α st', g1, hrel⟩, ?_⟩
        have hh' : ∃ m, ∃ α, ok α ∧ Rel E w0 M n (hd α) a' w' ∧ mu α = m := ⟨_, nx α st', g1, hrel, rfl⟩
        have : μ a' w' ≤ mu (nx α st') := by simp only [μ, dif_pos hh']; exact (Classical.choose_spec (least hh')).2 _ ⟨nx α st', g1, hrel, rfl⟩
        omega
      | exit id => exact hQ (.exit id) st' a' w' hr hk
      | ret => exact hQ .ret st' a' w' hr hk
  | exit id => intro st a w Qs Q _ h hv hQ; exact wp_exit (hQ (.exit id) st a w h hv)
  | ret => intro st a w Qs Q _ h hv hQ; exact wp_ret (hQ .ret st a w h hv)
  | _ => intro st a w Qs Q _ h hv hQ; exact hv.elim

theorem fnQ_sound (ht : TabOk P E tab) (hKA : KAll P E K) (hPA : PAll P E pts) (hmix : P.follows .mixedOrders = true) (hdr : ∀ w0 M n, DrawSound P E tab K w0 M n) {f : FuncId} {fn : Func} {c : Code} {con : Con} (hf : P.funcs[f]? = some fn) (hb : fn.body = some c) (hn : con.aks.length ≤ fn.ntmps) (hok : codeOkP tab K hp perm fn.ntmps c = true)
    {anns : Args con.aks → Nat → Nat → St → Option Ann} (hvc : ∀ x k, con.pre x → (hasRdr con.aks = true → k + con.cost x ≤ rdLimit) → vcQ tab K pts hp gcs (anns x k) perm c (entry (encs con.aks x) (rdOf (hasRdr con.aks) k)) (retOk tab con fn.results.toList x k)) : CallOk P E f con := by
  intro w0 ro0 ρ k x vs id0 hpre hin hrd hargs
  have hlen : vs.length = con.aks.length := by
    rw [hargs.1]
    have : ∀ (ks : List AK) (x : Args ks), (encs ks x).length = ks.length := by
      intro ks
      induction ks with
      | nil => intro x; rfl
      | cons k ks ih => intro x; obtain ⟨x, xs⟩ := x; simp [encs, ih]
    exact this _ _
  have hrd1 : hasRdr con.aks = true → RdOk w0 ro0 ρ k := fun h => (hrd h).1
  refine calls_of_wp hf hb ?_
  refine codeQ_sound ht hKA hPA hmix (hdr _ _ _) OOk.none c _ _ _ (retOk tab con fn.results.toList x k) _ hok (entry_rel hin hrd1 hargs (by omega)) (hvc x k hpre fun h => (hrd h).2) ?_
  intro xk st' a' w' hr hk
  have fin : retOk tab con fn.results.toList x k .ret st' → a'.defers = [] ∧ ∃ v, (results fn a'.tmps).run P w' = .ok v w' ∧ ∃ v1 r g, Ending.returned v = .returned v1 ∧ con.post x r ∧ Ext (fun b => hasRdr con.aks = true ∧ b = ρ) w0 w' ∧ g.ρ = ρ ∧ ResOk E w0 w' ro0 con.rks id0 r v1 g ∧ (hasRdr con.aks = true → RdStep w0 w' ρ (k + con.cost x)) := by
    intro hv
    obtain ⟨v, h1, r, g, h2, h3, h4, h5, h6⟩ := exit_ok id0 ht hin hrd1 hr hv
    exact ⟨hr.defers, v, h1, v, r, g, rfl, h2, h3, h4, h5, h6⟩
  cases xk with
  | normal => exact fin hk
  | ret => exact fin hk
  | exit id => exact hk.elim

theorem fn_okQ {l : List (FuncId × Con)} {lp : List (FuncId × PT)} (ht : TabOk P E tab) (hmix : P.follows .mixedOrders = true) (hl : AllOk P E l) (hlp : AllPt P E lp) {f : FuncId} {fn : Func} {con : Con} (hf : P.funcs[f]? = some fn)
    (hb : fn.body = some (bodyOf fn)) (hname : (fn.name == "runtime.NumGoroutine") = false) (hn : con.aks.length ≤ fn.ntmps) (hok : codeOkP tab (lookF l) hp perm fn.ntmps (bodyOf fn) = true) {anns : Args con.aks → Nat → Nat → St → Option Ann}
    (hvc : ∀ x k, con.pre x → (hasRdr con.aks = true → k + con.cost x ≤ rdLimit) → vcQ tab (lookF l) (lookP lp) hp gcs (anns x k) perm (bodyOf fn) (entry (encs con.aks x) (rdOf (hasRdr con.aks) k)) (retOk tab con fn.results.toList x k))
    (htot : ∀ x, con.pre x → ∃ r, con.post x r) : FnOk P E f con :=
  ⟨⟨fn, _, hf, hname, hb⟩, fnQ_sound ht (kall_of hl) (pall_of hlp) hmix (fun _ _ _ => draw_sound ht (tab_small ht) (kall_of hl) hmix _ _ _) hf hb hn hok hvc, htot⟩

end
end Go.SE

namespace Go.SE
open Go.RowKit

section
variable {P : Program} {E : Ty → TypeId} {tab : TypeId → Option TI} {w0 : World} {M : MM} {n : Nat} {o : Oper} {st : St} {a : Act} {w : World}

end
end Go.SE

namespace Go.SE
open Go.RowKit

section
variable {P : Program} {E : Ty → TypeId} {tab : TypeId → Option TI} {K : FuncId → Option Con} {pts : FuncId → Option PT} {hp : Nat → Bool} {anns : Nat → St → Option Ann} {perm : Nat → List (List Nat)} {w0 : World} {M : MM} {n : Nat} {st : St} {a : Act} {w : World}

theorem Good.write' {g : G} (hg : Good E w0 M g st w) {id b : Nat} {r r' : Res} {m' : Nat → Option Res} {w' : World}
    (hm : st.mem id = some r) (hl : r.live) (hb : blkOf (g.κ id) = some b ∨ (blkOf (g.κ id) = none ∧ b = w.heap.size))
    (hm' : ∀ j s, m' j = some s → (j = id ∧ s = r') ∨ (j ≠ id ∧ (st.mem j = some s ∨ s = .dead)))
    (hother : ∀ j s, j ≠ id → m' j = some s → s.live → blkOf (g.κ j) ≠ some b) (hro : g.ro b = none)
    (hos : w'.os = w.os) (htape : w'.tape = w.tape) (hout : w'.output = w.output) (hsize : w.heap.size ≤ w'.heap.size) (hw : ∀ b', b' < w.heap.size → b' ≠ b → w'.heap[b']? = w.heap[b']?)
    (hres : ResR E w' g id r') (hdom : ∀ j, (st.mem j).isSome = true → (m' j).isSome = true) : Good E w0 M g { st with mem := m' } w' := by
  have hlive : ∀ j s, j ≠ id → m' j = some s → s.live → st.mem j = some s := by
    intro j s hj hs hl
    rcases hm' j s hs with ⟨e, _⟩ | ⟨_, h | h⟩
    · exact (hj e).elim
    · exact h
    · subst h; exact hl.elim
  have hb1 : ∀ b', blkOf (g.κ id) = some b' → b' = b := by
    intro b' hb'
    rcases hb with hb | ⟨hb, _⟩
    · rw [hb] at hb'; injection hb' with hb'; exact hb'.symm
    · rw [hb] at hb'; cases hb'
  have hfr : w0.heap.size ≤ b ∨ M b := by
    rcases hb with hb | ⟨_, rfl⟩
    · exact hg.fresh id r hm hl b hb
    · exact .inl hg.ext.size
  refine ⟨⟨hos.trans hg.ext.os, htape.trans hg.ext.tape, hout.trans hg.ext.output, Nat.le_trans hg.ext.size hsize, fun b' hb' hM => ?_⟩, ?_, ?_, ?_, ?_, ?_, ?_, ?_, hg.roo, hg.rho, fun i v hv => ⟨hdom i (hg.pin i v hv).1, (hg.pin i v hv).2⟩, ⟨fun i m hv => ⟨hdom i (hg.keep.1 i m hv).1, (hg.keep.1 i m hv).2⟩, hg.keep.2⟩⟩
  · rw [hw b' (Nat.lt_of_lt_of_le hb' hg.ext.size) fun e => ?_]
    · exact hg.ext.block b' hb' hM
    · subst e
      rcases hfr with h | h
      · omega
      · exact hM h
  · intro b' vs hv
    obtain ⟨ty, fz, hh⟩ := hg.ro b' vs hv
    refine ⟨ty, fz, ?_⟩
    rw [hw b' (lt_of_some hh) fun e => by subst e; rw [hro] at hv; cases hv]
    exact hh
  · intro j s hs
    by_cases e : j = id
    · subst e
      rcases hm' j s hs with ⟨_, e⟩ | ⟨h, _⟩
      · subst e; exact hres
      · exact (h rfl).elim
    · by_cases hsl : s.live
      · have hj := hlive j s e hs hsl
        exact (hg.res j s hj).keep (fun b' hb' => hw b' ((hg.res j s hj).lt hsl hb') fun e' => by subst e'; exact hother j s e hs hsl hb') (fun _ _ h => h) rfl ⟨rfl, rfl⟩ fun _ _ => ⟨rfl, rfl⟩
      · cases s with
        | dead => trivial
        | _ => exact (hsl trivial).elim
  · intro i j ri rj hi hj hij hli hlj b' hbi hbj
    by_cases ei : i = id
    · subst ei
      have := hb1 b' hbi
      subst this
      exact (hother j rj (Ne.symm hij) hj hlj hbj).elim
    · by_cases ej : j = id
      · subst ej
        have := hb1 b' hbj
        subst this
        exact (hother i ri ei hi hli hbi).elim
      · exact hg.sep i j ri rj (hlive i ri ei hi hli) (hlive j rj ej hj hlj) hij hli hlj b' hbi hbj
  · intro j s hs hsl b' hb'
    by_cases e : j = id
    · subst e
      have := hb1 b' hb'
      subst this
      exact hfr
    · exact hg.fresh j s (hlive j s e hs hsl) hsl b' hb'
  · intro j s hs hsl b' hb' h1 h2
    by_cases e : j = id
    · subst e
      have := hb1 b' hb'
      subst this
      exact hro
    · exact hg.wro j s (hlive j s e hs hsl) hsl b' hb' h1 h2
  · intro m hmr
    obtain ⟨⟨hlim, hout, code, v, p, ty, hc, hd, hrest⟩, hin, hno⟩ := hg.rd m hmr
    have hne : g.ρ ≠ b := by
      intro e
      rcases hb with hb | ⟨_, hb⟩
      · exact hno id r hm hl (by rw [hb, e])
      · have := lt_of_some hc
        omega
    refine ⟨⟨hlim, hout, code, v, p, ty, by rw [hw _ (lt_of_some hc) hne]; exact hc, hd, hrest⟩, hin, ?_⟩
    intro j s hs hsl
    by_cases e : j = id
    · subst e; exact hno j r hm hl
    · exact hno j s (hlive j s e hs hsl) hsl
  · intro hn
    refine (hg.rds hn).next fun hlt => hw _ hlt fun e => ?_
    cases hr : st.rd with
    | none => exact hn hr
    | some m =>
      rcases hb with hb | ⟨_, hb⟩
      · exact (hg.rd m hr).2.2 id r hm hl (by rw [hb, e])
      · omega

def outB (x ids : List Nat) (m : List (Nat × Nat)) : Bool :=
  x.all (fun j => inL ids j && (lookR m j == j)) && ids.all (fun j => inL x j || !(inL x (lookR m j)))

def fitsR1 (x : List Nat) (live : List Nat) (sets : List (Nat × S)) (mids : List Nat) (blks : List (Nat × Res)) (owns : List Own) (rd : Option Nat) (st st' : St) : Option (List (Nat × Nat)) → Prop
  | none => False
  | some m => (fitsB live sets mids blks owns st st' m && outB x (idsC mids blks owns) m) = true ∧ live.map st'.env = live.map st.env ∧ sets.map (fun p => st'.env p.1) = sets.map (fun p => p.2.ren (lookR m)) ∧
      mids.map st'.mem = mids.map st.mem ∧ blks.map (fun p => st'.mem p.1) = blks.map (fun p => some (p.2.ren (lookR m))) ∧ ownEq st' (lookR m) owns ∧ rdQ st'.rd rd

def fitsR (x : List Nat) (live : List Nat) (sets : List (Nat × S)) (mids : List Nat) (blks : List (Nat × Res)) (owns : List Own) (rd : Option Nat) (st st' : St) : Prop :=
  fitsR1 x live sets mids blks owns rd st st' (renL st' owns)

theorem okO_of {O : Nat → Option Res} {x : List Nat} (hx : ∀ j, (O j).isSome = inL x j) {ρ : Nat → Nat} {ids : List Nat} (h1 : ∀ j ∈ x, ρ j = j) : ∀ l : List Nat, (∀ j ∈ l, inL x j = true ∨ inL x (ρ j) = false) → okO O ρ l := by
  intro l
  induction l with
  | nil => intro _; trivial
  | cons y l ih =>
    intro h
    refine ⟨?_, ih fun j hj => h j (by simp [hj])⟩
    cases hO : O y with
    | some r => exact h1 y (inL_mem.1 (by rw [← hx, hO]; rfl))
    | none =>
      rcases h y (by simp) with h2 | h2
      · rw [← hx, hO] at h2; cases h2
      · cases hq : O (ρ y) with
        | none => rfl
        | some r => rw [← hx, hq] at h2; cases h2

theorem fitsR_ok {O : Nat → Option Res} {x : List Nat} (hx : ∀ j, (O j).isSome = inL x j) {live : List Nat} {sets : List (Nat × S)} {mids : List Nat} {blks : List (Nat × Res)} {owns : List Own} {rd : Option Nat} {st st' : St} (h : fitsR x live sets mids blks owns rd st st') : fitsP O live sets mids blks owns rd st st' := by
  unfold fitsR at h
  unfold fitsP
  cases hm : renL st' owns with
  | none => rw [hm] at h; exact h.elim
  | some m =>
    rw [hm] at h
    obtain ⟨hb, h1, h2, h3, h4, h5, h6⟩ := h
    rw [Bool.and_eq_true] at hb
    obtain ⟨hb, ho⟩ := hb
    unfold fitsB at hb
    simp only [Bool.and_eq_true] at hb
    obtain ⟨b1, b2, b3, b4, b5, b6, b7, b8, b9, b10⟩ := hb
    unfold outB at ho
    simp only [Bool.and_eq_true, List.all_eq_true, beq_iff_eq, Bool.or_eq_true, Bool.not_eq_true'] at ho
    obtain ⟨o1, o2⟩ := ho
    have hin : ∀ j, (O j).isSome = true → inL (idsC mids blks owns) j = true := fun j hj => (o1 j (inL_mem.1 (by rw [← hx]; exact hj))).1
    refine ⟨envSame_of h1, envSets_of h2, memSame_of b8 h3, memBlks_of b9 h4, memOwns_of b10 h5, allDiffB_ok b1, allDiffB_ok b2, allDiffB_ok b3, closedEB_ok b4, closedVB_ok b5, closedMB_ok b6, closedRB_ok b7, okO_of (ids := idsC mids blks owns) hx (fun j hj => (o1 j hj).2) _ o2, fun j hj hn => ?_, fun j f t xs hj hn => ?_, ?_⟩
    · rw [hin j hj] at hn; cases hn
    · rw [hin j (by rw [hj]; rfl)] at hn; cases hn
    cases h7 : st'.rd <;> cases rd <;> rw [h7] at h6
    · trivial
    · exact h6.elim
    · exact h6.elim
    · exact h6

def dom (x : List Nat) : Nat → Option Res := fun j => match inL x j with
  | true => some .dead
  | false => none

def vcLoopR (x : List Nat) (body : St → (XK → St → Prop) → Prop) (st : St) (Q : XK → St → Prop) : Option Ann → Prop
  | none => False
  | some ⟨α, ok, mu, i0, nx, live, sets, mids, blks, owns, rd, base⟩ => (ok (i0 st) ∧ fitsR x live (sets (i0 st)) mids (blks (i0 st)) (owns (i0 st)) (rd st.rd (i0 st)) st st) ∧
      ∀ a : α, ok a → body (headP (dom x) live (sets a) mids (blks a) (owns a) base (rd st.rd a) st) (seqK (fun st' => ok (nx a st') ∧ mu (nx a st') < mu a ∧ fitsR x live (sets (nx a st')) mids (blks (nx a st')) (owns (nx a st')) (rd st.rd (nx a st')) st st') Q)

def vcR (tab : TypeId → Option TI) (K : FuncId → Option Con) (pts : FuncId → Option PT) (hp : Nat → Bool) (anns : Nat → St → Option Ann) (perm : Nat → List (List Nat)) (x : List Nat) : Code → St → (XK → St → Prop) → Prop
  | .skip, st, Q => Q .normal st
  | .region id ops _, st, Q => vcRegP tab K pts ops st (Q .normal) (hp id) (perm id)
  | .seq a b, st, Q => vcR tab K pts hp anns perm x a st (seqK (fun st' => vcR tab K pts hp anns perm x b st' Q) Q)
  | .cond c a b, st, Q => condK (vcR tab K pts hp anns perm x a st Q) (vcR tab K pts hp anns perm x b st Q) (ev st c)
  | .block id c, st, Q => vcR tab K pts hp anns perm x c st (blockK id Q)
  | .loop c, st, Q => vcLoopR x (fun st' Q' => vcR tab K pts hp anns perm x c st' Q') st Q (anns (firstReg c) st)
  | .exit id, st, Q => Q (.exit id) st
  | .ret, st, Q => Q .ret st
  | _, _, _ => False

theorem dom_some {x : List Nat} (j : Nat) : (dom x j).isSome = inL x j := by
  unfold dom; cases inL x j <;> rfl

open Classical in
theorem codeR_sound (ht : TabOk P E tab) (hKA : KAll P E K) (hPA : PAll P E pts) (hmix : P.follows .mixedOrders = true) (hdr : DrawSound P E tab K w0 M n) {xo : List Nat} (hO : OOk (dom xo) M) : ∀ (c : Code) (st : St) (a : Act) (w : World) (Qs : XK → St → Prop) (Q : Exit → Act → World → Prop), codeOkP tab K hp perm n c = true → Rel E w0 M n st a w → vcR tab K pts hp anns perm xo c st Qs →
    (∀ x st' a' w', Rel E w0 M n st' a' w' → Qs x st' → Q x.exit' a' w') → c.wp P Q a w := by
  intro c
  induction c with
  | skip => intro st a w Qs Q _ h hv hQ; exact wp_skip (hQ .normal st a w h hv)
  | region id ops draw =>
    intro st a w Qs Q hok h hv hQ
    simp only [codeOkP, Bool.and_eq_true] at hok
    obtain ⟨hok1, hok2⟩ := hok
    simp only [vcR] at hv
    cases hh : hp id with
    | false =>
      rw [hh] at hv hok2
      cases hpm : perm id with
      | nil =>
        rw [hpm] at hv hok2
        simp only [vcRegP, vcReg] at hv
        simp only at hok2
        cases draw with
        | false => exact wp_region_list (seq_sound ht hKA (fun st' a' w' hr hk => hQ .normal st' a' w' hr hk) ops.toList st a w (opsOk_mem hok1) h hv)
        | true => exact hdr id ops st a w _ Q (by simpa using hok2) hok1 h hv fun st' a' w' hr hk => hQ .normal st' a' w' hr hk
      | cons l ls =>
        rw [hpm] at hv hok2
        simp only [vcRegP, vcReg] at hv
        simp only [Bool.and_eq_true, permOk, List.all_eq_true] at hok2
        obtain ⟨hd, hp1, hp2⟩ := hok2
        subst hd
        refine wp_region_any hmix (any_sound ht hKA hok1 (fun st' a' w' hr hk => hQ .normal st' a' w' hr hk) _ _ st a _ hp1 h.drawn fun x hx => vcEach_mem hv x ?_)
        have := hp2 x hx
        simpa using this
    | true =>
      rw [hh] at hv hok2
      cases hpm : perm id with
      | nil =>
        rw [hpm] at hv hok2
        simp only [vcRegP] at hv
        simp only [Bool.not_eq_true'] at hok2
        subst hok2
        exact wp_region_list (seqP_sound ht hKA hPA (fun st' a' w' hr hk => hQ .normal st' a' w' hr hk) ops.toList st a w (opsOk_mem hok1) h hv)
      | cons l ls =>
        rw [hpm] at hv hok2
        cases ls with
        | cons l' ls => cases l <;> cases hok2
        | nil =>
        cases l with
        | nil =>
          simp only [vcRegP] at hv
          simp only [Bool.and_eq_true] at hok2
          obtain ⟨hd, hdl⟩ := hok2
          subst hd
          exact draw_last ht (tab_small ht) hKA hPA hmix hdl hok1 h hv fun st' a' w' hr hk => hQ .normal st' a' w' hr hk
        | cons i0 l =>
          simp only [vcRegP] at hv
          simp only [Bool.and_eq_true, permOk, List.all_eq_true] at hok2
          obtain ⟨hd, hp1, hp2⟩ := hok2
          subst hd
          refine wp_region_any hmix (one_sound ht hKA hPA hok1 (fun st' a' w' hr hk => hQ .normal st' a' w' hr hk) _ (i0 :: l) _ st a _ hp1 (fun x hx => ?_) h.drawn hv)
          have := hp2 x hx
          simpa using this
  | seq x y ihx ihy =>
    intro st a w Qs Q hok h hv hQ
    simp only [codeOkP, Bool.and_eq_true] at hok
    refine wp_seq (ihx st a w _ _ hok.1 h hv fun k st' a' w' hr hk => ?_)
    cases k with
    | normal =>
      simp only [seqK] at hk
      exact ihy st' a' w' Qs Q hok.2 hr hk hQ
    | exit id => exact hQ (.exit id) st' a' w' hr hk
    | ret => exact hQ .ret st' a' w' hr hk
  | cond cnd x y ihx ihy =>
    intro st a w Qs Q hok h hv hQ
    simp only [codeOkP, Bool.and_eq_true] at hok
    simp only [vcR] at hv
    unfold condK at hv
    split at hv
    · rename_i t he
      have hval := (ev_val h he).1
      cases t with
      | true => exact wp_cond_true hval (ihx st a w Qs Q hok.1 h (vcIf_t hv) hQ)
      | false => exact wp_cond_false hval (ihy st a w Qs Q hok.2 h (vcIf_f hv) hQ)
    · exact hv.elim
  | block id x ih =>
    intro st a w Qs Q hok h hv hQ
    refine wp_block (ih st a w _ _ hok h hv fun k st' a' w' hr hk => ?_)
    cases k with
    | normal => exact hQ .normal st' a' w' hr hk
    | exit id' =>
      simp only [XK.exit', Exit.inBlock]
      simp only [blockK] at hk
      split
      · rename_i e; rw [if_pos e] at hk; exact hQ .normal st' a' w' hr hk
      · rename_i e; rw [if_neg e] at hk; exact hQ (.exit id') st' a' w' hr hk
    | ret => exact hQ .ret st' a' w' hr hk
  | loop x ih =>
    intro st a w Qs Q hok h hv hQ
    simp only [vcR] at hv
    unfold vcLoopR at hv
    split at hv
    · exact hv.elim
    · rename_i α ok mu i0 nx live sets mids blks owns rd base hA
      obtain ⟨⟨ho0, hf0⟩, hround⟩ := hv
      let α0 : α := i0 st
      let hd : α → St := fun α => SE.headP (dom xo) live (sets α) mids (blks α) (owns α) base (rd st.rd α) st
      have hex : ∀ (a : Act) (w : World), (∃ α, ok α ∧ Rel E w0 M n (hd α) a w) → ∃ m, ∃ α, ok α ∧ Rel E w0 M n (hd α) a w ∧ mu α = m :=
        fun a w ⟨α, h1, h2⟩ => ⟨_, α, h1, h2, rfl⟩
      let μ : Act → World → Nat := fun a w => if hh : ∃ m, ∃ α, ok α ∧ Rel E w0 M n (hd α) a w ∧ mu α = m then Classical.choose (least hh) else 0
      refine wp_loop (fun a w => ∃ α, ok α ∧ Rel E w0 M n (hd α) a w) μ ⟨α0, ho0, h.headP hO (fitsR_ok dom_some hf0)⟩ ?_
      intro a w hI
      have hh := hex a w hI
      obtain ⟨α, h1, h2, h3⟩ := (Classical.choose_spec (least hh)).1
      have hμ : μ a w = mu α := by simp only [μ, dif_pos hh]; exact h3.symm
      refine ih _ a w _ _ hok h2 (hround α h1) fun k st' a' w' hr hk => ?_
      cases k with
      | normal =>
        obtain ⟨g1, g2, g3⟩ := hk
        have hrel : Rel E w0 M n (hd (nx α st')) a' w' := hr.headP hO (fitsR_ok dom_some g3)
        refine ⟨⟨nx α st', g1, hrel⟩, ?_⟩
        have hh' : ∃ m, ∃ α, ok α ∧ Rel E w0 M n (hd α) a' w' ∧ mu α = m := ⟨_, nx α st', g1, hrel, rfl⟩
        have : μ a' w' ≤ mu (nx α st') := by simp only [μ, dif_pos hh']; exact (Classical.choose_spec (least hh')).2 _ ⟨nx α st', g1, hrel, rfl⟩
        omega
      | exit id => exact hQ (.exit id) st' a' w' hr hk
      | ret => exact hQ .ret st' a' w' hr hk
  | exit id => intro st a w Qs Q _ h hv hQ; exact wp_exit (hQ (.exit id) st a w h hv)
  | ret => intro st a w Qs Q _ h hv hQ; exact wp_ret (hQ .ret st a w h hv)
  | _ => intro st a w Qs Q _ h hv hQ; exact hv.elim

end
end Go.SE

namespace Go.SE
open Go.RowKit

structure MCon where
  k1 : List AK
  t : Ty
  k2 : List AK
  pre : Args k1 → List t.den → Args k2 → Prop
  val : Args k1 → List t.den → Args k2 → Value
  out : Args k1 → List t.den → Args k2 → List t.den

def ptMk {t : Ty} (pre : Prop) (v : Value) (ys : List t.den) (fam id : Nat) (ids : List Nat) (st : St) (k : S → St → Prop) : Prop :=
  st.sp id = false ∧ st.fr id = false ∧ notSpent st ids ∧ notIn id ids ∧ pre ∧ k (sv v) { st with mem := upd (kill fam id st.mem) id (some (.sl fam t ys)) }

def ptM4 (c : MCon) (st : St) (k : S → St → Prop) (x1 : Args c.k1) (x2 : Args c.k2) (id : Nat) (ids : List Nat) : Option Res → Prop
  | some (.sl fam t' xs) => match castL c.t t' xs with
    | some xs => ptMk (c.pre x1 xs x2) (c.val x1 xs x2) (c.out x1 xs x2) fam id ids st k
    | none => False
  | _ => False

def ptM3 (c : MCon) (st : St) (k : S → St → Prop) (x1 : Args c.k1) (id : Nat) (ids : Option (List Nat)) (x2 : Option (Args c.k2)) : Prop :=
  match ids, x2 with
  | some ids, some x2 => ptM4 c st k x1 x2 id ids (st.mem id)
  | _, _ => False

def ptM2 (c : MCon) (args : List S0) (st : St) (k : S → St → Prop) (x1 : Option (Args c.k1)) : Option S0 → Prop
  | some (.c (.own id)) => match x1 with
    | some x1 => ptM3 c st k x1 id (ownsC st.mem (refsAr (args.take c.k1.length ++ args.drop (c.k1.length + 1)))) (decs st.mem c.k2 (args.drop (c.k1.length + 1)))
    | none => False
  | _ => False

def ptM (c : MCon) : PT := fun args _ st k => ptM2 c args st k (decs st.mem c.k1 (args.take c.k1.length)) args[c.k1.length]?

section
variable {P : Program} {E : Ty → TypeId} {tab : TypeId → Option TI} {K : FuncId → Option Con} {pts : FuncId → Option PT} {hp : Nat → Bool} {perm : Nat → List (List Nat)} {w0 : World} {M : MM} {n : Nat} {st : St} {a : Act} {w : World}

def isoSt (c : MCon) (x1 : Args c.k1) (xs : List c.t.den) (x2 : Args c.k2) : St :=
  { env := envOf (encs c.k1 x1 ++ .c (.own 7) :: encs c.k2 x2) 0, mem := upd (fun _ => none) 7 (some (.sl 7 c.t xs)), sp := fun _ => false, fr := fun _ => false, base := 16, rd := none }

def isoM (t : Ty) (ys : List t.den) : Option Res → Prop
  | some (.sl _ t' xs) => castL t t' xs = some ys
  | _ => False

def isoQ (tab : TypeId → Option TI) (c : MCon) (rvs : List ResultVar) (x1 : Args c.k1) (xs : List c.t.den) (x2 : Args c.k2) : XK → St → Prop
  | .exit _, _ => False
  | _, st => loadsS tab st rvs = some [.c (.d (.val (c.val x1 xs x2)))] ∧ isoM c.t (c.out x1 xs x2) (st.mem 7)

theorem encs_len : ∀ (ks : List AK) (x : Args ks), (encs ks x).length = ks.length := by
  intro ks
  induction ks with
  | nil => intro x; rfl
  | cons k ks ih => intro x; obtain ⟨x, xs⟩ := x; simp [encs, ih]

theorem iso_call (ht : TabOk P E tab) (hKA : KAll P E K) (hPA : PAll P E pts) (hmix : P.follows .mixedOrders = true) (hdr : ∀ w0 M n, DrawSound P E tab K w0 M n) {f : FuncId} {fn : Func} (hf : P.funcs[f]? = some fn) (hb : fn.body = some (bodyOf fn)) {c : MCon} (hn : c.k1.length + c.k2.length + 1 ≤ fn.ntmps)
    (hok : codeOkP tab K hp perm fn.ntmps (bodyOf fn) = true) {anns : Args c.k1 → List c.t.den → Args c.k2 → Nat → St → Option Ann}
    (hvc : ∀ x1 xs x2, c.pre x1 xs x2 → vcR tab K pts hp (anns x1 xs x2) perm [7] (bodyOf fn) (isoSt c x1 xs x2) (isoQ tab c fn.results.toList x1 xs x2))
    {w : World} {ro : Nat → Option (Array Value)} {ρ : Nat} {x1 : Args c.k1} {xs : List c.t.den} {x2 : Args c.k2} (hpre : c.pre x1 xs x2) {vs1 vs2 : List Value} {v : Value} (hin : ROin w ro) (h1 : ArgsR (argG ro ρ) (encs c.k1 x1) vs1) (h2 : ArgsR (argG ro ρ) (encs c.k2 x2) vs2)
    (hone : v.oneCell' = true) (hv : ResR E w { ro, κ := fun _ => v, ln := fun _ => xs.length, ρ } 7 (.sl 7 c.t xs)) (hvb : ∀ b, blkOf v = some b → ro b = none) :
    Calls P f (vs1 ++ v :: vs2).toArray w fun e w' => e = .returned (c.val x1 xs x2) ∧ (c.val x1 xs x2).oneCell' = true ∧ Ext (fun b => blkOf v = some b) w w' ∧ (c.out x1 xs x2).length = xs.length ∧ ∃ ro', ResR E w' { ro := ro', κ := fun _ => v, ln := fun _ => xs.length, ρ } 7 (.sl 7 c.t (c.out x1 xs x2)) := by
  let M : MM := ⟨fun b => blkOf v = some b, ro, ρ, fun id => if id = 7 then some v else none, fun id => if id = 7 then some xs.length else none, fun _ => none⟩
  let g : G := { ro, κ := fun id => if id = 7 then v else undef, ln := fun id => if id = 7 then xs.length else 0, ρ }
  have one : ∀ id r, (isoSt c x1 xs x2).mem id = some r → id = 7 ∧ r = .sl 7 c.t xs := by
    intro id r h
    simp only [isoSt, upd] at h
    split at h
    · rename_i e; injection h with h; exact ⟨e, h.symm⟩
    · cases h
  have hκ : ∀ b, blkOf (g.κ 7) = some b → blkOf v = some b := fun b h => h
  have hgood : Good E w M g (isoSt c x1 xs x2) w := by
    refine ⟨Ext.refl _ _, hin, ?_, ?_, ?_, ?_, (fun m hm => by cases hm), (fun h => (h rfl).elim), (fun b vs hb => .inl hb), rfl, ?_, ⟨?_, fun b vs hb => (by cases hb)⟩⟩
    · intro id r h
      obtain ⟨rfl, rfl⟩ := one id r h
      exact hv
    · intro i j r s hi hj hij
      exact (hij ((one i r hi).1.trans (one j s hj).1.symm)).elim
    · intro id r h _ b hb
      rw [(one id r h).1] at hb
      exact .inr (hκ b hb)
    · intro id r h _ b hb _ _
      rw [(one id r h).1] at hb
      exact hvb b (hκ b hb)
    · intro id u hu
      simp only [M] at hu
      split at hu
      · rename_i e; subst e; injection hu with hu; subst hu; exact ⟨rfl, rfl⟩
      · cases hu
    · intro id u hu
      simp only [M] at hu
      split at hu
      · rename_i e; subst e; injection hu with hu; subst hu; exact ⟨rfl, rfl⟩
      · cases hu
  have hOO : OOk (dom [7]) M := by
    have d7 : ∀ j, (dom [7] j).isSome = true ↔ j = 7 := fun j => by rw [dom_some]; simp [inL]
    refine ⟨fun j r hj id hid => ?_, fun id hid => ?_, fun id hid => ?_⟩
    · unfold dom at hj
      split at hj
      · injection hj with hj; subst hj; simp [Res.refs] at hid
      · cases hj
    · refine (d7 id).2 ?_
      rcases hid with hid | hid
      · have hid : (if id = 7 then some v else none).isSome = true := hid
        split at hid
        · assumption
        · cases hid
      · have hid : (if id = 7 then some xs.length else none).isSome = true := hid
        split at hid
        · assumption
        · cases hid
    · have := (d7 id).1 hid
      subst this
      rfl
  have hargs : ∀ (j : Nat) (s : S0), (encs c.k1 x1 ++ .c (.own 7) :: encs c.k2 x2)[j]? = some s → ∃ u, (vs1 ++ v :: vs2)[j]? = some u ∧ s.R g u ∧ ∀ id ∈ s.refs, id = 7 := by
    intro j s hj
    have l1 := h1.1
    by_cases hlt : j < (encs c.k1 x1).length
    · rw [List.getElem?_append_left hlt] at hj
      obtain ⟨u, hu, hr⟩ := h1.2 j s hj
      have hrf := encs_refs c.k1 x1 j s hj
      exact ⟨u, by rw [List.getElem?_append_left (by omega)]; exact hu, S0.R.mono (g := argG ro ρ) (g' := g) (fun _ _ h => h) rfl (fun id hid => by rw [hrf] at hid; cases hid) hr, fun id hid => by rw [hrf] at hid; cases hid⟩
    · rw [List.getElem?_append_right (by omega)] at hj
      rw [List.getElem?_append_right (by omega)]
      have hjj : j - vs1.length = j - (encs c.k1 x1).length := by rw [l1]
      rw [hjj]
      cases hm : j - (encs c.k1 x1).length with
      | zero =>
        rw [hm] at hj
        simp at hj
        subst hj
        exact ⟨v, rfl, ⟨rfl, hone⟩, fun id hid => by simpa [S0.refs, CV.refs] using hid⟩
      | succ i =>
        rw [hm] at hj
        have hj : (encs c.k2 x2)[i]? = some s := by simpa using hj
        obtain ⟨u, hu, hr⟩ := h2.2 i s hj
        have hrf := encs_refs c.k2 x2 i s hj
        exact ⟨u, by simpa using hu, S0.R.mono (g := argG ro ρ) (g' := g) (fun _ _ h => h) rfl (fun id hid => by rw [hrf] at hid; cases hid) hr, fun id hid => by rw [hrf] at hid; cases hid⟩
  have hvl : (vs1 ++ v :: vs2).length = (encs c.k1 x1 ++ S0.c (.own 7) :: encs c.k2 x2).length := by simp [h1.1, h2.1]
  have hel : (encs c.k1 x1 ++ S0.c (.own 7) :: encs c.k2 x2).length ≤ fn.ntmps := by simp [encs_len]; omega
  have hrel : Rel E w M fn.ntmps (isoSt c x1 xs x2) { tmps := (vs1 ++ v :: vs2).toArray ++ Array.replicate (fn.ntmps - (vs1 ++ v :: vs2).toArray.size) undef, defers := [] } w := by
    refine ⟨⟨?_, ?_⟩, by simp at hvl hel ⊢; omega, rfl, g, hgood, ?_⟩
    · intro j id hid
      have e : (isoSt c x1 xs x2).env j = envOf (encs c.k1 x1 ++ .c (.own 7) :: encs c.k2 x2) 0 j := rfl
      rw [e] at hid
      rcases envOf_cases (encs c.k1 x1 ++ .c (.own 7) :: encs c.k2 x2) 0 j with h3 | ⟨i, s, h3, _, h5⟩
      · rw [h3] at hid; simp [SE.junk, S.refs, S0.refs, CV.refs] at hid
      · rw [h5] at hid
        obtain ⟨_, _, _, h6⟩ := hargs i s h3
        have := h6 id hid
        subst this
        rfl
    · intro j r h id hid
      obtain ⟨rfl, rfl⟩ := one j r h
      simp [Res.refs] at hid
    · intro j
      have e : (isoSt c x1 xs x2).env j = envOf (encs c.k1 x1 ++ .c (.own 7) :: encs c.k2 x2) 0 j := rfl
      rw [e]
      rcases envOf_cases (encs c.k1 x1 ++ .c (.own 7) :: encs c.k2 x2) 0 j with h3 | ⟨i, s, h3, h4, h5⟩
      · rw [h3]; trivial
      · rw [h5]
        obtain ⟨u, hu, hr, _⟩ := hargs i s h3
        have hj : j = i := by omega
        subst hj
        have hlt : j < (vs1 ++ v :: vs2).length := (List.getElem?_eq_some_iff.1 hu).1
        have : ((vs1 ++ v :: vs2).toArray ++ Array.replicate (fn.ntmps - (vs1 ++ v :: vs2).toArray.size) undef).getD j undef = u := by
          rw [Array.getD_eq_getD_getElem?, Array.getElem?_append_left (by simpa using hlt), List.getElem?_toArray, hu]; rfl
        show S.R _ _ (((vs1 ++ v :: vs2).toArray ++ Array.replicate (fn.ntmps - (vs1 ++ v :: vs2).toArray.size) undef).getD j undef)
        rw [this]
        exact hr
  refine calls_of_wp hf hb ?_
  refine codeR_sound ht hKA hPA hmix (hdr _ _ _) hOO (bodyOf fn) _ _ _ _ _ hok hrel (hvc x1 xs x2 hpre) ?_
  intro xk st' a' w' hr hk
  have fin : isoQ tab c fn.results.toList x1 xs x2 .ret st' → a'.defers = [] ∧ ∃ u, (results fn a'.tmps).run P w' = .ok u w' ∧ (Ending.returned u = .returned (c.val x1 xs x2) ∧ (c.val x1 xs x2).oneCell' = true ∧ Ext (fun b => blkOf v = some b) w w' ∧ (c.out x1 xs x2).length = xs.length ∧ ∃ ro', ResR E w' { ro := ro', κ := fun _ => v, ln := fun _ => xs.length, ρ } 7 (.sl 7 c.t (c.out x1 xs x2))) := by
    intro hk
    obtain ⟨hload, hm7⟩ := hk
    obtain ⟨g', hg', henv⟩ := hr.good
    obtain ⟨us, hrun, hus, _⟩ := loads_run (P := P) ht hg' henv hr.cl hload
    obtain ⟨u, hu, hur⟩ := hus.2 0 _ rfl
    have hus1 : us = [u] := by
      have hl := hus.1
      match us, hl with
      | [q], _ => simp at hu; rw [hu]
    subst hus1
    have hres := results_run (fn := fn) hrun
    have hu2 : u = c.val x1 xs x2 ∧ (c.val x1 xs x2).oneCell' = true := by
      have hur : DR g'.ro (.val (c.val x1 xs x2)) u := hur
      generalize hq : u = q at hur
      cases hur with
      | val _ h => exact ⟨rfl, h⟩
    obtain ⟨rfl, hoc⟩ := hu2
    unfold isoM at hm7
    split at hm7
    · rename_i fam t' ys hm
      obtain ⟨rfl, hq⟩ := castL_eq hm7
      cases hq
      have hR := hg'.res 7 _ hm
      have hp := (hg'.pin 7 v rfl).2
      have hpl := (hg'.keep.1 7 xs.length rfl).2
      obtain ⟨hln, hR⟩ := hR
      refine ⟨hr.defers, _, hres, rfl, hoc, hg'.ext, by rw [← hln, hpl], g'.ro, by show xs.length = _; rw [← hln, hpl], ?_⟩
      rw [hp] at hR
      exact hR
    · exact hm7.elim
  cases xk with
  | normal => exact fin hk
  | ret => exact fin hk
  | exit id => exact hk.elim

theorem ptM_ok (ht : TabOk P E tab) (hKA : KAll P E K) (hPA : PAll P E pts) (hmix : P.follows .mixedOrders = true) (hdr : ∀ w0 M n, DrawSound P E tab K w0 M n) {f : FuncId} {fn : Func} (hf : P.funcs[f]? = some fn) (hb : fn.body = some (bodyOf fn)) (hname : (fn.name == "runtime.NumGoroutine") = false) {c : MCon} (hflat : c.t.flat = true) (hn : c.k1.length + c.k2.length + 1 ≤ fn.ntmps)
    (hok : codeOkP tab K hp perm fn.ntmps (bodyOf fn) = true) {anns : Args c.k1 → List c.t.den → Args c.k2 → Nat → St → Option Ann}
    (hvc : ∀ x1 xs x2, c.pre x1 xs x2 → vcR tab K pts hp (anns x1 xs x2) perm [7] (bodyOf fn) (isoSt c x1 xs x2) (isoQ tab c fn.results.toList x1 xs x2)) : PTOk P E f (ptM c) := by
  refine ⟨⟨fn, _, hf, hname, hb⟩, ?_⟩
  intro w0 M g st w args vs base k hg hcl hrefs hargs hv
  unfold ptM ptM2 at hv
  split at hv
  · rename_i id hid
    split at hv
    · rename_i x1 hx1
      unfold ptM3 at hv
      split at hv
      · rename_i ids x2 hids hx2
        unfold ptM4 at hv
        split at hv
        · rename_i fam t' xs0 hm
          split at hv
          · rename_i xs hcast
            obtain ⟨ht', hq⟩ := castL_eq hcast
            subst ht'
            cases hq
            obtain ⟨hsp, hfr, hns, hni, hpre, hk⟩ := hv
            rw [refsAr_eq] at hids
            obtain ⟨rfl, hsl⟩ := ownsC_mem hids
            have hnotin : id ∉ refsT (args.take c.k1.length ++ args.drop (c.k1.length + 1)) := notIn_mem hni
            obtain ⟨ro', hro, hdr', hg1⟩ := hg.freeze (refsT (args.take c.k1.length ++ args.drop (c.k1.length + 1))) fun i hi => ⟨notSpent_mem hns i hi, hsl i hi⟩
            have hlent : ∀ i ∈ refsT (args.take c.k1.length ++ args.drop (c.k1.length + 1)), Lent st.mem g.κ ro' i := by
              intro i hi
              refine ⟨fun f t xs hmm => hdr' i hi f t xs hmm, fun t xs hmm => ?_⟩
              obtain ⟨f, t', xs', hm'⟩ := hsl i hi
              rw [hmm] at hm'; cases hm'
            have hlt : c.k1.length < args.length := (List.getElem?_eq_some_iff.1 hid).1
            have hvl := hargs.1
            obtain ⟨v, hv0, hvr⟩ := hargs.2 c.k1.length _ hid
            obtain ⟨hvκ, hvone⟩ : v = g.κ id ∧ v.oneCell' = true := hvr
            have happ : ∀ (l1 l2 : List S0), refsT (l1 ++ l2) = refsT l1 ++ refsT l2 := by
              intro l1 l2
              induction l1 with
              | nil => rfl
              | cons x l ih => simp [refsT, ih]
            have hA1 : ArgsR g (args.take c.k1.length) (vs.take c.k1.length) := by
              refine ⟨by simp [hvl], fun j s hj => ?_⟩
              have hj1 : j < c.k1.length := by
                have := (List.getElem?_eq_some_iff.1 hj).1
                simp at this; omega
              rw [List.getElem?_take_of_lt hj1] at hj ⊢
              exact hargs.2 j s hj
            have hA2 : ArgsR g (args.drop (c.k1.length + 1)) (vs.drop (c.k1.length + 1)) := by
              refine ⟨by simp [hvl], fun j s hj => ?_⟩
              rw [List.getElem?_drop] at hj ⊢
              exact hargs.2 _ s hj
            have hB1 := decs_R (ro' := ro') hro hx1 hA1 fun i hi => hlent i (by rw [happ]; exact List.mem_append_left _ hi)
            have hB2 := decs_R (ro' := ro') hro hx2 hA2 fun i hi => hlent i (by rw [happ]; exact List.mem_append_right _ hi)
            have hfr1 : ({ st with fr := sets st.fr (refsT (args.take c.k1.length ++ args.drop (c.k1.length + 1))) } : St).fr id = false := by
              show sets st.fr _ id = false
              rw [sets_get, hfr]
              simp [hnotin]
            have hvb : ∀ b, blkOf v = some b → ro' b = none := fun b hb' => hg1.wro id _ hm trivial b (by show blkOf (g.κ id) = some b; rw [← hvκ]; exact hb') hsp hfr1
            have hRes : ResR E w { ro := ro', κ := fun _ => v, ln := fun _ => xs.length, ρ := g.ρ } 7 (.sl 7 c.t xs) := by
              obtain ⟨hln, hR⟩ := hg1.res id _ hm
              have hR : ((g.κ id = .slice none 0 0 ∧ xs = []) ∨ ∃ b cap cur, g.κ id = .slice (some ⟨b, 0, none⟩) xs.length cap ∧ w.heap[b]? = some (.cells cur (E c.t) (0, 0)) ∧ xs.length ≤ cap ∧ cap ≤ maxLen ∧ cur.size = cap * c.t.sz ∧ RowR ro' (flat c.t xs) cur 0) := hR
              rw [← hvκ] at hR
              exact ⟨rfl, hR⟩
            have hvs : vs = vs.take c.k1.length ++ v :: vs.drop (c.k1.length + 1) := by
              have h1 : vs.drop c.k1.length = v :: vs.drop (c.k1.length + 1) := by
                rw [List.drop_eq_getElem_cons (by omega)]
                congr 1
                rw [List.getElem?_eq_getElem (by omega)] at hv0
                injection hv0
              rw [← h1, List.take_append_drop]
            rw [hvs]
            refine Calls.mono (iso_call ht hKA hPA hmix hdr hf hb hn hok hvc (ρ := g.ρ) hpre hg1.ro hB1 hB2 hvone hRes hvb) fun e w' he => ?_
            obtain ⟨rfl, hoc, hext, hlen, ro2, hR2⟩ := he
            refine ⟨_, _, _, g, rfl, hk, ?_, .val _ hoc, by simp [sv, S.refs, S0.refs, CV.refs], ?_, ?_, fun _ _ h => h, rfl⟩
            · -- the memory afterwards
              have hstay : ∀ b, b < w.heap.size → blkOf v ≠ some b → w'.heap[b]? = w.heap[b]? := fun b hb' hne => hext.block b hb' hne
              have hres : ResR E w' g id (.sl fam c.t (c.out x1 xs x2)) := by
                obtain ⟨h1, h2⟩ := hR2
                obtain ⟨hln, _⟩ := hg.res id _ hm
                refine ⟨by rw [hln, hlen], ?_⟩
                rw [← hvκ]
                rcases h2 with h2 | ⟨b, cap, cur, h3, h4, h5, h6, h7, h8⟩
                · exact .inl h2
                · exact .inr ⟨b, cap, cur, h3, h4, h5, h6, h7, RowR.flat_any hflat h8⟩
              cases hbv : blkOf v with
              | some b =>
                refine Good.write' hg (id := id) (b := b) (r := .sl fam c.t xs) (r' := .sl fam c.t (c.out x1 xs x2)) hm trivial (.inl (by rw [← hvκ]; exact hbv)) ?_ ?_ ?_ hext.os hext.tape hext.output hext.size (fun b' h1 h2 => hstay b' h1 fun e => h2 (by rw [hbv] at e; injection e with e; exact e.symm)) hres fun j hj => upd_dom (kill_dom hj)
                · intro j s hs
                  rcases upd_cases hs with h | ⟨h1, h2⟩
                  · exact .inl h
                  · exact .inr ⟨h1, kill_cases h2⟩
                · intro j s hj hs hl
                  rcases upd_cases hs with ⟨h, _⟩ | ⟨_, h2⟩
                  · exact (hj h).elim
                  · exact alone_sl hg hm (by rw [← hvκ]; exact hbv) j s hj h2 hl
                · exact hg.wro id _ hm trivial b (by rw [← hvκ]; exact hbv) hsp hfr
              | none =>
                refine Good.write' hg (id := id) (b := w.heap.size) (r := .sl fam c.t xs) (r' := .sl fam c.t (c.out x1 xs x2)) hm trivial (.inr ⟨by rw [← hvκ]; exact hbv, rfl⟩) ?_ ?_ ?_ hext.os hext.tape hext.output hext.size (fun b' h1 h2 => hstay b' h1 fun e => by rw [hbv] at e; cases e) hres fun j hj => upd_dom (kill_dom hj)
                · intro j s hs
                  rcases upd_cases hs with h | ⟨h1, h2⟩
                  · exact .inl h
                  · exact .inr ⟨h1, kill_cases h2⟩
                · intro j s hj hs hl e
                  rcases upd_cases hs with ⟨h, _⟩ | ⟨_, h2⟩
                  · exact (hj h).elim
                  · rcases kill_cases h2 with h3 | h3
                    · have := (hg.res j s h3).lt hl e; omega
                    · subst h3; exact hl.elim
                · cases hq : g.ro w.heap.size with
                  | none => rfl
                  | some vs =>
                    obtain ⟨ty, fz, hh⟩ := hg.ro _ _ hq
                    have := lt_of_some hh; omega
            · intro j r hj i hi
              have hj : upd (kill fam id st.mem) id (some (.sl fam c.t (c.out x1 xs x2))) j = some r := hj
              refine upd_dom (kill_dom ?_)
              rcases upd_cases hj with ⟨_, h⟩ | ⟨_, h⟩
              · subst h; simp [Res.refs] at hi
              · rcases kill_cases h with h | h
                · exact hcl j r h i hi
                · subst h; simp [Res.refs] at hi
            · intro i hi
              exact ⟨upd_dom (kill_dom hi), rfl, rfl⟩
          · exact hv.elim
        · exact hv.elim
      · exact hv.elim
    · exact hv.elim
  · exact hv.elim

theorem mut_ok {l : List (FuncId × Con)} {lp : List (FuncId × PT)} (ht : TabOk P E tab) (hmix : P.follows .mixedOrders = true) (hl : AllOk P E l) (hlp : AllPt P E lp) {f : FuncId} {fn : Func} (hf : P.funcs[f]? = some fn) (hb : fn.body = some (bodyOf fn)) (hname : (fn.name == "runtime.NumGoroutine") = false) {c : MCon} (hflat : c.t.flat = true) (hn : c.k1.length + c.k2.length + 1 ≤ fn.ntmps)
    (hok : codeOkP tab (lookF l) hp perm fn.ntmps (bodyOf fn) = true) {anns : Args c.k1 → List c.t.den → Args c.k2 → Nat → St → Option Ann}
    (hvc : ∀ x1 xs x2, c.pre x1 xs x2 → vcR tab (lookF l) (lookP lp) hp (anns x1 xs x2) perm [7] (bodyOf fn) (isoSt c x1 xs x2) (isoQ tab c fn.results.toList x1 xs x2)) : PTOk P E f (ptM c) :=
  ptM_ok ht (kall_of hl) (pall_of hlp) hmix (fun _ _ _ => draw_sound ht (tab_small ht) (kall_of hl) hmix _ _ _) hf hb hname hflat hn hok hvc
end
theorem cln : (TT = True) ∧ (TF = True) ∧ (TN = True) ∧ (∀ l, RL l = True) ∧ (∀ l, RM l = True) ∧ (∀ p : Prop, (True ∧ p) = p) ∧ (∀ p : Prop, (p ∧ True) = p) ∧ (∀ (α : Type) (a : α), (a = a) = True) ∧ (∀ p : Prop, (p → True) = True) ∧ (∀ α : Type, (α → True) = True) ∧
    (∀ (α : Type) [Nonempty α] (b : Prop), (α → b) = b) ∧ (∀ (α : Type) (a b : α) (l m : List α), (a :: l = b :: m) = (a = b ∧ l = m)) ∧ (∀ x y, (S.s x = S.s y) = (x = y)) ∧ (∀ x y, (S0.c x = S0.c y) = (x = y)) ∧ (∀ x y, (S0.agg x = S0.agg y) = (x = y)) ∧ (∀ x y, (CV.d x = CV.d y) = (x = y)) ∧
    (∀ x y, (CV.own x = CV.own y) = (x = y)) ∧ (∀ x o y q, (CV.ptr x o = CV.ptr y q) = (x = y ∧ o = q)) ∧ (∀ x y, (DC.val x = DC.val y) = (x = y)) ∧ (∀ k x j y, (Value.int k x = Value.int j y) = (k = j ∧ x = y)) ∧ (∀ x y, (Value.bool x = Value.bool y) = (x = y)) ∧ (∀ (α : Type) (x y : α), (some x = some y) = (x = y)) ∧
    (∀ x y, (Res.blk x = Res.blk y) = (x = y)) ∧ (∀ (α β : Type) (a c : α) (b d : β), ((a, b) = (c, d)) = (a = c ∧ b = d)) ∧ (∀ (a b : Prop), vcIf true a b = a) ∧ (∀ (a b : Prop), vcIf false a b = b) ∧ (∀ (α : Type) (a : α), (a ∈ ([] : List α)) = False) ∧ ((¬ False) = True) ∧ (∀ (α : Type) (a b : α), (a ≠ b) = ¬ a = b) ∧
    (∀ b : Bool, (b && true) = b) ∧ (∀ n : Nat, n + 0 = n) ∧ (∀ (α : Type) (l : List α), l ++ [] = l) ∧ (∀ (α : Type) (l : List α), [] ++ l = l) ∧ (∀ α : Type, ([] : List α).length = 0) ∧ (∀ (α : Type) (a : α) (l : List α), (a :: l).length = l.length + 1) ∧ (∀ n : Nat, 0 + n = n) ∧ (∀ n : Nat, ((n : Int)).toNat = n) ∧ (∀ n : Nat, n - 0 = n) ∧
    (∀ (α : Type) (l : List α), l.drop 0 = l) ∧ (∀ (α β : Type) (f : α → β), [].map f = []) ∧ (∀ (α : Type) (l : List α), l.take 0 = []) ∧ (∀ (α : Type) (p : α → Prop) (b : α), (∀ a, b = a → p a) = p b) ∧
    (∀ n, inK .i64 n = (-9223372036854775808 ≤ n ∧ n ≤ 9223372036854775807)) ∧ (∀ n, inK .u64 n = (0 ≤ n ∧ n ≤ 18446744073709551615)) ∧ (∀ n, inK .u16 n = (0 ≤ n ∧ n ≤ 65535)) ∧ (∀ n, inK .u8 n = (0 ≤ n ∧ n ≤ 255)) := by
  refine ⟨?_, ?_, ?_, ?_, ?_, ?_, ?_, ?_, ?_, ?_, ?_, ?_, ?_, ?_, ?_, ?_, ?_, ?_, ?_, ?_, ?_, ?_, ?_, ?_, ?_, ?_, ?_, ?_, ?_, ?_, ?_, ?_, ?_, ?_, ?_, ?_, ?_, ?_, ?_, ?_, ?_, ?_, ?_, ?_, ?_, ?_⟩ <;> intros <;> first | (simp; done) | rfl | exact vcIf_true | exact vcIf_false
theorem opn : (∀ (t : Bool) (a b : Prop), vcIf t a b = ((t = true → a) ∧ (t = false → b))) ∧ (∀ (p : Prop) [Decidable p], (decide p = true) = p) ∧ (∀ (p : Prop) [Decidable p], (decide p = false) = ¬ p) ∧ (∀ (α : Type) [BEq α] [LawfulBEq α] (a b : α), ((a != b) = true) = ¬ a = b) ∧
    (∀ (α : Type) (a b : α), (a ≠ b) = ¬ a = b) ∧ (∀ (α : Type) [BEq α] [LawfulBEq α] (a b : α), ((a == b) = true) = (a = b)) ∧ (∀ (α : Type) [BEq α] [LawfulBEq α] (a b : α), ((a == b) = false) = ¬ a = b) ∧ (∀ (α : Type) [BEq α] [LawfulBEq α] (a b : α), ((a != b) = false) = (a = b)) ∧
    (∀ b : Bool, ((!b) = true) = (b = false)) ∧ (∀ b : Bool, ((!b) = false) = (b = true)) ∧ (∀ n m : Nat, ((n : Int) < (m : Int)) = (n < m)) ∧ (∀ n m : Nat, ((n : Int) = (m : Int)) = (n = m)) := by
  refine ⟨?_, ?_, ?_, ?_, ?_, ?_, ?_, ?_, ?_, ?_, ?_, ?_⟩ <;> intros <;> first | exact propext vcIf_iff | rfl | (simp; done) | exact propext Int.natCast_inj
end Go.SE

namespace Go.SE
def atV (x : GAtom) : Bool := (x.kind == 1 || x.kind == 2) && isT x.a && isT x.b
def fsV (l : List GFact) : Bool := decide (l.length ≤ 12) && l.all fV
def asV (a : GAsn) : Bool := fsV a.facts && decide (a.atoms.length ≤ 6) && a.atoms.all atV
theorem atom_beq (f g : GAtom) : (f.kind == g.kind && (f.a == g.a && f.b == g.b)) = decide (f = g) := by
  rw [Bool.eq_iff_iff]; cases f; cases g; simp
def tsHas (s t : Int) : Bool := isT t && s.toNat.testBit t.toNat
def tsWith (s t : Int) : Int := cond (isT t) ((s.toNat ||| (1 <<< t.toNat) : Nat) : Int) s
theorem ts_min {t : Int} (h : isT t = true) : min t.toNat IntKind.u16.bits = t.toNat ∧ t.toNat ≤ 8 := by
  have := isT_iff.1 h
  have e : IntKind.u16.bits = 16 := rfl
  omega
theorem ts_pow {t : Int} (h : isT t = true) : IntKind.u16.wrap (2 ^ min t.toNat IntKind.u16.bits) = ((1 <<< t.toNat : Nat) : Int) ∧ (1 <<< t.toNat : Nat) ≤ 256 := by
  obtain ⟨h1, h2⟩ := ts_min h
  rw [h1]
  generalize t.toNat = k at h2
  match k, h2 with
  | 0, _ | 1, _ | 2, _ | 3, _ | 4, _ | 5, _ | 6, _ | 7, _ | 8, _ => decide
theorem tsWith_eq {s t : Int} (h0 : 0 ≤ s) (h1 : s < 512) (h : isT t = true) : bits .or .u16 s (IntKind.u16.wrap (1 * 2 ^ min t.toNat IntKind.u16.bits)) = tsWith s t := by
  obtain ⟨e, hb⟩ := ts_pow h
  rw [Int.one_mul, e]
  simp only [tsWith, h, cond_true]
  generalize (1 <<< t.toNat : Nat) = m at hb
  rw [u16_or _ _ h0 (by omega) (by omega) (by omega)]
  rfl
theorem tsHas_eq {s t : Int} (h0 : 0 ≤ s) (h1 : s < 512) (h : isT t = true) : (bits .and .u16 (s.fdiv (2 ^ min t.toNat IntKind.u16.bits)) 1 == 1) = tsHas s t := by
  obtain ⟨h3, h4⟩ := ts_min h
  obtain ⟨m, rfl⟩ := Int.eq_ofNat_of_zero_le h0
  have e : (m : Int).fdiv (2 ^ t.toNat) = ((m / 2 ^ t.toNat : Nat) : Int) := by
    rw [Int.fdiv_eq_ediv_of_nonneg _ (by exact Int.le_of_lt (Int.pow_pos (by decide)))]
    simp
  rw [h3, e]
  simp only [tsHas, h, Bool.true_and, Int.toNat_natCast, Nat.testBit, Nat.shiftRight_eq_div_pow]
  generalize hq : m / 2 ^ t.toNat = q
  have hqm : q ≤ m := by rw [← hq]; exact Nat.div_le_self _ _
  rw [u16_and _ _ (by omega) (by omega) (by omega) (by omega)]
  simp only [Int.toNat_natCast]
  have : (q &&& 1) = q % 2 := Nat.and_one_is_mod q
  have h2 : (1 : Int).toNat = 1 := rfl
  rw [h2, this, Nat.and_comm, Nat.and_one_is_mod]
  rcases Nat.mod_two_eq_zero_or_one q with h | h <;> rw [h] <;> rfl
theorem tsWith_no {s t : Int} (h : isT t = false) : tsWith s t = s := by simp [tsWith, h]
theorem tsWith_bd {s t : Int} (h0 : 0 ≤ s) (h1 : s < 512) : 0 ≤ tsWith s t ∧ tsWith s t < 512 := by
  unfold tsWith
  cases h : isT t with
  | false => exact ⟨h0, h1⟩
  | true =>
    have hb := (ts_pow h).2
    have h2 : s.toNat ||| (1 <<< t.toNat) < 2 ^ 9 := Nat.or_lt_two_pow (by omega) (by omega)
    simp only [cond_true]
    omega
def tsF (l : List GFact) : Int := l.foldl (fun s f => tsWith (tsWith s f.a) f.b) 0
def tsG (z : Int) (l : List GAtom) : Int := l.foldl (fun s f => tsWith (tsWith s f.a) f.b) z
theorem tsF_bd (l : List GFact) : 0 ≤ tsF l ∧ tsF l < 512 := by
  have key : ∀ (l : List GFact) (z : Int), 0 ≤ z ∧ z < 512 → 0 ≤ l.foldl (fun s f => tsWith (tsWith s f.a) f.b) z ∧ l.foldl (fun s f => tsWith (tsWith s f.a) f.b) z < 512 := by
    intro l
    induction l with
    | nil => intro z h; exact h
    | cons x l ih => intro z h; have h1 := tsWith_bd (t := x.a) h.1 h.2; exact ih _ (tsWith_bd h1.1 h1.2)
  exact key l 0 (by omega)
theorem tsG_bd (l : List GAtom) : ∀ (z : Int), 0 ≤ z ∧ z < 512 → 0 ≤ tsG z l ∧ tsG z l < 512 := by
  induction l with
  | nil => intro z h; exact h
  | cons x l ih => intro z h; have h1 := tsWith_bd (t := x.a) h.1 h.2; exact ih _ (tsWith_bd h1.1 h1.2)
theorem tsF_step {l : List GFact} {i : Nat} {d : GFact} (h : i < l.length) : tsF (l.take (i + 1)) = tsWith (tsWith (tsF (l.take i)) (l.getD i d).a) (l.getD i d).b := by
  unfold tsF
  rw [List.take_add_one, List.getElem?_eq_getElem h, List.foldl_append, List.getD_eq_getElem?_getD, List.getElem?_eq_getElem h]
  rfl
theorem tsG_step {z : Int} {l : List GAtom} {i : Nat} {d : GAtom} (h : i < l.length) : tsG z (l.take (i + 1)) = tsWith (tsWith (tsG z (l.take i)) (l.getD i d).a) (l.getD i d).b := by
  unfold tsG
  rw [List.take_add_one, List.getElem?_eq_getElem h, List.foldl_append, List.getD_eq_getElem?_getD, List.getElem?_eq_getElem h]
  rfl
def tsA (a : GAsn) : Int := tsG (tsF a.facts) a.atoms
end Go.SE

namespace Go.SE
theorem getD_set_self {α : Type} {l : List α} {i : Nat} {x d : α} (h : i < l.length) : (l.set i x).getD i d = x := by
  simp [List.getD_eq_getElem?_getD, h]
/-! ## terms that occur -/
def occF (l : List GFact) (t : Int) : Bool := l.any fun f => f.a == t || f.b == t
def occG (l : List GAtom) (t : Int) : Bool := l.any fun f => f.a == t || f.b == t
def occ (a : GAsn) (t : Int) : Bool := occF a.facts t || occG a.atoms t
theorem tsHas_with {s u t : Int} (h0 : 0 ≤ s) (hu : isT u = true) : tsHas (tsWith s u) t = (tsHas s t || (u == t)) := by
  unfold tsHas tsWith
  simp only [hu, cond_true, Int.toNat_natCast, Nat.testBit_or, Nat.one_shiftLeft, Nat.testBit_two_pow]
  have hu' := isT_iff.1 hu
  cases ht : isT t with
  | false =>
    have : ¬ u = t := fun e => by rw [e, ht] at hu; cases hu
    simp [this]
  | true =>
    have ht' := isT_iff.1 ht
    simp only [Bool.true_and]
    congr 1
    rw [Bool.eq_iff_iff]
    simp only [decide_eq_true_eq, beq_iff_eq]
    omega
theorem tsF_has : ∀ (l : List GFact) (z : Int), 0 ≤ z → z < 512 → l.all fV = true → ∀ t, tsHas (l.foldl (fun s f => tsWith (tsWith s f.a) f.b) z) t = (tsHas z t || occF l t) := by
  intro l
  induction l with
  | nil => intro z _ _ _ t; simp [occF]
  | cons f l ih =>
    intro z h0 h1 hl t
    simp only [List.all_cons, Bool.and_eq_true] at hl
    obtain ⟨hf, hl⟩ := hl
    have hf1 : isT f.a = true ∧ isT f.b = true := by simpa [fV] using hf
    have b1 := tsWith_bd (t := f.a) h0 h1
    have b2 := tsWith_bd (t := f.b) b1.1 b1.2
    rw [List.foldl_cons, ih _ b2.1 b2.2 hl, tsHas_with b1.1 hf1.2, tsHas_with h0 hf1.1]
    simp [occF, Bool.or_assoc]
theorem tsG_has : ∀ (l : List GAtom) (z : Int), 0 ≤ z → z < 512 → l.all atV = true → ∀ t, tsHas (tsG z l) t = (tsHas z t || occG l t) := by
  intro l
  induction l with
  | nil => intro z _ _ _ t; simp [occG, tsG]
  | cons f l ih =>
    intro z h0 h1 hl t
    simp only [List.all_cons, Bool.and_eq_true] at hl
    obtain ⟨hf, hl⟩ := hl
    have hf1 : isT f.a = true ∧ isT f.b = true := by
      unfold atV at hf; simp only [Bool.and_eq_true] at hf; exact ⟨hf.1.2, hf.2⟩
    have b1 := tsWith_bd (t := f.a) h0 h1
    have b2 := tsWith_bd (t := f.b) b1.1 b1.2
    have ih' := ih _ b2.1 b2.2 hl t
    unfold tsG at ih' ⊢
    rw [List.foldl_cons, ih', tsHas_with b1.1 hf1.2, tsHas_with h0 hf1.1]
    simp [occG, Bool.or_assoc]
theorem asV_facts {a : GAsn} (h : asV a = true) : a.facts.all fV = true ∧ a.facts.length ≤ 12 ∧ a.atoms.all atV = true ∧ a.atoms.length ≤ 6 := by
  unfold asV fsV at h
  simp only [Bool.and_eq_true, decide_eq_true_eq] at h
  exact ⟨h.1.1.2, h.1.1.1, h.2, h.1.2⟩
theorem tsHas_zero (t : Int) : tsHas 0 t = false := by simp [tsHas]
theorem tsA_has {a : GAsn} (h : asV a = true) (t : Int) : tsHas (tsA a) t = occ a t := by
  obtain ⟨h1, _, h2, _⟩ := asV_facts h
  have b := tsF_bd a.facts
  unfold tsA
  rw [tsG_has _ _ b.1 b.2 h2]
  unfold tsF
  rw [tsF_has _ _ (by omega) (by omega) h1, tsHas_zero]
  simp [occ]
theorem tsA_bd (a : GAsn) : 0 ≤ tsA a ∧ tsA a < 512 := tsG_bd _ _ (tsF_bd a.facts)
def terms9 : List Int := [0, 1, 2, 3, 4, 5, 6, 7, 8]
theorem occF_append (l m : List GFact) (t : Int) : occF (l ++ m) t = (occF l t || occF m t) := by simp [occF]
theorem occG_append (l m : List GAtom) (t : Int) : occG (l ++ m) t = (occG l t || occG m t) := by simp [occG]
structure frI (p : Int → Bool) (i : Nat) : Prop where
  h1 : 0 < i → p 5 = true
  h2 : 1 < i → p 6 = true
  h3 : 2 < i → p 7 = true
  h4 : 3 < i → p 8 = true
/-! flags -/
def fl9 (p : Int → Bool) : List Bool := terms9.map p
theorem fl9_len (p : Int → Bool) : (fl9 p).length = 9 := rfl
theorem fl9_get {p : Int → Bool} {t : Int} (h : isT t = true) : (fl9 p).getD t.toNat false = p t := by
  obtain ⟨h0, h8⟩ := isT_iff.1 h
  obtain ⟨n, rfl⟩ := Int.eq_ofNat_of_zero_le h0
  have : n ≤ 8 := by omega
  match n, this with
  | 0, _ | 1, _ | 2, _ | 3, _ | 4, _ | 5, _ | 6, _ | 7, _ | 8, _ => rfl
theorem fl9_set {p : Int → Bool} {t : Int} (h : isT t = true) : (fl9 p).set t.toNat true = fl9 (fun u => p u || t == u) := by
  obtain ⟨h0, h8⟩ := isT_iff.1 h
  obtain ⟨n, rfl⟩ := Int.eq_ofNat_of_zero_le h0
  have : n ≤ 8 := by omega
  match n, this with
  | 0, _ | 1, _ | 2, _ | 3, _ | 4, _ | 5, _ | 6, _ | 7, _ | 8, _ => simp [fl9, terms9]
theorem fl9_congr {p q : Int → Bool} (h : ∀ t, p t = q t) : fl9 p = fl9 q := by rw [show p = q from funext h]
theorem occF_step {l : List GFact} {i : Nat} {d : GFact} (h : i < l.length) (t : Int) : occF (l.take (i + 1)) t = (occF (l.take i) t || (l.getD i d).a == t || (l.getD i d).b == t) := by
  unfold occF; rw [take_snoc d h, List.any_append]; simp [Bool.or_assoc]
theorem occG_step {l : List GAtom} {i : Nat} {d : GAtom} (h : i < l.length) (t : Int) : occG (l.take (i + 1)) t = (occG (l.take i) t || (l.getD i d).a == t || (l.getD i d).b == t) := by
  unfold occG; rw [take_snoc d h, List.any_append]; simp [Bool.or_assoc]
theorem flF_step {l : List GFact} {i : Nat} {d : GFact} (h : i < l.length) (ha : isT (l.getD i d).a = true) (hb : isT (l.getD i d).b = true) :
    ((fl9 (occF (l.take i))).set (l.getD i d).a.toNat true).set (l.getD i d).b.toNat true = fl9 (occF (l.take (i + 1))) := by
  rw [fl9_set ha, fl9_set hb]
  exact fl9_congr fun t => (occF_step h t).symm
theorem flG_step {q : Int → Bool} {l : List GAtom} {i : Nat} {d : GAtom} (h : i < l.length) (ha : isT (l.getD i d).a = true) (hb : isT (l.getD i d).b = true) :
    ((fl9 (fun t => q t || occG (l.take i) t)).set (l.getD i d).a.toNat true).set (l.getD i d).b.toNat true = fl9 (fun t => q t || occG (l.take (i + 1)) t) := by
  rw [fl9_set ha, fl9_set hb]
  exact fl9_congr fun t => by rw [occG_step (d := d) h]; simp [Bool.or_assoc]
theorem fV_isT {f : GFact} (h : fV f = true) : isT f.a = true ∧ isT f.b = true := by simpa [fV] using h
theorem atV_isT {x : GAtom} (h : atV x = true) : isT x.a = true ∧ isT x.b = true := by
  unfold atV at h; simp only [Bool.and_eq_true] at h; exact ⟨h.1.2, h.2⟩
theorem asV_atom {a : GAsn} (h : asV a = true) {i : Nat} {d : GAtom} (hi : i < a.atoms.length) : isT (a.atoms.getD i d).a = true ∧ isT (a.atoms.getD i d).b = true := atV_isT (all_get (asV_facts h).2.2.1 hi)
end Go.SE

namespace Go.SE
def szA (a : GAsn) (left : Int) : Int := if sz1 left a.facts.length < 0 then -1 else sz1 (sz1 left a.facts.length) a.atoms.length

end Go.SE

namespace Go.SE
open Go.RowKit

def bareA (a : Act) : Act := { a with defers := [] }
def withD (a : Act) (ds : List Deferred) : Act := { a with defers := ds }

theorem eval_bare (a : Act) : (bareA a).eval = a.eval := rfl
theorem bare_withD (a : Act) (ds : List Deferred) (h : a.defers = []) : bareA (withD a ds) = a := by
  cases a; simp only at h; subst h; rfl
theorem withD_put (a : Act) (dst : Option Tmp) (v : Value) : withD ((bareA a).put dst v) a.defers = a.put dst v := by
  cases dst <;> rfl
theorem bare_put (a : Act) (dst : Option Tmp) (v : Value) : bareA (a.put dst v) = (bareA a).put dst v := by
  cases dst <;> rfl
theorem put_defers (a : Act) (dst : Option Tmp) (v : Value) : (a.put dst v).defers = a.defers := by
  cases dst <;> rfl

def FW (F : Fence) : Prop := F = Fence.wide ∨ ∃ l, F = Fence.wide.inRound l

theorem FW.fn {F : Fence} (h : FW F) (f : FuncId) : F.fn f := by rcases h with rfl | ⟨l, rfl⟩ <;> exact trivial
theorem FW.depth {F : Fence} (h : FW F) : F.depth = none := by rcases h with rfl | ⟨l, rfl⟩ <;> rfl
theorem FW.calls {F : Fence} (h : FW F) {n : Nat} {P : Program} {f : FuncId} {args : Array Value} {w : World} {R : Ending → World → Prop} (hc : Calls P f args w R) : CallsIn F n P f args w R := by
  rcases h with rfl | ⟨l, rfl⟩
  · exact callsIn_wide.2 hc
  · exact CallsIn.inRound l (callsIn_wide.2 hc)
theorem FW.rows {F : Fence} (h : FW F) {n : Nat} {P : Program} {row : String} {args : Array Value} {w : World} {R : Value → World → Prop} (hc : Rows P row args w R) : RowsIn F n P row args w R := by
  have : RowsIn Fence.wide n P row args w R := fun c cs _ => let ⟨v, w', r, s⟩ := hc c cs; ⟨v, w', r, stepsIn_wide.2 s⟩
  rcases h with rfl | ⟨l, rfl⟩
  · exact this
  · exact this

section
variable {F : Fence} {m : Nat} {P : Program} {E : Ty → TypeId} {tab : TypeId → Option TI} {K : FuncId → Option Con} {pts : FuncId → Option PT} {w0 : World} {M : MM} {n : Nat}

abbrev QF : Exit → Act → World → Prop := fun _ _ _ => False

theorem notOut : ¬ LetsOut QF := fun ⟨_, _, h⟩ => h

theorem wp_in (hF : FW F) {o : Oper} (hd : ∀ c, o.op ≠ .defer c) {a : Act} {w : World} {next next' : Act → World → Prop} {Q : Exit → Act → World → Prop}
    (h : o.wp P (bareA a) w next QF) (h0 : ∀ a' w', next a' w' → a'.defers = []) (hn : ∀ a' w', next a' w' → next' (withD a' a.defers) w') : o.wpIn F m P a w next' Q := by
  refine ⟨fun f _ => hF.fn f, ?_⟩
  rw [Oper.semAt_eq _ _ _ hd]
  unfold Oper.wp at h
  rw [eval_bare] at h
  have hput : ∀ v w', next ((bareA a).put o.dst v) w' → next' (a.put o.dst v) w' := fun v w' h => by
    have := hn _ _ h
    rwa [withD_put] at this
  have hdep : F.depth.isSome = true → 1 ≤ m := fun h => by rw [hF.depth] at h; cases h
  generalize (execOp a.eval o).run P w = r at h ⊢
  cases r with
  | ok x w' =>
    cases x <;> simp only [Oper.upon] at h <;> simp only [Oper.uponIn]
    case value v => exact hput v w' h
    case skip => exact hput undef w' h
    case defer d =>
      have := h0 _ _ h
      rw [put_defers] at this
      cases this
    case enter f args =>
      refine ⟨hdep, hF.calls (Calls.mono h fun e w'' he => ?_)⟩
      cases e with
      | returned v => exact hput v w'' he
      | panicked c => exact he.elim
      | outgrown => exact (notOut he).elim
    case row row args => exact ⟨hdep, hF.rows (Rows.mono h fun v w'' he => hput v w'' he)⟩
  | halt x w' =>
    cases x <;> simp only [Oper.upon] at h
    exact h.elim

def noDefer (o : Oper) : Bool := match o.op with
  | .defer _ => false
  | _ => true

theorem noDefer_ok {o : Oper} (h : noDefer o = true) : ∀ c, o.op ≠ .defer c := by
  intro c e
  unfold noDefer at h
  rw [e] at h
  cases h

def RunsIn (F : Fence) (m : Nat) (P : Program) (ops : Array Oper) (o : Oper) (next : Act → World → Prop) (Q : Exit → Act → World → Prop) (a : Act) (w : World) : Prop :=
  if Region.wanted o (yielded ops a.tmps) then o.wpIn F m P a w next Q else (∀ f, o.about P w a.eval = some f → F.fn f) ∧ next (a.put o.dst undef) w

theorem runs_in (hF : FW F) {ops : Array Oper} {o : Oper} (hd : noDefer o = true) {a : Act} {w : World} {next next' : Act → World → Prop} {Q : Exit → Act → World → Prop}
    (h : RunsOp P ops o next QF (bareA a) w) (h0 : ∀ a' w', next a' w' → a'.defers = []) (hn : ∀ a' w', next a' w' → next' (withD a' a.defers) w') : RunsIn F m P ops o next' Q a w := by
  unfold RunsOp at h
  unfold RunsIn
  have e : (bareA a).tmps = a.tmps := rfl
  rw [e] at h
  split
  · rename_i hw
    rw [if_pos hw] at h
    rcases h with h | ⟨_, h⟩
    · exact wp_in hF (noDefer_ok hd) h h0 hn
    · exact (notOut h).elim
  · rename_i hw
    rw [if_neg hw] at h
    refine ⟨fun f _ => hF.fn f, ?_⟩
    have := hn _ _ h
    rwa [withD_put] at this

def RelD (E : Ty → TypeId) (A : World → MM → Prop) (ds : List Deferred) (n : Nat) (st : St) (a : Act) (w : World) : Prop :=
  a.defers = ds ∧ ∃ w0 M, A w0 M ∧ Rel E w0 M n st (bareA a) w

variable {A : World → MM → Prop} {ds : List Deferred}

theorem RelD.size {st : St} {a : Act} {w : World} (h : RelD E A ds n st a w) : a.tmps.size = n := by
  obtain ⟨_, _, _, _, h⟩ := h
  exact h.size

theorem stepI (hF : FW F) (ht : TabOk P E tab) (hKA : KAll P E K) (hPA : PAll P E pts) {ops : Array Oper} {o : Oper} (hok : opOk o = true) (hnd : noDefer o = true) (hd : ∀ d, o.dst = some d → d < n) {st : St} {a : Act} {w : World} (h : RelD E A ds n st a w) {k : St → Prop} (hv : vcStepP tab K pts ops o st k)
    {next : Act → World → Prop} {Q : Exit → Act → World → Prop} (hk : ∀ st' a' w', RelD E A ds n st' a' w' → k st' → next a' w') : RunsIn F m P ops o next Q a w := by
  obtain ⟨hds, w0, M, hA, hr⟩ := h
  refine runs_in hF hnd (next := fun a' w' => ∃ st', Rel E w0 M n st' a' w' ∧ k st') (stepP_sound ht hKA hPA hok hd hr hv fun st' a' w' h1 h2 => ⟨st', h1, h2⟩) (fun a' w' ⟨_, h1, _⟩ => h1.defers) fun a' w' ⟨st', h1, h2⟩ => ?_
  refine hk st' _ w' ⟨hds, w0, M, hA, ?_⟩ h2
  rw [bare_withD _ _ h1.defers]
  exact h1

theorem stepI0 (hF : FW F) (ht : TabOk P E tab) (hKA : KAll P E K) {ops : Array Oper} {o : Oper} (hok : opOk o = true) (hnd : noDefer o = true) (hd : ∀ d, o.dst = some d → d < n) {st : St} {a : Act} {w : World} (h : RelD E A ds n st a w) {k : St → Prop} (hv : vcStep tab K ops o st k)
    {next : Act → World → Prop} {Q : Exit → Act → World → Prop} (hk : ∀ st' a' w', RelD E A ds n st' a' w' → k st' → next a' w') : RunsIn F m P ops o next Q a w := by
  obtain ⟨hds, w0, M, hA, hr⟩ := h
  refine runs_in hF hnd (next := fun a' w' => ∃ st', Rel E w0 M n st' a' w' ∧ k st') (step_sound ht hKA hok hd hr hv fun st' a' w' h1 h2 => ⟨st', h1, h2⟩) (fun a' w' ⟨_, h1, _⟩ => h1.defers) fun a' w' ⟨st', h1, h2⟩ => ?_
  refine hk st' _ w' ⟨hds, w0, M, hA, ?_⟩ h2
  rw [bare_withD _ _ h1.defers]
  exact h1

/-! ## Regions -/

def wpListIn' (F : Fence) (m : Nat) (P : Program) (ops : Array Oper) (Q : Exit → Act → World → Prop) : List Oper → Act → World → Prop
  | [], a, w => Q .normal a w
  | o :: rest, a, w => RunsIn F m P ops o (wpListIn' F m P ops Q rest) Q a w

theorem wpOpsIn_list {ops : Array Oper} {Q : Exit → Act → World → Prop} (l : List Oper) : ∀ k, (∀ j, l[j]? = ops[k + j]?) → wpOpsIn F m P ops Q (List.range' k l.length) = wpListIn' F m P ops Q l := by
  induction l with
  | nil => intro k _; funext a w; simp [wpOpsIn, wpListIn']
  | cons o l ih =>
    intro k h
    have h0 : ops[k]? = some o := by simpa using (h 0).symm
    have ih' := ih (k + 1) (fun j => by have := h (j + 1); simpa [Nat.add_assoc, Nat.add_comm 1 j] using this)
    funext a w
    simp only [List.length_cons, List.range'_succ, wpOpsIn, h0, wpListIn', RunsIn, ih']

theorem wpIn_region_list' {id : Nat} {ops : Array Oper} {Q : Exit → Act → World → Prop} {a : Act} {w : World} (h : wpListIn' F m P ops Q ops.toList a w) : (Code.region id ops false).wpIn F m P Q a w :=
  wpIn_region (by rw [List.range_eq_range', ← Array.length_toList, wpOpsIn_list ops.toList 0 (by simp)]; exact h)

theorem seqI0 (hF : FW F) (ht : TabOk P E tab) (hKA : KAll P E K) {ops : Array Oper} {k : St → Prop} {Q : Exit → Act → World → Prop} (hk : ∀ st' a' w', RelD E A ds n st' a' w' → k st' → Q .normal a' w') :
    ∀ (l : List Oper) (st : St) (a : Act) (w : World), (∀ o ∈ l, (opOk o = true ∧ ∀ d, o.dst = some d → d < n) ∧ noDefer o = true) → RelD E A ds n st a w → vcOps tab K ops l st k → wpListIn' F m P ops Q l a w := by
  intro l
  induction l with
  | nil => intro st a w _ h hv; exact hk st a w h hv
  | cons o rest ih =>
    intro st a w hl h hv
    obtain ⟨⟨hok, hd⟩, hnd⟩ := hl o (by simp)
    have hl' : ∀ o ∈ rest, (opOk o = true ∧ ∀ d, o.dst = some d → d < n) ∧ noDefer o = true := fun o ho => hl o (by simp [ho])
    unfold wpListIn'
    exact stepI0 hF ht hKA hok hnd hd h hv fun st' a' w' hr hv' => ih st' a' w' hl' hr hv'

theorem RelD.drawn {st : St} {a : Act} {w : World} (h : RelD E A ds n st a w) : RelD E A ds n st a { w with drawn := w.drawn + 1 } :=
  let ⟨h1, w0, M, hA, hr⟩ := h
  ⟨h1, w0, M, hA, hr.drawn⟩

theorem anyI (hF : FW F) (ht : TabOk P E tab) (hKA : KAll P E K) {ops : Array Oper} (hok : opsOk n ops.toList = true) (hnd : ops.toList.all noDefer = true) {k : St → Prop} {Q : Exit → Act → World → Prop} (hQ : ∀ st' a' w', RelD E A ds n st' a' w' → k st' → Q .normal a' w') :
    ∀ (fuel : Nat) (listed : Array Bool) (st : St) (a : Act) (w : World), linDone ops fuel listed = true → RelD E A ds n st a w → (∀ l ∈ linExts ops fuel listed, vcOps tab K ops (pickOps ops l) st k) → wpAnyIn F m P .any ops Q fuel listed a w := by
  intro fuel
  induction fuel with
  | zero =>
    intro listed st a w hd h hv
    simp only [linDone, List.isEmpty_iff] at hd
    exact ⟨hd, hQ st a w h (hv [] (by simp [linExts]))⟩
  | succ fuel ih =>
    intro listed st a w hd h hv
    simp only [linDone, List.all_eq_true] at hd
    refine ⟨fun he => hQ st a w h (hv [] (by simp [linExts, he])), fun i hi => ?_⟩
    have hmem : ∀ l ∈ linExts ops fuel (listed.setIfInBounds i true), (i :: l) ∈ linExts ops (fuel + 1) listed := by
      intro l hl
      simp only [linExts]
      split
      · rename_i he; rw [he] at hi; cases hi
      · rename_i x xs he
        rw [he] at hi
        exact List.mem_flatMap.2 ⟨i, hi, List.mem_map.2 ⟨l, hl, rfl⟩⟩
    unfold wpOpIn
    cases ho : ops[i]? with
    | none =>
      exact ih _ st a w (hd i hi) h fun l hl => by
        have := hv _ (hmem l hl)
        simpa [pickOps, ho] using this
    | some o =>
      have ho' : o ∈ ops.toList := by
        have := Array.mem_of_getElem? ho
        simpa using this
      obtain ⟨h1, h2⟩ := opsOk_mem hok o ho'
      obtain ⟨l0, hl0⟩ := linExts_ex ops fuel (listed.setIfInBounds i true)
      have hall : ∀ l, l ∈ linExts ops fuel (listed.setIfInBounds i true) → vcStep tab K ops o st (fun s => vcOps tab K ops (pickOps ops l) s k) := by
        intro l hl
        have := hv _ (hmem l hl)
        simpa only [pickOps, ho, vcOps] using this
      exact stepI0 hF ht hKA h1 (List.all_eq_true.1 hnd o ho') h2 h (vcStep_all l0 hl0 hall) fun st' a' w' hr hk => ih _ st' a' w' (hd i hi) hr fun l hl => hk l hl

theorem oneI (hF : FW F) (ht : TabOk P E tab) (hKA : KAll P E K) (hPA : PAll P E pts) {ops : Array Oper} (hok : opsOk n ops.toList = true) (hnd : ops.toList.all noDefer = true) {k : St → Prop} {Q : Exit → Act → World → Prop} (hQ : ∀ st' a' w', RelD E A ds n st' a' w' → k st' → Q .normal a' w') :
    ∀ (fuel : Nat) (l0 : List Nat) (listed : Array Bool) (st : St) (a : Act) (w : World), linDone ops fuel listed = true → (∀ l ∈ linExts ops fuel listed, l = l0) → RelD E A ds n st a w → vcOpsP tab K pts ops (pickOps ops l0) st k → wpAnyIn F m P .any ops Q fuel listed a w := by
  intro fuel
  induction fuel with
  | zero =>
    intro l0 listed st a w hd hone h hv
    simp only [linDone, List.isEmpty_iff] at hd
    have : ([] : List Nat) = l0 := hone [] (by simp [linExts])
    subst this
    exact ⟨hd, hQ st a w h hv⟩
  | succ fuel ih =>
    intro l0 listed st a w hd hone h hv
    simp only [linDone, List.all_eq_true] at hd
    refine ⟨fun he => ?_, fun i hi => ?_⟩
    · have : ([] : List Nat) = l0 := hone [] (by simp [linExts, he])
      subst this
      exact hQ st a w h hv
    have hmem : ∀ l ∈ linExts ops fuel (listed.setIfInBounds i true), (i :: l) ∈ linExts ops (fuel + 1) listed := by
      intro l hl
      simp only [linExts]
      split
      · rename_i he; rw [he] at hi; cases hi
      · rename_i x xs he
        rw [he] at hi
        exact List.mem_flatMap.2 ⟨i, hi, List.mem_map.2 ⟨l, hl, rfl⟩⟩
    obtain ⟨l1, hl1⟩ := linExts_ex ops fuel (listed.setIfInBounds i true)
    have e0 : l0 = i :: l1 := (hone _ (hmem l1 hl1)).symm
    have hone' : ∀ l ∈ linExts ops fuel (listed.setIfInBounds i true), l = l1 := by
      intro l hl
      have := hone _ (hmem l hl)
      rw [e0] at this
      injection this
    subst e0
    unfold wpOpIn
    cases ho : ops[i]? with
    | none =>
      have e1 : pickOps ops (i :: l1) = pickOps ops l1 := by simp only [pickOps, ho]
      rw [e1] at hv
      exact ih l1 _ st a w (hd i hi) hone' h hv
    | some o =>
      have ho' : o ∈ ops.toList := by
        have := Array.mem_of_getElem? ho
        simpa using this
      obtain ⟨h1, h2⟩ := opsOk_mem hok o ho'
      have e1 : pickOps ops (i :: l1) = o :: pickOps ops l1 := by simp only [pickOps, ho]
      rw [e1] at hv
      exact stepI hF ht hKA hPA h1 (List.all_eq_true.1 hnd o ho') h2 h hv fun st' a' w' hr hk => ih l1 _ st' a' w' (hd i hi) hone' hr hk

end
end Go.SE



namespace Go.SE
open Go.RowKit

section
variable (Γ : Type)
abbrev SpOp := Oper → St → Γ → Option ((St → Γ → Prop) → Prop)
abbrev SpCode := Operand → Array Tmp → Code → Code → St → Γ → Option ((XK → St → Γ → Prop) → Prop)
end

section
variable {Γ : Type} (tab : TypeId → Option TI) (K : FuncId → Option Con) (pts : FuncId → Option PT) (sp : SpOp Γ)

def spK (o : Oper) (st : St) (γ : Γ) (k : St → Γ → Prop) : Option ((St → Γ → Prop) → Prop) → Prop
  | some f => f k
  | none => vcOpP tab K pts o st fun st' => k st' γ

def vcOpY (o : Oper) (st : St) (γ : Γ) (k : St → Γ → Prop) : Prop := spK tab K pts o st γ k (sp o st γ)

def vcStepY (ops : Array Oper) (o : Oper) (st : St) (γ : Γ) (k : St → Γ → Prop) : Prop :=
  match o.guard with
  | none => vcOpY tab K pts sp o st γ k
  | some (j, want) => match gslot ops j with
    | none => False
    | some g => match st.env g with
      | .s (.c (.d (.val (.bool b)))) =>
        match want with
        | true => vcIf b (vcOpY tab K pts sp o { st with env := upd st.env g (sv (.bool true)) } γ k) (k (St.put { st with env := upd st.env g (sv (.bool false)) } o.dst junk) γ)
        | false => vcIf b (k (St.put { st with env := upd st.env g (sv (.bool true)) } o.dst junk) γ) (vcOpY tab K pts sp o { st with env := upd st.env g (sv (.bool false)) } γ k)
      | _ => False

def vcOpsY (ops : Array Oper) : List Oper → St → Γ → (St → Γ → Prop) → Prop
  | [], st, γ, k => k st γ
  | o :: rest, st, γ, k => vcStepY tab K pts sp ops o st γ fun st' γ' => vcOpsY ops rest st' γ' k

def vcRegY (ops : Array Oper) (st : St) (γ : Γ) (k : St → Γ → Prop) : Bool → Bool → List (List Nat) → Prop
  | false, _, p => vcReg tab K ops st (fun st' => k st' γ) p
  | true, false, [] => vcOpsY tab K pts sp ops ops.toList st γ k
  | true, true, [] => vcLast tab K pts ops st fun st' => k st' γ
  | true, _, l :: _ => vcOpsP tab K pts ops (pickOps ops l) st fun st' => k st' γ

structure AnnY (Γ : Type) where
  ann : Ann
  gh : ann.α → Γ

def seqY (f : St → Γ → Prop) (Q : XK → St → Γ → Prop) : XK → St → Γ → Prop
  | .normal, st, γ => f st γ
  | x, st, γ => Q x st γ

def blockY (id : Nat) (Q : XK → St → Γ → Prop) : XK → St → Γ → Prop
  | .exit id', st, γ => if id' = id then Q .normal st γ else Q (.exit id') st γ
  | x, st, γ => Q x st γ

def vcLoopY (body : St → Γ → (XK → St → Γ → Prop) → Prop) (st : St) (γ : Γ) (Q : XK → St → Γ → Prop) : Option (AnnY Γ) → Prop
  | none => False
  | some ⟨⟨α, ok, mu, i0, nx, live, sets, mids, blks, owns, rd, base⟩, gh⟩ => (ok (i0 st) ∧ gh (i0 st) = γ ∧ fitsQ live (sets (i0 st)) mids (blks (i0 st)) (owns (i0 st)) (rd st.rd (i0 st)) st st) ∧
      ∀ a : α, ok a → body (headP (fun _ => none) live (sets a) mids (blks a) (owns a) base (rd st.rd a) st) (gh a)
        (seqY (fun st' γ' => ok (nx a st') ∧ gh (nx a st') = γ' ∧ mu (nx a st') < mu a ∧ fitsQ live (sets (nx a st')) mids (blks (nx a st')) (owns (nx a st')) (rd st.rd (nx a st')) st st') Q)

def spcK (Q : XK → St → Γ → Prop) : Option ((XK → St → Γ → Prop) → Prop) → Prop
  | some f => f Q
  | none => False
end

section
variable {Γ : Type} (tab : TypeId → Option TI) (K : FuncId → Option Con) (pts : FuncId → Option PT) (sp : SpOp Γ) (spc : SpCode Γ) (drg : Γ → Bool) (hp : Nat → Bool) (gcs : Nat → Option (List Nat × List Nat)) (anns : Nat → St → Γ → Option (AnnY Γ)) (perm : Nat → List (List Nat))

def dOk (b draw : Bool) : List (List Nat) → Prop
  | [] => (!draw || b) = true
  | _ => True

def vcY : Code → St → Γ → (XK → St → Γ → Prop) → Prop
  | .skip, st, γ, Q => Q .normal st γ
  | .region id ops draw, st, γ, Q => dOk (drg γ) draw (perm id) ∧ vcRegY tab K pts sp ops st γ (Q .normal) (hp id) draw (perm id)
  | .seq a b, st, γ, Q => vcY a st γ (seqY (fun st' γ' => gcQ st' (fun s => vcY b s γ' Q) (gcs (firstReg b))) Q)
  | .cond c a b, st, γ, Q => condK (vcY a st γ Q) (vcY b st γ Q) (ev st c)
  | .block id c, st, γ, Q => vcY c st γ (blockY id Q)
  | .loop c, st, γ, Q => vcLoopY (fun st' γ' Q' => vcY c st' γ' Q') st γ Q (anns (firstReg c) st γ)
  | .rangeFunc f ps x c, st, γ, Q => spcK Q (spc f ps x c st γ)
  | .exit id, st, γ, Q => Q (.exit id) st γ
  | .ret, st, γ, Q => Q .ret st γ
  | _, _, _, _ => False

def codeOkY (dr : Bool) (n : Nat) : Code → Bool
  | .region id ops draw => opsOk n ops.toList && ops.toList.all noDefer && (match hp id with
    | false => (match perm id with
      | [] => !draw || (dr && drawOk K tab ops)
      | l :: ls => draw && permOk ops (l :: ls))
    | true => (match perm id with
      | [] => !draw || (dr && drawLast K tab ops)
      | [l] => draw && permOk ops [l]
      | _ => false))
  | .seq a b => codeOkY dr n a && codeOkY dr n b
  | .block _ c => codeOkY dr n c
  | .loop c => codeOkY dr n c
  | .cond _ a b => codeOkY dr n a && codeOkY dr n b
  | _ => true
end

def noOO (gcs : Nat → Option (List Nat × List Nat)) : Code → Bool
  | .seq a b => noOO gcs a && noOO gcs b && (gcs (firstReg b)).isNone
  | .block _ c => noOO gcs c
  | .loop _ => false
  | .cond _ a b => noOO gcs a && noOO gcs b
  | _ => true

section
variable {Γ : Type} {F : Fence} {m : Nat} {P : Program} {E : Ty → TypeId} {tab : TypeId → Option TI} {K : FuncId → Option Con} {pts : FuncId → Option PT} {sp : SpOp Γ} {spc : SpCode Γ} {drg : Γ → Bool} {hp : Nat → Bool} {gcs : Nat → Option (List Nat × List Nat)} {anns : Nat → St → Γ → Option (AnnY Γ)} {perm : Nat → List (List Nat)} {n : Nat}
  {A : Γ → List Deferred → World → MM → Prop}

def RelY (E : Ty → TypeId) (A : Γ → List Deferred → World → MM → Prop) (n : Nat) (st : St) (γ : Γ) (a : Act) (w : World) : Prop :=
  ∃ w0 M, A γ a.defers w0 M ∧ Rel E w0 M n st (bareA a) w

theorem RelY.d {st : St} {γ : Γ} {a : Act} {w : World} (h : RelY E A n st γ a w) : RelD E (A γ a.defers) a.defers n st a w :=
  let ⟨w0, M, hA, hr⟩ := h
  ⟨rfl, w0, M, hA, hr⟩

theorem RelD.y {st : St} {γ : Γ} {ds : List Deferred} {a : Act} {w : World} (h : RelD E (A γ ds) ds n st a w) : RelY E A n st γ a w := by
  obtain ⟨rfl, w0, M, hA, hr⟩ := h
  exact ⟨w0, M, hA, hr⟩

def SpOk (F : Fence) (m : Nat) (P : Program) (E : Ty → TypeId) (A : Γ → List Deferred → World → MM → Prop) (n : Nat) (sp : SpOp Γ) : Prop :=
  ∀ o st γ f, sp o st γ = some f → (∀ d, o.dst = some d → d < n) → ∀ (k : St → Γ → Prop) (a : Act) (w : World) (next : Act → World → Prop) (Q : Exit → Act → World → Prop), RelY E A n st γ a w → f k →
    (∀ st' γ' a' w', RelY E A n st' γ' a' w' → k st' γ' → next a' w') → o.wpIn F m P a w next Q

def SpcOk (F : Fence) (m : Nat) (P : Program) (E : Ty → TypeId) (A : Γ → List Deferred → World → MM → Prop) (n : Nat) (spc : SpCode Γ) : Prop :=
  ∀ f ps x c st γ g, spc f ps x c st γ = some g → ∀ (Qs : XK → St → Γ → Prop) (a : Act) (w : World) (Q : Exit → Act → World → Prop), RelY E A n st γ a w → g Qs →
    (∀ x st' γ' a' w', RelY E A n st' γ' a' w' → Qs x st' γ' → Q x.exit' a' w') → (Code.rangeFunc f ps x c).wpIn F m P Q a w

theorem vcOpY_sound (hF : FW F) (ht : TabOk P E tab) (hKA : KAll P E K) (hPA : PAll P E pts) (hsp : SpOk F m P E A n sp) {o : Oper} (hok : opOk o = true) (hnd : noDefer o = true) (hd : ∀ d, o.dst = some d → d < n) {st : St} {γ : Γ} {a : Act} {w : World} (h : RelY E A n st γ a w)
    {k : St → Γ → Prop} (hv : vcOpY tab K pts sp o st γ k) {next : Act → World → Prop} {Q : Exit → Act → World → Prop} (hk : ∀ st' γ' a' w', RelY E A n st' γ' a' w' → k st' γ' → next a' w') : o.wpIn F m P a w next Q := by
  unfold vcOpY at hv
  cases hs : sp o st γ with
  | some f =>
    rw [hs] at hv
    exact hsp o st γ f hs hd k a w next Q h hv hk
  | none =>
    rw [hs] at hv
    obtain ⟨w0, M, hA, hr⟩ := h
    have hop := vcOpP_sound hr ht hKA hPA hd hok hv (next := fun a' w' => ∃ st', Rel E w0 M n st' a' w' ∧ k st' γ) (Q := QF) fun st' a' w' h1 h2 => ⟨st', h1, h2⟩
    refine wp_in hF (noDefer_ok hnd) hop (fun a' w' ⟨_, h1, _⟩ => h1.defers) fun a' w' ⟨st', h1, h2⟩ => ?_
    refine hk st' γ _ w' ⟨w0, M, hA, ?_⟩ h2
    rw [bare_withD _ _ h1.defers]
    exact h1

theorem stepY (hF : FW F) (ht : TabOk P E tab) (hKA : KAll P E K) (hPA : PAll P E pts) (hsp : SpOk F m P E A n sp) {ops : Array Oper} {o : Oper} (hok : opOk o = true) (hnd : noDefer o = true) (hd : ∀ d, o.dst = some d → d < n) {st : St} {γ : Γ} {a : Act} {w : World} (h : RelY E A n st γ a w)
    {k : St → Γ → Prop} (hv : vcStepY tab K pts sp ops o st γ k) {next : Act → World → Prop} {Q : Exit → Act → World → Prop} (hk : ∀ st' γ' a' w', RelY E A n st' γ' a' w' → k st' γ' → next a' w') : RunsIn F m P ops o next Q a w := by
  unfold vcStepY at hv
  unfold RunsIn
  have hjunk : RelY E A n (St.put st o.dst junk) γ (a.put o.dst undef) w := by
    obtain ⟨w0, M, hA, hr⟩ := h
    refine ⟨w0, M, by rw [put_defers]; exact hA, ?_⟩
    rw [bare_put]
    exact hr.junk hd undef
  cases hg : o.guard with
  | none =>
    rw [hg] at hv
    rw [if_pos (by simp [Region.wanted, hg])]
    exact vcOpY_sound hF ht hKA hPA hsp hok hnd hd h hv hk
  | some gw =>
    obtain ⟨j, want⟩ := gw
    rw [hg] at hv
    simp only at hv
    split at hv
    · exact hv.elim
    · rename_i g hgs
      split at hv
      · rename_i b he
        have hy : yielded ops a.tmps j = some b := by
          obtain ⟨w0, M, hA, hr⟩ := h
          exact yields hr hgs he
        have hwant : Region.wanted o (yielded ops a.tmps) = (b == want) := by simp [Region.wanted, hg, hy]
        rw [hwant]
        have hself : ∀ c : Bool, b = c → ({ st with env := upd st.env g (sv (.bool c)) } : St) = st := by
          intro c hc
          subst hc
          have := upd_self st.env g (sv (.bool b)) he
          rw [this]
        cases want <;> cases b <;> simp only at hv
        · have hv := vcIf_f hv
          rw [hself false rfl] at hv
          exact vcOpY_sound hF ht hKA hPA hsp hok hnd hd h hv hk
        · have hv := vcIf_t hv
          rw [hself true rfl] at hv
          exact ⟨fun f _ => hF.fn f, hk _ _ _ w hjunk hv⟩
        · have hv := vcIf_f hv
          rw [hself false rfl] at hv
          exact ⟨fun f _ => hF.fn f, hk _ _ _ w hjunk hv⟩
        · have hv := vcIf_t hv
          rw [hself true rfl] at hv
          exact vcOpY_sound hF ht hKA hPA hsp hok hnd hd h hv hk
      · exact hv.elim

theorem seqYs (hF : FW F) (ht : TabOk P E tab) (hKA : KAll P E K) (hPA : PAll P E pts) (hsp : SpOk F m P E A n sp) {ops : Array Oper} {k : St → Γ → Prop} {Q : Exit → Act → World → Prop} (hk : ∀ st' γ' a' w', RelY E A n st' γ' a' w' → k st' γ' → Q .normal a' w') :
    ∀ (l : List Oper) (st : St) (γ : Γ) (a : Act) (w : World), (∀ o ∈ l, (opOk o = true ∧ ∀ d, o.dst = some d → d < n) ∧ noDefer o = true) → RelY E A n st γ a w → vcOpsY tab K pts sp ops l st γ k → wpListIn' F m P ops Q l a w := by
  intro l
  induction l with
  | nil => intro st γ a w _ h hv; exact hk st γ a w h hv
  | cons o rest ih =>
    intro st γ a w hl h hv
    obtain ⟨⟨hok, hd⟩, hnd⟩ := hl o (by simp)
    have hl' : ∀ o ∈ rest, (opOk o = true ∧ ∀ d, o.dst = some d → d < n) ∧ noDefer o = true := fun o ho => hl o (by simp [ho])
    unfold wpListIn'
    exact stepY hF ht hKA hPA hsp hok hnd hd h hv fun st' γ' a' w' hr hv' => ih st' γ' a' w' hl' hr hv'

open Classical in
theorem codeY_sound (hF : FW F) (ht : TabOk P E tab) (hKA : KAll P E K) (hPA : PAll P E pts) (hmix : P.follows .mixedOrders = true) (hsp : SpOk F m P E A n sp) (hspc : SpcOk F m P E A n spc)
    {dr : Bool} (hdr : dr = true → F = Fence.wide ∧ (∀ γ ds w0 M, drg γ = true → A γ ds w0 M → ds = []) ∧ ∀ w0 M, DrawSound P E tab K w0 M n) :
    ∀ (c : Code) (st : St) (γ : Γ) (a : Act) (w : World) (Qs : XK → St → Γ → Prop) (Q : Exit → Act → World → Prop), ((∀ γ ds w0 M, A γ ds w0 M → OOk (fun _ => none) M) ∨ noOO gcs c = true) → codeOkY tab K hp perm dr n c = true → RelY E A n st γ a w → vcY tab K pts sp spc drg hp gcs anns perm c st γ Qs →
    (∀ x st' γ' a' w', RelY E A n st' γ' a' w' → Qs x st' γ' → Q x.exit' a' w') → c.wpIn F m P Q a w := by
  intro c
  induction c with
  | skip => intro st γ a w Qs Q _ _ h hv hQ; exact wpIn_skip (hQ .normal st γ a w h hv)
  | region id ops draw =>
    intro st γ a w Qs Q hoo hok h hv hQ
    simp only [codeOkY, Bool.and_eq_true] at hok
    obtain ⟨⟨hok1, hnd⟩, hok2⟩ := hok
    have hall : ∀ o ∈ ops.toList, (opOk o = true ∧ ∀ d, o.dst = some d → d < n) ∧ noDefer o = true := fun o ho => ⟨opsOk_mem hok1 o ho, List.all_eq_true.1 hnd o ho⟩
    simp only [vcY] at hv
    obtain ⟨hdo, hv⟩ := hv
    cases hh : hp id with
    | false =>
      rw [hh] at hv hok2
      cases hpm : perm id with
      | nil =>
        rw [hpm] at hv hok2
        simp only [vcRegY, vcReg] at hv
        simp only at hok2
        cases draw with
        | false => exact wpIn_region_list' (seqI0 hF ht hKA (fun st' a' w' hr hk => hQ .normal st' γ a' w' hr.y hk) ops.toList st a w hall h.d hv)
        | true =>
          simp only [Bool.not_true, Bool.false_or, Bool.and_eq_true] at hok2
          obtain ⟨hF', hA', hds⟩ := hdr hok2.1
          obtain ⟨w0, M, hA, hr⟩ := h
          have hgd : drg γ = true := by rw [hpm] at hdo; simpa [dOk] using hdo
          have e0 : a.defers = [] := hA' _ _ _ _ hgd hA
          have e1 : bareA a = a := by cases a; simp only at e0; subst e0; rfl
          subst hF'
          refine wpIn_wide.2 (hds w0 M id ops st a w _ Q hok2.2 hok1 (by rw [← e1]; exact hr) hv fun st' a' w' hr' hk => ?_)
          have e2 : a'.defers = [] := hr'.defers
          have e3 : bareA a' = a' := by cases a'; simp only at e2; subst e2; rfl
          exact hQ .normal st' γ a' w' ⟨w0, M, by rw [e2, ← e0]; exact hA, by rw [e3]; exact hr'⟩ hk
      | cons l ls =>
        rw [hpm] at hv hok2
        simp only [vcRegY, vcReg] at hv
        simp only [Bool.and_eq_true, permOk, List.all_eq_true] at hok2
        obtain ⟨hd, hp1, hp2⟩ := hok2
        subst hd
        refine wpIn_region_any hmix (anyI hF ht hKA hok1 hnd (fun st' a' w' hr hk => hQ .normal st' γ a' w' hr.y hk) _ _ st a _ hp1 h.d.drawn fun x hx => vcEach_mem hv x ?_)
        have := hp2 x hx
        simpa using this
    | true =>
      rw [hh] at hv hok2
      cases hpm : perm id with
      | nil =>
        rw [hpm] at hv hok2
        simp only at hok2
        cases draw with
        | true =>
          simp only [vcRegY] at hv
          simp only [Bool.not_true, Bool.false_or, Bool.and_eq_true] at hok2
          obtain ⟨hF', hA', hds⟩ := hdr hok2.1
          obtain ⟨w0, M, hA, hr⟩ := h
          have hgd : drg γ = true := by rw [hpm] at hdo; simpa [dOk] using hdo
          have e0 : a.defers = [] := hA' _ _ _ _ hgd hA
          have e1 : bareA a = a := by cases a; simp only at e0; subst e0; rfl
          subst hF'
          refine wpIn_wide.2 (draw_last ht (tab_small ht) hKA hPA hmix hok2.2 hok1 (by rw [← e1]; exact hr) hv fun st' a' w' hr' hk => ?_)
          have e2 : a'.defers = [] := hr'.defers
          have e3 : bareA a' = a' := by cases a'; simp only at e2; subst e2; rfl
          exact hQ .normal st' γ a' w' ⟨w0, M, by rw [e2, ← e0]; exact hA, by rw [e3]; exact hr'⟩ hk
        | false =>
        simp only [vcRegY] at hv
        exact wpIn_region_list' (seqYs hF ht hKA hPA hsp (fun st' γ' a' w' hr hk => hQ .normal st' γ' a' w' hr hk) ops.toList st γ a w hall h hv)
      | cons l ls =>
        rw [hpm] at hv hok2
        simp only [vcRegY] at hv
        cases ls with
        | cons l' ls => cases hok2
        | nil =>
          simp only [Bool.and_eq_true, permOk, List.all_eq_true] at hok2
          obtain ⟨hd, hp1, hp2⟩ := hok2
          subst hd
          refine wpIn_region_any hmix (oneI hF ht hKA hPA hok1 hnd (fun st' a' w' hr hk => hQ .normal st' γ a' w' hr.y hk) _ l _ st a _ hp1 (fun x hx => ?_) h.d.drawn hv)
          have := hp2 x hx
          simpa using this
  | seq x y ihx ihy =>
    intro st γ a w Qs Q hoo hok h hv hQ
    simp only [codeOkY, Bool.and_eq_true] at hok
    have hx : (∀ γ ds w0 M, A γ ds w0 M → OOk (fun _ => none) M) ∨ noOO gcs x = true := hoo.imp id fun h => by simp only [noOO, Bool.and_eq_true] at h; exact h.1.1
    have hy : (∀ γ ds w0 M, A γ ds w0 M → OOk (fun _ => none) M) ∨ noOO gcs y = true := hoo.imp id fun h => by simp only [noOO, Bool.and_eq_true] at h; exact h.1.2
    refine wpIn_seq (ihx st γ a w _ _ hx hok.1 h hv fun k st' γ' a' w' hr hk => ?_)
    cases k with
    | normal =>
      simp only [seqY] at hk
      have hk2 := gcQ_ok (k' := fun s => vcY tab K pts sp spc drg hp gcs anns perm y s γ' Qs) (fun _ h => h) hk
      cases hgc : gcs (firstReg y) with
      | none => rw [hgc] at hk2; exact ihy st' γ' a' w' Qs Q hy hok.2 hr hk2 hQ
      | some lv =>
        rw [hgc] at hk2
        obtain ⟨live, ids⟩ := lv
        obtain ⟨w0, M, hA, hr⟩ := hr
        rcases hoo with hOO | hn
        · exact ihy _ γ' a' w' Qs Q hy hok.2 ⟨w0, M, hA, hr.gc (hOO _ _ _ _ hA) hk2.1⟩ hk2.2 hQ
        · simp only [noOO, hgc, Option.isNone_some, Bool.and_false] at hn
          cases hn
    | exit id => exact hQ (.exit id) st' γ' a' w' hr hk
    | ret => exact hQ .ret st' γ' a' w' hr hk
  | cond cnd x y ihx ihy =>
    intro st γ a w Qs Q hoo hok h hv hQ
    simp only [codeOkY, Bool.and_eq_true] at hok
    simp only [vcY] at hv
    unfold condK at hv
    split at hv
    · rename_i t he
      have hval : a.eval cnd = .bool t := by
        obtain ⟨w0, M, hA, hr⟩ := h
        exact (ev_val hr he).1
      cases t with
      | true => exact wpIn_cond_true hval (ihx st γ a w Qs Q (hoo.imp id fun h => by simp only [noOO, Bool.and_eq_true] at h; exact h.1) hok.1 h (vcIf_t hv) hQ)
      | false => exact wpIn_cond_false hval (ihy st γ a w Qs Q (hoo.imp id fun h => by simp only [noOO, Bool.and_eq_true] at h; exact h.2) hok.2 h (vcIf_f hv) hQ)
    · exact hv.elim
  | block id x ih =>
    intro st γ a w Qs Q hoo hok h hv hQ
    refine wpIn_block (ih st γ a w _ _ hoo hok h hv fun k st' γ' a' w' hr hk => ?_)
    cases k with
    | normal => exact hQ .normal st' γ' a' w' hr hk
    | exit id' =>
      simp only [XK.exit', Exit.inBlock]
      simp only [blockY] at hk
      split
      · rename_i e; rw [if_pos e] at hk; exact hQ .normal st' γ' a' w' hr hk
      · rename_i e; rw [if_neg e] at hk; exact hQ (.exit id') st' γ' a' w' hr hk
    | ret => exact hQ .ret st' γ' a' w' hr hk
  | loop x ih =>
    intro st γ a w Qs Q hoo hok h hv hQ
    simp only [vcY] at hv
    have hOO : ∀ γ ds w0 M, A γ ds w0 M → OOk (fun _ => none) M := hoo.resolve_right (by simp [noOO])
    unfold vcLoopY at hv
    split at hv
    · exact hv.elim
    · rename_i α ok mu i0 nx live sets mids blks owns rd base gh hA
      obtain ⟨⟨ho0, hg0, hf0⟩, hround⟩ := hv
      let α0 : α := i0 st
      let hd : α → St := fun α => SE.headP (fun _ => none) live (sets α) mids (blks α) (owns α) base (rd st.rd α) st
      have toHead : ∀ {st' : St} {γ' : Γ} {a : Act} {w : World} (β : α), gh β = γ' → RelY E A n st' γ' a w → fitsQ live (sets β) mids (blks β) (owns β) (rd st.rd β) st st' → RelY E A n (hd β) (gh β) a w := by
        intro st' γ' a w β hg hr hf
        subst hg
        obtain ⟨w0, M, hA, hr⟩ := hr
        exact ⟨w0, M, hA, hr.headP (hOO _ _ _ _ hA) (fitsQ_ok hf)⟩
      have hex : ∀ (a : Act) (w : World), (∃ α, ok α ∧ RelY E A n (hd α) (gh α) a w) → ∃ m, ∃ α, ok α ∧ RelY E A n (hd α) (gh α) a w ∧ mu α = m :=
        fun a w ⟨α, h1, h2⟩ => ⟨_, α, h1, h2, rfl⟩
      let μ : Act → World → Nat := fun a w => if hh : ∃ m, ∃ α, ok α ∧ RelY E A n (hd α) (gh α) a w ∧ mu α = m then Classical.choose (least hh) else 0
      refine wpIn_loop (fun a w => ∃ α, ok α ∧ RelY E A n (hd α) (gh α) a w) μ ⟨α0, ho0, toHead α0 hg0 h hf0⟩ ?_
      intro a w hI
      have hh := hex a w hI
      obtain ⟨α, h1, h2, h3⟩ := (Classical.choose_spec (least hh)).1
      have hμ : μ a w = mu α := by simp only [μ, dif_pos hh]; exact h3.symm
      refine ih _ _ a w _ _ (.inl hOO) hok h2 (hround α h1) fun k st' γ' a' w' hr hk => ?_
      cases k with
      | normal =>
        obtain ⟨g1, g0, g2, g3⟩ := hk
        have hrel : RelY E A n (hd (nx α st')) (gh (nx α st')) a' w' := toHead _ g0 hr g3
        refine ⟨⟨nx α st', g1, hrel⟩, ?_⟩
        have hh' : ∃ m, ∃ α, ok α ∧ RelY E A n (hd α) (gh α) a' w' ∧ mu α = m := ⟨_, nx α st', g1, hrel, rfl⟩
        have : μ a' w' ≤ mu (nx α st') := by simp only [μ, dif_pos hh']; exact (Classical.choose_spec (least hh')).2 _ ⟨nx α st', g1, hrel, rfl⟩
        omega
      | exit id => exact hQ (.exit id) st' γ' a' w' hr hk
      | ret => exact hQ .ret st' γ' a' w' hr hk
  | rangeFunc f ps x c ihx ihc =>
    intro st γ a w Qs Q hoo hok h hv hQ
    simp only [vcY] at hv
    cases hs : spc f ps x c st γ with
    | none => rw [hs] at hv; exact hv.elim
    | some g =>
      rw [hs] at hv
      exact hspc f ps x c st γ g hs Qs a w Q h hv hQ
  | exit id => intro st γ a w Qs Q _ _ h hv hQ; exact wpIn_exit (hQ (.exit id) st γ a w h hv)
  | ret => intro st γ a w Qs Q _ _ h hv hQ; exact wpIn_ret (hQ .ret st γ a w h hv)
  | _ => intro st γ a w Qs Q _ _ h hv hQ; exact hv.elim

end
end Go.SE

namespace Go.SE
open Go.RowKit

structure Fp where
  d : Nat → Prop
  r : Nat → Prop

structure Fr (p p' : Fp) (w w' : World) : Prop where
  os : w'.os = w.os
  tape : w'.tape = w.tape
  output : w'.output = w.output
  size : w.heap.size ≤ w'.heap.size
  block : ∀ b, b < w.heap.size → ¬ p.d b → w'.heap[b]? = w.heap[b]?
  sub : ∀ b, p'.d b → p.d b ∨ w.heap.size ≤ b
  subr : ∀ b, p'.r b → p.r b ∨ p.d b ∨ w.heap.size ≤ b

theorem Fr.refl (p : Fp) (w : World) : Fr p p w w := ⟨rfl, rfl, rfl, Nat.le_refl _, fun _ _ _ => rfl, fun _ h => .inl h, fun _ h => .inl h⟩
theorem Fr.trans {p p' p'' : Fp} {a b c : World} (h : Fr p p' a b) (k : Fr p' p'' b c) : Fr p p'' a c :=
  ⟨k.os.trans h.os, k.tape.trans h.tape, k.output.trans h.output, Nat.le_trans h.size k.size,
   fun i hi hd => (k.block i (Nat.lt_of_lt_of_le hi h.size) fun hd' => by rcases h.sub i hd' with h1 | h1; exact hd h1; omega).trans (h.block i hi hd),
   fun i hd => by
    rcases k.sub i hd with h1 | h1
    · exact h.sub i h1
    · exact .inr (Nat.le_trans h.size h1),
   fun i hd => by
    rcases k.subr i hd with h1 | h1 | h1
    · exact h.subr i h1
    · exact (h.sub i h1).elim (fun h => .inr (.inl h)) fun h => .inr (.inr h)
    · exact .inr (.inr (Nat.le_trans h.size h1))⟩

structure JJ (Γ : Type) where
  J : Γ → Fp → World → Prop
  lt : ∀ {γ p w b}, J γ p w → p.d b ∨ p.r b → b < w.heap.size
  frame : ∀ {γ p w w'}, J γ p w → w'.os = w.os → w'.tape = w.tape → w'.output = w.output → w.heap.size ≤ w'.heap.size → (∀ b, p.d b ∨ p.r b → w'.heap[b]? = w.heap[b]?) → J γ p w'

section
variable {Γ : Type} {E : Ty → TypeId} {n : Nat}

structure FrX (X : Nat → Prop) (p p' : Fp) (w w' : World) : Prop where
  os : w'.os = w.os
  tape : w'.tape = w.tape
  output : w'.output = w.output
  size : w.heap.size ≤ w'.heap.size
  block : ∀ b, b < w.heap.size → ¬ p.d b → ¬ X b → w'.heap[b]? = w.heap[b]?
  sub : ∀ b, p'.d b → p.d b ∨ w.heap.size ≤ b
  subr : ∀ b, p'.r b → p.r b ∨ p.d b ∨ w.heap.size ≤ b

theorem FrX.refl (X : Nat → Prop) (p : Fp) (w : World) : FrX X p p w w := ⟨rfl, rfl, rfl, Nat.le_refl _, fun _ _ _ _ => rfl, fun _ h => .inl h, fun _ h => .inl h⟩
theorem FrX.fr {X : Nat → Prop} {p p' : Fp} {w w' : World} (h : FrX X p p' w w') (hX : ∀ b, ¬ X b) : Fr p p' w w' := ⟨h.os, h.tape, h.output, h.size, fun b h1 h2 => h.block b h1 h2 (hX b), h.sub, h.subr⟩
theorem FrX.trans {X : Nat → Prop} {p p' p'' : Fp} {a b c : World} (h : FrX X p p' a b) (k : Fr p' p'' b c) : FrX X p p'' a c :=
  ⟨k.os.trans h.os, k.tape.trans h.tape, k.output.trans h.output, Nat.le_trans h.size k.size,
   fun i hi hd hx => (k.block i (Nat.lt_of_lt_of_le hi h.size) fun hd' => by rcases h.sub i hd' with h1 | h1; exact hd h1; omega).trans (h.block i hi hd hx),
   fun i hd => by
    rcases k.sub i hd with h1 | h1
    · exact h.sub i h1
    · exact .inr (Nat.le_trans h.size h1),
   fun i hd => by
    rcases k.subr i hd with h1 | h1 | h1
    · exact h.subr i h1
    · exact (h.sub i h1).elim (fun h => .inr (.inl h)) fun h => .inr (.inr h)
    · exact .inr (.inr (Nat.le_trans h.size h1))⟩

def AnE (J : JJ Γ) (wE : World) (X : Nat → Prop) (DE : Fp) : Γ → List Deferred → World → MM → Prop := fun γ ds w0 M =>
  ds = [] ∧ (∀ id, M.pin id = none ∧ M.pinl id = none) ∧ ∃ D : Fp, J.J γ D w0 ∧ (∀ b, D.d b ∨ D.r b → ¬ M.can b) ∧ (∀ b, D.d b → M.ro b = none) ∧ (∀ b, M.can b → X b ∨ wE.heap.size ≤ b) ∧ FrX X DE D wE w0

theorem AnE.oo {J : JJ Γ} {wE : World} {X : Nat → Prop} {DE : Fp} {γ : Γ} {ds : List Deferred} {w0 : World} {M : MM} (h : AnE J wE X DE γ ds w0 M) : OOk (fun _ => none) M :=
  ⟨fun id r hr => (by simp at hr), fun id h' => by rw [(h.2.1 id).1, (h.2.1 id).2] at h'; simp at h', fun id h' => by simp at h'⟩

def reM (g : G) (st : St) : MM := { can := fun b => ∃ id r, st.mem id = some r ∧ r.live ∧ blkOf (g.κ id) = some b, ro := g.ro, rho := g.ρ }

theorem Rel.re {w0 : World} {M : MM} {st : St} {a : Act} {w w' : World} {g : G} (h : Rel E w0 M n st a w) (hg : Good E w0 M g st w) (henv : ∀ x, (st.env x).R g (a.tmps.getD x undef)) (hrd : st.rd = none)
    (h1 : ∀ b, (∃ id r, st.mem id = some r ∧ r.live ∧ blkOf (g.κ id) = some b) → w'.heap[b]? = w.heap[b]?) (h2 : ∀ b vs, g.ro b = some vs → w'.heap[b]? = w.heap[b]?) : Rel E w' (reM g st) n st a w' := by
  refine ⟨h.cl, h.size, h.defers, g, ⟨Ext.refl _ _, ?_, ?_, hg.sep, ?_, hg.wro, ?_, ?_, fun b vs hb => .inl hb, rfl, fun id v hv => ?_, fun id k hk => ?_, fun b vs hb => ?_⟩, henv⟩
  · intro b vs hb
    obtain ⟨ty, fz, h3⟩ := hg.ro b vs hb
    exact ⟨ty, fz, by rw [h2 b vs hb]; exact h3⟩
  · intro id r hr
    by_cases hl : r.live
    · exact (hg.res id r hr).keep (fun b hb => h1 b ⟨id, r, hr, hl, hb⟩) (fun _ _ h => h) rfl ⟨rfl, rfl⟩ fun _ _ => ⟨rfl, rfl⟩
    · cases r <;> first | exact (hl trivial).elim | trivial
  · intro id r hr hl b hb
    exact .inr ⟨id, r, hr, hl, hb⟩
  · intro k hk; rw [hrd] at hk; cases hk
  · intro hk; exact absurd hrd hk
  · cases hv
  · cases hk
  · cases hb

end
end Go.SE

namespace Go.SE
open Go.RowKit

abbrev CG := List (List Int)

section
variable {P : Program} {E : Ty → TypeId} {n m : Nat} {J : JJ CG} {wE : World} {X : Nat → Prop} {DE : Fp} {fid l : Nat} {go : List Int → Bool} {T : CG} {a0 : GAsn} {tm t : Int} {en : List Int → CG}

end
end Go.SE

namespace Go.SE
open Go.RowKit

def cl (c : List Int) (t : Int) : Int := c.getD t.toNat 0
def fh (c : List Int) (f : GFact) : Bool := (cl c f.a == cl c f.b) == f.eq
def filB (c : List Int) (x : GAtom) : Bool := x.kind == 1 || !(cl c x.a == cl c x.b)
def stB (c : List Int) (last : Int) (x : GAtom) : Bool := decide (x.a ≤ last) && decide (x.b ≤ last) && filB c x
def sts (c : List Int) (last : Int) (l : List GAtom) : List Int := (l.filter (stB c last)).map fun x => cl c x.a
def okS : List Int → List Int → Bool
  | _, [] => true
  | s, x :: l => !(x == 0) && (!(isT x && s.contains x) && okS (x :: s) l)
def possF (c : List Int) (last : Int) (l : List GFact) : Bool := l.all fun f => !(decide (f.a ≤ last) && decide (f.b ≤ last)) || fh c f
def possI (a : GAsn) (c : List Int) (last : Int) : Bool := possF c last a.facts && okS [] (sts c last a.atoms)
theorem okS_append (x : Int) : ∀ (l s : List Int), okS s (l ++ [x]) = (okS s l && (!(x == 0) && !(isT x && (s.contains x || l.contains x)))) := by
  intro l
  induction l with
  | nil => intro s; simp [okS]
  | cons y l ih =>
    intro s
    simp only [List.cons_append, okS, ih, List.contains_cons]
    cases h1 : (y == 0) <;> cases h2 : (x == 0) <;> cases h3 : isT x <;> cases h4 : (x == y) <;> cases h5 : s.contains x <;> cases h6 : l.contains x <;> cases h7 : isT y <;> cases h8 : s.contains y <;> simp
theorem okS_pre : ∀ (l s r : List Int), okS s (l ++ r) = true → okS s l = true := by
  intro l
  induction l with
  | nil => intros; rfl
  | cons y l ih =>
    intro s r h
    simp only [List.cons_append, okS, Bool.and_eq_true] at h ⊢
    exact ⟨h.1, h.2.1, ih _ _ h.2.2⟩
theorem sts_step {c : List Int} {last : Int} {l : List GAtom} {i : Nat} {d : GAtom} (h : i < l.length) :
    sts c last (l.take (i + 1)) = cond (stB c last (l.getD i d)) (sts c last (l.take i) ++ [cl c (l.getD i d).a]) (sts c last (l.take i)) := by
  have e : l.take (i + 1) = l.take i ++ [l.getD i d] := by
    rw [List.take_add_one, List.getD_eq_getElem?_getD, List.getElem?_eq_getElem h]; rfl
  unfold sts
  rw [e, List.filter_append, List.map_append]
  generalize l.getD i d = y
  cases hb : stB c last y <;> simp [List.filter, hb]
theorem sts_pre (c : List Int) (last : Int) (l : List GAtom) (i : Nat) : ∃ r, sts c last l = sts c last (l.take i) ++ r := by
  refine ⟨sts c last (l.drop i), ?_⟩
  unfold sts
  rw [← List.map_append, ← List.filter_append, List.take_append_drop]

def fEn (has : Nat → Bool) : Nat → Nat → List Int → List (List Int)
  | 0, _, c => [c]
  | f + 1, t, c => cond (has t) ((List.range (t + 1)).flatMap fun k => cond (k == t || c.getD k 0 == (k : Int)) (fEn has f (t + 1) (c.set t (k : Int))) []) (fEn has f (t + 1) (c.set t (-1)))

theorem getD_set_ne {c : List Int} {t j : Nat} {x : Int} (h : j ≠ t) : (c.set t x).getD j 0 = c.getD j 0 := by
  rw [List.getD_eq_getElem?_getD, List.getD_eq_getElem?_getD, List.getElem?_set_ne (fun e => h e.symm)]
theorem getD_set_eq {c : List Int} {t : Nat} {x : Int} (h : t < c.length) : (c.set t x).getD t 0 = x := getD_set_self h

theorem fEn_agree (has : Nat → Bool) : ∀ (f t : Nat) (c d : List Int), d ∈ fEn has f t c → d.length = c.length ∧ ∀ j, j < t → d.getD j 0 = c.getD j 0 := by
  intro f
  induction f with
  | zero => intro t c d h; simp only [fEn, List.mem_singleton] at h; subst h; exact ⟨rfl, fun _ _ => rfl⟩
  | succ f ih =>
    intro t c d h
    have key : ∀ x : Int, d ∈ fEn has f (t + 1) (c.set t x) → d.length = c.length ∧ ∀ j, j < t → d.getD j 0 = c.getD j 0 := fun x h => by
      obtain ⟨h1, h2⟩ := ih _ _ _ h
      exact ⟨by simpa using h1, fun j hj => by rw [h2 j (by omega), getD_set_ne (by omega)]⟩
    simp only [fEn] at h
    cases ht : has t with
    | false => rw [ht] at h; exact key _ h
    | true =>
      rw [ht] at h
      simp only [cond_true, List.mem_flatMap] at h
      obtain ⟨k, _, h⟩ := h
      cases hg : (k == t || c.getD k 0 == (k : Int)) with
      | false => rw [hg] at h; cases h
      | true => rw [hg] at h; exact key _ h

theorem fEn_vals (has : Nat → Bool) : ∀ (f t : Nat) (c d : List Int), f + t = c.length → d ∈ fEn has f t c → ∀ j, t ≤ j → j < c.length → cond (has j) (decide (0 ≤ d.getD j 0) && decide (d.getD j 0 ≤ (j : Int))) (d.getD j 0 == -1) = true := by
  intro f
  induction f with
  | zero => intro t c d hl h j h1 h2; omega
  | succ f ih =>
    intro t c d hl h j h1 h2
    have key : ∀ x : Int, d ∈ fEn has f (t + 1) (c.set t x) → cond (has t) (decide (0 ≤ x) && decide (x ≤ (t : Int))) (x == -1) = true → cond (has j) (decide (0 ≤ d.getD j 0) && decide (d.getD j 0 ≤ (j : Int))) (d.getD j 0 == -1) = true := fun x h hx => by
      by_cases e : j = t
      · subst e
        rw [(fEn_agree has _ _ _ _ h).2 j (by omega), getD_set_eq h2]
        exact hx
      · exact ih (t + 1) (c.set t x) d (by simp; omega) h j (by omega) (by simpa using h2)
    simp only [fEn] at h
    cases ht : has t with
    | false => rw [ht] at h; exact key _ h (by rw [ht]; rfl)
    | true =>
      rw [ht] at h
      simp only [cond_true, List.mem_flatMap, List.mem_range] at h
      obtain ⟨k, hk, h⟩ := h
      cases hg : (k == t || c.getD k 0 == (k : Int)) with
      | false => rw [hg] at h; cases h
      | true => rw [hg] at h; exact key _ h (by rw [ht]; simp; omega)

/-! ## the program's enumeration -/

/-- terms that an assertion names lie in a set -/
def Named (a : GAsn) (has : Nat → Bool) : Prop := (∀ f ∈ a.facts, 0 ≤ f.a ∧ f.a ≤ 8 ∧ 0 ≤ f.b ∧ f.b ≤ 8 ∧ has f.a.toNat = true ∧ has f.b.toNat = true) ∧ (∀ x ∈ a.atoms, 0 ≤ x.a ∧ x.a ≤ 8 ∧ 0 ≤ x.b ∧ x.b ≤ 8 ∧ has x.a.toNat = true ∧ has x.b.toNat = true)

def fulls (has : Nat → Bool) : List (List Int) := fEn has 9 0 (List.replicate 9 0)
theorem fulls_mem {has : Nat → Bool} {d : List Int} (h : d ∈ fulls has) : d.length = 9 ∧ ∀ j, j < 9 → cond (has j) (decide (0 ≤ d.getD j 0) && decide (d.getD j 0 ≤ (j : Int))) (d.getD j 0 == -1) = true :=
  ⟨(fEn_agree has _ _ _ _ h).1, fun j hj => fEn_vals has 9 0 _ d rfl h j (Nat.zero_le _) hj⟩

def fL (c : List Int) (l : List GAtom) : List GAtom := (l.map fun x => (⟨x.kind, cl c x.a, cl c x.b⟩ : GAtom)).filter fun x => x.kind == 1 || !(x.a == x.b)
def sFit (l : List GFact) (c : List Int) : Bool := l.all fun f => !(decide (0 ≤ cl c f.a) && decide (0 ≤ cl c f.b)) || fh c f
def stE (c : List Int) (x : GAtom) : Bool := x.kind == 1 && decide (0 ≤ cl c x.a)
def est (c : List Int) (l : List GAtom) : List Int := (l.filter (stE c)).map fun x => cl c x.a
def okN : List Int → List Int → Bool
  | _, [] => true
  | s, x :: l => !(x == 0) && (!s.contains x && okN (x :: s) l)
def sApart (l : List GAtom) : Bool := okN [] (l.map fun x => x.a)
def sFin (a : GAsn) (c : List Int) : Bool := sApart (fL c a.atoms)
theorem okN_eq : ∀ (l s : List Int), (∀ x ∈ l, isT x = true) → okN s l = okS s l := by
  intro l
  induction l with
  | nil => intros; rfl
  | cons x l ih =>
    intro s h
    simp only [okN, okS, h x (by simp), Bool.true_and]
    rw [ih _ fun y hy => h y (by simp [hy])]

/-! ## steps of the loops -/

def maskS (l : List Int) : Int := l.foldl tsWith 0
theorem maskS_app (l : List Int) (x : Int) : maskS (l ++ [x]) = tsWith (maskS l) x := by simp [maskS]
theorem maskS_bd (l : List Int) : 0 ≤ maskS l ∧ maskS l < 512 := by
  have : ∀ (l : List Int) (z : Int), 0 ≤ z ∧ z < 512 → 0 ≤ l.foldl tsWith z ∧ l.foldl tsWith z < 512 := by
    intro l
    induction l with
    | nil => intro z h; exact h
    | cons x l ih => intro z h; exact ih _ (tsWith_bd h.1 h.2)
  exact this l 0 (by omega)
theorem maskS_has (x : Int) : ∀ (l : List Int), tsHas (maskS l) x = (isT x && l.contains x) := by
  have : ∀ (l : List Int) (z : Int), 0 ≤ z → z < 512 → tsHas (l.foldl tsWith z) x = (tsHas z x || (isT x && l.contains x)) := by
    intro l
    induction l with
    | nil => intro z _ _; simp
    | cons y l ih =>
      intro z h0 h1
      have hb := tsWith_bd (t := y) h0 h1
      rw [List.foldl_cons, ih _ hb.1 hb.2, List.contains_cons]
      cases hy : isT y with
      | true =>
        rw [tsHas_with h0 hy]
        by_cases e : x = y
        · subst e; simp [hy]
        · have e1 : (y == x) = false := by simpa using fun h => e h.symm
          have e2 : (x == y) = false := by simpa using e
          rw [e1, e2]; simp
      | false =>
        rw [tsWith_no hy]
        by_cases e : x = y
        · subst e; simp [hy]
        · have e2 : (x == y) = false := by simpa using e
          rw [e2]; simp
  intro l
  have := this l 0 (by omega) (by omega)
  rw [tsHas_zero, Bool.false_or] at this
  exact this
theorem possF_step {c : List Int} {last : Int} {l : List GFact} {i : Nat} {d : GFact} (h : i < l.length) :
    possF c last (l.take (i + 1)) = (possF c last (l.take i) && (!(decide ((l.getD i d).a ≤ last) && decide ((l.getD i d).b ≤ last)) || fh c (l.getD i d))) := by
  have e : l.take (i + 1) = l.take i ++ [l.getD i d] := by
    rw [List.take_add_one, List.getD_eq_getElem?_getD, List.getElem?_eq_getElem h]; rfl
  unfold possF
  rw [e, List.all_append]
  simp
theorem possI_noF {a : GAsn} {c : List Int} {last : Int} {i : Nat} {d : GFact} (h : i < a.facts.length) (h1 : (a.facts.getD i d).a ≤ last) (h2 : (a.facts.getD i d).b ≤ last) (h3 : fh c (a.facts.getD i d) = false) : possI a c last = false := by
  unfold possI
  have : possF c last a.facts = false := by
    unfold possF
    rw [List.all_eq_false]
    refine ⟨a.facts.getD i d, ?_, ?_⟩
    · rw [List.getD_eq_getElem?_getD, List.getElem?_eq_getElem h]; exact List.getElem_mem h
    · rw [decide_eq_true h1, decide_eq_true h2, h3]; simp
  rw [this]; rfl
theorem possI_noA {a : GAsn} {c : List Int} {last : Int} {i : Nat} {d : GAtom} (h : i < a.atoms.length) (h1 : stB c last (a.atoms.getD i d) = true) (h2 : cl c (a.atoms.getD i d).a = 0 ∨ tsHas (maskS (sts c last (a.atoms.take i))) (cl c (a.atoms.getD i d).a) = true) : possI a c last = false := by
  unfold possI
  have : okS [] (sts c last a.atoms) = false := by
    cases ho : okS [] (sts c last a.atoms) with
    | false => rfl
    | true =>
      obtain ⟨r, hr⟩ := sts_pre c last a.atoms (i + 1)
      rw [hr] at ho
      have h3 := okS_pre _ _ _ ho
      rw [sts_step (d := d) h, h1, cond_true, okS_append] at h3
      simp only [Bool.and_eq_true, Bool.not_eq_true', beq_eq_false_iff_ne] at h3
      rcases h2 with h2 | h2
      · exact (h3.2.1 h2).elim
      · rw [maskS_has] at h2
        have h4 := h3.2.2
        simp only [List.contains_nil, Bool.false_or] at h4
        rw [h2] at h4; cases h4
  rw [this, Bool.and_false]
theorem okS_step {a : GAsn} {c : List Int} {last : Int} {i : Nat} {d : GAtom} (h : i < a.atoms.length) (h0 : okS [] (sts c last (a.atoms.take i)) = true) (h1 : stB c last (a.atoms.getD i d) = true) (h2 : cl c (a.atoms.getD i d).a ≠ 0) (h3 : tsHas (maskS (sts c last (a.atoms.take i))) (cl c (a.atoms.getD i d).a) = false) :
    okS [] (sts c last (a.atoms.take (i + 1))) = true ∧ maskS (sts c last (a.atoms.take (i + 1))) = tsWith (maskS (sts c last (a.atoms.take i))) (cl c (a.atoms.getD i d).a) := by
  rw [sts_step (d := d) h, h1, cond_true, okS_append, h0]
  rw [maskS_has] at h3
  simp only [List.contains_nil, Bool.false_or, h3, Bool.not_false, Bool.and_true, Bool.true_and, maskS_app]
  simpa using h2
theorem sts_skip {c : List Int} {last : Int} {l : List GAtom} {i : Nat} {d : GAtom} (h : i < l.length) (h1 : stB c last (l.getD i d) = false) : sts c last (l.take (i + 1)) = sts c last (l.take i) := by
  rw [sts_step (d := d) h, h1, cond_false]

end Go.SE

namespace Go.SE
open Go.RowKit

section
variable {P : Program} {E : Ty → TypeId} {n : Nat}

variable {tab : TypeId → Option TI} {K : FuncId → Option Con} {pts : FuncId → Option PT} {hp : Nat → Bool} {gcs : Nat → Option (List Nat × List Nat)} {perm : Nat → List (List Nat)}
  {J : JJ CG} {fid l : Nat} {go : List Int → Bool} {T : CG} {a0 : GAsn} {tm t t' : Int} {en en' : List Int → CG}

end
end Go.SE

namespace Go.SE
open Go.RowKit

section
variable {E : Ty → TypeId} {n : Nat}

def liveB (g : G) (st : St) (b : Nat) : Prop := ∃ id r, st.mem id = some r ∧ r.live ∧ blkOf (g.κ id) = some b

structure MFit (g : G) (st : St) (M : MM) : Prop where
  can : ∀ b, liveB g st b → M.can b
  ro : M.ro = g.ro
  rho : M.rho = g.ρ
  pin : ∀ id v, M.pin id = some v → (st.mem id).isSome = true ∧ g.κ id = v
  pinl : ∀ id k, M.pinl id = some k → (st.mem id).isSome = true ∧ g.ln id = k
  rok : ∀ b vs, M.rok b = some vs → g.ro b = some vs

theorem Good.re {w0 w w' : World} {M M' : MM} {g : G} {st : St} (hg : Good E w0 M g st w) (hrd : st.rd = none) (hM : MFit g st M')
    (h1 : ∀ b, liveB g st b → w'.heap[b]? = w.heap[b]?) (h2 : ∀ b vs, g.ro b = some vs → w'.heap[b]? = w.heap[b]?) : Good E w' M' g st w' := by
  refine ⟨Ext.refl _ _, ?_, ?_, hg.sep, ?_, hg.wro, ?_, ?_, fun b vs hb => .inl (by rw [hM.ro]; exact hb), hM.rho.symm, hM.pin, hM.pinl, hM.rok⟩
  · intro b vs hb
    obtain ⟨ty, fz, h3⟩ := hg.ro b vs hb
    exact ⟨ty, fz, by rw [h2 b vs hb]; exact h3⟩
  · intro id r hr
    by_cases hl : r.live
    · exact (hg.res id r hr).keep (fun b hb => h1 b ⟨id, r, hr, hl, hb⟩) (fun _ _ h => h) rfl ⟨rfl, rfl⟩ fun _ _ => ⟨rfl, rfl⟩
    · cases r <;> first | exact (hl trivial).elim | trivial
  · intro id r hr hl b hb
    exact .inr (hM.can b ⟨id, r, hr, hl, hb⟩)
  · intro k hk; rw [hrd] at hk; cases hk
  · intro hk; exact absurd hrd hk

theorem reM_fit (g : G) (st : St) : MFit g st (reM g st) :=
  ⟨fun _ h => h, rfl, rfl, fun _ _ h => (by cases h), fun _ _ h => (by cases h), fun _ _ h => (by cases h)⟩

structure Here (E : Ty → TypeId) (n : Nat) (tmps : Array Value) (g : G) (st : St) (w : World) : Prop where
  cl : Cl st
  size : tmps.size = n
  rd : st.rd = none
  good : Good E w (reM g st) g st w
  env : ∀ x, (st.env x).R g (tmps.getD x undef)

theorem Here.next {tmps : Array Value} {g : G} {st : St} {w w' : World} (h : Here E n tmps g st w) (h1 : ∀ b, liveB g st b → w'.heap[b]? = w.heap[b]?) (h2 : ∀ b vs, g.ro b = some vs → w'.heap[b]? = w.heap[b]?) : Here E n tmps g st w' :=
  ⟨h.cl, h.size, h.rd, h.good.re h.rd (reM_fit g st) h1 h2, h.env⟩

theorem liveB_cells {w0 w : World} {M : MM} {g : G} {st : St} (hg : Good E w0 M g st w) {b : Nat} (hb : liveB g st b) : ∃ vs ty, w.heap[b]? = some (.cells vs ty (0, 0)) := by
  obtain ⟨id, r, hm, hl, hb⟩ := hb
  have := hg.res id r hm
  cases r with
  | blk cs => obtain ⟨b', vs, ty, h1, h2, h3⟩ := this; simp [h1, blkOf] at hb; subst hb; exact ⟨_, _, h2⟩
  | vec t xs => obtain ⟨h0, b', vs, ty, h1, h2, h3, h4⟩ := this; simp [h1, blkOf] at hb; subst hb; exact ⟨_, _, h2⟩
  | sl f t xs =>
    obtain ⟨h0, h⟩ := this
    rcases h with ⟨h1, h2⟩ | ⟨b', cap, cur, h1, h2, h3, h4, h5, h6⟩
    · simp [h1, blkOf] at hb
    · simp [h1, blkOf] at hb; subst hb; exact ⟨_, _, h2⟩
  | dead => exact hl.elim

theorem ro_cells {w0 w : World} {M : MM} {g : G} {st : St} (hg : Good E w0 M g st w) {b : Nat} {vs : Array Value} (hb : g.ro b = some vs) : ∃ ty fz, w.heap[b]? = some (.cells vs ty fz) := hg.ro b vs hb

structure Own' where
  l : Nat
  dB : Nat
  mkr : LoopState → Option Code → Loop
  tmps : Array Value
  ρ : Nat

end
end Go.SE

namespace Go.SE
open Go.RowKit

section
variable {E : Ty → TypeId} {n : Nat}

structure Close (E : Ty → TypeId) (n : Nat) (tmps : Array Value) (w2 : World) (M2 : MM) (g : G) (st : St) (w : World) : Prop where
  cl : Cl st
  rd : st.rd = none
  good : Good E w2 { can := M2.can, ro := M2.ro, rho := M2.rho } g st w
  env : ∀ x, (st.env x).R g (tmps.getD x undef)

variable {P : Program} {tab : TypeId → Option TI} {K : FuncId → Option Con} {pts : FuncId → Option PT} {hp : Nat → Bool} {gcs : Nat → Option (List Nat × List Nat)} {anns : Nat → St → Unit → Option (AnnY Unit)} {perm : Nat → List (List Nat)}

end
end Go.SE

namespace Go.SE
open Go.RowKit

section
variable {P : Program} {E : Ty → TypeId} {tab : TypeId → Option TI} {K : FuncId → Option Con} {pts : FuncId → Option PT} {hp : Nat → Bool} {gcs : Nat → Option (List Nat × List Nat)} {perm : Nat → List (List Nat)}
  {J : JJ CG} {fid f1 l : Nat} {go : List Int → Bool} {T : CG} {a0 : GAsn} {tm t : Int} {en : List Int → CG}

end
end Go.SE
