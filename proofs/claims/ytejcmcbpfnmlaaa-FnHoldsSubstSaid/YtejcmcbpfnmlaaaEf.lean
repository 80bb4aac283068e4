/-
  Parts of a symbolic engine over the program's code: how operations, regions, loops and calls are shown to keep contracts. No conditions.
-/
import Derived.Test.YtejcmcbpfnmlaaaEe
set_option linter.unusedSimpArgs false
set_option linter.unusedVariables false
set_option linter.unusedSectionVars false

namespace Go.SE
open Go.RowKit

section
variable {s : GState} {a : GAsn} {i j : Nat}
theorem al_yes {n : Int} (h1 : 1 ≤ n) (h2 : n ≤ 8) : decide (0 ≤ s.heap.getD (n - 1).toNat 0) = al s n := by
  unfold al ct; rw [if_pos ⟨h1, h2⟩]
theorem al_no {n : Int} (h : ¬ (1 ≤ n ∧ n ≤ 8)) : false = al s n := by
  unfold al ct; rw [if_neg h]; rfl
theorem fil_len {α : Type} {p q : α → Bool} : ∀ {l : List α}, (∀ n ∈ l, p n = true → q n = true) → (l.filter p).length ≤ (l.filter q).length ∧ ((l.filter p).length = (l.filter q).length ↔ ∀ n ∈ l, p n = q n) := by
  intro l
  induction l with
  | nil => intro _; exact ⟨Nat.le_refl _, ⟨fun _ _ h => (by cases h), fun _ => rfl⟩⟩
  | cons x l ih =>
    intro h
    obtain ⟨i1, i2⟩ := ih fun n hn => h n (by simp [hn])
    have hx := h x (by simp)
    cases hp : p x with
    | true =>
      have hq := hx hp
      simp only [List.filter_cons, hp, hq, if_true, List.length_cons, List.mem_cons, forall_eq_or_imp]
      refine ⟨by omega, ?_⟩
      rw [← i2]
      constructor
      · intro e; exact ⟨trivial, by omega⟩
      · rintro ⟨_, e⟩; omega
    | false =>
      cases hq : q x with
      | true =>
        simp only [List.filter_cons, hp, hq, if_true, List.length_cons, List.mem_cons, forall_eq_or_imp, Bool.false_eq_true, if_false]
        refine ⟨by omega, ⟨fun e => by omega, fun e => by cases e.1⟩⟩
      | false =>
        simp only [List.filter_cons, hp, hq, List.mem_cons, forall_eq_or_imp, Bool.false_eq_true, if_false, true_and]
        exact ⟨i1, i2⟩
theorem hol_len (h : poB s a = true) : (((flL (fl9 (fun t => (poL s a).contains t))).length : Int) == ((usL s 8).length : Int)) = HOL s a := by
  obtain ⟨hs, ha, _⟩ := po_v h
  rw [flL_fl9, hol_po hs ha, h, Bool.true_and]
  have h0 : (poL s a).contains 0 = false := by
    rw [con_no]
    intro hm
    have := al_range (po_al h 0 hm)
    omega
  have e1 : terms9.filter (fun t => (poL s a).contains t) = addrs.filter (fun t => (poL s a).contains t) := by
    rw [show terms9 = 0 :: addrs from rfl, List.filter_cons, h0]
    simp
  rw [e1, show usL s 8 = addrs.filter (al s) from rfl]
  have key := (fil_len (p := fun t => (poL s a).contains t) (q := al s) (l := addrs) fun n _ hn => po_al h n (List.contains_iff_mem.1 hn)).2
  rw [Bool.eq_iff_iff, beq_iff_eq, List.all_eq_true]
  constructor
  · intro e n hn
    have := key.1 (by omega) n hn
    simpa using this
  · intro e
    have := key.2 fun n hn => by simpa using e n hn
    omega
theorem us_len (i : Nat) (h : i ≤ 8) : (usL s i).length ≤ 8 := by
  unfold usL
  refine Nat.le_trans (List.length_filter_le _ _) ?_
  rw [List.length_take]; omega
theorem us_c1 (hi : (i : Int) + 1 ≤ 8) (h : al s ((i : Int) + 1) = true) : usL s i ++ [(i : Int) + 1] = usL s (i + 1) := by rw [usL_step (by omega), h]; rfl
theorem us_c2 (hi : (i : Int) + 1 ≤ 8) (h : al s ((i : Int) + 1) = false) : usL s i = usL s (i + 1) := by rw [usL_step (by omega), h]; rfl
theorem us_c3 (h : stV s = false) (hi : stV s = true ∨ i = 0) : usL s i = cond (stV s) (usL s 8) [] := by
  rcases hi with hi | hi
  · rw [h] at hi; cases hi
  · rw [h, hi]; rfl
theorem us_c4 (h : i ≤ 8) (hi : ¬ (i : Int) + 1 ≤ 8) (ho : stV s = true ∨ i = 0) : usL s i = cond (stV s) (usL s 8) [] := by
  rcases ho with ho | ho
  · rw [ho, show i = 8 by omega]; rfl
  · omega
/-! ## flags -/
theorem fk_zero : List.replicate 9 false = fl9 (fun t => (ptL s a.atoms 0).contains t) := fl9_zero
theorem fk_get {L : List Int} {n : Int} (h : isAd n = true) : (fl9 (fun t => L.contains t)).getD n.toNat false = L.contains n := fl9_get (isAd_T h)
theorem fk_set {L : List Int} {n : Int} (h : isAd n = true) : (fl9 (fun t => L.contains t)).set n.toNat true = fl9 (fun t => (L ++ [n]).contains t) := by
  rw [fl9_set (isAd_T h)]
  refine fl9_congr fun t => ?_
  rw [Bool.eq_iff_iff]
  simp only [Bool.or_eq_true, List.contains_iff_mem, beq_iff_eq, List.mem_append, List.mem_singleton]
  constructor
  · rintro (h | h)
    · exact .inl h
    · exact .inr h.symm
  · rintro (h | h)
    · exact .inl h
    · exact .inr h.symm
theorem take_app {L c : List Int} (hj : j < c.length) : L ++ c.take (j + 1) = (L ++ c.take j) ++ [c.getD j 0] := by
  rw [List.take_add_one, List.getElem?_eq_getElem hj, List.getD_eq_getElem?_getD, List.getElem?_eq_getElem hj, List.append_assoc]
  rfl
theorem pa_g (hb : acB s (a.atoms.getD i ⟨0, 0, 0⟩) = true) (hj : j < (acL s (a.atoms.getD i ⟨0, 0, 0⟩)).length) {L : List Int} : (fl9 (fun t => (L ++ (acL s (a.atoms.getD i ⟨0, 0, 0⟩)).take j).contains t)).set ((acL s (a.atoms.getD i ⟨0, 0, 0⟩)).getD j 0).toNat true = fl9 (fun t => (L ++ (acL s (a.atoms.getD i ⟨0, 0, 0⟩)).take (j + 1)).contains t) := by
  rw [fk_set (ac_get hb hj), take_app hj]
theorem pa_dup (hs : stV s = true) (ha : asV a = true) (hf : fctB s a.facts = true) (h : ptI s a.atoms i) (hi : i < a.atoms.length) (hb : acB s (a.atoms.getD i ⟨0, 0, 0⟩) = true) (hj : j < (acL s (a.atoms.getD i ⟨0, 0, 0⟩)).length) (hc : (fl9 (fun t => (ptL s a.atoms i ++ (acL s (a.atoms.getD i ⟨0, 0, 0⟩)).take j).contains t)).getD ((acL s (a.atoms.getD i ⟨0, 0, 0⟩)).getD j 0).toNat false = true) : false = poB s a := by
  rw [fk_get (ac_get hb hj)] at hc
  exact (po_none hs ha hf (pt_dup hs (asV_facts ha).2.2.1 h hi hj hc)).2.symm
theorem pa_go (hb : acB s (a.atoms.getD i ⟨0, 0, 0⟩) = true) (hj : j < (acL s (a.atoms.getD i ⟨0, 0, 0⟩)).length) {L : List Int} (hc : (fl9 (fun t => (L ++ (acL s (a.atoms.getD i ⟨0, 0, 0⟩)).take j).contains t)).getD ((acL s (a.atoms.getD i ⟨0, 0, 0⟩)).getD j 0).toNat false = false) (hn : nw L (acL s (a.atoms.getD i ⟨0, 0, 0⟩)) j) : nw L (acL s (a.atoms.getD i ⟨0, 0, 0⟩)) (j + 1) := by
  rw [fk_get (ac_get hb hj)] at hc
  exact nw_step hn hc
theorem pa_no (hs : stV s = true) (ha : asV a = true) (h : (a.facts.all (holdF s.vals)) = false) : false = poB s a := (po_bad3 h).2.symm
theorem pa_bad (hs : stV s = true) (ha : asV a = true) (hf : fctB s a.facts = true) (h : ptI s a.atoms i) (hi : i < a.atoms.length) (hb : acB s (a.atoms.getD i ⟨0, 0, 0⟩) = false) : false = poB s a := (po_none hs ha hf (pt_bad hs (asV_facts ha).2.2.1 h hi hb)).2.symm
theorem pa_n (hs : stV s = true) (ha : asV a = true) (h : ptI s a.atoms i) (hi : i < a.atoms.length) (hb : acB s (a.atoms.getD i ⟨0, 0, 0⟩) = true) (hj : ¬ j < (acL s (a.atoms.getD i ⟨0, 0, 0⟩)).length) (hj2 : j ≤ (acL s (a.atoms.getD i ⟨0, 0, 0⟩)).length) (hn : nw (ptL s a.atoms i) (acL s (a.atoms.getD i ⟨0, 0, 0⟩)) j) : ptI s a.atoms (i + 1) ∧ fl9 (fun t => (ptL s a.atoms i ++ (acL s (a.atoms.getD i ⟨0, 0, 0⟩)).take j).contains t) = fl9 (fun t => (ptL s a.atoms (i + 1)).contains t) := by
  refine ⟨pt_next hs (asV_facts ha).2.2.1 h hi hb hj hj2 hn, ?_⟩
  rw [ptL_succ hi, List.take_of_length_le (by omega)]
theorem pa_e (hs : stV s = true) (ha : asV a = true) (hf : fctB s a.facts = true) (h : ptI s a.atoms i) (hi : ¬ i < a.atoms.length) : true = poB s a ∧ fl9 (fun t => (ptL s a.atoms i).contains t) = fl9 (fun t => (poL s a).contains t) := by
  obtain ⟨a1, a2⟩ := po_some hs ha hf (pt_end h hi)
  rw [a1, a2]; exact ⟨rfl, rfl⟩
theorem pa_idx (hb : acB s (a.atoms.getD i ⟨0, 0, 0⟩) = true) (hj : j < (acL s (a.atoms.getD i ⟨0, 0, 0⟩)).length) : 0 ≤ (acL s (a.atoms.getD i ⟨0, 0, 0⟩)).getD j 0 ∧ (acL s (a.atoms.getD i ⟨0, 0, 0⟩)).getD j 0 < ((9 : Nat) : Int) := by
  have := isAd_iff.1 (ac_get hb hj)
  omega
/-! ## walks and cells -/
theorem al_dom (hs : stV s = true) {n : Int} (h : al s n = true) : 1 ≤ n ∧ n ≤ 8 ∧ n - 1 < (s.heap.length : Int) ∧ 0 ≤ n - 1 := by
  have := al_range h; have := stV_all hs; omega
theorem ct_al {n : Int} (h : al s n = true) : ct s n = s.heap.getD (n - 1).toNat 0 := ct_yes (al_isAd h)
theorem wk_go2 {x y q : Int} {w : List Int} (hs : stV s = true) (h : wkI s x y w q) (e : ¬ q = y) (ha : al s q = true) (hl : w.length < 8) : wkI s x y (w ++ [q]) (s.heap.getD (q - 1).toNat 0) := by
  rw [← ct_al ha]; exact wk_go hs h e ha hl
theorem ac_tv {x : GAtom} (hs : stV s = true) (hx : atV x = true) : isT (tv s.vals x.a) = true ∧ isT (tv s.vals x.b) = true :=
  ⟨isT_iff.2 (tv_isT hs (atV_isT hx).1), isT_iff.2 (tv_isT hs (atV_isT hx).2)⟩
theorem ac_no2 {x : GAtom} (hs : stV s = true) (hx : atV x = true) (hk : ¬ x.kind = 2) (h : al s (tv s.vals x.a) = false) : acL s x = [] ∧ acB s x = false := by
  refine ac_no hs hx hk fun e => ?_
  have := isT_iff.1 (ac_tv hs hx).2
  unfold al at h
  rw [decide_eq_false_iff_not] at h
  omega
theorem ac_no3 {x : GAtom} (hs : stV s = true) (hx : atV x = true) (hk : ¬ x.kind = 2) (ha : al s (tv s.vals x.a) = true) (h : ¬ s.heap.getD (tv s.vals x.a - 1).toNat 0 = tv s.vals x.b) : acL s x = [] ∧ acB s x = false := ac_no hs hx hk (by rw [ct_al ha]; exact h)
theorem ac_yes2 {x : GAtom} (hs : stV s = true) (hx : atV x = true) (hk : ¬ x.kind = 2) (ha : al s (tv s.vals x.a) = true) (h : s.heap.getD (tv s.vals x.a - 1).toNat 0 = tv s.vals x.b) : acL s x = [tv s.vals x.a] ∧ acB s x = true := ac_yes hs hx hk (by rw [ct_al ha]; exact h)
theorem pa_fac (ha : asV a = true) : a.facts.length ≤ 1048576 ∧ a.facts.all fV = true := by
  obtain ⟨h1, h2, h3, h4⟩ := asV_facts ha
  exact ⟨by omega, h1⟩
theorem pa_at (ha : asV a = true) (hi : i < a.atoms.length) : atV (a.atoms.getD i ⟨0, 0, 0⟩) = true := all_get (asV_facts ha).2.2.1 hi
theorem pa_j {L : List Int} (h : j < (acL s (a.atoms.getD i ⟨0, 0, 0⟩)).length) : (j : Int) + 1 ≤ 9223372036854775807 := jb h
theorem hol_q {x : Bool} {L : List Bool} (hs : stV s = true) (e : x = poB s a) (h : x = true) (hr : x = true → L = fl9 (fun t => (poL s a).contains t)) : (((flL L).length : Int) == ((cond (stV s) (usL s 8) []).length : Int)) = HOL s a := by
  rw [hs, hr h]; exact hol_len (e.symm.trans h)
theorem pa_idx2 {p : Int → Bool} (hb : acB s (a.atoms.getD i ⟨0, 0, 0⟩) = true) (hj : j < (acL s (a.atoms.getD i ⟨0, 0, 0⟩)).length) : 0 ≤ (acL s (a.atoms.getD i ⟨0, 0, 0⟩)).getD j 0 ∧ (acL s (a.atoms.getD i ⟨0, 0, 0⟩)).getD j 0 < ((fl9 p).length : Int) := by
  rw [fl9_len]; exact pa_idx hb hj
theorem pa_i (ha : asV a = true) (hi : i < a.atoms.length) : (i : Int) + 1 ≤ 9223372036854775807 := by
  have := (asV_facts ha).2.2.2; omega
end
end Go.SE

namespace Go.SE
open Go.RowKit

section
variable {a : GAsn} {l : List Int} {i : Nat}
theorem tv_T (hl : l.length = 8) (hall : l.all isT = true) {t : Int} (ht : isT t = true) : isT (tv l t) = true := by
  obtain ⟨t0, t8⟩ := isT_iff.1 ht
  unfold tv
  split
  · rfl
  · have hi : (t - 1).toNat < l.length := by omega
    have := List.all_eq_true.1 hall _ (List.getElem_mem hi)
    rw [List.getD_eq_getElem?_getD, List.getElem?_eq_getElem hi]
    exact this
theorem all_set (h : l.all isT = true) {n : Nat} {v : Int} (hv : isT v = true) : (l.set n v).all isT = true := by
  rw [List.all_eq_true] at h ⊢
  intro x hx
  rcases List.mem_or_eq_of_mem_set hx with hx | hx
  · exact h x hx
  · rw [hx]; exact hv
theorem mem_T {r k n : Int} (h : r ∈ [0, n, n, 1 + k]) (hn : 1 ≤ n ∧ n ≤ 8) (hk : 1 ≤ (5 : Int) → 0 ≤ k ∧ k < 5) : isT r = true := by
  have hk := hk (by omega)
  simp only [List.mem_cons, List.not_mem_nil, or_false] at h
  rw [isT_iff]; omega
theorem bu_f (ha : asV a = true) (hi : i < a.facts.length) : isT (a.facts.getD i ⟨false, 0, 0⟩).a = true ∧ isT (a.facts.getD i ⟨false, 0, 0⟩).b = true ∧ a.facts.length ≤ 12 := by
  have h := fV_isT (all_get (d := (⟨false, 0, 0⟩ : GFact)) (asV_facts ha).1 hi)
  exact ⟨h.1, h.2, (asV_facts ha).2.1⟩
theorem bu_a (ha : asV a = true) (hi : i < a.atoms.length) : isT (a.atoms.getD i ⟨0, 0, 0⟩).a = true ∧ isT (a.atoms.getD i ⟨0, 0, 0⟩).b = true ∧ a.atoms.length ≤ 6 := by
  have h := atV_isT (pa_at ha hi)
  exact ⟨h.1, h.2, (asV_facts ha).2.2.2⟩
theorem bu_fa (ha : asV a = true) (hi : i < a.facts.length) : (a.facts.getD i ⟨false, 0, 0⟩).a ≤ 8 ∧ a.facts.length ≤ 12 := by
  have h := bu_f ha hi
  exact ⟨(isT_iff.1 h.1).2, h.2.2⟩
theorem bu_v (ha : asV a = true) (hi : i < a.atoms.length) (hl : l.length = 8) (hall : l.all isT = true) : 0 ≤ tv l (a.atoms.getD i ⟨0, 0, 0⟩).a ∧ tv l (a.atoms.getD i ⟨0, 0, 0⟩).a ≤ 8 ∧ a.atoms.length ≤ 6 :=
  have h := bu_a ha hi
  ⟨(isT_iff.1 (tv_T hl hall h.1)).1, (isT_iff.1 (tv_T hl hall h.1)).2, h.2.2⟩
theorem bu_v1 (ha : asV a = true) (hi : i < a.atoms.length) (hl : l.length = 8) (hall : l.all isT = true) : -9223372036854775808 ≤ tv l (a.atoms.getD i ⟨0, 0, 0⟩).a - 1 := by have := bu_v ha hi hl hall; omega
theorem bu_v2 (ha : asV a = true) (hi : i < a.atoms.length) (hl : l.length = 8) (hall : l.all isT = true) : tv l (a.atoms.getD i ⟨0, 0, 0⟩).a - 1 ≤ 9223372036854775807 := by have := bu_v ha hi hl hall; omega
theorem bu_v3 (ha : asV a = true) (hi : i < a.atoms.length) (hl : l.length = 8) (hall : l.all isT = true) (h : ¬ tv l (a.atoms.getD i ⟨0, 0, 0⟩).a = 0) : 0 ≤ tv l (a.atoms.getD i ⟨0, 0, 0⟩).a - 1 := by have := bu_v ha hi hl hall; omega
theorem bu_v4 {m : List Int} (ha : asV a = true) (hi : i < a.atoms.length) (hl : l.length = 8) (hall : l.all isT = true) (h : m.length = 8) : tv l (a.atoms.getD i ⟨0, 0, 0⟩).a - 1 < (m.length : Int) := by have := bu_v ha hi hl hall; omega
end
end Go.SE

namespace Go.SE
open Go.RowKit

section
variable {P : Program} {E : Ty → TypeId} {tab : TypeId → Option TI} {w0 : World} {M : MM} {n : Nat} {o : Oper} {st : St} {a : Act} {w : World}

def opensX (fo : Nat) : List Oper → Option (Nat × Nat × List Oper)
  | ⟨some d1, .move (.tmp 0), _, _, _, none⟩ :: ⟨some d2, .call ⟨.value (.func f), args, _⟩, _, _, _, none⟩ :: l =>
    match args.toList with
    | [.tmp e1] => if e1 = d1 ∧ f = fo then some (d1, d2, l) else none
    | _ => none
  | _ => none
theorem opensX_some {fo : Nat} {l l2 : List Oper} {d1 d2 : Nat} (h : opensX fo l = some (d1, d2, l2)) : ∃ o1 o2 args tys, l = o1 :: o2 :: l2 ∧ o1.dst = some d1 ∧ o1.op = .move (.tmp 0) ∧ o1.guard = none ∧
    o2.dst = some d2 ∧ o2.op = .call ⟨.value (.func fo), args, tys⟩ ∧ args.toList = [.tmp d1] ∧ o2.guard = none := by
  unfold opensX at h
  split at h
  · split at h
    · rename_i ha
      split at h
      · rename_i e
        obtain ⟨rfl, rfl⟩ := e
        injection h with h
        injection h with h1 h
        injection h with h2 h3
        subst h1 h2 h3
        exact ⟨_, _, _, _, rfl, rfl, rfl, rfl, rfl, rfl, ha, rfl⟩
      · cases h
    · cases h
  · cases h
def openSX (d1 d2 : Nat) (st : St) : St :=
  { st with env := upd (upd st.env d1 (st.env 0)) d2 (.s (.c .rdr)), rd := some 0 }
def openKX (tab : TypeId → Option TI) (K : FuncId → Option Con) (pts : FuncId → Option PT) (hp : Nat → Bool) (anns : Nat → St → Option Ann) (perm : Nat → List (List Nat)) (gl : List Nat × List Nat) (n : Nat) (ops : Array Oper) (rest : Code) (Q : XK → St → Prop) (st1 : St) : Option (Nat × Nat × List Oper) → Prop
  | some (d1, d2, l) => (d1 < n ∧ d2 < n ∧ d1 ≠ 0) ∧ st1.rd = none ∧ gcB gl.1 gl.2 st1 = true ∧ (noREB st1.env gl.1 && noRMB st1.mem gl.2) = true ∧ openA ((gcSt (fun _ => none) gl.1 gl.2 st1).env 0) ∧
      vcOpsP tab K pts ops l (openSX d1 d2 (gcSt (fun _ => none) gl.1 gl.2 st1)) fun st' => vcQ tab K pts hp (fun _ => none) anns perm rest st' Q
  | none => False

def vcOpenX (tab : TypeId → Option TI) (K : FuncId → Option Con) (pts : FuncId → Option PT) (hp : Nat → Bool) (anns : Nat → St → Option Ann) (perm : Nat → List (List Nat)) (gl : List Nat × List Nat) (fo n : Nat) : Code → St → (XK → St → Prop) → Prop
  | .seq c0 (.seq (.region _ ops false) rest), st, Q => vcQ tab K pts hp (fun _ => none) anns perm c0 st (seqK (fun st1 => openKX tab K pts hp anns perm gl n ops rest Q st1 (opensX fo ops.toList)) Q)
  | _, _, _ => False

theorem draw_fnX {K : FuncId → Option Con} {pts : FuncId → Option PT} {hp : Nat → Bool} {gl : List Nat × List Nat} (ht : TabOk P E tab) (hmix : P.follows .mixedOrders = true) (hKA : KAll P E K) (hPA : PAll P E pts) {perm : Nat → List (List Nat)} {fo : FuncId} (hopen : OpenOk P fo)
    (hfo : ∃ fn c, P.funcs[fo]? = some fn ∧ (fn.name == "runtime.NumGoroutine") = false ∧ fn.body = some c) {f : FuncId} {fn : Func} {con : Con} (hf : P.funcs[f]? = some fn) (hb : fn.body = some (bodyOf fn))
    (hname : (fn.name == "runtime.NumGoroutine") = false) (hn : con.aks.length ≤ fn.ntmps) (hok : codeOkP tab K hp perm fn.ntmps (bodyOf fn) = true) (hrd : hasRdr con.aks = false) (hrk : noRk con.rks = true) {anns : Args con.aks → Nat → St → Option Ann}
    (hvc : ∀ x, con.pre x → vcOpenX tab K pts hp (anns x) perm gl fo fn.ntmps (bodyOf fn) (entry (encs con.aks x) none) (retOk tab con fn.results.toList x 0)) (htot : ∀ x, con.pre x → ∃ r, con.post x r) : FnOk P E f con := by
  refine ⟨⟨fn, _, hf, hname, hb⟩, ?_, htot⟩
  intro w0 ro0 ρ k x vs id0 hpre hin _ hargs
  have hlen : vs.length = con.aks.length := by
    rw [hargs.1]
    have : ∀ (ks : List AK) (x : Args ks), (encs ks x).length = ks.length := by
      intro ks
      induction ks with
      | nil => intro x; rfl
      | cons k ks ih => intro x; obtain ⟨x, xs⟩ := x; simp [encs, ih]
    exact this _ _
  refine calls_of_wp hf hb ?_
  -- the end
  have fin : ∀ (ρ' : Nat) (st' : St) (a' : Act) (w' : World), Rel E w0 (MOf false ρ' ro0) fn.ntmps st' a' w' → retOk tab con fn.results.toList x 0 .ret st' →
      a'.defers = [] ∧ ∃ v, (results fn a'.tmps).run P w' = .ok v w' ∧ ∃ v1 r g, Ending.returned v = .returned v1 ∧ con.post x r ∧ Ext (fun b => hasRdr con.aks = true ∧ b = ρ) w0 w' ∧ g.ρ = ρ ∧ ResOk E w0 w' ro0 con.rks id0 r v1 g ∧ (hasRdr con.aks = true → RdStep w0 w' ρ (k + con.cost x)) := by
    intro ρ' st' a' w' hr hv
    have hr' : Rel E w0 (MOf (hasRdr con.aks) ρ' ro0) fn.ntmps st' a' w' := by rw [hrd]; exact hr
    obtain ⟨v, h1, r, g, h2, h3, h4, h5, h6⟩ := exit_ok (k := 0) id0 ht hin (fun h => by rw [hrd] at h; cases h) hr' hv
    refine ⟨hr.defers, v, h1, v, r, { g with ρ := ρ }, rfl, h2, ⟨h3.os, h3.tape, h3.output, h3.size, fun c hc _ => h3.block c hc fun ⟨h, _⟩ => by rw [hrd] at h; cases h⟩, rfl, ⟨h5.ro, h5.ro', ?_, ?_, h5.new, h5.dist⟩, fun h => by rw [hrd] at h; cases h⟩
    · exact S.R.rho (pack1_noR (ress_noR _ _ _ hrk)) h5.val
    · intro id q hq
      have := h5.res id q hq
      obtain ⟨_, _, f', t, xs, e⟩ := ress_range _ _ _ _ _ hq
      subst e
      exact this
  have hv0 := hvc x hpre
  revert hok hv0
  generalize bodyOf fn = body
  intro hok hv0
  unfold vcOpenX at hv0
  split at hv0
  · rename_i c0 rid ops rest
    simp only [codeOkP, Bool.and_eq_true] at hok
    have hrel : Rel E w0 (MOf false ρ ro0) fn.ntmps (entry (encs con.aks x) (rdOf false 0)) { tmps := vs.toArray ++ Array.replicate (fn.ntmps - vs.toArray.size) undef, defers := [] } w0 := entry_rel hin (fun h => by cases h) hargs (by omega)
    refine wp_seq (codeQ_sound ht hKA hPA hmix (draw_sound ht (tab_small ht) hKA hmix _ _ _) OOk.none c0 _ _ _ _ _ hok.1 hrel hv0 ?_)
    intro xk st1 a1 w1 hr1 hk1
    cases xk with
    | exit id => exact hk1.elim
    | ret => exact fin ρ st1 a1 w1 hr1 hk1
    | normal =>
      have hk1 : openKX tab K pts hp (anns x) perm gl fn.ntmps ops rest (retOk tab con fn.results.toList x 0) st1 (opensX fo ops.toList) := hk1
      unfold openKX at hk1
      split at hk1
      · rename_i e1' e2' l2 hd
        obtain ⟨d, hde⟩ : ∃ d : Nat × Nat, d = (e1', e2') := ⟨_, rfl⟩
        have hd1' : e1' = d.1 := by rw [hde]
        have hd2' : e2' = d.2 := by rw [hde]
        subst hd1' hd2'
        clear hde
        obtain ⟨⟨hd1, hd2, hd0⟩, hrd1, hgc, hnr, hA, hvr⟩ := hk1
        simp only [Bool.and_eq_true] at hnr
        have hno := noR_gc hnr.1 hnr.2
        unfold gcB at hgc
        simp only [Bool.and_eq_true] at hgc
        replace hr1 := hr1.gc (OOk.none (ρ := ρ) (ro0 := ro0)) (live := gl.1) (ids := gl.2) ⟨closedEB_ok hgc.1, closedMB_ok hgc.2, fun j hj => (by cases hj)⟩
        replace hrd1 : (gcSt (fun _ => none) gl.1 gl.2 st1).rd = none := hrd1
        generalize gcSt (fun _ => none) gl.1 gl.2 st1 = st1 at hr1 hrd1 hno hA hvr
        obtain ⟨o1, o2, args, tys, hl, e1, e2, e3, e4, e5, e6, e7⟩ := opensX_some hd
        refine wp_seq (wp_region_list ?_)
        have hops := opsOk_mem (show opsOk fn.ntmps ops.toList = true from hok.2.1.1)
        rw [hl] at hops ⊢
        -- the text
        unfold wpList
        rw [if_pos (by simp [Region.wanted, e3])]
        refine .inl ?_
        unfold Oper.wp
        rw [show (execOp a1.eval o1).run P w1 = .ok (.value (a1.eval (.tmp 0))) w1 by simp [execOp, e2], Oper.upon_value, e1]
        have hS : ∃ code, st1.env 0 = .s (.c (.d (.arr .u8 code))) := by
          unfold openA at hA
          split at hA
          · rename_i c hc; exact ⟨c, hc⟩
          · exact hA.elim
        obtain ⟨code, henv0⟩ := hS
        have hev : a1.eval (.tmp 0) = a1.tmps.getD 0 undef := rfl
        have hr2 := hr1.put1 hd1 (s := st1.env 0) (v := a1.eval (.tmp 0)) (fun g _ henv => henv 0) (fun id hid => hr1.cl.1 0 id hid)
        have hno2 : NoR { st1 with env := upd st1.env d.1 (st1.env 0) } := ⟨fun y => by
          show noRS (upd st1.env d.1 (st1.env 0) y) = true
          by_cases e : y = d.1
          · subst e; rw [upd_same]; exact hno.1 0
          · rw [upd_ne _ _ e]; exact hno.1 y, hno.2⟩
        generalize ha2 : a1.put (some d.1) (a1.eval (.tmp 0)) = a2 at hr2 ⊢
        -- the call
        unfold wpList
        rw [if_pos (by simp [Region.wanted, e7])]
        refine .inl ?_
        obtain ⟨fn', c', hf', hname', hbody'⟩ := hfo
        unfold Oper.wp
        rw [run_call hf' hname' hbody' e5, Oper.upon_enter]
        obtain ⟨g, hg, henv⟩ := hr2.good
        have hargv : args.map a2.eval = #[a2.tmps.getD d.1 undef] := by
          apply Array.ext'
          rw [Array.toList_map, e6]
          rfl
        rw [hargv]
        have hdr : DR g.ro (.arr .u8 code) (a2.tmps.getD d.1 undef) := by
          have h1 := henv d.1
          have h2 : ({ st1 with env := upd st1.env d.1 (st1.env 0) } : St).env d.1 = .s (.c (.d (.arr .u8 code))) := by
            show upd st1.env d.1 (st1.env 0) d.1 = _
            rw [upd_same]; exact henv0
          rw [h2] at h1
          exact h1
        refine Calls.mono (hopen w1 g.ro code _ hg.ro hdr) fun e w2 he => ?_
        obtain ⟨b, ro', rfl, q1, q2, q3, q4, q5⟩ := he
        have hr3 := rel_open hr2 hg henv hrd1 hno2 q1 q2 q3 q4 q5
        rw [e4]
        have hr4 := hr3.put1 hd2 (s := .s (.c .rdr)) (v := .pointer (some ⟨b, 0, none⟩)) (fun g' hg' _ => by
          show _ = _
          rw [hg'.rho]; rfl) (fun id hid => by simp [S.refs, S0.refs, CV.refs] at hid)
        refine seqP_sound ht hKA hPA (k := fun st' => vcQ tab K pts hp (fun _ => none) (anns x) perm rest st' (retOk tab con fn.results.toList x 0)) (fun st' a' w' hr' hk' => ?_) l2 _ _ _ (fun o ho => hops o (by simp [ho])) hr4 hvr
        refine codeQ_sound ht hKA hPA hmix (draw_sound ht (tab_small ht) hKA hmix _ _ _) OOk.none rest _ _ _ (retOk tab con fn.results.toList x 0) _ hok.2.2 hr' hk' ?_
        intro xk st' a' w' hr hk
        cases xk with
        | normal => exact fin b st' a' w' hr hk
        | ret => exact fin b st' a' w' hr hk
        | exit id => exact hk.elim
      · exact hk1.elim
  · exact hv0.elim
end
end Go.SE

namespace Go.SE
open Go.RowKit

def mdV (c : List Int) : Nat → List Int × Int
  | 0 => (List.replicate 8 0, 0)
  | i + 1 => cond (cl c ((i + 1 : Nat) : Int) == ((i + 1 : Nat) : Int)) ((mdV c i).1.set i ((mdV c i).2 + 1), (mdV c i).2 + 1)
      (cond (decide (0 < cl c ((i + 1 : Nat) : Int))) ((mdV c i).1.set i ((mdV c i).1.getD (cl c ((i + 1 : Nat) : Int) - 1).toNat 0), (mdV c i).2) (mdV c i))
structure CaseOk (a : GAsn) (c : List Int) : Prop where
  len : c.length = 9
  le : ∀ t : Nat, t < 9 → cl c t ≤ t
  le8 : le8 c = true
  idx : ∀ x ∈ fL c a.atoms, isT x.a = true ∧ isT x.b = true ∧ 1 ≤ tv (mdV c 8).1 x.a ∧ tv (mdV c 8).1 x.a ≤ 8
end Go.SE

namespace Go.SE
open Go.RowKit

section
variable {fin : List Int → Bool} {a : GAsn} {tm : List Bool} {c : List Int} {t : Int} {i : Nat}
end
def qT (t : Int) : Int → Bool := fun k => t == k
def bgn (l : List GAtom) (c : Int) : Bool := l.any fun x => x.a == c
def ALC (a : GAsn) (t : Int) : Bool := asV a && (isT t && (casesB a (hz a (qT t))).all fun c => bgn (fL c a.atoms) (c.getD t.toNat 0))
section
variable {a : GAsn} {t : Int}
end

end Go.SE

namespace Go.SE
open Go.RowKit

theorem bgn_ex {c : List Int} {l : List GAtom} {x : Int} (h : bgn (fL c l) x = true) : ∃ y ∈ filt (cl c) l, cl c y.a = x := by
  unfold bgn at h
  rw [List.any_eq_true] at h
  obtain ⟨y, hy, e⟩ := h
  unfold fL at hy
  rw [List.mem_filter, List.mem_map] at hy
  obtain ⟨⟨z, hz, rfl⟩, hk⟩ := hy
  exact ⟨z, List.mem_filter.2 ⟨hz, hk⟩, by simpa using e⟩
end Go.SE

namespace Go.SE
open Go.RowKit

section
variable {s : GState} {a : GAsn} {f : GFact} {x t : Int}
theorem fh_all (hs : stV s = true) (hf : fV f = true) : (fsV [f] && (s.vals.length == 8 && [f].all (holdF s.vals))) = ((tv s.vals f.a == tv s.vals f.b) == f.eq) := by
  unfold fsV
  rw [(stV_all hs).1]
  simp only [List.all_cons, List.all_nil, hf, Bool.and_true, holdF]
  rfl
theorem imp_fV (hi : IMP a f = true) : fV f = true := (imp_iff.1 hi).2.1
theorem imp_fh (hi : IMP a f = true) (h : HOL s a = true) : (fsV [f] && (s.vals.length == 8 && [f].all (holdF s.vals))) = true := by
  rw [fh_all (hol_poss h).1 (imp_fV hi), imp_hol hi h]; simp
theorem imp_fh2 (hi : IMP a f = true) (h : HOL s a = true) (hn : (fsV [f] && (s.vals.length == 8 && [f].all (holdF s.vals))) = false) : False := by
  rw [imp_fh hi h] at hn; cases hn
theorem st1_of (h : starOk a ⟨[f], []⟩ = true) : asV a = true ∧ fV f = true ∧ asV ⟨a.facts ++ [f], a.atoms⟩ = true ∧ starL a ⟨[f], []⟩ = ⟨a.facts ++ [f], a.atoms⟩ := by
  have e : starL a ⟨[f], []⟩ = starA a ⟨[f], []⟩ := by unfold starL; rw [h]; rfl
  unfold starOk at h
  simp only [Bool.and_eq_true] at h
  obtain ⟨⟨h1, h2⟩, h3⟩ := h
  have e2 : starA a ⟨[f], []⟩ = ⟨a.facts ++ [f], a.atoms⟩ := by unfold starA; rw [List.append_nil]
  rw [e2] at h3 e
  have h4 := (asV_facts h2).1
  simp only [List.all_cons, List.all_nil, Bool.and_true] at h4
  exact ⟨h1, h4, h3, e⟩
theorem hol_star (h : starOk a ⟨[f], []⟩ = true) (hs : stV s = true) : HOL s (starL a ⟨[f], []⟩) = (HOL s a && (fsV [f] && (s.vals.length == 8 && [f].all (holdF s.vals)))) := by
  obtain ⟨h1, h2, h3, e⟩ := st1_of h
  rw [e, hol_add h1 h3, fh_all hs h2]
theorem hol_star1 (h : starOk a ⟨[f], []⟩ = true) (hs : stV s = true) (ht : HOL s a = true) : HOL s (starL a ⟨[f], []⟩) = (fsV [f] && (s.vals.length == 8 && [f].all (holdF s.vals))) := by
  rw [hol_star h hs, ht]; rfl
theorem hol_star0 (h : starOk a ⟨[f], []⟩ = true) (ht : HOL s a = false) : HOL s (starL a ⟨[f], []⟩) = false := by
  obtain ⟨h1, h2, h3, e⟩ := st1_of h
  rw [e, hol_add h1 h3, ht]; rfl
theorem hol_starI (h : starOk a ⟨[f], []⟩ = true) (hi : IMP a f = true) : HOL s a = HOL s (starL a ⟨[f], []⟩) := by
  obtain ⟨h1, h2, h3, e⟩ := st1_of h
  rw [e, hol_add h1 h3]
  cases hh : HOL s a with
  | false => rfl
  | true => rw [imp_hol hi hh]; simp
theorem cons_neg (h : starOk a ⟨[negF f], []⟩ = true) : (asV (starL a ⟨[negF f], []⟩) && !(casesF (starL a ⟨[negF f], []⟩)).isEmpty) = !IMP a f := by
  obtain ⟨h1, h2, h3, e⟩ := st1_of h
  rw [e, h3, imp_neg (f := f) h1 h2 h3]; rfl
/-! ## substitution -/
theorem tv_rT {u : Int} (e : tv s.vals x = tv s.vals t) : tv s.vals (rT u x t) = tv s.vals u := by
  unfold rT
  split
  · rename_i h; rw [h, e]
  · rfl
theorem ac_sub {y : GAtom} (e : tv s.vals x = tv s.vals t) : acO s (sA x t y) = acO s y := by
  unfold acO sA
  simp only [tv_rT e]
theorem pt_sub (e : tv s.vals x = tv s.vals t) : ∀ (l : List GAtom) (L : List Int), ptO s L (l.map (sA x t)) = ptO s L l := by
  intro l
  induction l with
  | nil => intro L; rfl
  | cons y l ih =>
    intro L
    simp only [List.map_cons, ptO, ac_sub e, ih]
theorem hol_sub (h : subOk a x t = true) (e : tv s.vals x = tv s.vals t) : HOL s (subL a x t) = HOL s a := by
  obtain ⟨h1, _, h3, _⟩ := subOk_iff.1 h
  rw [subL_of h]
  unfold HOL
  have e1 : fctB s (subA a x t).facts = fctB s a.facts := by
    unfold fctB subA
    rw [List.all_map]
    congr 1
    funext f
    simp only [Function.comp, sF, tv_rT e]
  have e2 : ptO s [] (subA a x t).atoms = ptO s [] a.atoms := pt_sub e _ _
  rw [e1, e2, h1, subA_val h1 h3]
theorem hol_subV (h : subOk a x t = true) (h1 : (stV s && isT x) = true) (h2 : (stV s && isT t) = true) (e : cond (stV s && isT x) (tv s.vals x) 0 = cond (stV s && isT t) (tv s.vals t) 0) : HOL s (subL a x t) = HOL s a := by
  rw [h1, h2] at e
  exact hol_sub h e
/-! ## allocation -/
theorem alc_v (h : ALC a t = true) {v : Int → Int} (hv : possV a v) : ∃ y ∈ filt v a.atoms, v y.a = v t := by
  unfold ALC at h
  simp only [Bool.and_eq_true] at h
  obtain ⟨ha, ht, hall⟩ := h
  have hn := hz_named ha (qT t)
  have t9 := isT_iff.1 ht
  have hht : hz a (qT t) t.toNat = true := hz_has ht (by unfold qT; simp)
  have key := (cases_all hn rfl (fun v => a.atoms.any fun y => (y.kind == 1 || !(v y.a == v y.b)) && (v y.a == v t)) fun v w hvw => by
    rw [Bool.eq_iff_iff, List.any_eq_true, List.any_eq_true]
    refine exists_congr fun y => and_congr_right fun hy => ?_
    obtain ⟨a1, a2, a3, a4, a5, a6⟩ := hn.2 y hy
    rw [hvw y.a y.b a1 a2 a5 a3 a4 a6, hvw y.a t a1 a2 a5 t9.1 t9.2 hht]).1 (by
    rw [List.all_eq_true] at hall ⊢
    intro c hc
    obtain ⟨y, hy, e⟩ := bgn_ex (hall c hc)
    obtain ⟨hy1, hy2⟩ := List.mem_filter.1 hy
    rw [List.any_eq_true]
    refine ⟨y, hy1, ?_⟩
    rw [hy2, Bool.true_and, beq_iff_eq]
    exact e) v hv
  rw [List.any_eq_true] at key
  obtain ⟨y, hy, hk⟩ := key
  simp only [Bool.and_eq_true, beq_iff_eq] at hk
  exact ⟨y, List.mem_filter.2 ⟨hy, hk.1⟩, hk.2⟩
theorem alc_T (h : ALC a t = true) : isT t = true := by
  unfold ALC at h
  simp only [Bool.and_eq_true] at h
  exact h.2.1
theorem alc_hol (h : ALC a t = true) (hh : HOL s a = true) : al s (tv s.vals t) = true := by
  obtain ⟨y, hy, e⟩ := alc_v h (hol_poss hh).2.2
  unfold HOL at hh
  simp only [Bool.and_eq_true] at hh
  obtain ⟨hs, ha, hf, hp⟩ := hh
  cases hpt : ptO s [] a.atoms with
  | none => rw [hpt] at hp; cases hp
  | some M =>
    obtain ⟨_, h2, _⟩ := ptO_parts hs _ _ _ (asV_facts ha).2.2.1 hpt
    rw [← e]; exact (h2 y hy).1
theorem alc_q1 (h : ALC a t = true) (hh : HOL s a = true) (hn : (stV s && isT t) = false) : False := by
  rw [(hol_poss hh).1, alc_T h] at hn; cases hn
theorem alc_q2 (h : ALC a t = true) (hh : HOL s a = true) : (stV s && al s (cond (stV s && isT t) (tv s.vals t) 0)) = true := by
  rw [(hol_poss hh).1, alc_T h]
  show (true && al s (tv s.vals t)) = true
  rw [alc_hol h hh]; rfl
theorem alc_q3 (h : ALC a t = true) (hh : HOL s a = true) (hn : (stV s && al s (cond (stV s && isT t) (tv s.vals t) 0)) = false) : False := by
  rw [alc_q2 h hh] at hn; cases hn
theorem tm8 {n : Nat} : -9223372036854775808 ≤ 1 + (n : Int).tmod 8 ∧ 1 + (n : Int).tmod 8 ≤ 9223372036854775807 := by
  have h1 := Int.tmod_nonneg 8 (Int.natCast_nonneg n)
  have h2 := Int.tmod_lt_of_pos (n : Int) (b := 8) (by decide)
  omega
end
end Go.SE
