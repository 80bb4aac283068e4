/-
  Parts of a symbolic engine over the program's code: how operations, regions, loops and calls are shown to keep contracts. No conditions.
-/
import Derived.Great.BuildSlice
import Derived.Laws.MakeOwn
import Derived.Deep.AppendSrc
import Derived.Deep.Upon
import Derived.Test.YtfoioficiffgkaaEa
set_option linter.unusedSimpArgs false
set_option linter.unusedVariables false
set_option linter.unusedSectionVars false

namespace Go.SE
open Go.RowKit

section
variable {P : Program} {E : Ty → TypeId} {tab : TypeId → Option TI} {w0 : World} {M : MM} {n : Nat} {o : Oper} {st : St} {a : Act} {w : World}

theorem setAll_get (off : Nat) (k : Nat) : ∀ (l : List Value) (j : Nat) (cs : Array Value), off + j + l.length ≤ cs.size →
    ((l.zipIdx j).foldl (fun cs (p : Value × Nat) => cs.setIfInBounds (off + p.2) p.1) cs).size = cs.size ∧
    ((l.zipIdx j).foldl (fun cs (p : Value × Nat) => cs.setIfInBounds (off + p.2) p.1) cs)[k]? = if off + j ≤ k ∧ k < off + j + l.length then l[k - (off + j)]? else cs[k]? := by
  intro l
  induction l with
  | nil => intro j cs h; simp; intro h1 h2; omega
  | cons v l ih =>
    intro j cs h
    simp only [List.length_cons] at h
    have := ih (j + 1) (cs.setIfInBounds (off + j) v) (by simp; omega)
    simp only [List.zipIdx_cons, List.foldl_cons]
    refine ⟨by rw [this.1]; simp, ?_⟩
    rw [this.2]
    by_cases h1 : k = off + j
    · subst h1
      rw [if_neg (by omega), if_pos (by simp)]
      have : off + j < cs.size := by omega
      simp [this]
    · by_cases h2 : off + (j + 1) ≤ k ∧ k < off + (j + 1) + l.length
      · rw [if_pos h2, if_pos (by simp; omega)]
        rw [show k - (off + j) = (k - (off + (j + 1))) + 1 from by omega, List.getElem?_cons_succ]
      · rw [if_neg h2, if_neg (by simp; omega)]
        rw [Array.getElem?_setIfInBounds_ne (by omega)]

theorem setAll (cs vs : Array Value) (off : Nat) (h : off + vs.size ≤ cs.size) :
    vs.zipIdx.foldl (fun cs (p : Value × Nat) => cs.setIfInBounds (off + p.2) p.1) cs = over cs off vs.toList := by
  have hl : off + 0 + vs.toList.length ≤ cs.size := by simpa using h
  have key : vs.zipIdx.foldl (fun cs (p : Value × Nat) => cs.setIfInBounds (off + p.2) p.1) cs = (vs.toList.zipIdx 0).foldl (fun cs (p : Value × Nat) => cs.setIfInBounds (off + p.2) p.1) cs := by
    rw [← Array.foldl_toList]
    simp
  rw [key]
  apply Array.ext_getElem?
  intro k
  rw [(setAll_get off k vs.toList 0 cs hl).2, over_get (by simpa using h)]
  simp

theorem putc_len (off : Nat) : ∀ (vs cs : List CV), (putc cs off vs).length = cs.length := by
  intro vs
  induction vs generalizing off with
  | nil => intro cs; rfl
  | cons v l ih => intro cs; rw [putc, ih]; simp

theorem putc_get (k : Nat) : ∀ (vs : List CV) (off : Nat) (cs : List CV), off + vs.length ≤ cs.length → (putc cs off vs)[k]? = if off ≤ k ∧ k < off + vs.length then vs[k - off]? else cs[k]? := by
  intro vs
  induction vs with
  | nil => intro off cs h; simp [putc]; intro h1 h2; omega
  | cons v l ih =>
    intro off cs h
    simp only [List.length_cons] at h
    rw [putc, ih (off + 1) (cs.set off v) (by simp; omega)]
    by_cases h1 : k = off
    · subst h1
      rw [if_neg (by omega), if_pos (by simp)]
      simp
      rw [List.getElem?_set_self (by omega)]
    · by_cases h2 : off + 1 ≤ k ∧ k < off + 1 + l.length
      · rw [if_pos h2, if_pos (by simp; omega)]
        rw [show k - off = (k - (off + 1)) + 1 from by omega, List.getElem?_cons_succ]
      · rw [if_neg h2, if_neg (by simp; omega)]
        rw [List.getElem?_set_ne (by omega)]

theorem putc_mem {c : CV} : ∀ (vs : List CV) (off : Nat) (cs : List CV), c ∈ putc cs off vs → c ∈ cs ∨ c ∈ vs := by
  intro vs
  induction vs with
  | nil => intro off cs h; exact .inl h
  | cons v l ih =>
    intro off cs h
    rcases ih (off + 1) (cs.set off v) h with h | h
    · rcases List.mem_or_eq_of_mem_set h with h | h
      · exact .inl h
      · exact .inr (by simp [h])
    · exact .inr (by simp [h])

theorem refsL_putc {id : Nat} {vs : List CV} {off : Nat} {cs : List CV} (h : id ∈ refsL (putc cs off vs)) : id ∈ refsL cs ∨ id ∈ refsL vs := by
  obtain ⟨c, hc, hid⟩ := refsL_mem h
  rcases putc_mem vs off cs hc with h | h
  · obtain ⟨j, hj⟩ := List.getElem?_of_mem h
    exact .inl (mem_refsL hj hid)
  · obtain ⟨j, hj⟩ := List.getElem?_of_mem h
    exact .inr (mem_refsL hj hid)

theorem Cells.put {g : G} {cs vs : List CV} {us ws : Array Value} {off : Nat} (hc : Cells g cs us) (hv : Cells g vs ws) (hl : off + vs.length ≤ cs.length) : Cells g (putc cs off vs) (over us off ws.toList) := by
  have hws : ws.toList.length = vs.length := by simpa using hv.1
  have hfit : off + ws.toList.length ≤ us.size := by rw [hws, hc.1]; exact hl
  refine ⟨by rw [over_size hfit, hc.1, putc_len], fun j c hj => ?_⟩
  rw [putc_get j vs off cs hl] at hj
  rw [over_get hfit, hws]
  split at hj
  · rename_i hjj
    rw [if_pos hjj]
    obtain ⟨u, h1, h2⟩ := hv.2 _ c hj
    exact ⟨u, by simpa using h1, h2⟩
  · rename_i hjj
    rw [if_neg hjj]
    exact hc.2 j c hj

theorem CV.R.one {g : G} {c : CV} (hc : c ≠ .junk) {v : Value} (h : c.R g v) : v.oneCell' = true := by
  cases c with
  | d x => exact DR.one h
  | nil => have h : v = _ := h; subst h; rfl
  | own id => exact h.2
  | ptr id off => obtain ⟨b, _, h⟩ := h; subst h; rfl
  | vp id t k off => obtain ⟨b, _, _, _, h⟩ := h; subst h; rfl
  | rp t xs k off => obtain ⟨b, o, vs, _, _, _, _, h⟩ := h; subst h; rfl
  | rv t xs => obtain ⟨b, vs, _, _, _, h⟩ := h; subst h; rfl
  | rdr => have h : v = _ := h; subst h; rfl
  | fn f ids => have h : v = _ := h; subst h; rfl
  | junk => exact (hc rfl).elim

theorem partCells_R {g : G} {s : S} {v : Value} (hs : s.R g v) {sz : Nat} {vs : List CV} (h : partCells sz s = some vs) :
    vs.length = sz ∧ Cells g vs v.cells := by
  unfold partCells at h
  split at h
  · cases h
  · rename_i c hj
    split at h
    · rename_i h1
      injection h with h
      subst h h1
      have hv : v.cells = #[v] := by
        have := CV.R.one (g := g) (c := c) (fun e => hj (by rw [e])) hs
        cases v <;> simp [Value.oneCell'] at this <;> rfl
      refine ⟨rfl, ?_⟩
      rw [hv]
      refine ⟨rfl, fun j x hj => ?_⟩
      cases j with
      | zero => simp at hj; subst hj; exact ⟨v, rfl, hs⟩
      | succ j => simp at hj
    · cases h
  · rename_i cs
    split at h
    · rename_i h1
      injection h with h
      subst h
      obtain ⟨us, rfl, hc⟩ := hs
      exact ⟨h1, hc⟩
    · cases h
  · cases h

/-! ## zero values -/

theorem zcells_news {base d : Nat} : ∀ (cks : List CK) (j : Nat) (p : Nat × Res), p ∈ (zcells base d cks j).2 → (∃ i, j ≤ i ∧ i < j + cks.length ∧ p.1 = nid base d i) ∧ ∃ t, p.2 = .sl p.1 t [] := by
  intro cks
  induction cks with
  | nil => intro j p h; simp [zcells] at h
  | cons c cks ih =>
    intro j p h
    cases c with
    | sc z =>
      obtain ⟨⟨i, h1, h2, h3⟩, h4⟩ := ih (j + 1) p h
      exact ⟨⟨i, by omega, by simp; omega, h3⟩, h4⟩
    | sl t =>
      simp only [zcells, List.mem_cons] at h
      rcases h with h | h
      · subst h; exact ⟨⟨j, Nat.le_refl _, by simp, rfl⟩, t, rfl⟩
      · obtain ⟨⟨i, h1, h2, h3⟩, h4⟩ := ih (j + 1) p h
        exact ⟨⟨i, by omega, by simp; omega, h3⟩, h4⟩

theorem zcells_refs {base d : Nat} : ∀ (cks : List CK) (j : Nat), ∀ id ∈ refsL (zcells base d cks j).1, ∃ r, (id, r) ∈ (zcells base d cks j).2 := by
  intro cks
  induction cks with
  | nil => intro j id h; simp [zcells, refsL] at h
  | cons c cks ih =>
    intro j id h
    cases c with
    | sc z =>
      simp only [zcells, refsL, CV.refs, List.nil_append] at h ⊢
      exact ih (j + 1) id h
    | sl t =>
      simp only [zcells, refsL, CV.refs, List.mem_append, List.mem_singleton] at h
      rcases h with h | h
      · subst h; exact ⟨_, by simp only [zcells]; exact List.mem_cons_self⟩
      · obtain ⟨r, hr⟩ := ih (j + 1) id h
        exact ⟨r, by simp only [zcells]; exact List.mem_cons_of_mem _ hr⟩

theorem zcells_len {base d : Nat} : ∀ (cks : List CK) (j : Nat), (zcells base d cks j).1.length = cks.length := by
  intro cks
  induction cks with
  | nil => intro j; rfl
  | cons c cks ih => intro j; cases c <;> simp [zcells, ih]

theorem zcells_R {g : G} {base d : Nat} : ∀ (cks : List CK) (j : Nat), (∀ p ∈ (zcells base d cks j).2, g.κ p.1 = .slice none 0 0) → (∀ z, CK.sc z ∈ cks → z.oneCell' = true) →
    ∀ (k : Nat) (c : CV), (zcells base d cks j).1[k]? = some c → ∃ u, (cks.map ckv)[k]? = some u ∧ c.R g u := by
  intro cks
  induction cks with
  | nil => intro j _ _ k c h; simp [zcells] at h
  | cons x cks ih =>
    intro j h1 h2 k c h
    cases x with
    | sc z =>
      simp only [zcells] at h h1
      cases k with
      | zero =>
        simp at h
        subst h
        exact ⟨z, rfl, .val z (h2 z (by simp))⟩
      | succ k => exact ih (j + 1) h1 (fun z hz => h2 z (by simp [hz])) k c (by simpa using h)
    | sl t =>
      simp only [zcells] at h h1
      cases k with
      | zero =>
        simp at h
        subst h
        exact ⟨_, rfl, (h1 _ (List.mem_cons_self)).symm, rfl⟩
      | succ k => exact ih (j + 1) (fun p hp => h1 p (List.mem_cons_of_mem _ hp)) (fun z hz => h2 z (by simp [hz])) k c (by simpa using h)

theorem allFree_mem : ∀ {l : List (Nat × Res)}, allFree st l → ∀ p ∈ l, st.mem p.1 = none := by
  intro l
  induction l with
  | nil => intro _ p h; simp at h
  | cons x l ih =>
    intro h p hp
    rcases List.mem_cons.1 hp with e | hp
    · subst e; exact h.1
    · exact ih h.2 p hp

theorem nid_ne {base d i j : Nat} (h : i ≠ j) : nid base d i ≠ nid base d j := by simp [nid]; omega

theorem ext_alloc (M : Nat → Prop) (w : World) (ob : Obj) : Ext M w (w.alloc ob) := ⟨rfl, rfl, rfl, by simp, fun b hb _ => Below.heap_alloc w ob b hb⟩

theorem run_alloc {ty : TypeId} {i : TypeInfo} {z : Value} (hi : P.info? ty = some i) (hz : i.zero = some z) (w : World) :
    (Instr.alloc ty true (.tuple #[])).run P w = .ok (.pointer (some ⟨w.heap.size, 0, none⟩)) (w.alloc (.cells z.cells ty)) := by
  simp [Instr.alloc, run_zeroValue hi hz, newVar, newRow]

theorem run_box (ty : TypeId) (v : Value) (w : World) : (Instr.box ty v).run P w = .ok (.pointer (some ⟨w.heap.size, 0, none⟩)) (w.alloc (.cells v.cells ty)) := by
  simp [Instr.box, newVar, newRow]

theorem heap_new (w : World) (ob : Obj) : (w.alloc ob).heap[w.heap.size]? = some ob := heap_alloc_new w ob

theorem zvals_row (ro : Nat → Option (Array Value)) (t : Ty) : ∀ (k : Nat) (c : DC), (t.cells t.zero)[k]? = some c → ∃ u, t.zvals[k]? = some u ∧ DR ro c u := by
  intro k c hk
  refine ⟨zv c, by simp [Ty.zvals, hk], ?_⟩
  have hm := List.mem_of_getElem? hk
  cases t <;> simp [Ty.cells, Ty.zero] at hm <;> (try (rcases hm with rfl | rfl | rfl)) <;> (try subst hm) <;> (try (exact .val _ rfl)) <;> (try (exact .nil _))
  all_goals (rcases hm with rfl | rfl | rfl | rfl | rfl | rfl | rfl | rfl | rfl | rfl <;> first | exact .val _ rfl | exact .nil _)

theorem zrow (ro : Nat → Option (Array Value)) (t : Ty) : ∀ (m : Nat) (vs : Array Value), vs.toList = (List.replicate m t.zvals).flatten → vs.size = m * t.sz ∧ RowR ro (flat t (List.replicate m t.zero)) vs 0 := by
  have zl : t.zvals.length = t.sz := by simp [Ty.zvals, cells_len]
  have key : ∀ (m : Nat), (List.replicate m t.zvals).flatten.length = m * t.sz ∧ ∀ (k : Nat) (c : DC), (flat t (List.replicate m t.zero))[k]? = some c → ∃ u, (List.replicate m t.zvals).flatten[k]? = some u ∧ DR ro c u := by
    intro m
    induction m with
    | zero => simp [flat]
    | succ m ih =>
      refine ⟨by rw [List.replicate_succ, List.flatten_cons, List.length_append, ih.1, zl, Nat.add_mul]; omega, fun k c hk => ?_⟩
      rw [List.replicate_succ, flat_cons] at hk
      rw [List.replicate_succ, List.flatten_cons]
      by_cases hlt : k < t.sz
      · rw [List.getElem?_append_left (by rw [cells_len]; exact hlt)] at hk
        rw [List.getElem?_append_left (by rw [zl]; exact hlt)]
        exact zvals_row ro t k c hk
      · rw [List.getElem?_append_right (by rw [cells_len]; omega), cells_len] at hk
        rw [List.getElem?_append_right (by rw [zl]; omega), zl]
        exact ih.2 _ c hk
  intro m vs hvs
  refine ⟨by rw [← Array.length_toList, hvs, (key m).1], fun k c hk => ?_⟩
  obtain ⟨u, h1, h2⟩ := (key m).2 k c hk
  refine ⟨u, ?_, h2⟩
  rw [Nat.zero_add, ← Array.getElem?_toList, hvs]
  exact h1

theorem snd_alloc (h : Rel E w0 M n st a w) (ht : TabOk P E tab) (hd : ∀ d, o.dst = some d → d < n) {ty : TypeId} (ho : o.op = .alloc ty) {t : Tr} (htr : trAlloc tab st ty (o.dst.getD 0) = some t) (hp : t.pre) : Sound P E w0 M n o st a w t := by
  unfold trAlloc at htr
  split at htr
  · rename_i ti hti
    obtain ⟨i, d, hi, hu, hsz, hk⟩ := ht _ _ hti
    split at htr
    · rename_i r l hz
      injection htr with htr
      subst htr
      generalize hD : o.dst.getD 0 = D at hz hp ⊢
      have hfree : ∀ p ∈ (nid st.base D 15, r) :: l, st.mem p.1 = none := allFree_mem hp
      have hbf : st.mem (nid st.base D 15) = none := hfree _ (List.mem_cons_self)
      have main : ∀ (z : Value) (nb : Nat), i.zero = some z → (∀ p ∈ l, p.1 ≠ nid st.base D 15 ∧ ∃ f t, p.2 = .sl f t []) → (∀ id ∈ r.refs, ∃ q, (id, q) ∈ l) →
          (∀ g' : G, g'.κ (nid st.base D 15) = .pointer (some ⟨w.heap.size, 0, none⟩) → g'.ln (nid st.base D 15) = nb → (∀ p ∈ l, g'.κ p.1 = .slice none 0 0) → ResR E (w.alloc (.cells z.cells ty)) g' (nid st.base D 15) r) →
          Sound P E w0 M n o st a w (Tr.one (.s (.c (.ptr (nid st.base D 15) 0))) (allFree st ((nid st.base D 15, r) :: l)) ((nid st.base D 15, r) :: l)) := by
        intro z nb hzero hnil hrefs hres
        refine Sound.make h hd (nid st.base D 15) (.pointer (some ⟨w.heap.size, 0, none⟩)) nb (v := .pointer (some ⟨w.heap.size, 0, none⟩)) (w' := w.alloc (.cells z.cells ty)) ?_ (fun M => ext_alloc M w _) hfree ?_ ?_ ?_ ?_
        · simp [execOp, ho, run_alloc hi hzero]
        · intro b hb; simp [blkOf] at hb; omega
        · intro id hid
          simp [S.refs, S0.refs, CV.refs] at hid
          subst hid
          exact .inr ⟨r, List.mem_cons_self⟩
        · intro k q hq id hid
          rcases List.mem_cons.1 hq with e | hq
          · injection e with e1 e2
            subst e2
            obtain ⟨q', hq'⟩ := hrefs id hid
            exact .inr ⟨q', List.mem_cons_of_mem _ hq'⟩
          · obtain ⟨_, f, t, e⟩ := hnil _ hq
            simp only at e
            subst e
            simp [Res.refs] at hid
        · intro g hg henv g' e1 e2 e3 e4 e5 e6
          have hl : ∀ p ∈ l, g'.κ p.1 = .slice none 0 0 := fun p hp => (e6 p.1 (hfree p (List.mem_cons_of_mem _ hp)) (hnil p hp).1).1
          refine ⟨⟨w.heap.size, e4 hbf, rfl⟩, ?_⟩
          intro id q hq
          rcases List.mem_cons.1 hq with e | hq
          · injection e with e7 e8
            subst e7 e8
            exact .inl ⟨rfl, hres g' (e4 hbf) (e5 hbf) hl⟩
          · exact .inr ⟨(hnil _ hq).1, (hnil _ hq).2⟩
      cases hkk : ti.k with
      | sc z =>
        rw [hkk] at hz hk
        simp only [zeroOf, Option.some.injEq, Prod.mk.injEq] at hz
        obtain ⟨rfl, rfl⟩ := hz
        obtain ⟨hs1, hzero, hone, _⟩ := hk
        refine main z 0 hzero (by simp) (by simp [Res.refs, refsL, CV.refs]) fun g' e4 e5 _ => ?_
        have hzc : z.cells = #[z] := by cases z <;> simp [Value.oneCell'] at hone <;> rfl
        refine ⟨w.heap.size, _, ty, e4, heap_new w _, ?_⟩
        rw [hzc]
        refine ⟨rfl, fun j c hj => ?_⟩
        cases j with
        | zero => simp at hj; subst hj; exact ⟨z, rfl, .val z hone⟩
        | succ j => simp at hj
      | sl rw_ e t =>
        rw [hkk] at hz hk
        cases rw_ with
        | false => simp [zeroOf] at hz
        | true =>
          simp only [zeroOf, Option.some.injEq, Prod.mk.injEq] at hz
          obtain ⟨rfl, rfl⟩ := hz
          obtain ⟨_, ⟨_, hzero⟩, _⟩ := hk
          refine main (.slice none 0 0) 0 hzero ?_ ?_ fun g' e4 e5 hl => ?_
          · intro p hp
            simp at hp
            subst hp
            exact ⟨nid_ne (by omega), _, t, rfl⟩
          · intro id hid
            simp [Res.refs, refsL, CV.refs] at hid
            subst hid
            exact ⟨_, List.mem_singleton.2 rfl⟩
          · refine ⟨w.heap.size, _, ty, e4, heap_new w _, rfl, fun j c hj => ?_⟩
            cases j with
            | zero => simp at hj; subst hj; exact ⟨_, rfl, (hl _ (List.mem_singleton.2 rfl)).symm, rfl⟩
            | succ j => simp at hj
      | st cks fs =>
        rw [hkk] at hz hk
        simp only [zeroOf, Option.some.injEq, Prod.mk.injEq] at hz
        obtain ⟨rfl, rfl⟩ := hz
        obtain ⟨fields, zc, rfl, hzero, hzc, ⟨hs1, hle, hone⟩, _⟩ := hk
        refine main (.agg zc) 0 hzero ?_ ?_ fun g' e4 e5 hl => ?_
        · intro p hp
          obtain ⟨⟨i, _, h2, h3⟩, t, h4⟩ := zcells_news cks 0 p hp
          refine ⟨?_, p.1, t, h4⟩
          rw [h3]
          exact nid_ne (by omega)
        · intro id hid
          exact zcells_refs cks 0 id hid
        · refine ⟨w.heap.size, _, ty, e4, heap_new w _, ?_⟩
          refine ⟨?_, fun j c hj => ?_⟩
          · show zc.size = _
            rw [← Array.length_toList, hzc, zcells_len, List.length_map]
          · obtain ⟨u, h1, h2⟩ := zcells_R cks 0 hl hone j c hj
            refine ⟨u, ?_, h2⟩
            show zc[j]? = _
            rw [← Array.getElem?_toList, hzc]
            exact h1
      | ar m e t =>
        rw [hkk] at hz hk
        simp only [zeroOf, Option.some.injEq, Prod.mk.injEq] at hz
        obtain ⟨rfl, rfl⟩ := hz
        obtain ⟨rfl, _, ie, zc, hie, hisz, hzero, hzc, _⟩ := hk
        refine main (.agg zc) m hzero (by simp) (by simp [Res.refs]) fun g' e4 e5 _ => ?_
        obtain ⟨h1, h2⟩ := zrow g'.ro t m zc hzc
        exact ⟨by simp [e5], w.heap.size, zc, ty, e4, heap_new w _, by simpa using h1, h2⟩
    · cases htr
  · cases htr

end
end Go.SE

namespace Go.SE
open Go.RowKit

section
variable {P : Program} {E : Ty → TypeId} {tab : TypeId → Option TI} {w0 : World} {M : MM} {n : Nat} {o : Oper} {st : St} {a : Act} {w : World}

theorem cells_one {v : Value} (h : v.oneCell' = true) : v.cells = #[v] := by
  cases v <;> simp [Value.oneCell'] at h <;> rfl

theorem snd_box (h : Rel E w0 M n st a w) (hd : ∀ d, o.dst = some d → d < n) {ty : TypeId} {x : Operand} (ho : o.op = .box ty x) {t : Tr} (htr : trBox st (o.dst.getD 0) x = some t) (hp : t.pre) : Sound P E w0 M n o st a w t := by
  generalize hD : o.dst.getD 0 = D at htr
  have main : ∀ (r : Res) (nb : Nat) , (r.refs = (ev st x).refs) → st.mem (nid st.base D 15) = none →
      (∀ g, (∀ x, (st.env x).R g (a.tmps.getD x undef)) → ∀ g' : G, g'.ro = g.ro → g'.ρ = g.ρ → (∀ id, (st.mem id).isSome = true → g'.κ id = g.κ id ∧ g'.ln id = g.ln id) → g'.κ (nid st.base D 15) = .pointer (some ⟨w.heap.size, 0, none⟩) → g'.ln (nid st.base D 15) = nb →
        ResR E (w.alloc (.cells (a.eval x).cells ty)) g' (nid st.base D 15) r) →
      Sound P E w0 M n o st a w (Tr.one (.s (.c (.ptr (nid st.base D 15) 0))) (free st D 15) [(nid st.base D 15, r)]) := by
    intro r nb hrefs hbf hres
    refine Sound.make h hd (nid st.base D 15) (.pointer (some ⟨w.heap.size, 0, none⟩)) nb (v := .pointer (some ⟨w.heap.size, 0, none⟩)) (w' := w.alloc (.cells (a.eval x).cells ty)) ?_ (fun M => ext_alloc M w _) ?_ ?_ ?_ ?_ ?_
    · simp [execOp, ho, run_box]
    · intro p hpm; simp at hpm; subst hpm; exact hbf
    · intro b hb; simp [blkOf] at hb; omega
    · intro id hid
      simp [S.refs, S0.refs, CV.refs] at hid
      subst hid
      exact .inr ⟨r, List.mem_singleton.2 rfl⟩
    · intro k q hq id hid
      simp at hq
      obtain ⟨_, rfl⟩ := hq
      rw [hrefs] at hid
      exact .inl (ev_refs h.cl x id hid)
    · intro g hg henv g' e1 e2 e3 e4 e5 e6
      refine ⟨⟨w.heap.size, e4 hbf, rfl⟩, ?_⟩
      intro id q hq
      simp at hq
      obtain ⟨rfl, rfl⟩ := hq
      exact .inl ⟨rfl, hres g henv g' e1 e2 e3 (e4 hbf) (e5 hbf)⟩
  have mono : ∀ {g g' : G}, g'.ro = g.ro → g'.ρ = g.ρ → (∀ id, (st.mem id).isSome = true → g'.κ id = g.κ id ∧ g'.ln id = g.ln id) → (∀ x, (st.env x).R g (a.tmps.getD x undef)) → (ev st x).R g' (a.eval x) := by
    intro g g' e1 e2 e3 henv
    exact (ev_R henv x).mono (by rw [e1]; exact fun _ _ h => h) e2 fun id hid => e3 id (ev_refs h.cl x id hid)
  unfold trBox at htr
  split at htr
  · cases htr
  · rename_i v hnj hev
    injection htr with htr
    subst htr
    refine main (.blk [v]) 0 ?_ hp ?_
    · simp [hev, Res.refs, refsL, S.refs, S0.refs]
    · intro g henv g' e1 e2 e3 e4 e5
      have hx := mono e1 e2 e3 henv
      rw [hev] at hx
      have hone := CV.R.one (c := v) hnj hx
      have hzc : (a.eval x).cells = #[a.eval x] := cells_one hone
      refine ⟨w.heap.size, _, ty, e4, heap_new w _, ?_⟩
      rw [hzc]
      refine ⟨rfl, fun j c hj => ?_⟩
      cases j with
      | zero => simp at hj; subst hj; exact ⟨_, rfl, hx⟩
      | succ j => simp at hj
  · rename_i vs hev
    injection htr with htr
    subst htr
    refine main (.blk vs) 0 ?_ hp ?_
    · simp [hev, Res.refs, S.refs, S0.refs]
    · intro g henv g' e1 e2 e3 e4 e5
      have hx := mono e1 e2 e3 henv
      rw [hev] at hx
      obtain ⟨us, hv, hc⟩ := hx
      refine ⟨w.heap.size, _, ty, e4, heap_new w _, ?_⟩
      rw [hv]
      exact hc
  · rename_i t' xs hev
    injection htr with htr
    subst htr
    refine main (.vec t' xs) xs.length ?_ hp ?_
    · simp [hev, Res.refs, S.refs, S0.refs]
    · intro g henv g' e1 e2 e3 e4 e5
      have hx := mono e1 e2 e3 henv
      rw [hev] at hx
      obtain ⟨us, hv, hsz, hrow⟩ := hx
      refine ⟨e5, w.heap.size, _, ty, e4, heap_new w _, ?_, ?_⟩
      · rw [hv]; exact hsz
      · rw [hv]; exact hrow
  · cases htr

theorem places_of {fs : List (Nat × Nat × Bool)} : ∀ (l : List Field), l.length = fs.length → (∀ (j : Nat) x, fs[j]? = some x → ∃ fd i, l[j]? = some fd ∧ fd.offset = x.1 ∧ P.info? fd.type = some i ∧ i.size = x.2.1) →
    l.mapM (fun f => (P.info? f.type).map fun i => (f.offset, i.size)) = some (fs.map fun x => (x.1, x.2.1)) := by
  induction fs with
  | nil => intro l hl _; have : l = [] := List.eq_nil_of_length_eq_zero (by simpa using hl); subst this; rfl
  | cons x fs ih =>
    intro l hl h
    cases l with
    | nil => simp at hl
    | cons fd l =>
      obtain ⟨fd', i, h1, h2, h3, h4⟩ := h 0 x rfl
      simp at h1
      subst h1
      have := ih l (by simpa using hl) fun j x hx => by simpa using h (j + 1) x (by simpa using hx)
      simp [List.mapM_cons, h3, this, h2, h4]

theorem fill_step {place : Nat → Option (Nat × Nat)} {cells : Array Value} {i : Nat} {v : Value} {rest : List (Nat × Value)} {off sz : Nat} (hpl : place i = some (off, sz)) (hs : v.cells.size = sz) (hl : off + sz ≤ cells.size) :
    Instr.fill place cells ((i, v) :: rest) = Instr.fill place (over cells off v.cells.toList) rest := by
  have h1 : ¬ (v.cells.size ≠ sz ∨ off + v.cells.size > cells.size) := by omega
  rw [Instr.fill, hpl]
  simp only [hs, ne_eq, not_true_eq_false, decide_false, Bool.false_or, decide_eq_true_eq]
  rw [if_neg (by simp; omega)]
  congr 1
  exact setAll cells v.cells off (by omega)

theorem fills_R {g : G} (henv : ∀ x, (st.env x).R g (a.tmps.getD x undef)) {fs : List (Nat × Nat × Bool)} : ∀ (ps : List (Nat × Operand)) (cs cs' : List CV) (us : Array Value), fills st fs cs ps = some cs' → Cells g cs us →
    ∃ us', Instr.fill ((fs.map fun x => (x.1, x.2.1)).toArray[·]?) us (ps.map fun p => (p.1, a.eval p.2)) = some us' ∧ Cells g cs' us' := by
  intro ps
  induction ps with
  | nil => intro cs cs' us h hc; simp only [fills, Option.some.injEq] at h; subst h; exact ⟨us, rfl, hc⟩
  | cons p ps ih =>
    intro cs cs' us h hc
    obtain ⟨i, x⟩ := p
    simp only [fills] at h
    split at h
    · rename_i off sz b hf
      split at h
      · rename_i vs hv
        split at h
        · rename_i hle
          obtain ⟨h1, h2⟩ := partCells_R (ev_R henv x) hv
          have h3 := hc.put h2 hle
          obtain ⟨us', h4, h5⟩ := ih _ _ _ h h3
          refine ⟨us', ?_, h5⟩
          rw [List.map_cons, fill_step (off := off) (sz := sz) (by simp [hf]) (by rw [h2.1, h1]) (by rw [hc.1, ← h1]; exact hle)]
          exact h4
        · cases h
      · cases h
    · cases h

theorem fills_refs : ∀ {fs : List (Nat × Nat × Bool)} (ps : List (Nat × Operand)) (cs cs' : List CV), Cl st → fills st fs cs ps = some cs' → ∀ id ∈ refsL cs', id ∈ refsL cs ∨ (st.mem id).isSome = true := by
  intro fs ps
  induction ps with
  | nil => intro cs cs' _ h id hid; simp only [fills, Option.some.injEq] at h; subst h; exact .inl hid
  | cons p ps ih =>
    intro cs cs' hcl h id hid
    obtain ⟨i, x⟩ := p
    simp only [fills] at h
    split at h
    · rename_i off sz b hf
      split at h
      · rename_i vs hv
        split at h
        · rcases ih _ _ hcl h id hid with h1 | h1
          · rcases refsL_putc h1 with h2 | h2
            · exact .inl h2
            · refine .inr (ev_refs hcl x id ?_)
              unfold partCells at hv
              split at hv
              · cases hv
              · rename_i v hnj he
                split at hv
                · injection hv with hv; subst hv; rw [he]; simpa [refsL, S.refs, S0.refs] using h2
                · cases hv
              · rename_i v he
                split at hv
                · injection hv with hv; subst hv; rw [he]; exact h2
                · cases hv
              · cases hv
          · exact .inr h1
        · cases h
      · cases h
    · cases h

theorem dec_cells {t : Ty} {ds : List DC} {x : t.den} (h : t.dec ds = some x) : t.cells x = ds := by
  unfold Ty.dec at h
  split at h
  case h_3 n =>
    split at h
    · rename_i hn
      injection h with h
      subst h
      have e : ((UInt8.ofNat n.toNat).toNat : Int) = n := by
        have : n.toNat < 256 := by omega
        simp [UInt8.toNat_ofNat', Nat.mod_eq_of_lt this]
        omega
      show [DC.val (Value.int .u8 _)] = _
      rw [e]
    · cases h
  case h_8 => cases h
  all_goals (injection h with h; subst h; rfl)

theorem datas_R {g : G} {mem : Nat → Option Res} {ro' : Nat → Option (Array Value)} (hro : ∀ b vs, g.ro b = some vs → ro' b = some vs) : ∀ (vs : List CV) (ds : List DC) (ids : List Nat), datas mem vs = some (ds, ids) →
    (∀ id ∈ ids, ∀ f t xs, mem id = some (.sl f t xs) → DR ro' (.arr t xs) (g.κ id)) →
    ∀ (us : Nat → Option Value), (∀ (j : Nat) (c : CV), vs[j]? = some c → ∃ u, us j = some u ∧ c.R g u) → ds.length = vs.length ∧ ∀ (k : Nat) (c : DC), ds[k]? = some c → ∃ u, us k = some u ∧ DR ro' c u := by
  intro vs
  induction vs with
  | nil => intro ds ids h _ us _; simp only [datas, Option.some.injEq, Prod.mk.injEq] at h; obtain ⟨rfl, rfl⟩ := h; simp
  | cons v vs ih =>
    intro ds ids h hfz us hus
    simp only [datas] at h
    split at h
    · cases h
    · rename_i ds' ids' hd
      obtain ⟨u0, h0, h1⟩ := hus 0 v rfl
      have tail : ∀ (j : Nat) (c : CV), vs[j]? = some c → ∃ u, us (j + 1) = some u ∧ c.R g u := fun j c hj => hus (j + 1) c (by simpa using hj)
      split at h
      · rename_i x
        simp only [Option.some.injEq, Prod.mk.injEq] at h
        obtain ⟨rfl, rfl⟩ := h
        obtain ⟨h2, h3⟩ := ih ds' ids' hd hfz (fun j => us (j + 1)) tail
        refine ⟨by simp [h2], fun k c hk => ?_⟩
        cases k with
        | zero => simp at hk; subst hk; exact ⟨u0, h0, DR.mono hro h1⟩
        | succ k => exact h3 k c (by simpa using hk)
      · rename_i id
        split at h
        · rename_i f t xs hm
          simp only [Option.some.injEq, Prod.mk.injEq] at h
          obtain ⟨rfl, rfl⟩ := h
          obtain ⟨h2, h3⟩ := ih ds' ids' hd (fun i hi => hfz i (by simp [hi])) (fun j => us (j + 1)) tail
          refine ⟨by simp [h2], fun k c hk => ?_⟩
          cases k with
          | zero => simp at hk; subst hk; exact ⟨u0, h0, by rw [h1.1]; exact hfz id (by simp) _ _ _ hm⟩
          | succ k => exact h3 k c (by simpa using hk)
        · cases h
      · cases h

theorem elemOf_R {g : G} {mem : Nat → Option Res} {ro' : Nat → Option (Array Value)} (hro : ∀ b vs, g.ro b = some vs → ro' b = some vs) {t : Ty} {s : S} {x : t.den} {ids : List Nat} (h : elemOf mem t s = some (x, ids))
    (hfz : ∀ id ∈ ids, ∀ f t xs, mem id = some (.sl f t xs) → DR ro' (.arr t xs) (g.κ id)) {v : Value} (hs : s.R g v) : v.cells.size = t.sz ∧ RowR ro' (t.cells x) v.cells 0 := by
  unfold elemOf at h
  split at h
  · rename_i vs hv
    split at h
    · rename_i ds ids' hd
      split at h
      · rename_i y hy
        simp only [Option.some.injEq, Prod.mk.injEq] at h
        obtain ⟨rfl, rfl⟩ := h
        obtain ⟨h1, h2⟩ := partCells_R hs hv
        obtain ⟨h3, h4⟩ := datas_R hro vs ds ids' hd hfz (fun j => v.cells[j]?) h2.2
        refine ⟨by rw [h2.1, h1], ?_⟩
        rw [dec_cells hy]
        intro k c hk
        simpa using h4 k c hk
      · cases h
    · cases h
  · cases h

theorem datas_refs {mem : Nat → Option Res} : ∀ (vs : List CV) (ds : List DC) (ids : List Nat), datas mem vs = some (ds, ids) → ∀ id ∈ ids, ∃ f t xs, mem id = some (.sl f t xs) := by
  intro vs
  induction vs with
  | nil => intro ds ids hd; simp only [datas, Option.some.injEq, Prod.mk.injEq] at hd; obtain ⟨_, rfl⟩ := hd; intro id hid; simp at hid
  | cons v vs ih =>
    intro ds ids hd
    simp only [datas] at hd
    split at hd
    · cases hd
    · rename_i ds' ids2 hd'
      split at hd
      · simp only [Option.some.injEq, Prod.mk.injEq] at hd
        obtain ⟨_, rfl⟩ := hd
        exact ih _ _ hd'
      · rename_i id0
        split at hd
        · rename_i f t' xs hm
          simp only [Option.some.injEq, Prod.mk.injEq] at hd
          obtain ⟨_, rfl⟩ := hd
          intro id hid
          rcases List.mem_cons.1 hid with rfl | hid
          · exact ⟨f, t', xs, hm⟩
          · exact ih _ _ hd' id hid
        · cases hd
      · cases hd

theorem elemOf_refs {mem : Nat → Option Res} {t : Ty} {s : S} {x : t.den} {ids : List Nat} (h : elemOf mem t s = some (x, ids)) : ∀ id ∈ ids, ∃ f t xs, mem id = some (.sl f t xs) := by
  unfold elemOf at h
  split at h
  · rename_i vs hv
    split at h
    · rename_i ds ids' hd
      split at h
      · simp only [Option.some.injEq, Prod.mk.injEq] at h
        obtain ⟨_, rfl⟩ := h
        exact datas_refs vs ds ids' hd
      · cases h
    · cases h
  · cases h

theorem elems_refs {t : Ty} : ∀ (ps : List (Nat × Operand)) (k : Nat) (xs : List t.den) (ids : List Nat), elemsOf st t k ps = some (xs, ids) → ∀ id ∈ ids, ∃ f t xs, st.mem id = some (.sl f t xs) := by
  intro ps
  induction ps with
  | nil => intro k xs ids h id hid; simp only [elemsOf, Option.some.injEq, Prod.mk.injEq] at h; obtain ⟨_, rfl⟩ := h; simp at hid
  | cons p ps ih =>
    intro k xs ids h id hid
    obtain ⟨i, x⟩ := p
    simp only [elemsOf] at h
    split at h
    · split at h
      · rename_i y A ys B h1 h2
        simp only [Option.some.injEq, Prod.mk.injEq] at h
        obtain ⟨_, rfl⟩ := h
        rcases List.mem_append.1 hid with hid | hid
        · exact elemOf_refs h1 id hid
        · exact ih _ _ _ h2 id hid
      · cases h
    · cases h

theorem elems_R {g : G} {ro' : Nat → Option (Array Value)} (hro : ∀ b vs, g.ro b = some vs → ro' b = some vs) (henv : ∀ x, (st.env x).R g (a.tmps.getD x undef)) {t : Ty} : ∀ (ps : List (Nat × Operand)) (k : Nat) (xs : List t.den) (ids : List Nat) (us : Array Value),
    elemsOf st t k ps = some (xs, ids) → (∀ id ∈ ids, ∀ f t xs, st.mem id = some (.sl f t xs) → DR ro' (.arr t xs) (g.κ id)) → (k + xs.length) * t.sz ≤ us.size →
    ∃ us', Instr.fill (fun i => some (i * t.sz, t.sz)) us (ps.map fun p => (p.1, a.eval p.2)) = some us' ∧ us'.size = us.size ∧ RowR ro' (flat t xs) us' (k * t.sz) ∧ (∀ j, j < k * t.sz ∨ (k + xs.length) * t.sz ≤ j → us'[j]? = us[j]?) := by
  intro ps
  induction ps with
  | nil =>
    intro k xs ids us h _ _
    simp only [elemsOf, Option.some.injEq, Prod.mk.injEq] at h
    obtain ⟨rfl, rfl⟩ := h
    exact ⟨us, rfl, rfl, by simp [flat]; exact RowR.nil, fun _ _ => rfl⟩
  | cons p ps ih =>
    intro k xs ids us h hfz hle
    obtain ⟨i, x⟩ := p
    simp only [elemsOf] at h
    split at h
    · rename_i hik
      subst hik
      split at h
      · rename_i y A ys B h1 h2
        simp only [Option.some.injEq, Prod.mk.injEq] at h
        obtain ⟨rfl, rfl⟩ := h
        simp only [List.length_cons] at hle
        obtain ⟨hcs, hrow⟩ := elemOf_R hro h1 (fun id hid => hfz id (by simp [hid])) (ev_R henv x)
        have hm1 : (i + (ys.length + 1)) * t.sz = i * t.sz + t.sz + ys.length * t.sz := by rw [Nat.add_mul, Nat.add_mul]; omega
        have hm2 : (i + 1 + ys.length) * t.sz = i * t.sz + t.sz + ys.length * t.sz := by rw [Nat.add_mul, Nat.add_mul]; omega
        have hm3 : (i + 1) * t.sz = i * t.sz + t.sz := by rw [Nat.add_mul]; omega
        have hfit : i * t.sz + (a.eval x).cells.toList.length ≤ us.size := by rw [Array.length_toList, hcs]; omega
        obtain ⟨us', e1, e2, e3, e4⟩ := ih (i + 1) ys B (over us (i * t.sz) (a.eval x).cells.toList) h2 (fun id hid => hfz id (by simp [hid])) (by rw [over_size hfit]; omega)
        refine ⟨us', ?_, by rw [e2, over_size hfit], ?_, ?_⟩
        · rw [List.map_cons, fill_step (off := i * t.sz) (sz := t.sz) rfl hcs (by omega)]
          exact e1
        · rw [flat_cons]
          refine RowR.append ?_ (by rw [cells_len, ← hm3]; exact e3)
          intro j c hj
          have hjl : j < t.sz := by have := (List.getElem?_eq_some_iff.1 hj).1; rwa [cells_len] at this
          obtain ⟨u, hu, hd⟩ := hrow j c hj
          refine ⟨u, ?_, hd⟩
          rw [e4 _ (by omega), over_get hfit, if_pos (by rw [Array.length_toList, hcs]; omega)]
          rw [show i * t.sz + j - i * t.sz = j from by omega]
          simpa using hu
        · intro j hj
          simp only [List.length_cons] at hj
          rw [e4 j (by omega), over_get hfit, if_neg (by rw [Array.length_toList, hcs]; omega)]
      · cases h
    · cases h

end
end Go.SE

namespace Go.SE
open Go.RowKit

section
variable {P : Program} {E : Ty → TypeId} {tab : TypeId → Option TI} {w0 : World} {M : MM} {n : Nat} {o : Oper} {st : St} {a : Act} {w : World}

theorem sets_get (f : Nat → Bool) : ∀ (l : List Nat) (k : Nat), sets f l k = (f k || l.contains k) := by
  intro l
  induction l generalizing f with
  | nil => intro k; simp [sets]
  | cons x l ih =>
    intro k
    rw [sets, ih]
    by_cases e : k = x
    · subst e; simp [upd]
    · have : (x == k) = false := by simp; exact fun h => e h.symm
      simp [upd, e]

theorem Good.freeze1 {g : G} (h : Good E w0 M g st w) {id f : Nat} {t : Ty} {xs : List t.den} (hm : st.mem id = some (.sl f t xs)) (hs : st.sp id = false) :
    ∃ ro', (∀ b vs, g.ro b = some vs → ro' b = some vs) ∧ DR ro' (.arr t xs) (g.κ id) ∧ Good E w0 M { g with ro := ro' } { st with fr := upd st.fr id true } w := by
  obtain ⟨hln, hres⟩ := h.res _ _ hm
  rcases hres with ⟨hκ, hx⟩ | ⟨b, cap, cur, hκ, hb, hle, hcap, hcs, hrow⟩
  · refine ⟨g.ro, fun _ _ h => h, by rw [hκ, hx]; exact .nil t, h.ext, h.ro, h.res, h.sep, h.fresh, ?_, h.rd, h.rds, h.roo, h.rho, h.pin, h.keep⟩
    intro i r hi hl b hb h1 h2
    by_cases e : i = id
    · subst e; rw [hκ] at hb; simp [blkOf] at hb
    · exact h.wro i r hi hl b hb h1 (by simpa [upd, e] using h2)
  · have hbk : blkOf (g.κ id) = some b := by rw [hκ]; rfl
    have hro : ∀ b' vs, g.ro b' = some vs → (fun b' => if b' = b then some cur else g.ro b') b' = some vs := by
      intro b' vs hv
      by_cases e : b' = b
      · subst e
        obtain ⟨ty, fz, hh⟩ := h.ro _ _ hv
        rw [hb] at hh
        simp at hh
        simp [hh.1]
      · simp [e, hv]
    refine ⟨fun b' => if b' = b then some cur else g.ro b', hro, ?_, h.ext, ?_, ?_, h.sep, h.fresh, ?_, ?_, h.rds, fun b' vs hv => ?_, h.rho, h.pin, ⟨h.keep.1, fun b vs hv => hro b vs (h.keep.2 b vs hv)⟩⟩
    · rw [hκ]
      exact DR.of_row (by simp) hle hcap (hrow.mono hro)
    · intro b' vs hv
      by_cases e : b' = b
      · subst e
        simp at hv
        subst hv
        exact ⟨_, _, hb⟩
      · simp [e] at hv
        exact h.ro b' vs hv
    · intro i r hi
      exact (h.res i r hi).keep (g' := { g with ro := fun b' => if b' = b then some cur else g.ro b' }) (fun _ _ => rfl) hro rfl ⟨rfl, rfl⟩ fun _ _ => ⟨rfl, rfl⟩
    · intro i r hi hl b' hb' h1 h2
      by_cases e : i = id
      · subst e; simp [upd] at h2
      · have h3 := h.wro i r hi hl b' hb' h1 (by simpa [upd, e] using h2)
        by_cases e' : b' = b
        · subst e'
          obtain ⟨_, _, _, _, _, _, h4⟩ := h.sep id i _ r hm hi (Ne.symm e) trivial hl b' hbk hb'
          have := (h4 hs).1
          simp only at h1
          rw [h1] at this
          cases this
        · simpa [e'] using h3
    · intro m hmr
      obtain ⟨⟨hlim, hout, code, v, p, ty, hc, hd, hrest⟩, hin, hno⟩ := h.rd m hmr
      have hne : g.ρ ≠ b := fun e => hno id _ hm trivial (by rw [hbk, e])
      exact ⟨⟨hlim, by simp [hne, hout], code, v, p, ty, hc, hd.mono hro, hrest⟩, hin, hno⟩
    · by_cases e : b' = b
      · subst e; exact .inr (h.fresh id _ hm trivial _ hbk)
      · simp [e] at hv; exact h.roo b' vs hv

theorem Good.freeze : ∀ (ids : List Nat) {g : G} {st : St}, Good E w0 M g st w → (∀ id ∈ ids, st.sp id = false ∧ ∃ f t xs, st.mem id = some (.sl f t xs)) →
    ∃ ro', (∀ b vs, g.ro b = some vs → ro' b = some vs) ∧ (∀ id ∈ ids, ∀ f t xs, st.mem id = some (.sl f t xs) → DR ro' (.arr t xs) (g.κ id)) ∧ Good E w0 M { g with ro := ro' } { st with fr := sets st.fr ids } w := by
  intro ids
  induction ids with
  | nil => intro g st h _; exact ⟨g.ro, fun _ _ h => h, by simp, h⟩
  | cons id ids ih =>
    intro g st h hids
    obtain ⟨hs, f, t, xs, hm⟩ := hids id (by simp)
    obtain ⟨ro1, h1, h2, h3⟩ := h.freeze1 hm hs
    obtain ⟨ro2, h4, h5, h6⟩ := ih h3 fun i hi => hids i (by simp [hi])
    refine ⟨ro2, fun b vs hv => h4 b vs (h1 b vs hv), ?_, h6⟩
    intro i hi f' t' xs' hm'
    rcases List.mem_cons.1 hi with rfl | hi
    · rw [hm] at hm'
      injection hm' with hm'
      injection hm' with e1 e2 e3
      subst e2
      cases e3
      exact h2.mono h4
    · exact h5 i hi f' t' xs' hm'

theorem notSpent_mem : ∀ {ids : List Nat}, notSpent st ids → ∀ id ∈ ids, st.sp id = false := by
  intro ids
  induction ids with
  | nil => intro _ id h; simp at h
  | cons x l ih =>
    intro h id hid
    rcases List.mem_cons.1 hid with rfl | hid
    · exact h.1
    · exact ih h.2 id hid

theorem snd_build (h : Rel E w0 M n st a w) (ht : TabOk P E tab) (hd : ∀ d, o.dst = some d → d < n) {ty : TypeId} {ps : Array (Nat × Operand)} (ho : o.op = .build ty ps) {t : Tr} (htr : trBuild tab st ty (o.dst.getD 0) ps.toList = some t) (hp : t.pre) :
    Sound P E w0 M n o st a w t := by
  generalize hD : o.dst.getD 0 = D at htr
  have hparts : (ps.map fun (i, x) => (i, a.eval x)).toList = ps.toList.map fun p => (p.1, a.eval p.2) := by simp
  unfold trBuild at htr
  split at htr
  · rename_i sz by_ cks fs hti
    obtain ⟨i, d, hi, hu, hsz, fields, zc, rfl, hzero, hzc, ⟨hs1, hle, hone⟩, hfl, hfo, _⟩ := ht _ _ hti
    split at htr
    · rename_i cs hcs
      injection htr with htr
      subst htr
      have hfree : ∀ p ∈ (zcells st.base D cks 0).2, st.mem p.1 = none := allFree_mem hp
      -- the run
      have hpl : fields.toList.mapM (fun f => (P.info? f.type).map fun i => (f.offset, i.size)) = some (fs.map fun x => (x.1, x.2.1)) :=
        places_of fields.toList (by simpa using hfl) fun j x hx => by
          obtain ⟨fd, i, d, h1, h2, h3, h4, _⟩ := fieldsOk_get hfo hx
          simp only [Nat.zero_add] at h1
          exact ⟨fd, i, by simpa using h1, h2, h3, h4⟩
      have run : ∀ us, Instr.fill ((fs.map fun x => (x.1, x.2.1)).toArray[·]?) zc (ps.toList.map fun p => (p.1, a.eval p.2)) = some us → (execOp a.eval o).run P w = .ok (.value (.agg us)) w := by
        intro us hus
        have hb : P.built ty (ps.map fun (i, x) => (i, a.eval x)).toList = some us := by
          unfold Program.built
          simp only [hi, hu, hzero, hpl]
          rw [hparts]
          exact hus
        have := run_build (P := P) w ty (ps.map fun (i, x) => (i, a.eval x)) us hb
        simp [execOp, ho, this]
      obtain ⟨g0, hg0, henv0⟩ := h.good
      -- the value does not depend on how the new slices are numbered
      have val : ∃ us, Instr.fill ((fs.map fun x => (x.1, x.2.1)).toArray[·]?) zc (ps.toList.map fun p => (p.1, a.eval p.2)) = some us ∧
          ∀ g' : G, (∀ x, (st.env x).R g' (a.tmps.getD x undef)) → (∀ p ∈ (zcells st.base D cks 0).2, g'.κ p.1 = .slice none 0 0) → Cells g' cs us := by
        have mk : ∀ g' : G, (∀ x, (st.env x).R g' (a.tmps.getD x undef)) → (∀ p ∈ (zcells st.base D cks 0).2, g'.κ p.1 = .slice none 0 0) →
            ∃ us, Instr.fill ((fs.map fun x => (x.1, x.2.1)).toArray[·]?) zc (ps.toList.map fun p => (p.1, a.eval p.2)) = some us ∧ Cells g' cs us := by
          intro g' he hn
          refine fills_R he ps.toList _ cs zc hcs ⟨?_, fun j c hj => ?_⟩
          · rw [← Array.length_toList, hzc, zcells_len, List.length_map]
          · obtain ⟨u, h1, h2⟩ := zcells_R cks 0 hn hone j c hj
            exact ⟨u, by rw [← Array.getElem?_toList, hzc]; exact h1, h2⟩
        obtain ⟨us, h1, _⟩ := mk { g0 with κ := fun j => if (st.mem j).isSome then g0.κ j else .slice none 0 0 }
          (fun x => S.R.mono (g := g0) (g' := { g0 with κ := fun j => if (st.mem j).isSome then g0.κ j else .slice none 0 0 }) (fun _ _ h => h) rfl (fun id hid => ⟨by simp [h.cl.1 x id hid], rfl⟩) (henv0 x)) (fun p hp => by simp [hfree p hp])
        refine ⟨us, h1, fun g' he hn => ?_⟩
        obtain ⟨us', h1', h2'⟩ := mk g' he hn
        rw [h1] at h1'
        injection h1' with h1'
        subst h1'
        exact h2'
      obtain ⟨us, hus, hval⟩ := val
      refine Sound.make h hd (nid st.base D 15) (.slice none 0 0) 0 (v := .agg us) (w' := w) (run us hus) (fun M => Ext.refl M w) hfree ?_ ?_ ?_ ?_
      · intro b hb; simp [blkOf] at hb
      · intro id hid
        rcases fills_refs ps.toList _ cs h.cl hcs id hid with h1 | h1
        · exact .inr (zcells_refs cks 0 id h1)
        · exact .inl h1
      · intro k r hk id hid
        obtain ⟨_, t, e⟩ := zcells_news cks 0 (k, r) hk
        simp only at e
        subst e
        simp [Res.refs] at hid
      · intro g hg henv g' e1 e2 e3 e4 e5 e6
        have hnil : ∀ p ∈ (zcells st.base D cks 0).2, g'.κ p.1 = .slice none 0 0 := fun p hp => by
          obtain ⟨⟨i, _, h2, h3⟩, _⟩ := zcells_news cks 0 p hp
          exact (e6 p.1 (hfree p hp) (by rw [h3]; exact nid_ne (by omega))).1
        refine ⟨⟨us, rfl, hval g' (fun x => (henv x).mono (by rw [e1]; exact fun _ _ h => h) e2 fun id hid => e3 id (h.cl.1 x id hid)) hnil⟩, ?_⟩
        intro id r hm
        obtain ⟨⟨i, _, h2, h3⟩, t, e⟩ := zcells_news cks 0 (id, r) hm
        simp only at e h3
        exact .inr ⟨by rw [h3]; exact nid_ne (by omega), id, t, e⟩
    · cases htr
  · rename_i sz by_ m e t' hti
    obtain ⟨i, d, hi, hu, hsz, rfl, hsz', ie, zc, hie, hies, hzero, hzc, _⟩ := ht _ _ hti
    split at htr
    · rename_i xs hxs
      split at htr
      · rename_i hlen
        injection htr with htr
        subst htr
        obtain ⟨g, hg, henv⟩ := h.good
        obtain ⟨z1, z2⟩ := zrow g.ro t' m zc hzc
        obtain ⟨us, e1, e2, e3, _⟩ := elems_R (ro' := g.ro) (fun _ _ h => h) henv ps.toList 0 xs [] zc hxs (by simp) (by rw [Nat.zero_add, hlen, z1]; exact Nat.le_refl _)
        have hb : P.built ty (ps.map fun (i, x) => (i, a.eval x)).toList = some us := by
          unfold Program.built
          simp only [hi, hu, hzero, hie, hies]
          rw [hparts]
          exact e1
        refine Sound.plain1 h hd hg henv (by simp [S.refs, S0.refs]) (v := .agg us) ?_ ?_
        · have := run_build (P := P) w ty (ps.map fun (i, x) => (i, a.eval x)) us hb
          simp [execOp, ho, this]
        · refine ⟨us, rfl, by rw [e2, z1, hlen], ?_⟩
          simpa using e3
      · split at htr
        · rename_i hlen0
          injection htr with htr
          subst htr
          obtain ⟨g, hg, henv⟩ := h.good
          obtain ⟨z1, z2⟩ := zrow g.ro t' m zc hzc
          obtain ⟨us, e1, e2, _, e4⟩ := elems_R (ro' := g.ro) (fun _ _ h => h) henv ps.toList 0 xs [] zc hxs (by simp) (by rw [hlen0]; simp)
          have hb : P.built ty (ps.map fun (i, x) => (i, a.eval x)).toList = some us := by
            unfold Program.built
            simp only [hi, hu, hzero, hie, hies]
            rw [hparts]
            exact e1
          have hus : us = zc := by
            apply Array.ext e2
            intro j h1 h2
            have := e4 j (.inr (by rw [hlen0]; simp))
            rw [Array.getElem?_eq_getElem h1, Array.getElem?_eq_getElem h2] at this
            injection this
          subst hus
          refine Sound.plain1 h hd hg henv (by simp [S.refs, S0.refs]) (v := .agg us) ?_ ?_
          · have := run_build (P := P) w ty (ps.map fun (i, x) => (i, a.eval x)) us hb
            simp [execOp, ho, this]
          · exact ⟨us, rfl, by rw [z1]; simp, z2⟩
        · cases htr
    · cases htr
  · cases htr

end
end Go.SE

namespace Go.SE
open Go.RowKit

section
variable {P : Program} {E : Ty → TypeId} {tab : TypeId → Option TI} {w0 : World} {M : MM} {n : Nat} {o : Oper} {st : St} {a : Act} {w : World}

theorem app_gen (st : St) (dst : Option Nat) (s : S) (pre : Prop) (news : List (Nat × Res)) (fl fz : List Nat) (r : Unit) :
    st.app dst (Tr.gen s pre news fl fz) r = { env := (match dst with | some d => upd st.env d s | none => st.env), mem := adds st.mem news, sp := sets st.sp fl, fr := sets st.fr fz, base := st.base, rd := st.rd } := by
  cases dst <;> simp [St.app, rd_zero]

def gnew (st : St) (g : G) (bid : Nat) (vb : Value) (nb : Nat) : G :=
  { g with κ := fun j => if (st.mem j).isSome then g.κ j else if j = bid then vb else .slice none 0 0, ln := fun j => if (st.mem j).isSome then g.ln j else if j = bid then nb else 0 }

theorem Sound.make1 (h : Rel E w0 M n st a w) (hd : ∀ d, o.dst = some d → d < n) {g g1 : G} {fz : List Nat} (henv : ∀ x, (st.env x).R g (a.tmps.getD x undef)) (hg1 : Good E w0 M g1 { st with fr := sets st.fr fz } w)
    (hro : ∀ b vs, g.ro b = some vs → g1.ro b = some vs) (hκ : g1.κ = g.κ) (hln : g1.ln = g.ln) (hρ : g1.ρ = g.ρ)
    {s : S} {pre : Prop} {l : List (Nat × Res)} {w' : World} (bid : Nat) (vb : Value) (nb : Nat) {v : Value} (hrun : (execOp a.eval o).run P w = .ok (.value v) w')
    (hext : ∀ M, Ext M w w') (hfree : ∀ p ∈ l, st.mem p.1 = none) (hb : ∀ b, blkOf vb = some b → w.heap.size ≤ b)
    (hrefs : ∀ id ∈ s.refs, (st.mem id).isSome = true ∨ ∃ r, (id, r) ∈ l) (hrefl : ∀ k r, (k, r) ∈ l → ∀ id ∈ r.refs, (st.mem id).isSome = true ∨ ∃ r, (id, r) ∈ l)
    (hv : s.R (gnew st g1 bid vb nb) v) (hl : ∀ id r, (id, r) ∈ l → (id = bid ∧ ResR E w' (gnew st g1 bid vb nb) id r) ∨ (id ≠ bid ∧ ∃ f t, r = .sl f t [])) :
    Sound P E w0 M n o st a w (Tr.gen s pre l [] fz) := by
  intro next Q hn
  unfold Oper.wp
  rw [hrun, Oper.upon_value]
  refine hn () _ _ trivial ?_
  have e := app_gen st o.dst s pre l [] fz ()
  have hgood := Good.make (st := { st with fr := sets st.fr fz }) hg1 ⟨h.cl.1, h.cl.2⟩ bid vb nb l (hg1.ext.trans (hext M)) (fun b hb => (hext (fun _ => False)).block b hb (fun h => h)) hfree hb hl
  have dom : ∀ id, ((st.mem id).isSome = true ∨ ∃ r, (id, r) ∈ l) → (adds st.mem l id).isSome = true := fun id hid => by
    rcases hid with hid | ⟨r, hid⟩
    · exact adds_isSome hid
    · exact adds_new hid
  refine Rel.app h hd henv (g' := gnew st g1 bid vb nb) hro hρ ?_ ?_ hv ?_ ?_ ?_
  · intro id hs; simp [gnew, hs, hκ, hln]
  · rw [e]; exact hgood.env rfl rfl rfl rfl
  · rw [e]; exact fun id hid => adds_isSome hid
  · rw [e]; exact fun id hid => dom id (hrefs id hid)
  · rw [e]
    intro j r' hj id hid
    rcases adds_cases hj with hj | hj
    · exact dom id (hrefl j r' hj id hid)
    · exact adds_isSome (h.cl.2 j r' hj id hid)

theorem gnew_old {g : G} {bid : Nat} {vb : Value} {nb : Nat} {id : Nat} (hs : (st.mem id).isSome = true) : (gnew st g bid vb nb).κ id = g.κ id ∧ (gnew st g bid vb nb).ln id = g.ln id := by simp [gnew, hs]
theorem gnew_new {g : G} {bid : Nat} {vb : Value} {nb : Nat} (hs : st.mem bid = none) : (gnew st g bid vb nb).κ bid = vb ∧ (gnew st g bid vb nb).ln bid = nb := by simp [gnew, hs]

/-! ## a part of a slice that is data -/

theorem slice_data {ty e : TypeId} {ie : TypeInfo} {t : Ty} {xs : List t.den} {v : Value} {ro : Nat → Option (Array Value)} (hr : Rel E w0 M n st a w) (hu : P.underlying ty = some (.slice e)) (hie : P.info? e = some ie) (hsz : ie.size = t.sz)
    {x : Operand} {lo hi : Option Operand} {l hh : Option Int} (ho : o.op = .slice ty x lo hi none) (hl : intOp st lo = some l) (hhi : intOp st hi = some hh) (hv0 : a.eval x = v) (hx : DR ro (.arr t xs) v)
    (h0 : 0 ≤ l.getD 0) (h1 : l.getD 0 ≤ hh.getD xs.length) (h2 : hh.getD xs.length ≤ xs.length) :
    ∃ v', (execOp a.eval o).run P w = .ok (.value v') w ∧ DR ro (.arr t ((xs.drop (l.getD 0).toNat).take ((hh.getD xs.length).toNat - (l.getD 0).toNat))) v' := by
  rcases DR.arr_inv hx with ⟨hv, rfl⟩ | ⟨b, off, cap, vs, hv, hro, hle, hcap, hrow⟩
  · have hb := run_bounds (P := P) hr hl hhi true 0 0 (Nat.le_refl _) h0 h1 h2
    simp only [List.length_nil, Int.natCast_zero] at h1 h2
    have e1 : (l.getD 0).toNat = 0 := by omega
    have e2 : (hh.getD 0).toNat = 0 := by omega
    simp only [Int.natCast_zero] at hb
    rw [e1, e2] at hb
    refine ⟨.slice none 0 0, ?_, ?_⟩
    · simp [execOp, ho, Instr.sliceAt, Instr.slice, hv0, hv, run_underlying hu, hb, run_sizeOf hie]
    · simp only [List.drop_nil, List.take_nil]
      exact .nil _
  · have hb := run_bounds (P := P) hr hl hhi true xs.length cap hle h0 h1 h2
    have e1 : (l.getD 0).toNat ≤ (hh.getD xs.length).toNat := by omega
    have e2 : (hh.getD xs.length).toNat ≤ xs.length := by omega
    have hlen : ((xs.drop (l.getD 0).toNat).take ((hh.getD xs.length).toNat - (l.getD 0).toNat)).length = (hh.getD xs.length).toNat - (l.getD 0).toNat := by simp; omega
    refine ⟨.slice (if cap = (l.getD 0).toNat then some ⟨b, off, none⟩ else some ⟨b, off + (l.getD 0).toNat * ie.size, none⟩) ((hh.getD xs.length).toNat - (l.getD 0).toNat) (cap - (l.getD 0).toNat), ?_, ?_⟩
    · simp [execOp, ho, Instr.sliceAt, Instr.slice, hv0, hv, run_underlying hu, hb, run_sizeOf hie, Addr.add_lit]
    · by_cases hc : cap = (l.getD 0).toNat
      · rw [if_pos hc]
        have h3 : (hh.getD xs.length).toNat - (l.getD 0).toNat = 0 := by omega
        have := DR.of_row (ro := ro) (t := t) (xs := []) (b := b) (off := off) (cap := cap - (l.getD 0).toNat) hro (by simp) (by simp only [maxLen] at hcap ⊢; omega) (by simp [flat]; exact RowR.nil)
        rw [h3]
        simpa using this
      · rw [if_neg hc]
        have := DR.of_row (ro := ro) (t := t) (xs := (xs.drop (l.getD 0).toNat).take ((hh.getD xs.length).toNat - (l.getD 0).toNat)) (b := b) (off := off + (l.getD 0).toNat * t.sz) (cap := cap - (l.getD 0).toNat)
          hro (by rw [hlen]; omega) (by simp only [maxLen] at hcap ⊢; omega) (hrow.part _ _)
        rw [hlen] at this
        rw [hsz]
        exact this

theorem sl_of {id : Nat} {t : Ty} {f : Nat} {xs : List t.den} (hm : st.mem id = some (.sl f t xs)) (hs : st.sp id = false) : ∀ i ∈ [id], st.sp i = false ∧ ∃ f t xs, st.mem i = some (.sl f t xs) := by
  intro i hi
  simp at hi
  subst hi
  exact ⟨hs, f, t, xs, hm⟩

theorem Good.freezeV {g : G} (h : Good E w0 M g st w) {id : Nat} {t : Ty} {xs : List t.den} (hm : st.mem id = some (.vec t xs)) :
    ∃ ro' b cur, (∀ b vs, g.ro b = some vs → ro' b = some vs) ∧ g.κ id = .pointer (some ⟨b, 0, none⟩) ∧ ro' b = some cur ∧ RowR ro' (flat t xs) cur 0 ∧ Good E w0 M { g with ro := ro' } { st with fr := sets st.fr [id] } w := by
  obtain ⟨hln, b, cur, ty0, hκ, hb, hcs, hrow⟩ := h.res _ _ hm
  have hbk : blkOf (g.κ id) = some b := by rw [hκ]; rfl
  have hro : ∀ b' vs, g.ro b' = some vs → (fun b' => if b' = b then some cur else g.ro b') b' = some vs := by
    intro b' vs hv
    by_cases e : b' = b
    · subst e
      obtain ⟨ty, fz, hh⟩ := h.ro _ _ hv
      rw [hb] at hh
      simp at hh
      simp [hh.1]
    · simp [e, hv]
  refine ⟨fun b' => if b' = b then some cur else g.ro b', b, cur, hro, hκ, by simp, hrow.mono hro, h.ext, ?_, ?_, h.sep, h.fresh, ?_, ?_, h.rds, fun b' vs hv => ?_, h.rho, h.pin, ⟨h.keep.1, fun b vs hv => hro b vs (h.keep.2 b vs hv)⟩⟩
  · intro b' vs hv
    by_cases e : b' = b
    · subst e
      simp at hv
      subst hv
      exact ⟨_, _, hb⟩
    · simp [e] at hv
      exact h.ro b' vs hv
  · intro i r hi
    exact (h.res i r hi).keep (g' := { g with ro := fun b' => if b' = b then some cur else g.ro b' }) (fun _ _ => rfl) hro rfl ⟨rfl, rfl⟩ fun _ _ => ⟨rfl, rfl⟩
  · intro i r hi hl b' hb' h1 h2
    by_cases e : i = id
    · subst e; simp [sets, upd] at h2
    · have h3 := h.wro i r hi hl b' hb' h1 (by simpa [sets, upd, e] using h2)
      by_cases e' : b' = b
      · subst e'
        obtain ⟨_, _, _, _, h4, _⟩ := h.sep id i _ r hm hi (Ne.symm e) trivial hl b' hbk hb'
        cases h4
      · simpa [e'] using h3
  · intro m hmr
    obtain ⟨⟨hlim, hout, code, v, p, ty, hc, hd, hrest⟩, hin, hno⟩ := h.rd m hmr
    have hne : g.ρ ≠ b := fun e => hno id _ hm trivial (by rw [hbk, e])
    exact ⟨⟨hlim, by simp [hne, hout], code, v, p, ty, hc, hd.mono hro, hrest⟩, hin, hno⟩
  · by_cases e : b' = b
    · subst e; exact .inr (h.fresh id _ hm trivial _ hbk)
    · simp [e] at hv; exact h.roo b' vs hv

theorem snd_slice (h : Rel E w0 M n st a w) (ht : TabOk P E tab) (hd : ∀ d, o.dst = some d → d < n) {ty : TypeId} {x : Operand} {lo hi : Option Operand} (ho : o.op = .slice ty x lo hi none) {t : Tr} (htr : trSlice tab st ty x lo hi = some t) (hp : t.pre) :
    Sound P E w0 M n o st a w t := by
  by_cases hptr : ∃ id, ev st x = .s (.c (.ptr id 0))
  · obtain ⟨id, hev⟩ := hptr
    obtain ⟨g, hg, henv⟩ := h.good
    have hx := ev_R henv x
    rw [hev] at hx
    unfold trSlice at htr
    rw [hev] at htr
    split at htr
    · cases htr
    · cases htr
    · rename_i sz by_ m e t' hti hl hhi
      obtain ⟨inf, d, _, hu, _, rfl, _, ie, zc, hie, hsz, _⟩ := ht _ _ hti
      simp only at htr
      split at htr
      · rename_i t'' xs hm
        split at htr
        · rename_i ys hcast
          obtain ⟨rfl, hq⟩ := castL_eq hcast
          cases hq
          injection htr with htr
          subst htr
          obtain ⟨h0, h1⟩ := hp
          obtain ⟨ro', b, cur, hro, hκ, hb, hrow, hg1⟩ := hg.freezeV hm
          obtain ⟨b', hk, hv⟩ := hx
          rw [hκ] at hk
          injection hk with hk
          injection hk with hk
          injection hk with hk
          subst hk
          have hbd := run_bounds (P := P) h hl hhi false m m (Nat.le_refl _) (by simp) (by simp) (by simp)
          have hrun : (execOp a.eval o).run P w = .ok (.value (.slice (some ⟨b, 0, none⟩) xs.length m)) w := by
            by_cases hm0 : m = 0
            · subst hm0
              simp [execOp, ho, Instr.sliceAt, Instr.sureAddr, hv, run_underlying hu, hbd, run_sizeOf hie, h0]
            · simp [execOp, ho, Instr.sliceAt, Instr.sureAddr, hv, run_underlying hu, hbd, run_sizeOf hie, h0, Addr.add_lit, hm0]
          refine Sound.make1 h hd henv hg1 hro rfl rfl rfl 0 (.slice none 0 0) 0 hrun (fun M => Ext.refl M w) (by simp) (by simp [blkOf]) (by simp [S.refs, S0.refs, CV.refs]) (by simp) ?_ (by simp)
          exact DR.of_row (ro := ro') hb (Nat.le_of_eq h0) (by simp only [maxLen]; omega) hrow
        · cases htr
      · cases htr
    · cases htr
  by_cases hown : ∃ id, ev st x = .s (.c (.own id))
  · obtain ⟨id, hev⟩ := hown
    obtain ⟨g, hg, henv⟩ := h.good
    have hx := ev_R henv x
    rw [hev] at hx
    unfold trSlice at htr
    rw [hev] at htr
    split at htr
    · cases htr
    · rename_i sz by_ rw_ e t' l hh hti hl hhi
      obtain ⟨inf, d, _, hu, _, _, ⟨rfl, _⟩, ie, hie, hsz, _⟩ := ht _ _ hti
      simp only at htr
      split at htr
      · rename_i f t'' xs hm
        split at htr
        · rename_i ys hcast
          obtain ⟨rfl, hq⟩ := castL_eq hcast
          cases hq
          injection htr with htr
          subst htr
          obtain ⟨hs, h0, h1, h2⟩ := hp
          obtain ⟨ro', hro, hdr, hg1⟩ := hg.freeze [id] (sl_of hm hs)
          have hdata := hdr id (by simp) _ _ _ hm
          obtain ⟨v', hrun, hv'⟩ := slice_data (P := P) h hu hie hsz ho hl hhi hx.1 hdata h0 h1 h2
          refine Sound.make1 h hd henv hg1 hro rfl rfl rfl 0 (.slice none 0 0) 0 hrun (fun M => Ext.refl M w) (by simp) (by simp [blkOf]) (by simp [S.refs, S0.refs, CV.refs]) (by simp) ?_ (by simp)
          exact hv'
        · cases htr
      · cases htr
    · cases htr
    · cases htr
  · exact snd_slice0 h ht hd ho htr hp (fun id he => hown ⟨id, he⟩) fun id he => hptr ⟨id, he⟩

/-! ## make -/

theorem made_row (ro : Nat → Option (Array Value)) (t : Ty) (z : Array Value) (hz : z.toList = t.zvals) (m n : Nat) (hn : n ≤ m) : RowR ro (flat t (List.replicate n t.zero)) (madeCells z (m * t.sz)) 0 := by
  have zl : z.size = t.sz := by rw [← Array.length_toList, hz]; simp [Ty.zvals, cells_len]
  have hpos := sz_pos t
  intro k c hk
  have hkl : k < n * t.sz := by
    have := (List.getElem?_eq_some_iff.1 hk).1
    rwa [flat_len, List.length_replicate] at this
  have hkm : k < m * t.sz := Nat.lt_of_lt_of_le hkl (Nat.mul_le_mul_right _ hn)
  have hq : k / t.sz < n := (Nat.div_lt_iff_lt_mul hpos).2 hkl
  have hr : k % t.sz < t.sz := Nat.mod_lt _ hpos
  have hdm : k / t.sz * t.sz + k % t.sz = k := by rw [Nat.mul_comm]; exact Nat.div_add_mod k t.sz
  have h1 := flat_get t (List.replicate n t.zero) (k / t.sz) (k % t.sz) (by simpa using hq) hr
  rw [hdm, hk] at h1
  have h2 : (List.replicate n t.zero).getD (k / t.sz) t.zero = t.zero := by simp [List.getD_eq_getElem?_getD, List.getElem?_replicate, hq]
  rw [h2] at h1
  obtain ⟨u, h3, h4⟩ := zvals_row ro t _ c h1.symm
  refine ⟨u, ?_, h4⟩
  rw [← hz] at h3
  have h5 : z[k % t.sz]? = some u := by simpa using h3
  simp only [madeCells, Nat.zero_add, Array.getElem?_map]
  rw [Array.getElem?_eq_getElem (by simpa using hkm)]
  have h6 : z[k % t.sz]! = u := by rw [getElem!_def, h5]
  simp [zl, h6]

theorem snd_makeSlice (h : Rel E w0 M n st a w) (ht : TabOk P E tab) (hd : ∀ d, o.dst = some d → d < n) {ty : TypeId} {x y : Operand} (ho : o.op = .makeSlice ty x y) {t : Tr} (htr : trMakeSlice tab st ty (o.dst.getD 0) x y = some t) (hp : t.pre) :
    Sound P E w0 M n o st a w t := by
  generalize hD : o.dst.getD 0 = D at htr
  obtain ⟨g, hg, henv⟩ := h.good
  unfold trMakeSlice at htr
  split at htr
  · rename_i sz by_ e t' kl l kc c hti hl hc
    injection htr with htr
    subst htr
    obtain ⟨hfr, h0, h1, h2⟩ := hp
    obtain ⟨inf, d, _, hu, _, _, ⟨rfl, _⟩, ie, hie, hsz, hby, hrw⟩ := ht _ _ hti
    obtain ⟨rfl, z, hz, hzv⟩ := hrw rfl
    have e1 := (ev_val h hl).1
    have e2 := (ev_val h hc).1
    have hbytes : (ie.bytes : Int) * c ≤ 281474976710656 := by
      have : (ie.bytes : Int) * c ≤ 256 * 4294967296 := Int.mul_le_mul (by omega) h2 (by omega) (by omega)
      omega
    have hr := run_make (P := P) w ty (E t') ie z hu hie hz kl kc l c h0 h1 hbytes (by omega)
    have hop : (execOp a.eval o).run P w = .ok (.value (.slice (some ⟨w.heap.size, 0, none⟩) l.toNat c.toNat)) (w.alloc (.cells (madeCells z.cells (c.toNat * ie.size)) (E t'))) := by
      simp [execOp, ho, e1, e2, hr]
    refine Sound.make h hd (nid st.base D 0) (.slice (some ⟨w.heap.size, 0, none⟩) l.toNat c.toNat) l.toNat hop (fun M => ext_alloc M w _) ?_ ?_ ?_ ?_ ?_
    · intro p hpm; simp at hpm; subst hpm; exact hfr
    · intro b hb; simp [blkOf] at hb; omega
    · intro id hid
      simp [S.refs, S0.refs, CV.refs] at hid
      subst hid
      exact .inr ⟨_, List.mem_singleton.2 rfl⟩
    · intro k q hq id hid
      simp at hq
      obtain ⟨_, rfl⟩ := hq
      simp [Res.refs] at hid
    · intro g hg henv g' e1 e2 e3 e4 e5 e6
      refine ⟨⟨(e4 hfr).symm, rfl⟩, ?_⟩
      intro id q hq
      simp at hq
      obtain ⟨rfl, rfl⟩ := hq
      refine .inl ⟨rfl, by simp [e5 hfr], .inr ⟨w.heap.size, c.toNat, _, by simp [e4 hfr], heap_new w _, by simp; omega, by simp only [maxLen]; omega, by simp [madeCells, hsz], ?_⟩⟩
      rw [hsz]
      exact made_row g'.ro t' z.cells hzv c.toNat l.toNat (by omega)
  · cases htr

theorem snd_buildSlice (h : Rel E w0 M n st a w) (ht : TabOk P E tab) (hd : ∀ d, o.dst = some d → d < n) {ty : TypeId} {len : Nat} {ps : Array (Nat × Operand)} (ho : o.op = .buildSlice ty len ps) {t : Tr}
    (htr : trBuildSlice tab st ty (o.dst.getD 0) len ps.toList = some t) (hp : t.pre) : Sound P E w0 M n o st a w t := by
  generalize hD : o.dst.getD 0 = D at htr
  have hparts : (ps.map fun (i, x) => (i, a.eval x)).toList = ps.toList.map fun p => (p.1, a.eval p.2) := by simp
  obtain ⟨g, hg, henv⟩ := h.good
  unfold trBuildSlice at htr
  split at htr
  · rename_i sz by_ e t' hti
    split at htr
    · rename_i xs ids hxs
      split at htr
      · rename_i hlen
        injection htr with htr
        subst htr
        obtain ⟨hfr, hns⟩ := hp
        obtain ⟨inf, d, _, hu, _, _, ⟨rfl, _⟩, ie, hie, hsz, hby, hrw⟩ := ht _ _ hti
        obtain ⟨rfl, z, hz, hzv⟩ := hrw rfl
        obtain ⟨ro', hro, hdr, hg1⟩ := hg.freeze ids fun id hid => ⟨notSpent_mem hns id hid, elems_refs ps.toList 0 xs ids hxs id hid⟩
        obtain ⟨us, u1, u2, u3, _⟩ := elems_R hro henv ps.toList 0 xs ids (madeCells z.cells (len * ie.size)) hxs hdr (by rw [size_madeCells, hsz, Nat.zero_add, hlen.1]; exact Nat.le_refl _)
        have hr : (Instr.buildSlice ty len (ps.map fun (i, x) => (i, a.eval x))).run P w = .ok (.slice (some ⟨w.heap.size, 0, none⟩) len len) (w.alloc (.cells us (E t'))) := by
          by_cases hpos : len * ie.size = 0
          · rw [← hsz] at u1
            have hl0 : len = 0 := by
              rcases Nat.mul_eq_zero.1 hpos with h | h
              · exact h
              · rw [hsz] at h; have := sz_pos t'; omega
            subst hl0
            have hx0 : xs = [] := List.eq_nil_of_length_eq_zero hlen.1
            subst hx0
            have hps : ps.toList = [] := by
              cases hq : ps.toList with
              | nil => rfl
              | cons p l =>
                rw [hq] at hxs
                obtain ⟨i, x⟩ := p
                simp only [elemsOf] at hxs
                split at hxs
                · split at hxs
                  · simp at hxs
                  · cases hxs
                · cases hxs
            rw [hps] at u1
            have hus : us = madeCells z.cells (0 * ie.size) := by simpa [Instr.fill] using u1.symm
            have hps' : ps = #[] := by cases ps; simp_all
            have h0 : us = #[] := by rw [hus]; simp [madeCells, Array.range_zero']
            simp [Instr.buildSlice, run_underlying hu, run_sizeOf hie, hps', Instr.fill, newRow, h0, Array.range_zero']
          · refine run_buildSlice (P := P) w ty (E t') len _ us ie z hu hie hz (by rw [hsz]; omega) hpos ?_
            rw [hparts, hsz]
            rw [hsz] at u1
            exact u1
        have hop : (execOp a.eval o).run P w = .ok (.value (.slice (some ⟨w.heap.size, 0, none⟩) len len)) (w.alloc (.cells us (E t'))) := by
          simp [execOp, ho, hr]
        refine Sound.make1 h hd henv hg1 hro rfl rfl rfl (nid st.base D 0) (.slice (some ⟨w.heap.size, 0, none⟩) len len) len hop (fun M => ext_alloc M w _) ?_ ?_ ?_ ?_ ?_ ?_
        · intro p hpm; simp at hpm; subst hpm; exact hfr
        · intro b hb; simp [blkOf] at hb; omega
        · intro id hid
          simp [S.refs, S0.refs, CV.refs] at hid
          subst hid
          exact .inr ⟨_, List.mem_singleton.2 rfl⟩
        · intro k q hq id hid
          simp at hq
          obtain ⟨_, rfl⟩ := hq
          simp [Res.refs] at hid
        · exact ⟨(gnew_new hfr).1.symm, rfl⟩
        · intro id q hq
          simp at hq
          obtain ⟨rfl, rfl⟩ := hq
          have hN := gnew_new (g := { g with ro := ro' }) (vb := .slice (some ⟨w.heap.size, 0, none⟩) len len) (nb := len) hfr
          have hmax : len ≤ maxLen := by
            have := hlen.2
            have h3 : len * 1 ≤ len * t'.sz := Nat.mul_le_mul_left _ (sz_pos t')
            simp only [maxLen]
            omega
          refine .inl ⟨rfl, by rw [hN.2, hlen.1], .inr ⟨w.heap.size, len, us, by rw [hN.1, hlen.1], heap_new w _, by omega, hmax, ?_, ?_⟩⟩
          · rw [u2, size_madeCells, hsz]
          · show RowR ro' _ _ _
            simpa using u3
      · cases htr
    · cases htr
  · cases htr

end
end Go.SE

namespace Go.SE
open Go.RowKit

section
variable {P : Program} {E : Ty → TypeId} {tab : TypeId → Option TI} {w0 : World} {M : MM} {n : Nat} {o : Oper} {st : St} {a : Act} {w : World}

theorem RowR.vals {ro : Nat → Option (Array Value)} {ds : List DC} {vs : Array Value} {o : Nat} (h : RowR ro ds vs o) :
    ∃ news : List Value, news.length = ds.length ∧ (∀ (j : Nat) (u : Value), news[j]? = some u → vs[o + j]? = some u) ∧ (∀ u ∈ news, u.oneCell' = true) ∧ ∀ (k : Nat) (c : DC), ds[k]? = some c → ∃ u, news[k]? = some u ∧ DR ro c u := by
  have hlt : ∀ j, j < ds.length → ∃ u, vs[o + j]? = some u ∧ u.oneCell' = true := fun j hj => by
    obtain ⟨u, h1, h2⟩ := h j ds[j] (List.getElem?_eq_getElem hj)
    exact ⟨u, h1, h2.one⟩
  have hfit : ds.length = 0 ∨ o + ds.length ≤ vs.size := by
    by_cases h0 : ds.length = 0
    · exact .inl h0
    · right
      obtain ⟨u, h1, _⟩ := hlt (ds.length - 1) (by omega)
      have := (Array.getElem?_eq_some_iff.1 h1).1
      omega
  have get : ∀ j, ((vs.toList.drop o).take ds.length)[j]? = if j < ds.length then vs[o + j]? else none := by
    intro j
    rw [List.getElem?_take]
    split
    · rw [List.getElem?_drop]; simp
    · rfl
  refine ⟨(vs.toList.drop o).take ds.length, ?_, ?_, ?_, ?_⟩
  · rcases hfit with h0 | h0
    · simp [h0]
    · simp; omega
  · intro j u hj
    rw [get] at hj
    split at hj
    · exact hj
    · cases hj
  · intro u hu
    obtain ⟨j, hj⟩ := List.getElem?_of_mem hu
    rw [get] at hj
    split at hj
    · rename_i hjl
      obtain ⟨u', h1, h2⟩ := hlt j hjl
      rw [hj] at h1
      injection h1 with h1
      subst h1
      exact h2
    · cases hj
  · intro k c hk
    obtain ⟨u, h1, h2⟩ := h k c hk
    exact ⟨u, by rw [get, if_pos (List.getElem?_eq_some_iff.1 hk).1]; exact h1, h2⟩

theorem RowR.of_vals {ro : Nat → Option (Array Value)} {ds : List DC} {news : List Value} (h : ∀ (k : Nat) (c : DC), ds[k]? = some c → ∃ u, news[k]? = some u ∧ DR ro c u) {vs : Array Value} {o : Nat} (hv : ∀ (j : Nat) (u : Value), news[j]? = some u → vs[o + j]? = some u) : RowR ro ds vs o := by
  intro k c hk
  obtain ⟨u, h1, h2⟩ := h k c hk
  exact ⟨u, hv k u h1, h2⟩

theorem src_of {g : G} {ty e : TypeId} {t : Ty} {ys : List t.den} {v : Value} (hu : P.underlying ty = some (.slice e)) (h : SliceR w g t ys v) :
    ∃ news : List Value, _root_.Go.Src P t.sz ty v ys.length news w ∧ ∀ (k : Nat) (c : DC), (flat t ys)[k]? = some c → ∃ u, news[k]? = some u ∧ DR g.ro c u := by
  rcases h with ⟨rfl, rfl⟩ | ⟨b, o, cap, vs, bt, fz, rfl, hb, hle, hcap, hrow⟩
  · exact ⟨[], _root_.Go.Src.ofNil w hu 0, by simp [flat]⟩
  · obtain ⟨news, h1, h2, h3, h4⟩ := hrow.vals
    refine ⟨news, _root_.Go.Src.ofSlice w hu ⟨b, o, none⟩ ys.length cap news (by rw [h1, flat_len]) (fun j u hj => ?_) h3, h4⟩
    rw [Addr.add_lit, cell_at hb]
    exact h2 j u hj

def AppR (P : Program) (E : Ty → TypeId) (w0 w : World) (g : G) (id : Nat) (t : Ty) (xs ys : List t.den) (vy : Value) (ty rty : TypeId) : Prop :=
    ∃ v' w', (Builtin.append_ #[ty, ty] rty #[g.κ id, vy]).run P w = .ok v' w' ∧ (∀ M : Nat → Prop, (∀ b, blkOf (g.κ id) = some b → w0.heap.size ≤ b ∨ M b) → Ext M w0 w → Ext M w0 w') ∧
      (∀ b, b < w.heap.size → blkOf (g.κ id) ≠ some b → w'.heap[b]? = w.heap[b]?) ∧
      (∀ b cur bt, blkOf (g.κ id) = some b → w.heap[b]? = some (.cells cur bt (0, 0)) → ∃ cur', w'.heap[b]? = some (.cells cur' bt (0, 0)) ∧ cur'.size = cur.size ∧ ∀ k, k < xs.length * t.sz → cur'[k]? = cur[k]?) ∧
      w.heap.size ≤ w'.heap.size ∧ v'.oneCell' = true ∧
      (∀ b, blkOf v' = some b → blkOf (g.κ id) = some b ∨ w.heap.size ≤ b) ∧
      ((v' = .slice none 0 0 ∧ xs ++ ys = []) ∨ ∃ b cap cur, v' = .slice (some ⟨b, 0, none⟩) (xs ++ ys).length cap ∧ w'.heap[b]? = some (.cells cur (E t) (0, 0)) ∧ (xs ++ ys).length ≤ cap ∧ cap ≤ maxLen ∧ cur.size = cap * t.sz ∧ RowR g.ro (flat t (xs ++ ys)) cur 0)

theorem append_run {g : G} {id fam : Nat} {t : Ty} {xs ys : List t.den} {vy : Value} {ty rty : TypeId} {ie : TypeInfo} {z : Value} (hres : ResR E w g id (.sl fam t xs)) (hsrc : SliceR w g t ys vy)
    (hu : P.underlying ty = some (.slice (E t))) (hie : P.info? (E t) = some ie) (hsz : ie.size = t.sz) (hby : ie.bytes ≤ 256) (hz : ie.zero = some z) (hzv : z.cells.toList = t.zvals) (hlen : xs.length + ys.length ≤ 4294967296) :
    AppR P E w0 w g id t xs ys vy ty rty := by
  obtain ⟨news, hS, hnews⟩ := src_of (P := P) hu hsrc
  rw [← hsz] at hS
  have hzs : z.cells.size = ie.size := by rw [← Array.length_toList, hzv]; simp [Ty.zvals, cells_len, hsz]
  have same : ∀ {v' : Value}, (Builtin.append_ #[ty, ty] rty #[g.κ id, vy]).run P w = .ok v' w → v' = g.κ id → ys = [] → AppR P E w0 w g id t xs ys vy ty rty := by
    intro v' hr hv hy
    subst hv hy
    have hone : (g.κ id).oneCell' = true := by
      rcases hres.2 with ⟨h, _⟩ | ⟨b, cap, cur, h, _⟩ <;> rw [h] <;> rfl
    refine ⟨g.κ id, w, hr, fun M _ h => h, fun _ _ _ => rfl, fun b cur bt _ hb => ⟨cur, hb, rfl, fun _ _ => rfl⟩, Nat.le_refl _, hone, fun b hb => .inl hb, ?_⟩
    rw [List.append_nil]
    exact hres.2
  -- a new row
  have grow : ∀ (base : Option Addr) (cap : Nat) (olds : List Value), g.κ id = .slice base xs.length cap → cap < xs.length + ys.length → olds.length = xs.length * t.sz → (Builtin.firstCells ie.size xs.length (.slice base xs.length cap)).run P w.drew = .ok olds.toArray w.drew →
      (∀ (k : Nat) (c : DC), (flat t xs)[k]? = some c → ∃ u, olds[k]? = some u ∧ DR g.ro c u) → AppR P E w0 w g id t xs ys vy ty rty := by
    intro base cap olds hκ hc holdl hold holds
    have hfit : Builtin.nextslicecap (xs.length + ys.length) cap * ie.bytes ≤ 281474976710656 := by
      have h1 := nextslicecap_le hc
      have h2 : Builtin.nextslicecap (xs.length + ys.length) cap * ie.bytes ≤ (2 * (xs.length + ys.length)) * 256 := Nat.mul_le_mul h1 hby
      omega
    have hr := run_append_grow_src (P := P) w ty ty rty (E t) ie z hu hie hz base xs.length cap olds hold vy ys.length news hS hc (by omega) hfit
    have hge := grownCap_ge w (xs.length + ys.length) cap (E t)
    have hcm : grownCap w (xs.length + ys.length) cap (E t) ≤ maxLen := grownCap_le_maxLen w _ cap (E t) (by simp only [maxLen]; omega)
    generalize hgc : grownCap w (xs.length + ys.length) cap (E t) = gc at hr hge hcm
    have hnl : news.length = ys.length * t.sz := by rw [hS.newsLen, hsz]
    refine ⟨.slice (some ⟨w.heap.size, 0, none⟩) (xs.length + ys.length) gc, w.drew.alloc (.cells ((olds ++ news).toArray ++ Builtin.zeroCells z.cells (gc - (xs.length + ys.length))) (E t)), by rw [hκ]; exact hr, ?_, ?_, ?_, ?_, rfl, ?_, ?_⟩
    · intro M _ h
      exact h.trans ⟨rfl, rfl, rfl, by simp, fun b hb _ => heap_alloc_old w.drew _ hb⟩
    · intro b hb _
      exact heap_alloc_old w.drew _ hb
    · intro b cur bt hb hbc
      exact ⟨cur, by rw [← hbc]; exact heap_alloc_old w.drew _ (lt_of_some hbc), rfl, fun _ _ => rfl⟩
    · simp
    · intro b hb
      simp [blkOf] at hb
      omega
    · refine .inr ⟨w.heap.size, gc, _, by simp, heap_alloc_new w.drew _, by simpa using hge, hcm, ?_, ?_⟩
      · simp only [Array.size_append, List.size_toArray, List.length_append, size_zeroCells, hzs, holdl, hnl, hsz, ← Nat.add_mul]
        congr 1
        omega
      · rw [flat_append]
        have hfl : (flat t xs).length = olds.length := by rw [flat_len, holdl]
        refine RowR.append (RowR.of_vals holds fun j u hj => ?_) (RowR.of_vals hnews fun j u hj => ?_)
        · have hlt := (List.getElem?_eq_some_iff.1 hj).1
          rw [Array.getElem?_append_left (by simp; omega)]
          simp only [List.getElem?_toArray, Nat.zero_add]
          rw [List.getElem?_append_left hlt]
          exact hj
        · have hlt := (List.getElem?_eq_some_iff.1 hj).1
          rw [Array.getElem?_append_left (by simp; omega)]
          simp only [List.getElem?_toArray, Nat.zero_add]
          rw [List.getElem?_append_right (by omega), hfl]
          rw [show olds.length + j - olds.length = j from by omega]
          exact hj
  rcases hres.2 with ⟨hκ, hx⟩ | ⟨b, cap, cur, hκ, hb, hle, hcap, hcs, hrow⟩
  · by_cases hy : ys = []
    · subst hy
      have hn0 : news = [] := List.eq_nil_of_length_eq_zero (by simpa using hS.newsLen)
      subst hn0
      have := run_append_nothing (P := P) w ty ty rty (E t) ie hu hie none 0 0 (Nat.le_refl _) vy hS
      exact same (v' := g.κ id) (by rw [hκ]; exact this) rfl rfl
    · have hyl : 0 < ys.length := List.length_pos_iff.2 hy
      refine grow none 0 [] (by rw [hκ, hx]; rfl) (by omega) (by simp [hx]) ?_ (by simp [hx, flat])
      simpa using run_firstCells_none (P := P) w.drew ie.size xs.length xs.length 0
  · by_cases hy : ys = []
    · subst hy
      have hn0 : news = [] := List.eq_nil_of_length_eq_zero (by simpa using hS.newsLen)
      subst hn0
      have := run_append_nothing (P := P) w ty ty rty (E t) ie hu hie (some ⟨b, 0, none⟩) xs.length cap hle vy hS
      exact same (v' := g.κ id) (by rw [hκ]; exact this) rfl rfl
    · by_cases hroom : xs.length + ys.length ≤ cap
      · rcases hsrc with ⟨_, h0⟩ | ⟨b', o', cap', vs', bt', fz', hvy, hb', hle', hcap', hrow'⟩
        · exact (hy h0).elim
        · obtain ⟨news, h1, h2, h3, h4⟩ := hrow'.vals
          rw [flat_len] at h1
          have hfit : xs.length * ie.size + news.length ≤ cur.size := by rw [hcs, h1, hsz, ← Nat.add_mul]; exact Nat.mul_le_mul_right _ hroom
          have hfit' : xs.length * ie.size + news.length ≤ cur.toList.length := by simpa using hfit
          have hr := run_append_room (P := P) w ty rty (E t) ie hu hie b xs.length cap cur hb ⟨b', o', none⟩ ys.length cap' news (by rw [h1, hsz]) (fun j u hj => by rw [Addr.add_lit, cell_at hb']; exact h2 j u hj) h3 hroom hfit
          have hcur : (cur.toList.take (xs.length * ie.size) ++ news ++ cur.toList.drop (xs.length * ie.size + news.length)).toArray = over cur (xs.length * ie.size) news := rfl
          rw [hcur] at hr
          refine ⟨.slice (some ⟨b, 0, none⟩) (xs.length + ys.length) cap, _, by rw [hκ, hvy]; exact hr, ?_, ?_, ?_, by simp, rfl, ?_, ?_⟩
          · intro M hfr h
            refine ⟨h.os, h.tape, h.output, by simpa using h.size, fun b2 hb2 hM => ?_⟩
            rw [setRow_other w b b2 _ fun e => ?_]
            · exact h.block b2 hb2 hM
            · subst e
              rcases hfr b2 (by rw [hκ]; rfl) with h5 | h5
              · omega
              · exact hM h5
          · intro b2 hb2 hne
            exact setRow_other w b b2 _ (fun e => hne (by rw [hκ, e]; rfl))
          · intro b2 cur2 bt hbb hbc
            rw [hκ] at hbb
            simp [blkOf] at hbb
            subst hbb
            rw [hb] at hbc
            simp at hbc
            obtain ⟨rfl, rfl⟩ := hbc
            refine ⟨_, setRow_heap w b _ _ _ _ hb, over_size hfit, fun k hk => ?_⟩
            rw [over_get hfit, if_neg (by rw [hsz]; omega)]
          · intro b2 hb2
            simp [blkOf] at hb2
            exact .inl (by rw [hκ, ← hb2]; rfl)
          · refine .inr ⟨b, cap, _, by simp, setRow_heap w b _ _ _ _ hb, by simpa using hroom, hcap, by rw [over_size hfit, hcs], ?_⟩
            rw [flat_append]
            refine RowR.append ?_ (RowR.of_vals h4 fun j u hj => ?_)
            · intro k c hk
              have hkl : k < xs.length * t.sz := by have := (List.getElem?_eq_some_iff.1 hk).1; rwa [flat_len] at this
              obtain ⟨u, h5, h6⟩ := hrow k c hk
              exact ⟨u, by rw [over_get hfit, if_neg (by rw [hsz]; omega)]; exact h5, h6⟩
            · have hlt := (List.getElem?_eq_some_iff.1 hj).1
              rw [over_get hfit, flat_len, if_pos (by rw [hsz]; omega)]
              rw [show 0 + xs.length * t.sz + j - xs.length * ie.size = j from by rw [hsz]; omega]
              exact hj
      · obtain ⟨olds, h1, h2, h3, h4⟩ := hrow.vals
        rw [flat_len] at h1
        refine grow (some ⟨b, 0, none⟩) cap olds hκ (by omega) h1 ?_ h4
        refine run_firstCells_some (P := P) w.drew ie.size xs.length ⟨b, 0, none⟩ xs.length cap olds (by rw [h1, hsz]) fun j u hj => ?_
        rw [Addr.add_lit, cell_at (w := w.drew) hb]
        exact h2 j u hj

theorem Good.append {g : G} (hg : Good E w0 M g st w) (cl : Cl st) {id fam k : Nat} {t : Ty} {xs ys : List t.den} (hm : st.mem id = some (.sl fam t xs)) (hs : st.sp id = false) (hf : st.fr id = false) (hk : st.mem k = none) {v' : Value} {w' : World}
    (hext : ∀ M : Nat → Prop, (∀ b, blkOf (g.κ id) = some b → w0.heap.size ≤ b ∨ M b) → Ext M w0 w → Ext M w0 w')
    (hw : ∀ b, b < w.heap.size → blkOf (g.κ id) ≠ some b → w'.heap[b]? = w.heap[b]?)
    (hrow : ∀ b cur bt, blkOf (g.κ id) = some b → w.heap[b]? = some (.cells cur bt (0, 0)) → ∃ cur', w'.heap[b]? = some (.cells cur' bt (0, 0)) ∧ cur'.size = cur.size ∧ ∀ k, k < xs.length * t.sz → cur'[k]? = cur[k]?)
    (hblk : ∀ b, blkOf v' = some b → blkOf (g.κ id) = some b ∨ w.heap.size ≤ b)
    (hval : ((v' = .slice none 0 0 ∧ xs ++ ys = []) ∨ ∃ b cap cur, v' = .slice (some ⟨b, 0, none⟩) (xs ++ ys).length cap ∧ w'.heap[b]? = some (.cells cur (E t) (0, 0)) ∧ (xs ++ ys).length ≤ cap ∧ cap ≤ maxLen ∧ cur.size = cap * t.sz ∧ RowR g.ro (flat t (xs ++ ys)) cur 0)) :
    Good E w0 M (gnew st g k v' (xs ++ ys).length) { st with mem := adds st.mem [(k, .sl fam t (xs ++ ys))], sp := sets st.sp [id] } w' := by
  have old : ∀ i r, st.mem i = some r → (gnew st g k v' (xs ++ ys).length).κ i = g.κ i ∧ (gnew st g k v' (xs ++ ys).length).ln i = g.ln i := fun i r hi => gnew_old (by simp [hi])
  have new := gnew_new (g := g) (vb := v') (nb := (xs ++ ys).length) hk
  have cases : ∀ i r, adds st.mem [(k, .sl fam t (xs ++ ys))] i = some r → (i = k ∧ r = .sl fam t (xs ++ ys)) ∨ (i ≠ k ∧ st.mem i = some r) := by
    intro i r hi
    simp only [adds] at hi
    by_cases e : i = k
    · subst e; rw [upd_same] at hi; injection hi with hi; exact .inl ⟨rfl, hi.symm⟩
    · rw [upd_ne _ _ e] at hi; exact .inr ⟨e, hi⟩
  have spk : ∀ i, sets st.sp [id] i = (st.sp i || i == id) := fun i => by rw [sets_get]; by_cases e : i = id <;> simp [e]
  have hlt : ∀ i r, st.mem i = some r → r.live → ∀ b, blkOf (g.κ i) = some b → b < w.heap.size := fun i r hi hl b hb => (hg.res i r hi).lt hl hb
  have rob : ∀ b, blkOf (g.κ id) = some b → g.ro b = none := fun b hb => hg.wro id _ hm trivial b hb hs hf
  have hsize : w.heap.size ≤ w'.heap.size ∨ True := .inr trivial
  have hrds : st.rd ≠ none → RdSame w0 w' g.ρ := fun hn => (hg.rds hn).next fun hb => hw _ hb fun e => by
    cases hr : st.rd with
    | none => exact hn hr
    | some m => exact (hg.rd m hr).2.2 id _ hm trivial e
  refine ⟨hext M.can (hg.fresh id _ hm trivial) hg.ext, ?_, ?_, ?_, ?_, ?_, ?_, hrds, hg.roo, hg.rho, fun i v hv => ⟨adds_isSome (hg.pin i v hv).1, (gnew_old (hg.pin i v hv).1).1.trans (hg.pin i v hv).2⟩, ⟨fun i m hv => ⟨adds_isSome (hg.keep.1 i m hv).1, (gnew_old (hg.keep.1 i m hv).1).2.trans (hg.keep.1 i m hv).2⟩, hg.keep.2⟩⟩
  · intro b vs hb
    obtain ⟨ty, fz, hh⟩ := hg.ro b vs hb
    refine ⟨ty, fz, ?_⟩
    rw [hw b (lt_of_some hh) fun e => ?_]
    · exact hh
    · have := rob b e
      have hb' : g.ro b = some vs := hb
      rw [this] at hb'; cases hb'
  · intro i r hi
    replace hi := cases i r hi
    rcases hi with ⟨rfl, rfl⟩ | ⟨hik, hi⟩
    · refine ⟨new.2, ?_⟩
      rw [new.1]
      exact hval
    · by_cases hl : r.live
      · by_cases hb : ∃ b, blkOf (g.κ id) = some b ∧ blkOf (g.κ i) = some b
        · obtain ⟨b, hb1, hb2⟩ := hb
          -- the row itself, or one of its family
          have fami : ∃ ys' : List t.den, r = .sl fam t ys' ∧ ys'.length ≤ xs.length := by
            by_cases e : i = id
            · subst e; rw [hm] at hi; injection hi with hi; exact ⟨xs, hi.symm, Nat.le_refl _⟩
            · obtain ⟨f, t', xs', ys', h1, h2, h3⟩ := hg.sep id i _ r hm hi (Ne.symm e) trivial hl b hb1 hb2
              injection h1 with e1 e2 e3
              subst e1 e2
              cases e3
              exact ⟨ys', h2, (h3 hs).2⟩
          obtain ⟨ys', rfl, hle⟩ := fami
          obtain ⟨hln, hres⟩ := hg.res i _ hi
          refine ⟨by rw [(old i _ hi).2]; exact hln, ?_⟩
          rw [(old i _ hi).1]
          rcases hres with h | ⟨b', cap, cur, h1, h2, h3, h4, h5, h6⟩
          · exact .inl h
          · have e : b' = b := by rw [h1] at hb2; simpa [blkOf] using hb2
            subst e
            obtain ⟨cur', c1, c2, c3⟩ := hrow b' cur _ hb1 h2
            refine .inr ⟨b', cap, cur', h1, c1, h3, h4, by rw [c2, h5], ?_⟩
            intro j c hj
            have hjl : j < ys'.length * t.sz := by have := (List.getElem?_eq_some_iff.1 hj).1; rwa [flat_len] at this
            obtain ⟨u, h7, h8⟩ := h6 j c hj
            have := Nat.mul_le_mul_right t.sz hle
            exact ⟨u, by rw [c3 _ (by omega)]; exact h7, h8⟩
        · refine (hg.res i r hi).keep (g' := gnew st g k v' (xs ++ ys).length) (fun b hb' => hw b (hlt i r hi hl b hb') fun e => hb ⟨b, e, hb'⟩) (fun _ _ h => h) rfl (old i r hi) fun j hj => ?_
          have := cl.2 i r hi j hj
          exact gnew_old this
      · cases r with
        | dead => trivial
        | _ => exact (hl trivial).elim
  · intro i j r s hi hj hij hli hlj b hbi hbj
    replace hi := cases i r hi
    replace hj := cases j s hj
    rcases hi with ⟨rfl, rfl⟩ | ⟨hik, hi⟩ <;> rcases hj with ⟨rfl, rfl⟩ | ⟨hjk, hj⟩
    · exact (hij rfl).elim
    · rw [new.1] at hbi
      rw [(old j s hj).1] at hbj
      rcases hblk b hbi with hb | hb
      · by_cases e : j = id
        · subst e
          rw [hm] at hj
          injection hj with hj
          exact ⟨fam, t, xs ++ ys, xs, rfl, hj.symm, fun _ => ⟨by simp [spk], by simp⟩⟩
        · obtain ⟨f, t', xs', ys', h1, h2, h3⟩ := hg.sep id j _ s hm hj (Ne.symm e) trivial hlj b hb hbj
          injection h1 with e1 e2 e3
          subst e1 e2
          cases e3
          refine ⟨fam, t, xs ++ ys, ys', rfl, h2, fun _ => ⟨by simp [spk, (h3 hs).1], ?_⟩⟩
          have := (h3 hs).2
          simp; omega
      · have := hlt j s hj hlj b hbj; omega
    · rw [new.1] at hbj
      rw [(old i r hi).1] at hbi
      rcases hblk b hbj with hb | hb
      · by_cases e : i = id
        · subst e
          rw [hm] at hi
          injection hi with hi
          exact ⟨fam, t, xs, xs ++ ys, hi.symm, rfl, fun h => by simp [spk] at h⟩
        · obtain ⟨f, t', xs', ys', h1, h2, h3⟩ := hg.sep id i _ r hm hi (Ne.symm e) trivial hli b hb hbi
          injection h1 with e1 e2 e3
          subst e1 e2
          cases e3
          refine ⟨fam, t, ys', xs ++ ys, h2, rfl, fun h => ?_⟩
          simp [spk, (h3 hs).1] at h
      · have := hlt i r hi hli b hbi; omega
    · rw [(old i r hi).1] at hbi
      rw [(old j s hj).1] at hbj
      obtain ⟨f, t', xs', ys', h1, h2, h3⟩ := hg.sep i j r s hi hj hij hli hlj b hbi hbj
      refine ⟨f, t', xs', ys', h1, h2, fun h => ?_⟩
      simp only [spk, Bool.or_eq_false_iff] at h
      have := h3 h.1
      exact ⟨by simp [spk, this.1], this.2⟩
  · intro i r hi hl b hb
    replace hi := cases i r hi
    rcases hi with ⟨rfl, rfl⟩ | ⟨hik, hi⟩
    · rw [new.1] at hb
      rcases hblk b hb with hb | hb
      · exact hg.fresh id _ hm trivial b hb
      · exact .inl (Nat.le_trans hg.ext.size hb)
    · rw [(old i r hi).1] at hb
      exact hg.fresh i r hi hl b hb
  · intro i r hi hl b hb h1 h2
    show g.ro b = none
    replace hi := cases i r hi
    rcases hi with ⟨rfl, rfl⟩ | ⟨hik, hi⟩
    · rw [new.1] at hb
      rcases hblk b hb with hb | hb
      · exact rob b hb
      · cases hr : g.ro b with
        | none => rfl
        | some vs =>
          obtain ⟨ty, fz, hh⟩ := hg.ro b vs hr
          have := lt_of_some hh
          omega
    · rw [(old i r hi).1] at hb
      simp only [spk, Bool.or_eq_false_iff] at h1
      exact hg.wro i r hi hl b hb h1.1 h2
  · intro m hmr
    obtain ⟨⟨hlim, hout, code, v, p, ty, hc, hd, hrest⟩, hin, hno⟩ := hg.rd m hmr
    have hρlt := lt_of_some hc
    refine ⟨⟨hlim, hout, code, v, p, ty, ?_, hd, hrest⟩, hin, ?_⟩
    · show w'.heap[g.ρ]? = _
      rw [hw _ hρlt fun e => hno id _ hm trivial e]
      exact hc
    · intro i r hi hl
      show _ ≠ some g.ρ
      replace hi := cases i r hi
      rcases hi with ⟨rfl, rfl⟩ | ⟨hik, hi⟩
      · rw [new.1]
        intro e
        rcases hblk _ e with hb | hb
        · exact hno id _ hm trivial hb
        · omega
      · rw [(old i r hi).1]
        exact hno i r hi hl

theorem snd_append (h : Rel E w0 M n st a w) (ht : TabOk P E tab) (hd : ∀ d, o.dst = some d → d < n) {ty : TypeId} {x y : Operand} {args : Array Operand} {tys : Array TypeId} (hargs : args.toList = [x, y]) (htys : tys.toList = [ty, ty])
    (ho : o.op = .call ⟨.builtin .append, args, tys⟩) {t : Tr} (htr : trAppend tab st ty (o.dst.getD 0) x y = some t) (hp : t.pre) : Sound P E w0 M n o st a w t := by
  have ea : args = #[x, y] := by cases args; simp_all
  have et : tys = #[ty, ty] := by cases tys; simp_all
  subst ea et
  generalize hD : o.dst.getD 0 = D at htr
  obtain ⟨g, hg, henv⟩ := h.good
  have hx := ev_R henv x
  have hy := ev_R henv y
  unfold trAppend at htr
  split at htr
  · rename_i sz by_ e t' id v hti hev hevy
    rw [hev] at hx
    rw [hevy] at hy
    split at htr
    · rename_i fam t'' xs ys hm hr
      split at htr
      · rename_i xs0 hcast
        obtain ⟨rfl, hq⟩ := castL_eq hcast
        cases hq
        injection htr with htr
        subst htr
        obtain ⟨hfr, hs, hf, hlen⟩ := hp
        obtain ⟨inf, d, _, hu, _, _, ⟨rfl, _⟩, ie, hie, hsz, hby, hrw⟩ := ht _ _ hti
        obtain ⟨rfl, z, hz, hzv⟩ := hrw rfl
        obtain ⟨v', w', hrun, h1, h2, h3, h4, h5, h6, h7⟩ := append_run (P := P) (w0 := w0) (rty := o.type) (hg.res _ _ hm) (rdl_R hg hr hy) hu hie hsz hby hz hzv hlen
        have hop : (execOp a.eval o).run P w = .ok (.value v') w' := by
          have e1 : a.eval x = g.κ id := hx.1
          simp [execOp, ho, resolve, invoke, builtin, e1, hrun]
        intro next Q hn
        unfold Oper.wp
        rw [hop, Oper.upon_value]
        refine hn () _ _ trivial ?_
        have e := app_gen st o.dst (.s (.c (.own (nid st.base D 0)))) (free st D 0 ∧ st.sp id = false ∧ st.fr id = false ∧ xs.length + ys.length ≤ 4294967296) [(nid st.base D 0, .sl fam t'' (xs ++ ys))] [id] [] ()
        have hgood := hg.append h.cl hm hs hf hfr h1 h2 h3 h6 h7
        refine Rel.app h hd henv (g' := gnew st g (nid st.base D 0) v' (xs ++ ys).length) (fun _ _ h => h) rfl (fun i hi => gnew_old hi) ?_ ?_ ?_ ?_ ?_
        · rw [e]; exact hgood.env rfl rfl rfl rfl
        · exact ⟨(gnew_new hfr).1.symm, h5⟩
        · rw [e]; exact fun id hid => adds_isSome hid
        · rw [e]
          intro i hi
          simp [S.refs, S0.refs, CV.refs] at hi
          subst hi
          exact adds_new (List.mem_singleton.2 rfl)
        · rw [e]
          intro j r' hj i hi
          rcases adds_cases hj with hj | hj
          · simp at hj
            obtain ⟨_, rfl⟩ := hj
            simp [Res.refs] at hi
          · exact adds_isSome (h.cl.2 j r' hj i hi)
      · cases htr
    · cases htr
  · cases htr

end
end Go.SE

namespace Go.SE
open Go.RowKit

section
variable {P : Program} {E : Ty → TypeId} {tab : TypeId → Option TI} {w0 : World} {M : MM} {n : Nat} {o : Oper} {st : St} {a : Act} {w : World}

theorem Good.write {g : G} (hg : Good E w0 M g st w) (cl : Cl st) {id b : Nat} {r r' : Res} {m' : Nat → Option Res} {w' : World}
    (hm : st.mem id = some r) (hl : r.live) (hb : blkOf (g.κ id) = some b ∨ (blkOf (g.κ id) = none ∧ b = w.heap.size))
    (hm' : ∀ j s, m' j = some s → (j = id ∧ s = r') ∨ (j ≠ id ∧ (st.mem j = some s ∨ s = .dead)))
    (hother : ∀ j s, j ≠ id → m' j = some s → s.live → blkOf (g.κ j) ≠ some b) (hro : g.ro b = none)
    (hos : w'.os = w.os) (htape : w'.tape = w.tape) (hout : w'.output = w.output) (hsize : w'.heap.size = w.heap.size) (hw : ∀ b', b' ≠ b → w'.heap[b']? = w.heap[b']?)
    (hres : ResR E w' g id r') (hdom : ∀ j, (st.mem j).isSome = true → (m' j).isSome = true) : Good E w0 M g { st with mem := m' } w' := by
  have hlive : ∀ j s, j ≠ id → m' j = some s → s.live → st.mem j = some s := by
    intro j s hj hs hl
    rcases hm' j s hs with ⟨e, _⟩ | ⟨_, h | h⟩
    · exact (hj e).elim
    · exact h
    · subst h; exact hl.elim
  have hb1 : ∀ b', blkOf (g.κ id) = some b' → b' = b := by
    intro b' hb'
    rcases hb with hb | ⟨hb, _⟩
    · rw [hb] at hb'; injection hb' with hb'; exact hb'.symm
    · rw [hb] at hb'; cases hb'
  have hfr : w0.heap.size ≤ b ∨ M b := by
    rcases hb with hb | ⟨_, rfl⟩
    · exact hg.fresh id r hm hl b hb
    · exact .inl hg.ext.size
  refine ⟨⟨hos.trans hg.ext.os, htape.trans hg.ext.tape, hout.trans hg.ext.output, by rw [hsize]; exact hg.ext.size, fun b' hb' hM => ?_⟩, ?_, ?_, ?_, ?_, ?_, ?_, ?_, hg.roo, hg.rho, fun i v hv => ⟨hdom i (hg.pin i v hv).1, (hg.pin i v hv).2⟩, ⟨fun i m hv => ⟨hdom i (hg.keep.1 i m hv).1, (hg.keep.1 i m hv).2⟩, hg.keep.2⟩⟩
  · rw [hw b' fun e => ?_]
    · exact hg.ext.block b' hb' hM
    · subst e
      rcases hfr with h | h
      · omega
      · exact hM h
  · intro b' vs hv
    obtain ⟨ty, fz, hh⟩ := hg.ro b' vs hv
    refine ⟨ty, fz, ?_⟩
    rw [hw b' fun e => by subst e; rw [hro] at hv; cases hv]
    exact hh
  · intro j s hs
    by_cases e : j = id
    · subst e
      rcases hm' j s hs with ⟨_, e⟩ | ⟨h, _⟩
      · subst e; exact hres
      · exact (h rfl).elim
    · by_cases hsl : s.live
      · have hj := hlive j s e hs hsl
        exact (hg.res j s hj).keep (fun b' hb' => hw b' fun e' => by subst e'; exact hother j s e hs hsl hb') (fun _ _ h => h) rfl ⟨rfl, rfl⟩ fun _ _ => ⟨rfl, rfl⟩
      · cases s with
        | dead => trivial
        | _ => exact (hsl trivial).elim
  · intro i j ri rj hi hj hij hli hlj b' hbi hbj
    by_cases ei : i = id
    · subst ei
      have := hb1 b' hbi
      subst this
      exact (hother j rj (Ne.symm hij) hj hlj hbj).elim
    · by_cases ej : j = id
      · subst ej
        have := hb1 b' hbj
        subst this
        exact (hother i ri ei hi hli hbi).elim
      · exact hg.sep i j ri rj (hlive i ri ei hi hli) (hlive j rj ej hj hlj) hij hli hlj b' hbi hbj
  · intro j s hs hsl b' hb'
    by_cases e : j = id
    · subst e
      have := hb1 b' hb'
      subst this
      exact hfr
    · exact hg.fresh j s (hlive j s e hs hsl) hsl b' hb'
  · intro j s hs hsl b' hb' h1 h2
    by_cases e : j = id
    · subst e
      have := hb1 b' hb'
      subst this
      exact hro
    · exact hg.wro j s (hlive j s e hs hsl) hsl b' hb' h1 h2
  · intro m hmr
    obtain ⟨⟨hlim, hout, code, v, p, ty, hc, hd, hrest⟩, hin, hno⟩ := hg.rd m hmr
    have hne : g.ρ ≠ b := by
      intro e
      rcases hb with hb | ⟨_, hb⟩
      · exact hno id r hm hl (by rw [hb, e])
      · have := lt_of_some hc
        omega
    refine ⟨⟨hlim, hout, code, v, p, ty, by rw [hw _ hne]; exact hc, hd, hrest⟩, hin, ?_⟩
    intro j s hs hsl
    by_cases e : j = id
    · subst e; exact hno j r hm hl
    · exact hno j s (hlive j s e hs hsl) hsl
  · intro hn
    refine (hg.rds hn).next fun hlt => hw _ fun e => ?_
    cases hr : st.rd with
    | none => exact hn hr
    | some m =>
      rcases hb with hb | ⟨_, hb⟩
      · exact (hg.rd m hr).2.2 id r hm hl (by rw [hb, e])
      · omega

theorem app_wr (st : St) (dst : Option Nat) (s : S) (pre : Prop) (wr : (Nat → Option Res) → Nat → Option Res) (fz : List Nat) (r : Unit) :
    st.app dst (Tr.gen s pre [] [] fz (some wr)) r = { env := (match dst with | some d => upd st.env d s | none => st.env), mem := wr st.mem, sp := st.sp, fr := sets st.fr fz, base := st.base, rd := st.rd } := by
  cases dst <;> simp [St.app, rd_zero, adds, sets]

theorem Sound.wr (h : Rel E w0 M n st a w) (hd : ∀ d, o.dst = some d → d < n) {g g1 : G} {fz : List Nat} (henv : ∀ x, (st.env x).R g (a.tmps.getD x undef)) (hg1 : Good E w0 M g1 { st with fr := sets st.fr fz } w)
    (hro : ∀ b vs, g.ro b = some vs → g1.ro b = some vs) (hκ : g1.κ = g.κ) (hln : g1.ln = g.ln) (hρ : g1.ρ = g.ρ) {s : S} {pre : Prop} {wr : (Nat → Option Res) → Nat → Option Res} {v : Value} {id b : Nat} {r r' : Res} {w' : World}
    (hrun : (execOp a.eval o).run P w = .ok (.value v) w' ∨ ((execOp a.eval o).run P w = .ok .skip w' ∧ v = undef)) (hm : st.mem id = some r) (hl : r.live) (hb : blkOf (g.κ id) = some b ∨ (blkOf (g.κ id) = none ∧ b = w.heap.size))
    (hm' : ∀ j s, wr st.mem j = some s → (j = id ∧ s = r') ∨ (j ≠ id ∧ (st.mem j = some s ∨ s = .dead)))
    (hother : ∀ j s, j ≠ id → wr st.mem j = some s → s.live → blkOf (g.κ j) ≠ some b) (hrob : g1.ro b = none)
    (hos : w'.os = w.os) (htape : w'.tape = w.tape) (hout : w'.output = w.output) (hsize : w'.heap.size = w.heap.size) (hw : ∀ b', b' ≠ b → w'.heap[b']? = w.heap[b']?)
    (hres : ResR E w' g1 id r') (hdom : ∀ j, (st.mem j).isSome = true → (wr st.mem j).isSome = true) (hrefs : ∀ i ∈ r'.refs, (st.mem i).isSome = true) (hvr : s.refs = []) (hv : s.R g1 v) :
    Sound P E w0 M n o st a w (Tr.gen s pre [] [] fz (some wr)) := by
  intro next Q hn
  unfold Oper.wp
  have hrun' : ∀ next Q, o.upon P a next Q ((execOp a.eval o).run P w) = next (a.put o.dst v) w' := by
    intro next Q
    rcases hrun with hrun | ⟨hrun, hvu⟩
    · rw [hrun, Oper.upon_value]
    · rw [hrun, Oper.upon_skip, hvu]
  rw [hrun']
  refine hn () _ _ trivial ?_
  have e := app_wr st o.dst s pre wr fz ()
  have hgood := Good.write (st := { st with fr := sets st.fr fz }) hg1 ⟨h.cl.1, h.cl.2⟩ hm hl (by rw [hκ]; exact hb) hm' (by rw [hκ]; exact hother) hrob hos htape hout hsize hw hres hdom
  refine Rel.app h hd henv (g' := g1) hro hρ (fun i _ => by rw [hκ, hln]; exact ⟨rfl, rfl⟩) ?_ hv ?_ ?_ ?_
  · rw [e]; exact hgood.env rfl rfl rfl rfl
  · rw [e]; exact hdom
  · rw [hvr]; intro i hi; cases hi
  · rw [e]
    intro j r2 hj i hi
    refine hdom i ?_
    rcases hm' j r2 hj with ⟨_, rfl⟩ | ⟨_, h2 | h2⟩
    · exact hrefs i hi
    · exact h.cl.2 j r2 h2 i hi
    · subst h2; simp [Res.refs] at hi

theorem write_eq (pre : Prop) (wr : (Nat → Option Res) → Nat → Option Res) (fz : List Nat) : Tr.write pre wr fz = Tr.gen junk pre [] [] fz (some wr) := rfl

theorem noJunk_mem : ∀ {l : List CV}, noJunk l = true → ∀ c ∈ l, c ≠ .junk := by
  intro l
  induction l with
  | nil => intro _ c h; simp at h
  | cons x l ih =>
    intro h c hc
    cases x <;> simp [noJunk] at h <;> rcases List.mem_cons.1 hc with rfl | hc <;> first | exact ih h c ‹_› | simp

theorem upd_cases {m : Nat → Option Res} {id : Nat} {r' : Res} {j : Nat} {s : Res} (h : upd m id (some r') j = some s) : (j = id ∧ s = r') ∨ (j ≠ id ∧ m j = some s) := by
  by_cases e : j = id
  · subst e; rw [upd_same] at h; injection h with h; exact .inl ⟨rfl, h.symm⟩
  · rw [upd_ne _ _ e] at h; exact .inr ⟨e, h⟩

theorem upd_dom {m : Nat → Option Res} {id : Nat} {r' : Res} {j : Nat} (h : (m j).isSome = true) : (upd m id (some r') j).isSome = true := by
  by_cases e : j = id
  · subst e; rw [upd_same]; rfl
  · rw [upd_ne _ _ e]; exact h

theorem kill_cases {fam id : Nat} {m : Nat → Option Res} {j : Nat} {s : Res} (h : kill fam id m j = some s) : m j = some s ∨ s = .dead := by
  unfold kill at h
  split at h
  · split at h
    · injection h with h; exact .inr h.symm
    · rename_i hm _; rw [hm]; exact .inl h
  · exact .inl h

theorem kill_dom {fam id : Nat} {m : Nat → Option Res} {j : Nat} (h : (m j).isSome = true) : (kill fam id m j).isSome = true := by
  unfold kill
  split
  · split <;> rfl
  · exact h

theorem alone {g : G} (hg : Good E w0 M g st w) {id b : Nat} {r : Res} (hm : st.mem id = some r) (hl : r.live) (hns : ∀ f t xs, r ≠ .sl f t xs) (hb : blkOf (g.κ id) = some b) : ∀ j s, j ≠ id → st.mem j = some s → s.live → blkOf (g.κ j) ≠ some b := by
  intro j s hj hs hsl hbj
  obtain ⟨f, t, xs, ys, h1, _⟩ := hg.sep id j r s hm hs (Ne.symm hj) hl hsl b hb hbj
  exact hns f t xs h1

theorem alone_sl {g : G} (hg : Good E w0 M g st w) {id b fam : Nat} {t : Ty} {xs : List t.den} (hm : st.mem id = some (.sl fam t xs)) (hb : blkOf (g.κ id) = some b) :
    ∀ j s, j ≠ id → kill fam id st.mem j = some s → s.live → blkOf (g.κ j) ≠ some b := by
  intro j s hj hs hsl hbj
  have hs' : st.mem j = some s := by
    rcases kill_cases hs with h | h
    · exact h
    · subst h; exact hsl.elim
  obtain ⟨f, t', xs', ys, h1, h2, _⟩ := hg.sep id j _ s hm hs' (Ne.symm hj) trivial hsl b hb hbj
  injection h1 with e1 _ _
  subst e1
  unfold kill at hs
  rw [hs', h2] at hs
  simp [hj] at hs

theorem RowR.setElem {ro : Nat → Option (Array Value)} {t : Ty} {xs : List t.den} {cur : Array Value} (h : RowR ro (flat t xs) cur 0) {k off : Nat} (hk : k < xs.length) {ds : List DC} {y : t.den} (hy : updElem t (xs.getD k t.zero) off ds = some y)
    {vs : List Value} (hvl : vs.length = ds.length) (hvs : ∀ (j : Nat) (c : DC), ds[j]? = some c → ∃ u, vs[j]? = some u ∧ DR ro c u) (hfit : k * t.sz + off + vs.length ≤ cur.size) : RowR ro (flat t (xs.set k y)) (over cur (k * t.sz + off) vs) 0 := by
  unfold updElem at hy
  split at hy
  · rename_i hle
    have hc := dec_cells hy
    have hpos := sz_pos t
    intro m c hm
    have hml : m < xs.length * t.sz := by
      have := (List.getElem?_eq_some_iff.1 hm).1
      rwa [flat_len, List.length_set] at this
    have hq : m / t.sz < xs.length := (Nat.div_lt_iff_lt_mul hpos).2 hml
    have hr : m % t.sz < t.sz := Nat.mod_lt _ hpos
    have hdm : m / t.sz * t.sz + m % t.sz = m := by rw [Nat.mul_comm]; exact Nat.div_add_mod m t.sz
    have h1 := flat_get t (xs.set k y) (m / t.sz) (m % t.sz) (by simpa using hq) hr
    rw [hdm, hm] at h1
    have hold := flat_get t xs (m / t.sz) (m % t.sz) hq hr
    rw [hdm] at hold
    rw [Nat.zero_add, over_get hfit]
    by_cases e : m / t.sz = k
    · rw [e] at h1 hdm hold
      have h2 : (xs.set k y).getD k t.zero = y := by simp [List.getD_eq_getElem?_getD, hk]
      rw [h2, hc] at h1
      have hcl := cells_len t (xs.getD k t.zero)
      generalize hX : t.cells (xs.getD k t.zero) = X at h1 hold hcl
      by_cases h3 : m % t.sz < off
      · rw [List.append_assoc, List.getElem?_append_left (by simp; omega), List.getElem?_take_of_lt h3] at h1
        rw [if_neg (by omega)]
        rw [← h1] at hold
        simpa using h m c hold
      · by_cases h4 : m % t.sz < off + ds.length
        · rw [List.getElem?_append_left (by simp; omega), List.getElem?_append_right (by simp; omega)] at h1
          simp only [List.length_take, hcl] at h1
          obtain ⟨u, h5, h6⟩ := hvs _ c h1.symm
          refine ⟨u, ?_, h6⟩
          rw [if_pos (by omega), ← h5]
          congr 1
          omega
        · rw [List.getElem?_append_right (by simp; omega), List.getElem?_drop] at h1
          rw [if_neg (by omega)]
          simp only [List.length_append, List.length_take, hcl] at h1
          rw [show off + ds.length + (m % t.sz - (min off t.sz + ds.length)) = m % t.sz from by omega] at h1
          rw [← h1] at hold
          simpa using h m c hold
    · have h2 : (xs.set k y).getD (m / t.sz) t.zero = xs.getD (m / t.sz) t.zero := by simp [List.getD_eq_getElem?_getD, List.getElem?_set_ne (Ne.symm e)]
      rw [h2] at h1
      rw [← h1] at hold
      have hout : ¬ (k * t.sz + off ≤ m ∧ m < k * t.sz + off + vs.length) := by
        intro ⟨h3, h4⟩
        rcases Nat.lt_or_gt_of_ne e with h5 | h5
        · have : (m / t.sz + 1) * t.sz ≤ k * t.sz := Nat.mul_le_mul_right _ h5
          rw [Nat.add_mul] at this
          omega
        · have : (k + 1) * t.sz ≤ m / t.sz * t.sz := Nat.mul_le_mul_right _ h5
          rw [Nat.add_mul] at this
          omega
      rw [if_neg hout]
      simpa using h m c hold
  · cases hy

theorem updElem_le {t : Ty} {x y : t.den} {off : Nat} {ds : List DC} (hy : updElem t x off ds = some y) : off + ds.length ≤ t.sz := by
  unfold updElem at hy
  split at hy
  · assumption
  · cases hy

theorem cells_ones {g : G} {vs : List CV} {us : Array Value} (h : Cells g vs us) (hj : ∀ c ∈ vs, c ≠ .junk) : ∀ u ∈ us.toList, u.oneCell' = true := by
  intro u hu
  obtain ⟨j, hju⟩ := List.getElem?_of_mem hu
  have hlt : j < vs.length := by rw [← h.1]; simpa using (List.getElem?_eq_some_iff.1 hju).1
  obtain ⟨u', h1, h2⟩ := h.2 j vs[j] (List.getElem?_eq_getElem hlt)
  have : u' = u := by
    have h3 : us[j]? = some u := by simpa using hju
    rw [h1] at h3
    injection h3
  subst this
  exact h2.one (hj _ (List.getElem_mem hlt))

theorem datas_noJunk {mem : Nat → Option Res} : ∀ {vs : List CV} {ds : List DC} {ids : List Nat}, datas mem vs = some (ds, ids) → ∀ c ∈ vs, c ≠ .junk := by
  intro vs
  induction vs with
  | nil => intro ds ids _ c hc; simp at hc
  | cons v vs ih =>
    intro ds ids hd c hc
    simp only [datas] at hd
    split at hd
    · cases hd
    · rename_i ds' ids' hd'
      rcases List.mem_cons.1 hc with rfl | hc
      · intro e; subst e; simp at hd
      · exact ih hd' c hc

theorem snd_store (h : Rel E w0 M n st a w) (ht : TabOk P E tab) (hd : ∀ d, o.dst = some d → d < n) {ty : TypeId} {x y : Operand} (ho : o.op = .store ty x y) {t : Tr} (htr : trStore tab st ty x y = some t) (hp : t.pre) : Sound P E w0 M n o st a w t := by
  obtain ⟨g, hg, henv⟩ := h.good
  have hx := ev_R henv x
  have hy := ev_R henv y
  unfold trStore at htr
  split at htr
  · rename_i ti id off hti hev
    obtain ⟨i, d, hi, hu, hisz, hk⟩ := ht _ _ hti
    rw [hev] at hx
    obtain ⟨b, hκ, hv⟩ := hx
    have hbk : blkOf (g.κ id) = some b := by rw [hκ]; rfl
    split at htr
    · rename_i cs hm
      obtain ⟨b', vs, bt, hκ', hb, hc⟩ := hg.res _ _ hm
      rw [hκ] at hκ'
      simp at hκ'
      subst hκ'
      split at htr
      · cases htr
      · rename_i ps hps hna
        split at htr
        · rename_i hle
          injection htr with htr
          subst htr
          obtain ⟨hs, hf⟩ := hp
          rw [write_eq]
          obtain ⟨hpl, hpc⟩ := partCells_R hy hps
          have hr := run_storeAt (P := P) (ty := ty) (o := off) hb hi (v := a.eval y) (by rw [hpc.1, hpl, hisz]) (by rw [hc.1, hisz, ← hpl]; exact hle.1) (cells_ones hpc (noJunk_mem hle.2))
          have hop : (execOp a.eval o).run P w = .ok .skip (w.setRow b (over vs off (a.eval y).cells.toList)) := by
            simp [execOp, ho, hv, hr]
          refine Sound.wr h hd (g1 := g) (fz := []) henv (hg.env rfl rfl rfl rfl) (fun _ _ h => h) rfl rfl rfl (r' := .blk (putc cs off ps)) (v := undef) (.inr ⟨hop, rfl⟩) hm trivial (.inl hbk) (fun j s hj => ?_) ?_ ?_ rfl rfl rfl (by simp) ?_ ?_ ?_ ?_ rfl trivial
          · rcases upd_cases hj with h1 | h1
            · exact .inl h1
            · exact .inr ⟨h1.1, .inl h1.2⟩
          · intro j s hj hjs hsl
            rcases upd_cases hjs with h1 | h1
            · exact (hj h1.1).elim
            · exact alone hg hm trivial (by simp) hbk j s hj h1.2 hsl
          · exact hg.wro id _ hm trivial b hbk hs hf
          · intro b' hb'; exact setRow_other w b b' _ hb'
          · exact ⟨b, _, bt, hκ, setRow_heap w b _ _ _ _ hb, hc.put hpc (by omega)⟩
          · intro j hj; exact upd_dom hj
          · intro i' hi'
            simp only [Res.refs] at hi'
            rcases refsL_putc hi' with h1 | h1
            · exact h.cl.2 id _ hm i' h1
            · have hpr : ∀ q ∈ refsL ps, (st.mem q).isSome = true := by
                intro q hq
                refine ev_refs h.cl y q ?_
                unfold partCells at hps
                split at hps
                · cases hps
                · rename_i v hnj he
                  split at hps
                  · injection hps with hps; subst hps; rw [he]; simpa [refsL, S.refs, S0.refs] using hq
                  · cases hps
                · rename_i v he
                  split at hps
                  · injection hps with hps; subst hps; rw [he]; exact hq
                  · cases hps
                · cases hps
              exact hpr i' h1
        · cases htr
      · cases htr
    · rename_i t' xs hm
      obtain ⟨hln, b', vs, bt, hκ', hb, hvs, hrow⟩ := hg.res _ _ hm
      rw [hκ] at hκ'
      simp at hκ'
      subst hκ'
      split at htr
      · rename_i t'' ys hey
        split at htr
        · rename_i ys' hcast
          obtain ⟨rfl, hq⟩ := castL_eq hcast
          cases hq
          split at htr
          · rename_i hcond
            injection htr with htr
            subst htr
            obtain ⟨hlen, hs, hf⟩ := hp
            obtain ⟨rfl, hsz⟩ := hcond
            rw [write_eq]
            rw [hey] at hy
            obtain ⟨us, hyv, hus, hurow⟩ := hy
            obtain ⟨news, n1, n2, n3, n4⟩ := hurow.vals
            have hucells : (a.eval y).cells = us := by rw [hyv]; rfl
            have hones : ∀ u ∈ us.toList, u.oneCell' = true := by
              intro u hu'
              obtain ⟨j, hju⟩ := List.getElem?_of_mem hu'
              have hjl : j < us.size := by simpa using (List.getElem?_eq_some_iff.1 hju).1
              have hjl' : j < (flat t'' ys).length := by rw [flat_len]; omega
              obtain ⟨u2, h1, h2⟩ := hurow j _ (List.getElem?_eq_getElem hjl')
              rw [Nat.zero_add] at h1
              have h3 : us[j]? = some u := by simpa using hju
              rw [h1] at h3
              injection h3 with h3
              subst h3
              exact h2.one
            have husz : us.size = ti.sz := by rw [hus, hlen, hsz]
            have hr := run_storeAt (P := P) (ty := ty) (o := 0) hb hi (v := a.eval y) (by rw [hucells, husz, hisz]) (by rw [hvs, hisz, hsz]; omega) (by rw [hucells]; exact hones)
            have hop : (execOp a.eval o).run P w = .ok .skip (w.setRow b (over vs 0 us.toList)) := by
              rw [hucells] at hr
              simp [execOp, ho, hv, hr]
            have hsv : us.size = vs.size := by rw [husz, hvs, hsz]
            have hover : over vs 0 us.toList = us := by
              apply Array.ext'
              simp [over, hsv]
            rw [hover] at hop
            refine Sound.wr h hd (g1 := g) (fz := []) henv (hg.env rfl rfl rfl rfl) (fun _ _ h => h) rfl rfl rfl (r' := .vec t'' ys) (v := undef) (.inr ⟨hop, rfl⟩) hm trivial (.inl hbk) (fun j s hj => ?_) ?_ ?_ rfl rfl rfl (by simp) ?_ ?_ ?_ ?_ rfl trivial
            · rcases upd_cases hj with h1 | h1
              · exact .inl h1
              · exact .inr ⟨h1.1, .inl h1.2⟩
            · intro j s hj hjs hsl
              rcases upd_cases hjs with h1 | h1
              · exact (hj h1.1).elim
              · exact alone hg hm trivial (by simp) hbk j s hj h1.2 hsl
            · exact hg.wro id _ hm trivial b hbk hs hf
            · intro b' hb'; exact setRow_other w b b' _ hb'
            · exact ⟨by rw [hln, hlen], b, us, bt, hκ, setRow_heap w b _ _ _ _ hb, hus, hurow⟩
            · intro j hj; exact upd_dom hj
            · intro i' hi'; simp [Res.refs] at hi'
          · cases htr
        · cases htr
      · cases htr
    · cases htr
  · rename_i ti id t' k off hti hev
    obtain ⟨i, d, hi, hu, hisz, hk⟩ := ht _ _ hti
    rw [hev] at hx
    obtain ⟨b, hbk, h0, hkl, hv⟩ := hx
    split at htr
    · rename_i ps hps
      obtain ⟨hpl, hpc⟩ := partCells_R hy hps
      split at htr
      · rename_i ds ids hds
        split at htr
        · rename_i t'' xs hm
          split at htr
          · rename_i xs' hcast
            obtain ⟨rfl, hq⟩ := castL_eq hcast
            cases hq
            split at htr
            · rename_i z hz
              injection htr with htr
              subst htr
              obtain ⟨hs, hf, hns⟩ := hp
              rw [write_eq]
              obtain ⟨ro', hro, hdr, hg1⟩ := hg.freeze ids fun q hq => ⟨notSpent_mem hns q hq, datas_refs ps ds ids hds q hq⟩
              obtain ⟨h3, h4⟩ := datas_R hro ps ds ids hds hdr (fun j => (a.eval y).cells[j]?) hpc.2
              obtain ⟨hln, b', vs, bt, hκ', hb, hvs, hrow⟩ := hg.res _ _ hm
              have e : b' = b := by rw [hκ'] at hbk; simpa [blkOf] using hbk
              subst e
              have hle := updElem_le hz
              have hfit : k.toNat * t''.sz + off + i.size ≤ vs.size := by
                have : (k.toNat + 1) * t''.sz ≤ xs.length * t''.sz := Nat.mul_le_mul_right _ (by omega)
                rw [Nat.add_mul] at this
                rw [hvs, hisz, ← hpl, ← h3]
                omega
              have hcsz : (a.eval y).cells.size = i.size := by rw [hpc.1, hpl, hisz]
              have hr := run_storeAt (P := P) (ty := ty) (o := k.toNat * t''.sz + off) hb hi (v := a.eval y) hcsz hfit (cells_ones hpc (datas_noJunk hds))
              have hop : (execOp a.eval o).run P w = .ok .skip (w.setRow b' (over vs (k.toNat * t''.sz + off) (a.eval y).cells.toList)) := by
                simp [execOp, ho, hv, hr]
              have hnid : id ∉ ids := fun hin => by
                obtain ⟨f, t3, xs3, h5⟩ := datas_refs ps ds ids hds id hin
                rw [hm] at h5; cases h5
              refine Sound.wr h hd (g1 := { g with ro := ro' }) (fz := ids) henv hg1 hro rfl rfl rfl (r' := .vec t'' (xs.set k.toNat z)) (v := undef) (.inr ⟨hop, rfl⟩) hm trivial (.inl hbk) (fun j s hj => ?_) ?_ ?_ rfl rfl rfl (by simp) ?_ ?_ ?_ ?_ rfl trivial
              · rcases upd_cases hj with h1 | h1
                · exact .inl h1
                · exact .inr ⟨h1.1, .inl h1.2⟩
              · intro j s hj hjs hsl
                rcases upd_cases hjs with h1 | h1
                · exact (hj h1.1).elim
                · exact alone hg hm trivial (by simp) hbk j s hj h1.2 hsl
              · exact hg1.wro id _ hm trivial b' hbk hs (by show sets st.fr ids id = false; rw [sets_get, hf]; simpa using hnid)
              · intro b2 hb2; exact setRow_other w b' b2 _ hb2
              · have hcl2 : (a.eval y).cells.toList.length = ds.length := by rw [Array.length_toList, hpc.1, h3]
                have hfit2 : k.toNat * t''.sz + off + (a.eval y).cells.toList.length ≤ vs.size := by rw [Array.length_toList, hcsz]; exact hfit
                refine ⟨by simp [hln], b', _, bt, hκ', setRow_heap w b' _ _ _ _ hb, by rw [over_size hfit2, hvs]; simp, ?_⟩
                exact RowR.setElem (hrow.mono hro) (by omega) hz hcl2 (fun j c hj => by
                  obtain ⟨u, h5, h6⟩ := h4 j c hj
                  exact ⟨u, by simpa using h5, h6⟩) hfit2
              · intro j hj; exact upd_dom hj
              · intro i' hi'; simp [Res.refs] at hi'
            · cases htr
          · cases htr
        · rename_i fam t'' xs hm
          split at htr
          · rename_i xs' hcast
            obtain ⟨rfl, hq⟩ := castL_eq hcast
            cases hq
            split at htr
            · rename_i z hz
              injection htr with htr
              subst htr
              obtain ⟨hs, hf, hns, hnid⟩ := hp
              rw [write_eq]
              obtain ⟨ro', hro, hdr, hg1⟩ := hg.freeze ids fun q hq => ⟨notSpent_mem hns q hq, datas_refs ps ds ids hds q hq⟩
              obtain ⟨h3, h4⟩ := datas_R hro ps ds ids hds hdr (fun j => (a.eval y).cells[j]?) hpc.2
              obtain ⟨hln, hres⟩ := hg.res _ _ hm
              rcases hres with ⟨hκ', hx0⟩ | ⟨b', cap, vs, hκ', hb, hcl, hcm, hvs, hrow⟩
              · rw [hκ'] at hbk; simp [blkOf] at hbk
              have e : b' = b := by rw [hκ'] at hbk; simpa [blkOf] using hbk
              subst e
              have hle := updElem_le hz
              have hfit : k.toNat * t''.sz + off + i.size ≤ vs.size := by
                have : (k.toNat + 1) * t''.sz ≤ cap * t''.sz := Nat.mul_le_mul_right _ (by omega)
                rw [Nat.add_mul] at this
                rw [hvs, hisz, ← hpl, ← h3]
                omega
              have hcsz : (a.eval y).cells.size = i.size := by rw [hpc.1, hpl, hisz]
              have hr := run_storeAt (P := P) (ty := ty) (o := k.toNat * t''.sz + off) hb hi (v := a.eval y) hcsz hfit (cells_ones hpc (datas_noJunk hds))
              have hop : (execOp a.eval o).run P w = .ok .skip (w.setRow b' (over vs (k.toNat * t''.sz + off) (a.eval y).cells.toList)) := by
                simp [execOp, ho, hv, hr]
              refine Sound.wr h hd (g1 := { g with ro := ro' }) (fz := ids) henv hg1 hro rfl rfl rfl (r' := .sl fam t'' (xs.set k.toNat z)) (v := undef) (.inr ⟨hop, rfl⟩) hm trivial (.inl hbk) (fun j s hj => ?_) ?_ ?_ rfl rfl rfl (by simp) ?_ ?_ ?_ ?_ rfl trivial
              · rcases upd_cases hj with h1 | h1
                · exact .inl h1
                · exact .inr ⟨h1.1, kill_cases h1.2⟩
              · intro j s hj hjs hsl
                rcases upd_cases hjs with h1 | h1
                · exact (hj h1.1).elim
                · exact alone_sl hg hm hbk j s hj h1.2 hsl
              · exact hg1.wro id _ hm trivial b' hbk hs (by show sets st.fr ids id = false; rw [sets_get, hf]; simpa using hnid)
              · intro b2 hb2; exact setRow_other w b' b2 _ hb2
              · have hcl2 : (a.eval y).cells.toList.length = ds.length := by rw [Array.length_toList, hpc.1, h3]
                have hfit2 : k.toNat * t''.sz + off + (a.eval y).cells.toList.length ≤ vs.size := by rw [Array.length_toList, hcsz]; exact hfit
                refine ⟨by simp [hln], .inr ⟨b', cap, _, by simpa using hκ', setRow_heap w b' _ _ _ _ hb, by simpa using hcl, hcm, by rw [over_size hfit2, hvs], ?_⟩⟩
                exact RowR.setElem (hrow.mono hro) (by omega) hz hcl2 (fun j c hj => by
                  obtain ⟨u, h5, h6⟩ := h4 j c hj
                  exact ⟨u, by simpa using h5, h6⟩) hfit2
              · intro j hj; exact upd_dom (kill_dom hj)
              · intro i' hi'; simp [Res.refs] at hi'
            · cases htr
          · cases htr
        · cases htr
      · cases htr
    · cases htr
  · cases htr

theorem snd_copy (h : Rel E w0 M n st a w) (ht : TabOk P E tab) (hd : ∀ d, o.dst = some d → d < n) {ty : TypeId} {x y : Operand} {args : Array Operand} {tys : Array TypeId} (hargs : args.toList = [x, y]) (htys : tys.toList = [ty, ty])
    (ho : o.op = .call ⟨.builtin .copy, args, tys⟩) {t : Tr} (htr : trCopy tab st ty x y = some t) (hp : t.pre) : Sound P E w0 M n o st a w t := by
  have ea : args = #[x, y] := by cases args; simp_all
  have et : tys = #[ty, ty] := by cases tys; simp_all
  subst ea et
  obtain ⟨g, hg, henv⟩ := h.good
  have hx := ev_R henv x
  have hy := ev_R henv y
  unfold trCopy at htr
  split at htr
  · rename_i sz by_ e t' id v hti hev hevy
    rw [hev] at hx
    rw [hevy] at hy
    split at htr
    · rename_i fam t'' xs ys hm hr
      split at htr
      · rename_i xs0 hcast
        obtain ⟨rfl, hq⟩ := castL_eq hcast
        cases hq
        split at htr
        · rename_i hsz1
          injection htr with htr
          subst htr
          obtain ⟨hs, hf⟩ := hp
          obtain ⟨inf, d, _, hu, _, _, ⟨rfl, _⟩, ie, hie, hsz, hby, hrw⟩ := ht _ _ hti
          obtain ⟨rfl, z, hz, hzv⟩ := hrw rfl
          have hS := rdl_R hg hr hy
          have hsi : (P.info? (E t'')).map (·.size) = some 1 := by rw [hie]; simp [hsz, hsz1]
          obtain ⟨hln, hres⟩ := hg.res _ _ hm
          have e1 : a.eval x = g.κ id := hx.1
          have fin : ∀ (b : Nat) (w' : World), (blkOf (g.κ id) = some b ∨ (blkOf (g.κ id) = none ∧ b = w.heap.size)) → (Builtin.copy_ #[ty, ty] o.type #[g.κ id, a.eval y]).run P w = .ok (goInt (min ys.length xs.length : Nat)) w' →
              w'.os = w.os → w'.tape = w.tape → w'.output = w.output → w'.heap.size = w.heap.size → (∀ b', b' ≠ b → w'.heap[b']? = w.heap[b']?) → ResR E w' g id (.sl fam t'' (ys.take xs.length ++ xs.drop ys.length)) →
              Sound P E w0 M n o st a w (Tr.gen (sv (.int .i64 (min ys.length xs.length : Nat))) (st.sp id = false ∧ st.fr id = false) [] [] []
                (some fun m => upd (kill fam id m) id (some (.sl fam t'' (ys.take xs.length ++ xs.drop ys.length))))) := by
            intro b w' hb hrun h1 h2 h3 h4 h5 h6
            have hop : (execOp a.eval o).run P w = .ok (.value (.int .i64 (min ys.length xs.length : Nat))) w' := by
              simp [execOp, ho, resolve, invoke, builtin, e1, hrun, goInt]
            have hlt : ∀ j s, st.mem j = some s → s.live → blkOf (g.κ j) ≠ some w.heap.size := fun j s hj hl hbj => by
              have := (hg.res j s hj).lt hl hbj
              omega
            refine Sound.wr h hd (g1 := g) (fz := []) henv (hg.env rfl rfl rfl rfl) (fun _ _ h => h) rfl rfl rfl (r' := .sl fam t'' (ys.take xs.length ++ xs.drop ys.length)) (.inl hop) hm trivial hb (fun j s hj => ?_) ?_ ?_ h1 h2 h3 h4 h5 h6 ?_ ?_ rfl (R_sv rfl)
            · rcases upd_cases hj with h7 | h7
              · exact .inl h7
              · exact .inr ⟨h7.1, kill_cases h7.2⟩
            · intro j s hj hjs hsl
              rcases upd_cases hjs with h7 | h7
              · exact (hj h7.1).elim
              · rcases hb with hb | ⟨_, rfl⟩
                · exact alone_sl hg hm hb j s hj h7.2 hsl
                · rcases kill_cases h7.2 with h8 | h8
                  · exact hlt j s h8 hsl
                  · subst h8; exact hsl.elim
            · rcases hb with hb | ⟨_, rfl⟩
              · exact hg.wro id _ hm trivial b hb hs hf
              · cases hro : g.ro w.heap.size with
                | none => rfl
                | some vs =>
                  obtain ⟨ty', fz, hh⟩ := hg.ro _ vs hro
                  have := lt_of_some hh
                  omega
            · intro j hj; exact upd_dom (kill_dom hj)
            · intro i' hi'; simp [Res.refs] at hi'
          -- nothing is copied
          by_cases h0 : min ys.length xs.length = 0
          · obtain ⟨ba, cap, hvy⟩ := hS.len
            have hxl : ∃ b cap, g.κ id = .slice b xs.length cap := by
              rcases hres with ⟨h1, h2⟩ | ⟨b, cap, cur, h1, _⟩
              · exact ⟨none, 0, by rw [h1, h2]; rfl⟩
              · exact ⟨_, cap, h1⟩
            obtain ⟨bx, capx, hκ⟩ := hxl
            have hrun := run_copy_none (P := P) w ty ty o.type (E t'') bx ba xs.length capx ys.length cap hu hsi h0
            have hsame : ys.take xs.length ++ xs.drop ys.length = xs := by
              rcases Nat.le_total ys.length xs.length with hle | hle
              · have : ys = [] := List.eq_nil_of_length_eq_zero (by omega)
                subst this; simp
              · have : xs = [] := List.eq_nil_of_length_eq_zero (by omega)
                subst this; simp
            have hrun' : (Builtin.copy_ #[ty, ty] o.type #[g.κ id, a.eval y]).run P w = .ok (goInt (min ys.length xs.length : Nat)) w := by
              rw [hκ, hvy, h0]; exact hrun
            cases hbk : blkOf (g.κ id) with
            | none => exact fin w.heap.size w (.inr ⟨hbk, rfl⟩) hrun' rfl rfl rfl rfl (fun _ _ => rfl) (by rw [hsame]; exact ⟨hln, hres⟩)
            | some b => exact fin b w (.inl hbk) hrun' rfl rfl rfl rfl (fun _ _ => rfl) (by rw [hsame]; exact ⟨hln, hres⟩)
          · rcases hS with ⟨_, hy0⟩ | ⟨b', o', cap', vs', bt', fz', hvy, hb', hle', hcap', hrow'⟩
            · subst hy0; simp at h0
            · rcases hres with ⟨_, hx0⟩ | ⟨b, cap, cur, hκ, hb, hcl, hcm, hcs, hrow⟩
              · subst hx0; simp at h0
              · obtain ⟨news, n1, n2, n3, n4⟩ := hrow'.vals
                rw [flat_len, hsz1, Nat.mul_one] at n1
                have hcl2 : (news.take xs.length).length = Nat.min ys.length xs.length := by
                  rw [List.length_take, n1]; exact Nat.min_comm _ _
                have hmin : Nat.min ys.length xs.length ≤ xs.length := Nat.min_le_right _ _
                rw [hsz1, Nat.mul_one] at hcs
                have hfit : 0 + (news.take xs.length).length ≤ cur.size := by rw [hcl2]; omega
                have hrun := run_copy_row (P := P) w ty ty o.type (E t'') b 0 xs.length cap ⟨b', o', none⟩ ys.length cap' cur (E t'') (news.take xs.length) hu hsi hb hcl2 (fun j u hj => by
                  rw [Addr.add_lit, cell_at hb']
                  rw [List.getElem?_take] at hj
                  split at hj
                  · exact n2 j u hj
                  · cases hj) hfit (fun u hu => n3 u (List.mem_of_mem_take hu))
                have hcur : (cur.toList.take 0 ++ news.take xs.length ++ cur.toList.drop (0 + (news.take xs.length).length)).toArray = over cur 0 (news.take xs.length) := rfl
                rw [hcur, hcl2] at hrun
                refine fin b (w.setRow b (over cur 0 (news.take xs.length))) (.inl (by rw [hκ]; rfl)) (by rw [hκ, hvy]; exact hrun) rfl rfl rfl (by simp) (fun b2 hb2 => setRow_other w b b2 _ hb2) ?_
                have hlen : (ys.take xs.length ++ xs.drop ys.length).length = xs.length := by simp; omega
                refine ⟨by rw [hln, hlen], .inr ⟨b, cap, _, by rw [hκ, hlen], setRow_heap w b _ _ _ _ hb, by rw [hlen]; exact hcl, hcm, by rw [over_size hfit, hcs, hsz1, Nat.mul_one], ?_⟩⟩
                rw [flat_append]
                have hft : flat t'' (ys.take xs.length) = (flat t'' ys).take xs.length := by have := flat_take t'' ys xs.length; rwa [hsz1, Nat.mul_one] at this
                have hfd : flat t'' (xs.drop ys.length) = (flat t'' xs).drop ys.length := by have := flat_drop t'' xs ys.length; rwa [hsz1, Nat.mul_one] at this
                have hfl : (flat t'' (ys.take xs.length)).length = (news.take xs.length).length := by rw [flat_len, hsz1, Nat.mul_one, List.length_take, hcl2]; exact Nat.min_comm _ _
                refine RowR.append ?_ ?_
                · intro k c hk
                  have hkl := (List.getElem?_eq_some_iff.1 hk).1
                  rw [hft, List.getElem?_take] at hk
                  split at hk
                  · rename_i hkx
                    obtain ⟨u, h1, h2⟩ := n4 k c hk
                    refine ⟨u, ?_, h2⟩
                    rw [over_get hfit, if_pos (by omega)]
                    simp [List.getElem?_take_of_lt hkx, h1]
                  · cases hk
                · intro k c hk
                  rw [hfd, List.getElem?_drop] at hk
                  obtain ⟨u, h1, h2⟩ := hrow _ c hk
                  have hkl := (List.getElem?_eq_some_iff.1 hk).1
                  rw [flat_len, hsz1, Nat.mul_one] at hkl
                  have hmin2 : Nat.min ys.length xs.length = ys.length := Nat.min_eq_left (by omega)
                  refine ⟨u, ?_, h2⟩
                  rw [over_get hfit, if_neg (by omega), hfl, hcl2, hmin2]
                  rw [← h1]
                  congr 1
                  omega
        · cases htr
      · cases htr
    · cases htr
  · cases htr

end
end Go.SE

namespace Go.SE
open Go.RowKit

section
variable {P : Program} {E : Ty → TypeId} {tab : TypeId → Option TI} {w0 : World} {M : MM} {n : Nat} {o : Oper} {st : St} {a : Act} {w : World}

def argG (ro : Nat → Option (Array Value)) (ρ : Nat) : G := { ro, κ := fun _ => undef, ln := fun _ => 0, ρ }

def ArgsR (g : G) (l : List S0) (vs : List Value) : Prop := vs.length = l.length ∧ ∀ (j : Nat) (s : S0), l[j]? = some s → ∃ v, vs[j]? = some v ∧ s.R g v

def ROin (w : World) (ro : Nat → Option (Array Value)) : Prop := ∀ b vs, ro b = some vs → ∃ ty fz, w.heap[b]? = some (.cells vs ty fz)

def Lent (mem : Nat → Option Res) (κ : Nat → Value) (ro : Nat → Option (Array Value)) (id : Nat) : Prop :=
  (∀ f t xs, mem id = some (.sl f t xs) → DR ro (.arr t xs) (κ id)) ∧
  (∀ t xs, mem id = some (.vec t xs) → ∃ b vs, κ id = .pointer (some ⟨b, 0, none⟩) ∧ ro b = some vs ∧ vs.size = xs.length * t.sz ∧ RowR ro (flat t xs) vs 0)

theorem rdl_DR {mem : Nat → Option Res} {g : G} {ro' : Nat → Option (Array Value)} (hro : ∀ b vs, g.ro b = some vs → ro' b = some vs) {t : Ty} {c : CV} {xs : List t.den} (h : rdl mem t c = some xs) {v : Value} (hc : c.R g v)
    (hl : ∀ id ∈ c.refs, Lent mem g.κ ro' id) : DR ro' (.arr t xs) v := by
  unfold rdl at h
  split at h
  · rename_i t' ys
    obtain ⟨rfl, hh⟩ := castL_eq h
    cases hh
    exact DR.mono hro hc
  · rename_i id
    split at h
    · rename_i f t' ys hm
      obtain ⟨rfl, hh⟩ := castL_eq h
      cases hh
      rw [hc.1]
      exact (hl id (by simp [CV.refs])).1 _ _ _ hm
    · cases h
  · injection h with h
    subst h
    have hc : v = _ := hc
    subst hc
    exact .nil t
  · cases h

inductive All2 (p : CV → CV → Prop) : List CV → List CV → Prop
  | nil : All2 p [] []
  | cons {c c' cs cs'} (h : p c c') (t : All2 p cs cs') : All2 p (c :: cs) (c' :: cs')

theorem All2.len {p : CV → CV → Prop} {cs cs' : List CV} (h : All2 p cs cs') : cs.length = cs'.length := by
  induction h with
  | nil => rfl
  | cons _ _ ih => simp [ih]

theorem All2.get {p : CV → CV → Prop} {cs cs' : List CV} (h : All2 p cs cs') : ∀ (j : Nat) (c' : CV), cs'[j]? = some c' → ∃ c, cs[j]? = some c ∧ p c c' := by
  induction h with
  | nil => intro j c' h; simp at h
  | cons h _ ih =>
    intro j c' hj
    cases j with
    | zero => simp at hj; subst hj; exact ⟨_, rfl, h⟩
    | succ j => exact ih j c' (by simpa using hj)

theorem Cells.conv {g g' : G} {cs cs' : List CV} {vs : Array Value} (h : Cells g cs vs) (ha : All2 (fun c c' => ∀ v, c.R g v → c'.R g' v) cs cs') : Cells g' cs' vs := by
  refine ⟨by rw [h.1, ha.len], fun j c' hj => ?_⟩
  obtain ⟨c, h1, h2⟩ := ha.get j c' hj
  obtain ⟨u, h3, h4⟩ := h.2 j c h1
  exact ⟨u, h3, h2 u h4⟩

theorem dec_R {mem : Nat → Option Res} {g : G} {ro' : Nat → Option (Array Value)} (hro : ∀ b vs, g.ro b = some vs → ro' b = some vs) {k : AK} {s : S0} {x : k.den} (h : k.dec mem s = some x) {v : Value} (hs : s.R g v)
    (hl : ∀ id ∈ s.refs, Lent mem g.κ ro' id) : (k.enc x).R (argG ro' g.ρ) v := by
  have keep : s.refs = [] → s.R (argG ro' g.ρ) v := fun e => S0.R.mono (g := g) (g' := argG ro' g.ρ) hro rfl (fun id hid => by rw [e] at hid; cases hid) hs
  have sc : ∀ (x : DC) (v : Value), (CV.d x).R g v → (CV.d x).R (argG ro' g.ρ) v := fun x v h => DR.mono hro h
  unfold AK.dec at h
  split at h
  case h_1 => injection h with h; subst h; exact keep rfl
  case h_2 => injection h with h; subst h; exact keep rfl
  case h_3 => injection h with h; subst h; exact keep rfl
  case h_4 => injection h with h; subst h; exact keep rfl
  case h_5 => injection h with h; subst h; exact keep rfl
  case h_6 => injection h with h; subst h; exact keep rfl
  case h_7 => injection h with h; subst h; exact keep rfl
  case h_8 f a =>
    split at h
    · rename_i fs as h1 h2
      injection h with h
      subst h
      obtain ⟨us, rfl, hc⟩ := hs
      exact ⟨us, rfl, hc.conv (.cons (fun v hv => rdl_DR hro h1 hv fun id hid => hl id (by simp [S0.refs, refsL, hid])) (.cons (fun v hv => rdl_DR hro h2 hv fun id hid => hl id (by simp [S0.refs, refsL, hid])) .nil))⟩
    · cases h
  case h_9 f a =>
    split at h
    · rename_i fs as h1 h2
      injection h with h
      subst h
      obtain ⟨us, rfl, hc⟩ := hs
      exact ⟨us, rfl, hc.conv (.cons (fun v hv => rdl_DR hro h1 hv fun id hid => hl id (by simp [S0.refs, refsL, hid])) (.cons (fun v hv => rdl_DR hro h2 hv fun id hid => hl id (by simp [S0.refs, refsL, hid])) .nil))⟩
    · cases h
  case h_10 =>
    split at h
    · rename_i h1 h2 h3 h4
      injection h with h
      subst h
      obtain ⟨us, rfl, hc⟩ := hs
      exact ⟨us, rfl, hc.conv (.cons (sc _) (.cons (sc _) (.cons (sc _) (.cons (sc _) (.cons (sc _) (.cons (sc _)
        (.cons (fun v hv => rdl_DR hro h1 hv fun id hid => hl id (mem_refsL (j := 6) rfl hid)) (.cons (fun v hv => rdl_DR hro h2 hv fun id hid => hl id (mem_refsL (j := 7) rfl hid))
        (.cons (fun v hv => rdl_DR hro h3 hv fun id hid => hl id (mem_refsL (j := 8) rfl hid)) (.cons (fun v hv => rdl_DR hro h4 hv fun id hid => hl id (mem_refsL (j := 9) rfl hid)) .nil))))))))))⟩
    · cases h
  case h_11 t c =>
    exact rdl_DR hro h hs fun id hid => hl id hid
  case h_12 => injection h with h; subst h; exact keep rfl
  case h_13 id =>
    split at h
    · rename_i xs hm
      injection h with h
      subst h
      obtain ⟨b, vs, h1, h2, h3, h4⟩ := (hl id (by simp [S0.refs, CV.refs])).2 _ _ hm
      obtain ⟨b', h5, h6⟩ := hs
      rw [h1] at h5
      simp at h5
      subst h5
      exact ⟨b, vs, h2, h3, h4, h6⟩
    · cases h
  case h_14 => injection h with h; subst h; exact keep rfl
  case h_15 => exact keep rfl
  case h_16 => cases h

theorem decs_R {mem : Nat → Option Res} {g : G} {ro' : Nat → Option (Array Value)} (hro : ∀ b vs, g.ro b = some vs → ro' b = some vs) : ∀ {ks : List AK} {ss : List S0} {x : Args ks}, decs mem ks ss = some x → ∀ {vs : List Value}, ArgsR g ss vs →
    (∀ id ∈ refsT ss, Lent mem g.κ ro' id) → ArgsR (argG ro' g.ρ) (encs ks x) vs := by
  intro ks
  induction ks with
  | nil =>
    intro ss x h vs hv _
    cases ss with
    | nil => exact ⟨hv.1, by simp [encs]⟩
    | cons s ss => simp [decs] at h
  | cons k ks ih =>
    intro ss x h vs hv hl
    cases ss with
    | nil => simp [decs] at h
    | cons s ss =>
      simp only [decs] at h
      split at h
      · rename_i y ys h1 h2
        injection h with h
        subst h
        obtain ⟨v, hv0, hvr⟩ := hv.2 0 s rfl
        cases vs with
        | nil => simp at hv0
        | cons v' vs =>
          simp at hv0
          subst hv0
          have hvs : ArgsR g ss vs := ⟨by have := hv.1; simpa using this, fun j s hj => by simpa using hv.2 (j + 1) s (by simpa using hj)⟩
          have := ih h2 hvs fun id hid => hl id (by simp [refsT, hid])
          refine ⟨by simp [encs, this.1], fun j s' hj => ?_⟩
          cases j with
          | zero =>
            simp [encs] at hj
            subst hj
            exact ⟨v', rfl, dec_R hro h1 hvr fun id hid => hl id (by simp [refsT, hid])⟩
          | succ j => simpa using this.2 j s' (by simpa [encs] using hj)
      · cases h

theorem argsS_R {g : G} (henv : ∀ x, (st.env x).R g (a.tmps.getD x undef)) : ∀ {xs : List Operand} {ss : List S0}, argsS st xs = some ss → ArgsR g ss (xs.map a.eval) := by
  intro xs
  induction xs with
  | nil => intro ss h; simp only [argsS, Option.some.injEq] at h; subst h; exact ⟨rfl, by simp⟩
  | cons x xs ih =>
    intro ss h
    simp only [argsS] at h
    split at h
    · rename_i s ss' h1 h2
      injection h with h
      subst h
      have := ih h2
      have hx := ev_R henv x
      rw [h1] at hx
      refine ⟨by simp [this.1], fun j s' hj => ?_⟩
      cases j with
      | zero => simp at hj; subst hj; exact ⟨_, rfl, hx⟩
      | succ j => simpa using this.2 j s' (by simpa using hj)
    · cases h

theorem argsS_refs (h : Cl st) : ∀ {xs : List Operand} {ss : List S0}, argsS st xs = some ss → ∀ id ∈ refsT ss, (st.mem id).isSome = true := by
  intro xs
  induction xs with
  | nil => intro ss h id hid; simp only [argsS, Option.some.injEq] at h; subst h; simp [refsT] at hid
  | cons x xs ih =>
    intro ss hh id hid
    simp only [argsS] at hh
    split at hh
    · rename_i s ss' h1 h2
      injection hh with hh
      subst hh
      simp only [refsT, List.mem_append] at hid
      rcases hid with hid | hid
      · exact ev_refs h x id (by rw [h1]; exact hid)
      · exact ih h2 id hid
    · cases hh

theorem Good.lend {g : G} (hg : Good E w0 M g st w) : ∃ ro', (∀ b vs, g.ro b = some vs → ro' b = some vs) ∧ ROin w ro' ∧ (∀ id, Lent st.mem g.κ ro' id) ∧ (∀ n, st.rd = some n → ro' g.ρ = none) := by
  classical
  have main : ∃ ro' : Nat → Option (Array Value), (∀ b vs, g.ro b = some vs → ro' b = some vs) ∧ ROin w ro' ∧
      (∀ id r, st.mem id = some r → r.live → ∀ b vs bt, blkOf (g.κ id) = some b → w.heap[b]? = some (.cells vs bt (0, 0)) → ro' b = some vs) ∧ (∀ n, st.rd = some n → ro' g.ρ = none) := by
    refine ⟨fun b => match g.ro b with
      | some vs => some vs
      | none => if ∃ id r, st.mem id = some r ∧ r.live ∧ blkOf (g.κ id) = some b then (match w.heap[b]? with | some (.cells vs _ _) => some vs | _ => none) else none, ?_, ?_, ?_, ?_⟩
    · intro b vs hb; simp [hb]
    · intro b vs hb
      simp only at hb
      split at hb
      · rename_i vs' h1
        injection hb with hb
        subst hb
        exact hg.ro b _ h1
      · split at hb
        · split at hb
          · rename_i vs' ty fz hh
            injection hb with hb
            subst hb
            exact ⟨ty, fz, hh⟩
          · cases hb
        · cases hb
    · intro id r hm hl b vs bt hb hh
      simp only
      split
      · rename_i vs' h1
        obtain ⟨ty, fz, h2⟩ := hg.ro b _ h1
        rw [hh] at h2
        simp at h2
        rw [h2.1]
      · rw [if_pos ⟨id, r, hm, hl, hb⟩, hh]
    · intro n hn
      obtain ⟨hrd, _, hno⟩ := hg.rd n hn
      simp only [hrd.out]
      rw [if_neg]
      intro ⟨id, r, hm, hl, hb⟩
      exact hno id r hm hl hb
  obtain ⟨ro', h1, h2, h3, h4⟩ := main
  refine ⟨ro', h1, h2, fun id => ⟨?_, ?_⟩, h4⟩
  · intro f t xs hm
    obtain ⟨_, hres⟩ := hg.res _ _ hm
    rcases hres with ⟨hκ, hx⟩ | ⟨b, cap, cur, hκ, hb, hle, hcap, hcs, hrow⟩
    · rw [hκ, hx]; exact .nil t
    · rw [hκ]
      exact DR.of_row (h3 id _ hm trivial b cur _ (by rw [hκ]; rfl) hb) hle hcap (hrow.mono h1)
  · intro t xs hm
    obtain ⟨_, b, vs, ty, hκ, hb, hsz, hrow⟩ := hg.res _ _ hm
    exact ⟨b, vs, hκ, h3 id _ hm trivial b vs _ (by rw [hκ]; rfl) hb, hsz, hrow.mono h1⟩

end
end Go.SE

namespace Go.SE
open Go.RowKit

section
variable {P : Program} {E : Ty → TypeId} {tab : TypeId → Option TI} {K : FuncId → Option Con} {w0 : World} {M : MM} {n : Nat} {o : Oper} {st : St} {a : Act} {w : World}

structure ResOk (E : Ty → TypeId) (w0 w : World) (ro0 : Nat → Option (Array Value)) (rks : List AK) (id0 : Nat) (r : Args rks) (v : Value) (g : G) : Prop where
  ro : ∀ b vs, ro0 b = some vs → g.ro b = some vs
  ro' : ∀ b vs, g.ro b = some vs → ro0 b = some vs ∨ (w0.heap.size ≤ b ∧ ∃ ty fz, w.heap[b]? = some (.cells vs ty fz))
  val : (pack1 (ress rks id0 r).1).R g v
  res : ∀ id q, (id, q) ∈ (ress rks id0 r).2 → ResR E w g id q
  new : ∀ id q, (id, q) ∈ (ress rks id0 r).2 → ∀ b, blkOf (g.κ id) = some b → w0.heap.size ≤ b ∧ g.ro b = none
  dist : ∀ i q j s, (i, q) ∈ (ress rks id0 r).2 → (j, s) ∈ (ress rks id0 r).2 → i ≠ j → ∀ b, blkOf (g.κ i) = some b → blkOf (g.κ j) = some b → False

def RdStep (w0 w : World) (ρ n : Nat) : Prop :=
  ∀ v p ty, w0.heap[ρ]? = some (.cells #[v, .int .i64 p] ty (0, 0)) → ∃ (p' : Int) (ty' : TypeId), w.heap[ρ]? = some (.cells #[v, .int .i64 p'] ty' (0, 0)) ∧ 0 ≤ p' ∧ p' ≤ n

def CallOk (P : Program) (E : Ty → TypeId) (f : FuncId) (con : Con) : Prop :=
  ∀ (w0 : World) (ro0 : Nat → Option (Array Value)) (ρ n : Nat) (x : Args con.aks) (vs : List Value) (id0 : Nat), con.pre x → ROin w0 ro0 → (hasRdr con.aks = true → RdOk w0 ro0 ρ n ∧ n + con.cost x ≤ rdLimit) → ArgsR (argG ro0 ρ) (encs con.aks x) vs →
    Calls P f vs.toArray w0 fun e w => ∃ v r g, e = .returned v ∧ con.post x r ∧ Ext (fun b => hasRdr con.aks = true ∧ b = ρ) w0 w ∧ g.ρ = ρ ∧ ResOk E w0 w ro0 con.rks id0 r v g ∧ (hasRdr con.aks = true → RdStep w0 w ρ (n + con.cost x))

structure FnOk (P : Program) (E : Ty → TypeId) (f : FuncId) (con : Con) : Prop where
  fn : ∃ fn c, P.funcs[f]? = some fn ∧ (fn.name == "runtime.NumGoroutine") = false ∧ fn.body = some c
  call : CallOk P E f con
  tot : ∀ x, con.pre x → ∃ r, con.post x r

def KAll (P : Program) (E : Ty → TypeId) (K : FuncId → Option Con) : Prop := ∀ f con, K f = some con → FnOk P E f con

theorem run_call {f : FuncId} {fn : Func} {c : Code} (hf : P.funcs[f]? = some fn) (hname : (fn.name == "runtime.NumGoroutine") = false) (hb : fn.body = some c) {args : Array Operand} {tys : Array TypeId} (ho : o.op = .call ⟨.value (.func f), args, tys⟩) :
    (execOp a.eval o).run P w = .ok (.enter f (args.map a.eval)) w := by
  have hn : ¬ fn.name = "runtime.NumGoroutine" := by simpa using hname
  simp [execOp, ho, resolve, Deferred.ofValue, Act.eval, invoke, callFunc, hf, hn, hb]

theorem ress_range : ∀ (ks : List AK) (id0 : Nat) (r : Args ks) (id : Nat) (q : Res), (id, q) ∈ (ress ks id0 r).2 → id0 ≤ id ∧ id < id0 + 2 * ks.length ∧ ∃ f t xs, q = .sl f t xs := by
  intro ks
  induction ks with
  | nil => intro id0 r id q h; simp [ress] at h
  | cons k ks ih =>
    intro id0 r id q h
    obtain ⟨x, xs⟩ := r
    simp only [ress, List.mem_append] at h
    rcases h with h | h
    · cases k <;> simp [AK.res] at h <;> first
        | (rcases h with ⟨h1, h2⟩ | ⟨h1, h2⟩ <;> exact ⟨by omega, by simp; omega, _, _, _, h2⟩)
        | exact ⟨by omega, by simp; omega, _, _, _, h.2⟩
    · obtain ⟨h1, h2, h3⟩ := ih _ _ _ _ h
      exact ⟨by omega, by simp; omega, h3⟩

theorem ress_refs : ∀ (ks : List AK) (id0 : Nat) (r : Args ks), ∀ id ∈ refsT (ress ks id0 r).1, ∃ q, (id, q) ∈ (ress ks id0 r).2 := by
  intro ks
  induction ks with
  | nil => intro id0 r id h; simp [ress, refsT] at h
  | cons k ks ih =>
    intro id0 r id h
    obtain ⟨x, xs⟩ := r
    simp only [ress, refsT, List.mem_append] at h
    rcases h with h | h
    · cases k <;> simp [AK.res, AK.enc, S0.refs, refsL, CV.refs] at h
      · rcases h with h | h <;> subst h
        · exact ⟨.sl _ .fact x.facts, List.mem_append_left _ List.mem_cons_self⟩
        · exact ⟨.sl _ .atom x.atoms, List.mem_append_left _ (List.mem_cons_of_mem _ List.mem_cons_self)⟩
      · rcases h with h | h <;> subst h
        · exact ⟨.sl _ .int x.vals, List.mem_append_left _ List.mem_cons_self⟩
        · exact ⟨.sl _ .int x.heap, List.mem_append_left _ (List.mem_cons_of_mem _ List.mem_cons_self)⟩
      · cases x; simp [AK.enc, S0.refs, refsL, CV.refs] at h
      · subst h; exact ⟨.sl _ _ x, List.mem_append_left _ List.mem_cons_self⟩
    · obtain ⟨q, hq⟩ := ih _ _ _ h
      exact ⟨q, by simp only [ress, List.mem_append]; exact .inr hq⟩

theorem pack1_refs (l : List S0) : ∀ id ∈ (pack1 l).refs, id ∈ refsT l := by
  intro id h
  cases l with
  | nil => simp [pack1, S.refs, refsT] at h
  | cons x l =>
    cases l with
    | nil => simpa [pack1, S.refs, refsT] using h
    | cons y l => exact h

theorem flat_vals {t : Ty} (ht : t.flat = true) (xs : List t.den) : ∀ (k : Nat) (c : DC), (flat t xs)[k]? = some c → ∃ x, c = .val x := by
  intro k c h
  have hm := List.mem_of_getElem? h
  simp only [flat, List.mem_flatMap] at hm
  obtain ⟨x, _, hx⟩ := hm
  cases t <;> simp [Ty.flat] at ht <;> simp [Ty.cells] at hx
  · exact ⟨_, hx⟩
  · exact ⟨_, hx⟩
  · exact ⟨_, hx⟩
  · rcases hx with h | h | h <;> exact ⟨_, h⟩
  · rcases hx with h | h | h <;> exact ⟨_, h⟩

theorem RowR.flat_any {ro ro' : Nat → Option (Array Value)} {t : Ty} (ht : t.flat = true) {xs : List t.den} {vs : Array Value} {o : Nat} (h : RowR ro (SE.flat t xs) vs o) : RowR ro' (SE.flat t xs) vs o := by
  intro k c hk
  obtain ⟨u, h1, h2⟩ := h k c hk
  obtain ⟨x, rfl⟩ := flat_vals ht xs k c hk
  cases h2 with
  | val _ h3 => exact ⟨_, h1, .val _ h3⟩

theorem ress_any {g g' : G} (hρ : g'.ρ = g.ρ) : ∀ (ks : List AK) (id0 : Nat) (r : Args ks), nested ks = false → (∀ id ∈ refsT (ress ks id0 r).1, g'.κ id = g.κ id ∧ g'.ln id = g.ln id) →
    ∀ (j : Nat) (s : S0), (ress ks id0 r).1[j]? = some s → ∀ v, s.R g v → s.R g' v := by
  intro ks
  induction ks with
  | nil => intro id0 r _ _ j s h; simp [ress] at h
  | cons k ks ih =>
    intro id0 r hn hk j s hj v hs
    obtain ⟨x, xs⟩ := r
    have hn2 : nested ks = false := by cases k <;> simp [nested] at hn <;> first | exact hn | exact hn.2
    cases j with
    | succ j => exact ih (id0 + 2) xs hn2 (fun id hid => hk id (by simp only [ress, refsT, List.mem_append]; exact .inr hid)) j s (by simpa [ress] using hj) v hs
    | zero =>
      simp [ress] at hj
      subst hj
      have hk1 : ∀ id ∈ ((k.res id0 x).1).refs, g'.κ id = g.κ id ∧ g'.ln id = g.ln id := fun id hid => hk id (by simp only [ress, refsT, List.mem_append]; exact .inl hid)
      have val : ∀ (y : Value) (v : Value), (CV.d (.val y)).R g v → (CV.d (.val y)).R g' v := fun y v h => by
        cases h with
        | val _ h => exact .val _ h
      have own : ∀ i v, (i ∈ ((k.res id0 x).1).refs) → (CV.own i).R g v → (CV.own i).R g' v := fun i v hi h => ⟨by rw [(hk1 i hi).1]; exact h.1, h.2⟩
      cases k with
      | int => exact val _ v hs
      | bool => exact val _ v hs
      | u16 => exact val _ v hs
      | u64 => exact val _ v hs
      | str => exact val _ v hs
      | fact => obtain ⟨us, rfl, hc⟩ := hs; exact ⟨us, rfl, hc.conv (.cons (val _) (.cons (val _) (.cons (val _) .nil)))⟩
      | atom => obtain ⟨us, rfl, hc⟩ := hs; exact ⟨us, rfl, hc.conv (.cons (val _) (.cons (val _) (.cons (val _) .nil)))⟩
      | asn => obtain ⟨us, rfl, hc⟩ := hs; exact ⟨us, rfl, hc.conv (.cons (fun v h => own _ v (by simp [AK.res, S0.refs, refsL, CV.refs]) h) (.cons (fun v h => own _ v (by simp [AK.res, S0.refs, refsL, CV.refs]) h) .nil))⟩
      | state => obtain ⟨us, rfl, hc⟩ := hs; exact ⟨us, rfl, hc.conv (.cons (fun v h => own _ v (by simp [AK.res, S0.refs, refsL, CV.refs]) h) (.cons (fun v h => own _ v (by simp [AK.res, S0.refs, refsL, CV.refs]) h) .nil))⟩
      | cmd => simp [nested] at hn
      | sl t => exact own id0 v (by simp [AK.res, S0.refs, CV.refs]) hs
      | kase => obtain ⟨vs, rfl, h1, h2⟩ := hs; exact ⟨vs, rfl, h1, RowR.flat_any rfl h2⟩
      | pkase => simp [nested] at hn
      | rdr => exact hs.trans (by rw [hρ])
      | dasn => simp [nested] at hn
      | dstate => simp [nested] at hn
      | dsl t => simp [nested] at hn

theorem ress_flat : ∀ (ks : List AK) (id0 : Nat) (r : Args ks), nested ks = false → ∀ id q, (id, q) ∈ (ress ks id0 r).2 → ∃ f t xs, q = .sl f t xs ∧ t.flat = true := by
  intro ks
  induction ks with
  | nil => intro id0 r _ id q h; simp [ress] at h
  | cons k ks ih =>
    intro id0 r hn id q h
    obtain ⟨x, xs⟩ := r
    have hn2 : nested ks = false := by cases k <;> simp [nested] at hn <;> first | exact hn | exact hn.2
    simp only [ress, List.mem_append] at h
    rcases h with h | h
    · cases k <;> simp [AK.res] at h
      · rcases h with ⟨rfl, rfl⟩ | ⟨rfl, rfl⟩ <;> exact ⟨_, _, _, rfl, rfl⟩
      · rcases h with ⟨rfl, rfl⟩ | ⟨rfl, rfl⟩ <;> exact ⟨_, _, _, rfl, rfl⟩
      · obtain ⟨rfl, rfl⟩ := h
        simp [nested] at hn
        exact ⟨_, _, _, rfl, hn.1⟩
    · exact ih _ _ hn2 id q h

theorem pack1_any {g g' : G} {l : List S0} (h : ∀ (j : Nat) (s : S0), l[j]? = some s → ∀ v, s.R g v → s.R g' v) {v : Value} (hv : (pack1 l).R g v) : (pack1 l).R g' v := by
  cases l with
  | nil => obtain ⟨vs, h1, h2, h3⟩ := hv; exact ⟨vs, h1, h2, fun j s hj => by simp at hj⟩
  | cons x l =>
    cases l with
    | nil => exact h 0 x rfl v hv
    | cons y l =>
      obtain ⟨vs, h1, h2, h3⟩ := hv
      exact ⟨vs, h1, h2, fun j s hj => let ⟨u, hu, hr⟩ := h3 j s hj; ⟨u, hu, h j s hj u hr⟩⟩

theorem Good.extendR {g : G} (h : Good E w0 M g st w) (cl : Cl st) {w' : World} {g' : G} (l : List (Nat × Res)) (c : Nat)
    (hext : Ext M.can w0 w') (hsize : w.heap.size ≤ w'.heap.size) (hw : ∀ b, b < w.heap.size → (st.rd ≠ none → b ≠ g.ρ) → w'.heap[b]? = w.heap[b]?)
    (hro : ∀ b vs, g.ro b = some vs → g'.ro b = some vs) (hro' : ∀ b vs, g'.ro b = some vs → g.ro b = some vs ∨ (w.heap.size ≤ b ∧ ∃ ty fz, w'.heap[b]? = some (.cells vs ty fz)))
    (hκ : ∀ id, (st.mem id).isSome = true → g'.κ id = g.κ id ∧ g'.ln id = g.ln id) (hρ : g'.ρ = g.ρ)
    (hres : ∀ id r, (id, r) ∈ l → ResR E w' g' id r)
    (hnew : ∀ id r, (id, r) ∈ l → r.live → ∀ b, blkOf (g'.κ id) = some b → w.heap.size ≤ b ∧ g'.ro b = none)
    (hdist : ∀ i r j s, (i, r) ∈ l → (j, s) ∈ l → i ≠ j → ∀ b, blkOf (g'.κ i) = some b → blkOf (g'.κ j) = some b → False)
    (hrd : ∀ n, st.rd = some n → RdOk w' g'.ro g'.ρ (n + c)) (hrds : st.rd ≠ none → RdSame w0 w' g.ρ) :
    Good E w0 M g' { st with mem := adds st.mem l, rd := st.rd.map (· + c) } w' := by
  have old : ∀ id r, st.mem id = some r → g'.κ id = g.κ id ∧ g'.ln id = g.ln id := fun id r hm => hκ id (by simp [hm])
  have hlt : ∀ id r, st.mem id = some r → r.live → ∀ b, blkOf (g.κ id) = some b → b < w.heap.size := fun id r hm hl b hb => (h.res id r hm).lt hl hb
  have hnρ : ∀ id r, st.mem id = some r → r.live → ∀ b, blkOf (g.κ id) = some b → st.rd ≠ none → b ≠ g.ρ := fun id r hm hl b hb hn e => by
    cases hr : st.rd with
    | none => exact hn hr
    | some n => exact (h.rd n hr).2.2 id r hm hl (by rw [hb, e])
  refine ⟨hext, ?_, ?_, ?_, ?_, ?_, ?_, fun hn => by rw [hρ]; exact hrds fun e => hn (by show st.rd.map _ = none; rw [e]; rfl),
    fun b vs hb => (hro' b vs hb).elim (h.roo b vs) fun h1 => .inr (.inl (Nat.le_trans h.ext.size h1.1)), hρ.trans h.rho, fun id v hv => ⟨adds_isSome (h.pin id v hv).1, (hκ id (h.pin id v hv).1).1.trans (h.pin id v hv).2⟩, ⟨fun id m hv => ⟨adds_isSome (h.keep.1 id m hv).1, (hκ id (h.keep.1 id m hv).1).2.trans (h.keep.1 id m hv).2⟩, fun b vs hv => hro b vs (h.keep.2 b vs hv)⟩⟩
  · intro b vs hb
    rcases hro' b vs hb with hb | ⟨_, hb⟩
    · obtain ⟨ty, fz, hh⟩ := h.ro b vs hb
      refine ⟨ty, fz, ?_⟩
      rw [hw b (lt_of_some hh) fun hn e => ?_]
      · exact hh
      · cases hr : st.rd with
        | none => exact hn hr
        | some n =>
          have := (h.rd n hr).1.out
          subst e
          rw [this] at hb; cases hb
    · exact hb
  · intro id r hm
    rcases adds_cases hm with hm | hm
    · exact hres id r hm
    · by_cases hl : r.live
      · exact (h.res id r hm).keep (fun b hb => hw b (hlt id r hm hl b hb) (hnρ id r hm hl b hb)) hro hρ (old id r hm) fun i hi => hκ i (cl.2 id r hm i hi)
      · cases r with
        | dead => trivial
        | _ => exact (hl trivial).elim
  · intro i j r s hi hj hne hli hlj b hbi hbj
    rcases adds_cases hi with hi | hi <;> rcases adds_cases hj with hj | hj
    · exact (hdist i r j s hi hj hne b hbi hbj).elim
    · have h1 := (hnew i r hi hli b hbi).1
      rw [(old j s hj).1] at hbj
      have h2 := hlt j s hj hlj b hbj
      omega
    · have h1 := (hnew j s hj hlj b hbj).1
      rw [(old i r hi).1] at hbi
      have h2 := hlt i r hi hli b hbi
      omega
    · rw [(old i r hi).1] at hbi
      rw [(old j s hj).1] at hbj
      exact h.sep i j r s hi hj hne hli hlj b hbi hbj
  · intro id r hm hl b hb
    rcases adds_cases hm with hm | hm
    · left
      exact Nat.le_trans h.ext.size (hnew id r hm hl b hb).1
    · rw [(old id r hm).1] at hb
      exact h.fresh id r hm hl b hb
  · intro id r hm hl b hb h1 h2
    rcases adds_cases hm with hm | hm
    · exact (hnew id r hm hl b hb).2
    · rw [(old id r hm).1] at hb
      have hn := h.wro id r hm hl b hb h1 h2
      cases hg : g'.ro b with
      | none => rfl
      | some vs =>
        rcases hro' b vs hg with h3 | ⟨h3, _⟩
        · rw [hn] at h3; cases h3
        · have := hlt id r hm hl b hb; omega
  · intro n hn
    obtain ⟨m, hm, rfl⟩ : ∃ m, st.rd = some m ∧ m + c = n := by
      cases hr : st.rd with
      | none => rw [hr] at hn; simp at hn
      | some m => rw [hr] at hn; simp at hn; exact ⟨m, rfl, hn⟩
    obtain ⟨⟨_, hout, code, v, p, ty, hc, hd, hrest⟩, hin, hno⟩ := h.rd m hm
    have hρlt := lt_of_some hc
    refine ⟨hrd m hm, by rw [hρ]; exact hin, ?_⟩
    intro id r hm hl
    rw [hρ]
    rcases adds_cases hm with hm | hm
    · intro hb
      have := (hnew id r hm hl _ hb).1
      omega
    · rw [(old id r hm).1]
      exact hno id r hm hl

end
end Go.SE
