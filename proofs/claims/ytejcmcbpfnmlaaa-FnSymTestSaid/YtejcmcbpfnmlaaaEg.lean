/-
  Parts of a symbolic engine over the program's code: how operations, regions, loops and calls are shown to keep contracts. No conditions.
-/
import Derived.RangeFuncLeaves
import Derived.Test.YtejcmcbpfnmlaaaEf
import Derived.Test.YtejcmcbpfnmlaaaEe
set_option linter.unusedSimpArgs false
set_option linter.unusedVariables false
set_option linter.unusedSectionVars false

namespace Go.SE
open Go.RowKit

section
variable {P : Program} {E : Ty → TypeId} {n m : Nat} {tab : TypeId → Option TI} {K : FuncId → Option Con} {pts : FuncId → Option PT} {hp : Nat → Bool} {gcs : Nat → Option (List Nat × List Nat)} {anns : Nat → St → Unit → Option (AnnY Unit)} {perm : Nat → List (List Nat)}

theorem range_sound (ht : TabOk P E tab) (hKA : KAll P E K) (hPA : PAll P E pts) (hmix : P.follows .mixedOrders = true) {f1 : FuncId} {pre : GAsn → Int → Prop} {en : GAsn → Int → CG} (hit : ItOk P f1 pre en) (eg : ∀ args w, (callFunc f1 args).run P w = .ok (.enter f1 args) w)
    {wE : World} {ro0 : Nat → Option (Array Value)} {ρ : Nat} {st : St} {a : Act} {w : World} (h : RelY E (AC wE ro0 ρ) n st false a w) {t p i1 i2 : Nat} {a0 : GAsn} {tm : Int} {assign body : Code} {A : RAnn} {Qs : XK → St → Bool → Prop} {Q : Exit → Act → World → Prop}
    (he : st.env t = .s (.c (.fn f1 [i1, i2]))) (hm1 : st.mem i1 = some (.blk [.d (.arr .fact a0.facts), .d (.arr .atom a0.atoms)])) (hm2 : st.mem i2 = some (.blk [.d (.val (.int .u16 tm))]))
    (hrd : st.rd = none) (hpre : pre a0 tm) (hgc : gcB A.live A.ids st = true) (h1 : inL A.ids i1 = false) (h2 : inL A.ids i2 = false) (hne : i1 ≠ i2) (hsp : A.ids.all (fun j => !st.sp j && !st.fr j) = true) (hs1 : (!st.sp i1 && !st.fr i1) = true) (hs2 : (!st.sp i2 && !st.fr i2) = true)
    (hft0 : ftR A st 0 (dropR A st)) (hp' : p < n)
    (hoka : codeOkY tab K hp perm false n assign = true) (hoa : noOO gcs assign = true) (hokb : codeOkY tab K hp perm false n body = true) (hob : noOO gcs body = true)
    (hv : ∀ i c, (en a0 tm)[i]? = some c → ((en a0 tm).take i).all A.go = true → vcY tab K pts noSp noSpU (fun _ => false) hp gcs anns perm assign (St.put (rH A st i) (some p) (.s (.vec .int c))) ()
      (seqY (fun st1 _ => st1.rd = none ∧ vcY tab K pts noSp noSpU (fun _ => false) hp gcs anns perm body st1 () (bodyQ A.go (rH A st) (ftR A st) (fun _ st' => Qs .ret st' true) i c)) fun _ _ _ => False))
    (hend : (en a0 tm).all A.go = true → Qs .normal (rH A st (en a0 tm).length) true)
    (hQ : ∀ x st' γ' a' w', RelY E (AC wE ro0 ρ) n st' γ' a' w' → Qs x st' γ' → Q x.exit' a' w') :
    (Code.rangeFunc (.tmp t) #[p] assign body).wpIn Fence.wide m P Q a w := by
  obtain ⟨w0, M, hA, hr⟩ := h
  obtain ⟨g, hg, henv⟩ := hr.good
  have hds : a.defers = [] := hA.1 rfl
  have hpins := hA.2.2.1
  have hrd' : Rel E w0 M n (dropR A st) (bareA a) w := hr.gc hA.oo (by
    simp only [gcB, Bool.and_eq_true] at hgc
    exact ⟨closedEB_ok hgc.1, closedMB_ok hgc.2, fun j h => by simp at h⟩)
  have hmd : ∀ j r, (dropR A st).mem j = some r → inL A.ids j = true ∧ st.mem j = some r ∧ (dropR A st).sp j = st.sp j ∧ (dropR A st).fr j = st.fr j := fun j r h => gcSt_mem h
  have hgd : Good E w0 M g (dropR A st) w := hg.sub hpins (fun j r h => (hmd j r h).2) hrd hrd
  have henvd : ∀ x, ((dropR A st).env x).R g (a.tmps.getD x undef) := fun x => by
    rcases tabE_cases st.env A.live x with ⟨_, h⟩ | h
    · show S.R g (tabE A.live st.env x) _; rw [h]; exact henv x
    · show S.R g (tabE A.live st.env x) _; rw [h]; trivial
  -- the two boxes
  obtain ⟨b1, vs1, ty1, k1, hb1, hc1⟩ := hg.res i1 _ hm1
  obtain ⟨b2, vs2, ty2, k2, hb2, hc2⟩ := hg.res i2 _ hm2
  have hvs2 : vs2 = #[.int .u16 tm] := by
    obtain ⟨h3, h4⟩ := hc2
    obtain ⟨u, hu, hR⟩ := h4 0 _ rfl
    have := dr_val hR
    subst this
    apply Array.ext
    · simpa using h3
    · intro i h5 h6
      have : i = 0 := by simp at h6; exact h6
      subst this
      rw [Array.getElem?_eq_getElem h5] at hu
      simpa using hu
  subst hvs2
  have hkb1 : blkOf (g.κ i1) = some b1 := by rw [k1]; rfl
  have hkb2 : blkOf (g.κ i2) = some b2 := by rw [k2]; rfl
  have hsepb : ∀ {i j : Nat} {r : Res} {cs : List CV} {b : Nat}, st.mem i = some (.blk cs) → st.mem j = some r → r.live → i ≠ j → blkOf (g.κ i) = some b → blkOf (g.κ j) = some b → False := fun hi hj hl hij hbi hbj => by
    obtain ⟨f, t, xs, ys, h1, h2, _⟩ := hg.sep _ _ _ _ hi hj hij trivial hl _ hbi hbj
    cases h1
  have hb12 : b1 ≠ b2 := fun e => by
    subst e
    exact hsepb hm1 hm2 trivial hne hkb1 hkb2
  have hliveD : ∀ b, liveB g (dropR A st) b → b ≠ b1 ∧ b ≠ b2 ∧ g.ro b = none ∧ b < w.heap.size ∧ wE.heap.size ≤ b := by
    rintro b ⟨id, r, hm, hl, hb⟩
    obtain ⟨hin, hm', _, _⟩ := hmd id r hm
    have hflags := List.all_eq_true.1 hsp id (inL_mem.1 hin)
    simp only [Bool.and_eq_true, Bool.not_eq_true'] at hflags
    refine ⟨fun e => ?_, fun e => ?_, hg.wro id r hm' hl b hb hflags.1 hflags.2, (hg.res id r hm').lt hl hb, ?_⟩
    · subst e
      exact hsepb hm1 hm' hl (fun e => by subst e; rw [h1] at hin; cases hin) hkb1 hb
    · subst e
      exact hsepb hm2 hm' hl (fun e => by subst e; rw [h2] at hin; cases hin) hkb2 hb
    · rcases hg.fresh id r hm' hl b hb with h3 | h3
      · exact Nat.le_trans hA.2.2.2.1.size h3
      · exact hA.2.2.2.2.1 b h3
  have hboxE : ∀ {i b : Nat} {cs : List CV}, st.mem i = some (.blk cs) → blkOf (g.κ i) = some b → wE.heap.size ≤ b := fun hm hb => by
    rcases hg.fresh _ _ hm trivial _ hb with h3 | h3
    · exact Nat.le_trans hA.2.2.2.1.size h3
    · exact hA.2.2.2.2.1 _ h3
  have hro1 : g.ro b1 = none := by simp only [Bool.and_eq_true, Bool.not_eq_true'] at hs1; exact hg.wro i1 _ hm1 trivial b1 hkb1 hs1.1 hs1.2
  have hro2 : g.ro b2 = none := by simp only [Bool.and_eq_true, Bool.not_eq_true'] at hs2; exact hg.wro i2 _ hm2 trivial b2 hkb2 hs2.1 hs2.2
  -- a new anchor; the head
  have hgw : Good E w (reM g (dropR A st)) g (dropR A st) w := hgd.re hrd (reM_fit _ _) (fun _ _ => rfl) fun _ _ _ => rfl
  have hr0 : Rel E w (reM g (dropR A st)) n (rH A st 0) (bareA a) w := ftR_ok 0 _ hft0 _ _ _ _ ⟨fun _ _ h => (by cases h), fun _ h => by simp [reM] at h, fun _ h => by simp at h⟩ ⟨hrd'.cl, hr.size, hr.defers, g, hgw, henvd⟩
  obtain ⟨g0, hg0, henv0⟩ := hr0.good
  have hlive0 : ∀ b, liveB g0 (rH A st 0) b → liveB g (dropR A st) b := by
    rintro b ⟨id, r, hm, hl, hb⟩
    rcases hg0.fresh id r hm hl b hb with h3 | h3
    · have := (hg0.res id r hm).lt hl hb; omega
    · exact h3
  have hro0 : ∀ b vs, g0.ro b = some vs → (∃ vs', g.ro b = some vs') ∨ liveB g (dropR A st) b := fun b vs hb => by
    rcases hg0.roo b vs hb with h3 | h3 | h3
    · exact .inl ⟨vs, h3⟩
    · obtain ⟨_, _, h4⟩ := hg0.ro b vs hb; have := lt_of_some h4; omega
    · exact .inr h3
  have hρ0 : g0.ρ = ρ := by
    have e1 : g0.ρ = g.ρ := hg0.rho
    exact (e1.trans hg.rho).trans hA.2.2.2.2.2.2
  -- the statement
  refine wpIn_rangeFunc ?_
  intro fnid _
  obtain ⟨o, ho⟩ : ∃ o : Own', o = ⟨w.heap.size + 1, w.heap.size, fun s pe => { state := s, pending := pe, fn := fnid, tmps := a.tmps, params := #[p], assign, body, defers := w.heap.size }, a.tmps, ρ⟩ := ⟨_, rfl⟩
  obtain ⟨W1, hW1⟩ : ∃ W1, (w.alloc (.deferred (some []))).alloc (.loop (o.mkr .ready none)) = W1 := ⟨_, rfl⟩
  have hol : o.l = w.heap.size + 1 := by rw [ho]
  have hod : o.dB = w.heap.size := by rw [ho]
  have hot : o.tmps = a.tmps := by rw [ho]
  have hmk : ∀ s pe, o.mkr s pe = { state := s, pending := pe, fn := fnid, tmps := o.tmps, params := #[p], assign, body, defers := o.dB } := by intro s pe; rw [ho]
  have hsz1 : W1.heap.size = w.heap.size + 2 := by rw [← hW1]; simp
  have hL1 : W1.heap[o.l]? = some (.loop (o.mkr .ready none)) := by
    rw [← hW1, hol]; have := World.alloc_heap_new (w.alloc (.deferred (some []))) (.loop (o.mkr .ready none)); rwa [World.size_alloc] at this
  have hK1 : W1.heap[o.dB]? = some (.deferred (some [])) := by
    rw [← hW1, hod]; exact (Below.heap_alloc _ _ _ (by simp)).trans (World.alloc_heap_new w _)
  have hold1 : ∀ b, b < w.heap.size → W1.heap[b]? = w.heap[b]? := fun b hb => by
    rw [← hW1]; exact (Below.heap_alloc _ _ _ (by simp; omega)).trans (Below.heap_alloc _ _ _ hb)
  have hos1 : W1.os = w.os ∧ W1.tape = w.tape ∧ W1.output = w.output := by rw [← hW1]; exact ⟨rfl, rfl, rfl⟩
  have hrolt : ∀ b vs, g0.ro b = some vs → b < w.heap.size := fun b vs hb => by obtain ⟨_, _, h4⟩ := hg0.ro b vs hb; exact lt_of_some h4
  have hhere : Here E n o.tmps g0 (rH A st 0) W1 := by
    rw [hot]
    exact ⟨hr0.cl, hr.size, rfl, hg0.re rfl (reM_fit _ _) (fun b hb => hold1 b (hliveD b (hlive0 b hb)).2.2.2.1) (fun b vs hb => hold1 b (hrolt b vs hb)), henv0⟩
  have hJ0 : (jc E n o A.go (rH A st) (fun _ st' => Qs .ret st' true)).J [] (fpOf o.l o.dB g0 (rH A st 0)) W1 := ⟨hK1, .inl ⟨rfl, hL1, g0, hhere, by rw [hρ0, ho], rfl⟩⟩
  have hy := yok (E := E) (n := n) (gcs := gcs) (anns := anns) ht hKA hPA hmix hmk hp' (by rw [hol, hod]; omega) (go := A.go) (T := en a0 tm) (H := rH A st) (ft := ftR A st) (Qr := fun _ st' => Qs .ret st' true) (fun i st' => ftR_ok i st') (fun _ => rfl) hoka hoa hokb hob hv
  have hb1w : b1 < w.heap.size := lt_of_some hb1
  have hb2w : b2 < w.heap.size := lt_of_some hb2
  have hnd : ∀ b, b < w.heap.size → ¬ liveB g (dropR A st) b → ¬ (fpOf o.l o.dB g0 (rH A st 0)).d b := fun b hb hl hd => by
    rcases hd with hd | hd | hd
    · exact hl (hlive0 b hd)
    · rw [hol] at hd; omega
    · rw [hod] at hd; omega
  have hnb : ∀ b, b < w.heap.size → (∀ b', liveB g (dropR A st) b' → b' ≠ b) → g.ro b = none → ¬ ((fpOf o.l o.dB g0 (rH A st 0)).d b ∨ (fpOf o.l o.dB g0 (rH A st 0)).r b) := fun b hb hl hro hd => by
    rcases hd with hd | ⟨vs, hd⟩
    · exact hnd b hb (fun h => hl b h rfl) hd
    · rcases hro0 b vs hd with ⟨vs', h3⟩ | h3
      · rw [hro] at h3; cases h3
      · exact hl b h3 rfl
  have hin1 : ROin W1 g.ro := fun b vs hb => by
    obtain ⟨ty, fz, h3⟩ := hg.ro b vs hb
    exact ⟨ty, fz, by rw [hold1 b (lt_of_some h3)]; exact h3⟩
  have hcall := hit _ o.l A.go a0 tm hpre hy W1 (fpOf o.l o.dB g0 (rH A st 0)) g.ro g.ρ b1 b2 vs1 ty1 ty2 hin1
    (fun b vs hb => by
      obtain ⟨_, _, h3⟩ := hg.ro b vs hb
      exact hnd b (lt_of_some h3) fun hl => by have := (hliveD b hl).2.2.1; rw [hb] at this; cases this)
    (by rw [hold1 b1 hb1w]; exact hb1)
    ⟨hc1.1, fun j c hj => by
      obtain ⟨u, hu, hR⟩ := hc1.2 j c hj
      refine ⟨u, hu, CV.R.mono (g := g) (g' := argG g.ro g.ρ) (fun _ _ h => h) rfl (fun id hid => ?_) hR⟩
      have : c.refs = [] := by
        match j, hj with
        | 0, hj => cases hj; rfl
        | 1, hj => cases hj; rfl
      rw [this] at hid; cases hid⟩
    (by rw [hold1 b2 hb2w]; exact hb2) hb12 (hnb b1 hb1w (fun b hb => (hliveD b hb).1) hro1) (hnb b2 hb2w (fun b hb => (hliveD b hb).2.1) hro2) hro1 hro2 hJ0
  have hfe : a.eval (.tmp t) = .func (.func f1) #[] #[ptrV b1, ptrV b2] := by
    have := henv t
    rw [he] at this
    have h3 : a.tmps.getD t undef = .func (.func f1) #[] ([i1, i2].map g.κ).toArray := this
    have h4 : a.eval (.tmp t) = a.tmps.getD t undef := rfl
    rw [h4, h3]; simp [k1, k2]
  refine ⟨o.l, [{ target := .collected o.dB, args := #[] }], W1, { target := .fn (.func f1) #[ptrV b1, ptrV b2], args := #[yV o.l] }, W1, f1, #[yV o.l] ++ #[ptrV b1, ptrV b2], W1, ?_, ?_, fun _ _ => trivial, ?_, fun h => (by cases h), callsIn_wide.2 ?_⟩
  · have := run_enterLoop_outer (P := P) (w := w) fnid a.tmps #[p] assign body
    rw [show Fence.wide.round = none from rfl, this, ← hW1, hol, hod, hmk]
    rw [hot, hod]
  · simp only [resolve, hfe]
    simp [go_sem]
  · simp [invoke, go_sem, eg]
  refine Calls.mono hcall ?_
  rintro e W2 ⟨⟨v, rfl⟩, p', ⟨hd2, hJ2⟩, hF⟩
  -- behind the loop
  have behind : ∀ {g2 : G} {s2 : St} {lo lo' : Loop}, W2.heap[o.l]? = some (.loop lo) → Here E n o.tmps g2 s2 W2 → g2.ρ = o.ρ → p' = fpOf o.l o.dB g2 s2 →
      RelY E (AC wE ro0 ρ) n s2 true { a with defers := [{ target := .collected o.dB, args := #[] }] ++ a.defers } (W2.putObj o.l (.loop lo')) := by
    intro g2 s2 lo lo' hl2 hh2 hρ2 hp2
    subst hp2
    have hx := hA.ext hg
    have hne4 : ∀ b, liveB g2 s2 b → b ≠ o.l := fun b hb e => by subst e; obtain ⟨_, _, h3⟩ := liveB_cells hh2.good hb; rw [hl2] at h3; cases h3
    have hnr4 : ∀ b vs, g2.ro b = some vs → b ≠ o.l := fun b vs hb e => by subst e; obtain ⟨_, _, h3⟩ := ro_cells hh2.good hb; rw [hl2] at h3; cases h3
    have hh4 : Here E n o.tmps g2 s2 (W2.putObj o.l (.loop lo')) := hh2.next (fun b hb => World.putObj_heap_other (hne4 b hb)) fun b vs hb => World.putObj_heap_other (hnr4 b vs hb)
    have hEw : wE.heap.size ≤ w.heap.size := hx.size
    have hsame : ∀ b, b < wE.heap.size → W2.heap[b]? = w.heap[b]? := fun b hb => by
      rw [hF.block b (by rw [hsz1]; omega) (hnd b (by omega) fun hl => by have := (hliveD b hl).2.2.2.2; omega) (fun hX => by
        rcases hX with rfl | rfl
        · have := hboxE hm1 hkb1; omega
        · have := hboxE hm2 hkb2; omega)]
      exact hold1 b (by omega)
    have hdge : ∀ b, (fpOf o.l o.dB g0 (rH A st 0)).d b → wE.heap.size ≤ b := fun b hd => by
      rcases hd with hd | hd | hd
      · exact (hliveD b (hlive0 b hd)).2.2.2.2
      · rw [hol] at hd; omega
      · rw [hod] at hd; omega
    refine ⟨_, reM g2 s2, ⟨fun h => (by cases h), fun _ => ⟨o.dB, by rw [hds]; rfl, by rw [hod]; exact hEw, ?_, ?_⟩, fun _ => ⟨rfl, rfl⟩, ?_, ?_, ?_, ?_⟩, ⟨hh4.cl, by rw [← hot]; exact hh4.size, rfl, g2, hh4.good, by rw [← hot]; exact hh4.env⟩⟩
    · rw [World.putObj_heap_other (by rw [hol, hod]; omega)]; exact hd2
    · intro hc
      obtain ⟨_, _, h3⟩ := liveB_cells hh2.good hc
      rw [hd2] at h3; cases h3
    · refine ⟨hF.os.trans (hos1.1.trans hx.os), hF.tape.trans (hos1.2.1.trans hx.tape), hF.output.trans (hos1.2.2.trans hx.output), ?_, fun b hb _ => ?_⟩
      · have h3 := hF.size
        have h4 : (W2.putObj o.l (.loop lo')).heap.size = W2.heap.size := by simp
        rw [h4]; omega
      · rw [World.putObj_heap_other (by rw [hol]; omega), hsame b hb]
        exact hx.block b hb fun h => h
    · intro b hc
      rcases hF.sub b (.inl hc) with h3 | h3
      · exact hdge b h3
      · omega
    · intro b vs hb
      by_cases hlt : wE.heap.size ≤ b
      · exact .inr hlt
      · refine .inl ?_
        have hcase : ∃ vs', g.ro b = some vs' := by
          rcases hF.subr b ⟨vs, hb⟩ with ⟨vs', h3⟩ | h3 | h3
          · rcases hro0 b vs' h3 with h4 | h4
            · exact h4
            · have := (hliveD b h4).2.2.2.2; omega
          · have := hdge b h3; omega
          · omega
        obtain ⟨vs', h3⟩ := hcase
        obtain ⟨_, _, h4⟩ := hg.ro b vs' h3
        obtain ⟨_, _, h5⟩ := hh2.good.ro b vs hb
        rw [hsame b (by omega), h4] at h5
        have hvv : vs' = vs := by simp at h5; exact h5.1
        subst hvv
        rcases hg.roo b vs' h3 with h6 | h6 | h6
        · rcases hA.2.2.2.2.2.1 b vs' h6 with h7 | h7
          · exact h7
          · omega
        · have := hA.2.2.2.1.size; omega
        · have := hA.2.2.2.2.1 b h6; omega
    · exact hρ2.trans (by rw [ho])
  rcases hJ2 with ⟨hall, hl2, g2, hh2, hρ2, hp2⟩ | ⟨hnall, hl2, g2, s2, hq2, hh2, hρ2, hp2⟩
  · have hend2 := run_endLoop (P := P) hl2 (by rw [hmk]; simp)
    refine ⟨_, _, hend2, ?_⟩
    have hpe : (o.mkr .ready none).pending = none := by rw [hmk]
    rw [hpe]
    have hT : (en a0 tm).all A.go = true := by
      have key : ∀ l : CG, (upTo A.go l).all A.go = l.all A.go := by
        intro l
        induction l with
        | nil => rfl
        | cons x l ih => simp only [upTo, List.all_cons]; cases hx : A.go x <;> simp [hx, ih]
      rw [← key]; exact hall
    rw [upTo_all hT] at hh2 hp2
    exact hQ .normal _ true _ _ (behind hl2 hh2 hρ2 hp2) (hend hT)
  · have hend2 := run_endLoop (P := P) hl2 (by rw [hmk]; simp)
    refine ⟨_, _, hend2, ?_⟩
    have hpe : (o.mkr .done (some .ret)).pending = some .ret := by rw [hmk]
    rw [hpe]
    exact wpIn_ret (hQ .ret _ true _ _ (behind hl2 hh2 hρ2 hp2) hq2)

end
end Go.SE

namespace Go.SE
open Go.RowKit

section
variable {P : Program} {E : Ty → TypeId} {tab : TypeId → Option TI} {K : FuncId → Option Con} {pts : FuncId → Option PT} {hp : Nat → Bool} {gcs : Nat → Option (List Nat × List Nat)} {perm : Nat → List (List Nat)}

abbrev noSpB : SpOp Bool := fun _ _ _ => none

/-- the end of such a function -/
def retR (tab : TypeId → Option TI) (con : Con) (rvs : List ResultVar) (x : Args con.aks) : XK → St → Bool → Prop := fun xk st _ => st.rd = none ∧ retOk tab con rvs x 0 xk st

theorem fnR_sound (ht : TabOk P E tab) (hKA : KAll P E K) (hPA : PAll P E pts) (hmix : P.follows .mixedOrders = true) (hdr : ∀ w0 M n, DrawSound P E tab K w0 M n) {f : FuncId} {fn : Func} {c : Code} {con : Con} (hcr : hasRdr con.aks = false) (hf : P.funcs[f]? = some fn) (hb : fn.body = some c) (hn : con.aks.length ≤ fn.ntmps) (hok : codeOkY tab K hp perm true fn.ntmps c = true)
    {spc : Args con.aks → SpCode Bool} {anns : Args con.aks → Nat → St → Bool → Option (AnnY Bool)} (hspc : ∀ x, con.pre x → ∀ wE ro0 ρ, SpcOk Fence.wide 0 P E (AC wE ro0 ρ) fn.ntmps (spc x))
    (hvc : ∀ x, con.pre x → vcY tab K pts noSpB (spc x) (fun b => !b) hp gcs (anns x) perm c (entry (encs con.aks x) none) false (retR tab con fn.results.toList x)) : CallOk P E f con := by
  intro w0 ro0 ρ k x vs id0 hpre hin hrd hargs
  have hlen : vs.length = con.aks.length := by
    rw [hargs.1]
    have : ∀ (ks : List AK) (x : Args ks), (encs ks x).length = ks.length := by
      intro ks
      induction ks with
      | nil => intro x; rfl
      | cons k ks ih => intro x; obtain ⟨x, xs⟩ := x; simp [encs, ih]
    exact this _ _
  have hent : Rel E w0 (MOf false ρ ro0) fn.ntmps (entry (encs con.aks x) none) { tmps := vs.toArray ++ Array.replicate (fn.ntmps - vs.toArray.size) undef, defers := [] } w0 :=
    entry_rel (h := false) (k := 0) hin (fun h => by cases h) hargs (by omega)
  refine callsIn_wide.1 (callsIn_of_wp_marks (n := 0) hf hb trivial ?_)
  refine codeY_sound (A := AC w0 ro0 ρ) (drg := fun b => !b) (.inl rfl) ht hKA hPA hmix (fun _ _ _ _ h => by cases h) (hspc x hpre w0 ro0 ρ) (dr := true) (fun _ => ⟨rfl, fun γ ds w0 M hγ hA => hA.1 (by simpa using hγ), fun _ _ => hdr _ _ _⟩) c _ false _ _
    (retR tab con fn.results.toList x) _ (.inl fun γ ds w0 M h => h.oo) hok
    ⟨w0, MOf false ρ ro0, ⟨fun _ => rfl, fun h => (by cases h), fun _ => ⟨rfl, rfl⟩, Ext.refl _ _, fun b h => (by cases h.1), fun b vs h => .inl h, rfl⟩, hent⟩ (hvc x hpre) ?_
  intro xk st' γ' a' w' hr hk
  obtain ⟨hrd', hk⟩ := hk
  obtain ⟨wA, M, hA, hr⟩ := hr
  obtain ⟨g, hg, henv⟩ := hr.good
  -- the results, in a world in which what the state speaks of is as it was
  have fin : ∀ w5 : World, Good E w0 (MOf false ρ ro0) g st' w5 → retOk tab con fn.results.toList x 0 .ret st' → ∃ v, (results fn a'.tmps).run P w5 = .ok v w5 ∧ ∃ v1 r g, Ending.returned v = .returned v1 ∧ con.post x r ∧ Ext (fun b => hasRdr con.aks = true ∧ b = ρ) w0 w5 ∧ g.ρ = ρ ∧ ResOk E w0 w5 ro0 con.rks id0 r v1 g ∧ (hasRdr con.aks = true → RdStep w0 w5 ρ (k + con.cost x)) := by
    intro w5 hg5 hret
    have hrel : Rel E w0 (MOf (hasRdr con.aks) ρ ro0) fn.ntmps st' (bareA a') w5 := by rw [hcr]; exact ⟨hr.cl, hr.size, rfl, g, hg5, henv⟩
    obtain ⟨v, h1, r, g1, h2, h3, h4, h5, _⟩ := exit_ok (k := 0) id0 ht hin (fun h => by rw [hcr] at h; cases h) hrel hret
    exact ⟨v, h1, v, r, g1, rfl, h2, h3, h4, h5, fun h => by rw [hcr] at h; cases h⟩
  have leave : retOk tab con fn.results.toList x 0 .ret st' → LeavesInM Fence.wide 0 P fn a'.tmps (fun e w => ∃ v r g, e = .returned v ∧ con.post x r ∧ Ext (fun b => hasRdr con.aks = true ∧ b = ρ) w0 w ∧ g.ρ = ρ ∧ ResOk E w0 w ro0 con.rks id0 r v g ∧ (hasRdr con.aks = true → RdStep w0 w ρ (k + con.cost x))) a'.defers .returning w' := by
    intro hret
    cases γ' with
    | false =>
      rw [hA.1 rfl]
      exact fin w' (hA.good hg hrd') hret
    | true =>
      obtain ⟨dB, hds, hge, hdB, hnc⟩ := hA.2.1 rfl
      rw [hds]
      have hdB' : w'.heap[dB]? = some (.deferred (some [])) := (hg.ext.block _ (lt_of_some hdB) hnc).trans hdB
      refine ⟨by simp, .inl ⟨dB, _, rfl, run_takeDeferred hdB', ?_⟩⟩
      refine fin _ ?_ hret
      have hlv : ∀ b, liveB g st' b → b ≠ dB := fun b hb e => by subst e; obtain ⟨_, _, h3⟩ := liveB_cells hg hb; rw [hdB'] at h3; cases h3
      have hrv : ∀ b vs, g.ro b = some vs → b ≠ dB := fun b vs hb e => by subst e; obtain ⟨_, _, h3⟩ := ro_cells hg hb; rw [hdB'] at h3; cases h3
      have hgE := hA.good hg hrd'
      have h5 : Good E (w'.putObj dB (.deferred none)) (reM g st') g st' (w'.putObj dB (.deferred none)) := hg.re hrd' (reM_fit g st') (fun b hb => World.putObj_heap_other (hlv b hb)) fun b vs hb => World.putObj_heap_other (hrv b vs hb)
      refine ⟨⟨hgE.ext.os, hgE.ext.tape, hgE.ext.output, ?_, fun b hb hc => ?_⟩, h5.ro, h5.res, hgE.sep, hgE.fresh, hgE.wro, (fun m hm => by rw [hrd'] at hm; cases hm), (fun h => absurd hrd' h), hgE.roo, hgE.rho, hgE.pin, hgE.keep⟩
      · have : (w'.putObj dB (.deferred none)).heap.size = w'.heap.size := by simp
        rw [this]; exact hgE.ext.size
      · rw [World.putObj_heap_other (by omega)]
        exact hgE.ext.block b hb hc
  cases xk with
  | normal => exact leave hk
  | ret => exact leave hk
  | exit id => exact hk.elim

end
end Go.SE

namespace Go.SE
open Go.RowKit

section
variable (tab : TypeId → Option TI) (K : FuncId → Option Con) (pts : FuncId → Option PT) (hp : Nat → Bool) (gcs : Nat → Option (List Nat × List Nat)) (anns : Nat → St → Unit → Option (AnnY Unit)) (perm : Nat → List (List Nat)) (n : Nat)

/-- what is asked of one round -/
def roundVC (A : RAnn) (T : CG) (st : St) (p : Nat) (assign body : Code) (Qs : XK → St → Bool → Prop) : Prop :=
  ∀ i c0 c1 c2 c3 c4 c5 c6 c7 c8, T[i]? = some [c0, c1, c2, c3, c4, c5, c6, c7, c8] → (T.take i).all A.go = true → vcY tab K pts noSp noSpU (fun _ => false) hp gcs anns perm assign (St.put (rH A st i) (some p) (.s (.vec .int [c0, c1, c2, c3, c4, c5, c6, c7, c8]))) ()
    (seqY (fun st1 _ => st1.rd = none ∧ vcY tab K pts noSp noSpU (fun _ => false) hp gcs anns perm body st1 () (bodyQ A.go (rH A st) (ftR A st) (fun _ st' => Qs .ret st' true) i [c0, c1, c2, c3, c4, c5, c6, c7, c8])) fun _ _ _ => False)

theorem nine {c : List Int} (h : c.length = 9) : ∃ c0 c1 c2 c3 c4 c5 c6 c7 c8, c = [c0, c1, c2, c3, c4, c5, c6, c7, c8] := by
  match c, h with
  | [c0, c1, c2, c3, c4, c5, c6, c7, c8], _ => exact ⟨c0, c1, c2, c3, c4, c5, c6, c7, c8, rfl⟩

def roundOk (p : Nat) (assign body : Code) : Bool :=
  decide (p < n) && (codeOkY tab K hp perm false n assign && (noOO gcs assign && (codeOkY tab K hp perm false n body && noOO gcs body)))

def boxOk (A : RAnn) (st : St) (i1 i2 : Nat) : Bool :=
  gcB A.live A.ids st && (!inL A.ids i1 && (!inL A.ids i2 && (!(i1 == i2) && (A.ids.all (fun j => !st.sp j && !st.fr j) && ((!st.sp i1 && !st.fr i1) && (!st.sp i2 && !st.fr i2))))))

def spR3 (f1 : FuncId) (pre : GAsn → Int → Prop) (en : GAsn → Int → CG) (p : Nat) (assign body : Code) (st : St) (g i1 i2 : Nat) : Option Res → Option Res → Option RAnn → Option ((XK → St → Bool → Prop) → Prop)
  | some (.blk [.d (.arr .fact fs), .d (.arr .atom xs)]), some (.blk [.d (.val (.int .u16 tm))]), some A =>
    some fun Qs => ((g = f1 ∧ st.rd = none ∧ pre ⟨fs, xs⟩ tm) ∧ (boxOk A st i1 i2 && roundOk tab K hp gcs perm n p assign body) = true ∧ ftR A st 0 (dropR A st)) ∧
      roundVC tab K pts hp gcs anns perm A (en ⟨fs, xs⟩ tm) st p assign body Qs ∧ ((en ⟨fs, xs⟩ tm).all A.go = true → Qs .normal (rH A st (en ⟨fs, xs⟩ tm).length) true)
  | _, _, _ => none

def spR2 (f1 : FuncId) (pre : GAsn → Int → Prop) (en : GAsn → Int → CG) (ann : St → Option RAnn) (p : Nat) (assign body : Code) (st : St) : S → Option ((XK → St → Bool → Prop) → Prop)
  | .s (.c (.fn g [i1, i2])) => spR3 tab K pts hp gcs anns perm n f1 pre en p assign body st g i1 i2 (st.mem i1) (st.mem i2) (ann st)
  | _ => none

def spR (f1 : FuncId) (pre : GAsn → Int → Prop) (en : GAsn → Int → CG) (ann : St → Option RAnn) : SpCode Bool := fun f ps x c st γ =>
  match γ, f, ps with
  | false, .tmp t, ⟨[p]⟩ => spR2 tab K pts hp gcs anns perm n f1 pre en ann p x c st (st.env t)
  | _, _, _ => none
end

section
variable {P : Program} {E : Ty → TypeId} {n m : Nat} {tab : TypeId → Option TI} {K : FuncId → Option Con} {pts : FuncId → Option PT} {hp : Nat → Bool} {gcs : Nat → Option (List Nat × List Nat)} {anns : Nat → St → Unit → Option (AnnY Unit)} {perm : Nat → List (List Nat)}

theorem spR_ok (ht : TabOk P E tab) (hKA : KAll P E K) (hPA : PAll P E pts) (hmix : P.follows .mixedOrders = true) {f1 : FuncId} {pre : GAsn → Int → Prop} {en : GAsn → Int → CG} (hit : ItOk P f1 pre en) (hlen : ∀ a tm, pre a tm → ∀ c ∈ en a tm, c.length = 9) (eg : ∀ args w, (callFunc f1 args).run P w = .ok (.enter f1 args) w)
    {wE : World} {ro0 : Nat → Option (Array Value)} {ρ : Nat} {ann : St → Option RAnn} : SpcOk Fence.wide m P E (AC wE ro0 ρ) n (spR tab K pts hp gcs anns perm n f1 pre en ann) := by
  intro f ps x c st γ g hs Qs a w Q h hg hQ
  unfold spR at hs
  split at hs
  · rename_i t p
    unfold spR2 at hs
    split at hs
    · rename_i g1 i1 i2 he
      unfold spR3 at hs
      split at hs
      · rename_i fs xs tm A hm1 hm2 hann
        injection hs with hs
        subst hs
        obtain ⟨⟨⟨rfl, hrd, hpre⟩, hb, hft⟩, hv, hend⟩ := hg
        simp only [boxOk, roundOk, Bool.and_eq_true, Bool.not_eq_true', decide_eq_true_eq, beq_eq_false_iff_ne] at hb
        obtain ⟨⟨b1, b2, b3, b4, b5, b6, b7⟩, c1, c2, c3, c4, c5⟩ := hb
        exact range_sound ht hKA hPA hmix hit eg h he hm1 hm2 hrd hpre b1 b2 b3 b4 (by simpa using b5) (by simpa using b6) (by simpa using b7) hft c1 c2 c3 c4 c5 (fun i c hi => by
          obtain ⟨c0, c1, c2, c3, c4, c5, c6, c7, c8, rfl⟩ := nine (hlen _ _ hpre c (List.mem_of_getElem? hi))
          exact hv i c0 c1 c2 c3 c4 c5 c6 c7 c8 hi) hend hQ
      · cases hs
    · cases hs
  · cases hs

theorem run_callFunc {f : FuncId} {fn : Func} {c : Code} (hf : P.funcs[f]? = some fn) (hname : (fn.name == "runtime.NumGoroutine") = false) (hb : fn.body = some c) : ∀ args w, (callFunc f args).run P w = .ok (.enter f args) w := by
  intro args w
  have hn : ¬ fn.name = "runtime.NumGoroutine" := by simpa using hname
  simp [callFunc, hf, hn, hb]

end
end Go.SE

namespace Go.SE
open Go.RowKit

/-- what a block of an array holds -/
def vecAt (st : St) (id : Nat) : List Int :=
  match st.mem id with
  | some (.vec .int xs) => xs
  | _ => []

section
variable {P : Program} {E : Ty → TypeId} {tab : TypeId → Option TI} {hp : Nat → Bool} {gcs : Nat → Option (List Nat × List Nat)} {perm : Nat → List (List Nat)}

theorem fnR_ok {l : List (FuncId × Con)} {lp : List (FuncId × PT)} (ht : TabOk P E tab) (hmix : P.follows .mixedOrders = true) (hl : AllOk P E l) (hlp : AllPt P E lp) {f : FuncId} {fn : Func} {con : Con} (hcr : hasRdr con.aks = false) (hf : P.funcs[f]? = some fn)
    (hb : fn.body = some (bodyOf fn)) (hname : (fn.name == "runtime.NumGoroutine") = false) (hn : con.aks.length ≤ fn.ntmps) (hok : codeOkY tab (lookF l) hp perm true fn.ntmps (bodyOf fn) = true) {spc : Args con.aks → SpCode Bool} {anns : Args con.aks → Nat → St → Bool → Option (AnnY Bool)}
    (hspc : ∀ x, con.pre x → ∀ wE ro0 ρ, SpcOk Fence.wide 0 P E (AC wE ro0 ρ) fn.ntmps (spc x))
    (hvc : ∀ x, con.pre x → vcY tab (lookF l) (lookP lp) noSpB (spc x) (fun b => !b) hp gcs (anns x) perm (bodyOf fn) (entry (encs con.aks x) none) false (retR tab con fn.results.toList x))
    (htot : ∀ x, con.pre x → ∃ r, con.post x r) : FnOk P E f con :=
  ⟨⟨fn, _, hf, hname, hb⟩, fnR_sound ht (kall_of hl) (pall_of hlp) hmix (fun _ _ _ => draw_sound ht (tab_small ht) (kall_of hl) hmix _ _ _) hcr hf hb hn hok hspc hvc, htot⟩

theorem ext_none {P : Program} {J : JJ CG} {fid l : Nat} {go : List Int → Bool} {T : CG} {a : GAsn} {tm t : Int} : ExtOk P J fid l go T a tm t (fun c => List.replicate (T.length + 1) c) := by
  intro c w γ D ro0 ρ vs _ _ _ _ _ _ hT
  have := hT.length_le
  simp at this
  omega

end

/-! ## the leaves of the iterator's body -/
section
variable {a : GAsn} {en : List Int → CG} {n : Nat} {c : List Int} {p : Nat × List Int} {go : List Int → Bool} {γ T L : CG}

abbrev flC (a : GAsn) (en : List Int → CG) (n : Nat) (c : List Int) (k : Nat) : CG := (List.range k).flatMap (brC (poss a) en n c)

theorem fl_succ (k : Nat) : flC a en n c (k + 1) = flC a en n c k ++ brC (poss a) en n c k := by
  unfold flC
  rw [List.range_succ, List.flatMap_append]
  simp
theorem fl_get (hset : ∀ x : Int, p.2.set n x = c.set n x) {k : Nat} (hk : k ≠ n) : p.2.getD k 0 = c.getD k 0 := by
  have := congrArg (fun l => l.getD k 0) (hset 0)
  simpa only [getD_set_ne hk] using this
theorem fl_skip (hset : ∀ x : Int, p.2.set n x = c.set n x) (hlt : (p.1 : Int) < n) (hne : ¬ p.2.getD p.1 0 = (p.1 : Int)) : flC a en n c (p.1 + 1) = flC a en n c p.1 := by
  rw [fl_succ]
  unfold brC
  rw [← fl_get hset (by omega)]
  have h1 : (p.1 == n) = false := by simp; omega
  have h2 : (p.2.getD p.1 0 == (p.1 : Int)) = false := by simpa using hne
  rw [h1, h2]
  simp
theorem fl_no (hset : ∀ x : Int, p.2.set n x = c.set n x) (hp : possI a (p.2.set n (p.1 : Int)) (n : Int) = false) : flC a en n c (p.1 + 1) = flC a en n c p.1 := by
  rw [fl_succ]
  unfold brC poss
  rw [hset] at hp
  rw [hp]
  simp
theorem fl_yes (hset : ∀ x : Int, p.2.set n x = c.set n x) (h1 : ¬ (p.1 : Int) < n ∨ p.2.getD p.1 0 = (p.1 : Int)) (hle : (p.1 : Int) ≤ n) (hp : possI a (p.2.set n (p.1 : Int)) (n : Int) = true) : flC a en n c (p.1 + 1) = flC a en n c p.1 ++ en (p.2.set n (p.1 : Int)) := by
  rw [fl_succ]
  unfold brC poss
  rw [hset] at hp ⊢
  rw [hp]
  have : (p.1 == n || c.getD p.1 0 == (p.1 : Int)) = true := by
    by_cases e : p.1 = n
    · simp [e]
    · rcases h1 with h1 | h1
      · omega
      · rw [← fl_get hset e, h1]; simp
  rw [this]
  rfl
theorem fl_part {k m : Nat} (h : k ≤ m) : ∃ r, flC a en n c m = flC a en n c k ++ r := by
  induction m with
  | zero => have : k = 0 := by omega
            subst this; exact ⟨[], by simp⟩
  | succ m ih =>
    by_cases e : k = m + 1
    · subst e; exact ⟨[], by simp⟩
    · obtain ⟨r, hr⟩ := ih (by omega)
      exact ⟨r ++ brC (poss a) en n c m, by rw [fl_succ, hr, List.append_assoc]⟩
theorem fl_key (hL : L = flC a en n c (n + 1)) (hset : ∀ x : Int, p.2.set n x = c.set n x) (h1 : ¬ (p.1 : Int) < n ∨ p.2.getD p.1 0 = (p.1 : Int)) (hle : (p.1 : Int) ≤ n) (hp : possI a (p.2.set n (p.1 : Int)) (n : Int) = true) : ∃ r, L = flC a en n c p.1 ++ (en (p.2.set n (p.1 : Int)) ++ r) := by
  obtain ⟨r, hr⟩ := fl_part (a := a) (en := en) (n := n) (c := c) (k := p.1 + 1) (m := n + 1) (by omega)
  exact ⟨r, by rw [hL, hr, fl_yes hset h1 hle hp, List.append_assoc]⟩
theorem fl_pre (hL : L = flC a en n c (n + 1)) (hset : ∀ x : Int, p.2.set n x = c.set n x) (h1 : ¬ (p.1 : Int) < n ∨ p.2.getD p.1 0 = (p.1 : Int)) (hle : (p.1 : Int) ≤ n) (hp : possI a (p.2.set n (p.1 : Int)) (n : Int) = true) (hT : γ ++ L <+: T) : γ ++ flC a en n c p.1 ++ en (p.2.set n (p.1 : Int)) <+: T := by
  obtain ⟨r, hr⟩ := fl_key hL hset h1 hle hp
  refine List.IsPrefix.trans ?_ hT
  rw [hr]
  exact ⟨r, by simp⟩
theorem fl_all (hL : L = flC a en n c (n + 1)) (hset : ∀ x : Int, p.2.set n x = c.set n x) (h1 : ¬ (p.1 : Int) < n ∨ p.2.getD p.1 0 = (p.1 : Int)) (hle : (p.1 : Int) ≤ n) (hp : possI a (p.2.set n (p.1 : Int)) (n : Int) = true) (hg : (en (p.2.set n (p.1 : Int))).all go = false) (hf : (flC a en n c p.1).all go = true) : false = L.all go ∧ γ ++ flC a en n c p.1 ++ upTo go (en (p.2.set n (p.1 : Int))) = γ ++ upTo go L := by
  obtain ⟨r, hr⟩ := fl_key hL hset h1 hle hp
  rw [hr]
  refine ⟨by rw [List.all_append, List.all_append, hg]; simp, ?_⟩
  rw [upTo_append, hf, cond_true, upTo_append, hg, cond_false, List.append_assoc]
theorem fl_end (hL : L = flC a en n c (n + 1)) (hp : p.1 ≤ n + 1) (hle : ¬ (p.1 : Int) ≤ n) (hf : (flC a en n c p.1).all go = true) : true = L.all go ∧ γ ++ flC a en n c p.1 = γ ++ upTo go L := by
  have : p.1 = n + 1 := by omega
  rw [this] at hf ⊢
  rw [hL, hf, upTo_all hf]
  exact ⟨rfl, rfl⟩
end
end Go.SE

namespace Go.SE
open Go.RowKit

/-- nil, the terms of an assertion, further terms -/
def hz (a : GAsn) (q : Int → Bool) : Nat → Bool := fun k => isT (k : Int) && (((k : Int) == 0) || (occ a k || q k))
def casesF (a : GAsn) : CG := casesB a (hz a fun _ => false)

theorem tsOr {x y : Int} (hx0 : 0 ≤ x) (hx : x < 512) (hy0 : 0 ≤ y) (hy : y < 512) : 0 ≤ bits .or .u16 x y ∧ bits .or .u16 x y < 512 ∧ ∀ t, tsHas (bits .or .u16 x y) t = (tsHas x t || tsHas y t) := by
  rw [u16_or _ _ hx0 (by omega) hy0 (by omega)]
  refine ⟨by omega, ?_, fun t => ?_⟩
  · have h1 : x.toNat < 2 ^ 9 := by omega
    have h2 : y.toNat < 2 ^ 9 := by omega
    have := Nat.or_lt_two_pow h1 h2
    omega
  · simp only [tsHas, Int.toNat_natCast, Nat.testBit_or]
    cases isT t <;> simp

theorem itEn_or {a : GAsn} (ha : asV a = true) {s : Int} (h0 : 0 ≤ s) (h1 : s < 512) : itEn a (bits .or .u16 (tsWith (tsA a) 0) s) = casesB a (hz a (tsHas s)) ∧ itPre a (bits .or .u16 (tsWith (tsA a) 0) s) := by
  have hb := tsA_bd a
  have hw := tsWith_bd (t := 0) hb.1 hb.2
  obtain ⟨o1, o2, o3⟩ := tsOr hw.1 hw.2 h0 h1
  refine ⟨?_, ha, o1, o2⟩
  unfold itEn
  have : hasN (bits .or .u16 (tsWith (tsA a) 0) s) = hz a (tsHas s) := by
    funext k
    unfold hasN hz
    rw [o3, tsHas_with hb.1 rfl, tsA_has ha]
    cases hk : isT (k : Int) with
    | true =>
      rw [Bool.true_and, BEq.comm]
      cases occ a (k : Int) <;> cases ((k : Int) == 0) <;> cases tsHas s (k : Int) <;> rfl
    | false =>
      have e1 : occ a (k : Int) = false := by rw [← tsA_has ha]; simp [tsHas, hk]
      have e2 : ((0 : Int) == (k : Int)) = false := by
        cases h : ((0 : Int) == (k : Int)) with
        | false => rfl
        | true => have : (0 : Int) = (k : Int) := by simpa using h
                  rw [← this] at hk; cases hk
      have e3 : tsHas s (k : Int) = false := by simp [tsHas, hk]
      rw [e1, e2, e3]; rfl
  rw [this]
theorem hz_congr {a : GAsn} {q r : Int → Bool} (h : ∀ k : Int, isT k = true → q k = r k) : hz a q = hz a r := by
  funext k
  unfold hz
  cases hk : isT (k : Int) with
  | false => rfl
  | true => rw [h _ hk]
theorem itEn_zero {a : GAsn} (ha : asV a = true) : itEn a (bits .or .u16 (tsWith (tsA a) 0) 0) = casesF a := by
  rw [(itEn_or ha (by decide) (by decide)).1]
  unfold casesF
  rw [hz_congr fun k _ => tsHas_zero k]
theorem asV_small {a : GAsn} (ha : asV a = true) : a.facts.length ≤ 281474976710656 ∧ a.atoms.length ≤ 281474976710656 := by
  have := asV_facts ha
  omega

theorem isT_ne {j : Int} (h : isT j = true) : 0 ≤ j ∧ j ≤ 8 := isT_iff.1 h
theorem hz_named {a : GAsn} (ha : asV a = true) (q : Int → Bool) : Named a (hz a q) := by
  obtain ⟨h1, _, h2, _⟩ := asV_facts ha
  have key : ∀ t : Int, isT t = true → occ a t = true → 0 ≤ t ∧ t ≤ 8 ∧ hz a q t.toNat = true := fun t ht ho => by
    obtain ⟨h3, h4⟩ := isT_iff.1 ht
    refine ⟨h3, h4, ?_⟩
    unfold hz
    have : ((t.toNat : Nat) : Int) = t := by omega
    rw [this, ht, ho]
    simp
  refine ⟨fun f hf => ?_, fun x hx => ?_⟩
  · have hv := fV_isT (List.all_eq_true.1 h1 f hf)
    obtain ⟨a1, a2, a3⟩ := key f.a hv.1 (by unfold occ occF; rw [List.any_eq_true.2 ⟨f, hf, by simp⟩]; rfl)
    obtain ⟨b1, b2, b3⟩ := key f.b hv.2 (by unfold occ occF; rw [List.any_eq_true.2 ⟨f, hf, by simp⟩]; rfl)
    exact ⟨a1, a2, b1, b2, a3, b3⟩
  · have hv := atV_isT (List.all_eq_true.1 h2 x hx)
    have ho : ∀ t, (x.a == t || x.b == t) = true → occ a t = true := fun t ht => by
      unfold occ occG
      rw [List.any_eq_true.2 ⟨x, hx, ht⟩, Bool.or_true]
    obtain ⟨a1, a2, a3⟩ := key x.a hv.1 (ho _ (by simp))
    obtain ⟨b1, b2, b3⟩ := key x.b hv.2 (ho _ (by simp))
    exact ⟨a1, a2, b1, b2, a3, b3⟩
theorem hz_zero (a : GAsn) (q : Int → Bool) : hz a q 0 = true := rfl

/-! ## the first of a list that fails -/
section
variable {α : Type} {L : List α} {q : α → Bool} {i : Nat} {c d : α}
theorem first_hit (h : L[i]? = some c) (ht : (L.take i).all q = true) (hq : q c = false) : (L.filter fun x => !q x).headD d = c ∧ (L.filter fun x => !q x).isEmpty = false ∧ L.all q = false := by
  have hi := (List.getElem?_eq_some_iff.1 h).1
  have e : L = L.take i ++ (c :: L.drop (i + 1)) := by
    have h2 : L.drop i = c :: L.drop (i + 1) := by
      rw [List.drop_eq_getElem_cons hi]
      rw [List.getElem?_eq_getElem hi] at h
      injection h with h
      rw [h]
    rw [← h2, List.take_append_drop]
  have hf : (L.take i).filter (fun x => !q x) = [] := by
    rw [List.filter_eq_nil_iff]
    intro x hx
    rw [List.all_eq_true.1 ht x hx]
    simp
  have e2 : L.filter (fun x => !q x) = c :: (L.drop (i + 1)).filter fun x => !q x := by
    conv => lhs; rw [e]
    rw [List.filter_append, hf, List.nil_append, List.filter_cons, hq]
    simp
  refine ⟨by rw [e2]; rfl, by rw [e2]; rfl, ?_⟩
  rw [List.all_eq_false]
  exact ⟨c, List.mem_of_getElem? h, by rw [hq]; simp⟩
theorem first_none (h : L.all q = true) : (L.filter fun x => !q x) = [] := by
  rw [List.filter_eq_nil_iff]
  intro x hx
  rw [List.all_eq_true.1 h x hx]
  simp
theorem filter_true : (L.filter fun _ => !false) = L := List.filter_eq_self.2 fun _ _ => rfl
theorem head_hit (h : L[i]? = some c) (ht : (L.take i).all (fun _ => false) = true) : c = L.headD d ∧ true = !L.isEmpty := by
  obtain ⟨h1, h2, _⟩ := first_hit (d := d) h ht rfl
  rw [filter_true] at h1 h2
  exact ⟨h1.symm, by rw [h2]; rfl⟩
theorem head_none (h : L.all (fun _ => false) = true) : d = L.headD d ∧ false = !L.isEmpty := by
  have h1 := first_none h
  rw [filter_true] at h1
  subst h1
  exact ⟨rfl, rfl⟩
end

theorem casesF_len (a : GAsn) : (List.headD (casesF a) (List.replicate 9 0)).length = 9 := by
  cases h : casesF a with
  | nil => rfl
  | cons c l => exact enumC_len _ _ _ c (by show c ∈ casesF a; rw [h]; simp)

/-! ## the reference's loops -/
theorem sFit_step {c : List Int} {l : List GFact} {i : Nat} {d : GFact} (h : i < l.length) :
    sFit (l.take (i + 1)) c = (sFit (l.take i) c && (!(decide (0 ≤ cl c (l.getD i d).a) && decide (0 ≤ cl c (l.getD i d).b)) || fh c (l.getD i d))) := by
  have e : l.take (i + 1) = l.take i ++ [l.getD i d] := by
    rw [List.take_add_one, List.getD_eq_getElem?_getD, List.getElem?_eq_getElem h]; rfl
  unfold sFit
  rw [e, List.all_append]
  simp
theorem sFit_no {c : List Int} {l : List GFact} {i : Nat} {d : GFact} (h : i < l.length) (h1 : 0 ≤ cl c (l.getD i d).a) (h2 : 0 ≤ cl c (l.getD i d).b) (h3 : fh c (l.getD i d) = false) : sFit l c = false := by
  unfold sFit
  rw [List.all_eq_false]
  refine ⟨l.getD i d, ?_, ?_⟩
  · rw [List.getD_eq_getElem?_getD, List.getElem?_eq_getElem h]; exact List.getElem_mem h
  · rw [decide_eq_true h1, decide_eq_true h2, h3]; simp
theorem est_step {c : List Int} {l : List GAtom} {i : Nat} {d : GAtom} (h : i < l.length) :
    est c (l.take (i + 1)) = cond (stE c (l.getD i d)) (est c (l.take i) ++ [cl c (l.getD i d).a]) (est c (l.take i)) := by
  have e : l.take (i + 1) = l.take i ++ [l.getD i d] := by
    rw [List.take_add_one, List.getD_eq_getElem?_getD, List.getElem?_eq_getElem h]; rfl
  unfold est
  rw [e, List.filter_append, List.map_append]
  generalize l.getD i d = y
  cases hb : stE c y <;> simp [List.filter, hb]
theorem est_pre (c : List Int) (l : List GAtom) (i : Nat) : ∃ r, est c l = est c (l.take i) ++ r := by
  refine ⟨est c (l.drop i), ?_⟩
  unfold est
  rw [← List.map_append, ← List.filter_append, List.take_append_drop]
theorem est_skip {c : List Int} {l : List GAtom} {i : Nat} {d : GAtom} (h : i < l.length) (h1 : stE c (l.getD i d) = false) : est c (l.take (i + 1)) = est c (l.take i) := by
  rw [est_step (d := d) h, h1, cond_false]
theorem sEarly_no {c : List Int} {l : List GAtom} {i : Nat} {d : GAtom} (h : i < l.length) (h1 : stE c (l.getD i d) = true) (h2 : cl c (l.getD i d).a = 0 ∨ (isT (cl c (l.getD i d).a) = true ∧ (est c (l.take i)).contains (cl c (l.getD i d).a) = true)) : sEarly l c = false := by
  unfold sEarly
  cases ho : okS [] (est c l) with
  | false => rfl
  | true =>
    obtain ⟨r, hr⟩ := est_pre c l (i + 1)
    rw [hr] at ho
    have h3 := okS_pre _ _ _ ho
    rw [est_step (d := d) h, h1, cond_true, okS_append] at h3
    simp only [Bool.and_eq_true, Bool.not_eq_true', beq_eq_false_iff_ne] at h3
    rcases h2 with h2 | ⟨h2, h4⟩
    · exact (h3.2.1 h2).elim
    · have h5 := h3.2.2
      rw [h2, h4] at h5
      simp at h5
theorem sEarly_go {c : List Int} {l : List GAtom} {i : Nat} {d : GAtom} (h : i < l.length) (h0 : okS [] (est c (l.take i)) = true) (h1 : stE c (l.getD i d) = true) (h2 : cl c (l.getD i d).a ≠ 0) (h3 : isT (cl c (l.getD i d).a) = true) (h4 : (est c (l.take i)).contains (cl c (l.getD i d).a) = false) :
    okS [] (est c (l.take (i + 1))) = true ∧ (fl9 fun t => (est c (l.take i)).contains t).set (cl c (l.getD i d).a).toNat true = fl9 fun t => (est c (l.take (i + 1))).contains t := by
  rw [est_step (d := d) h, h1, cond_true, okS_append, h0, h4, fl9_set h3]
  refine ⟨by rw [beq_eq_false_iff_ne.2 h2]; simp, fl9_congr fun t => ?_⟩
  rw [Bool.eq_iff_iff, Bool.or_eq_true, List.contains_iff_mem, List.contains_iff_mem, List.mem_append, List.mem_singleton, beq_iff_eq]
  exact ⟨fun h => h.imp id Eq.symm, fun h => h.imp id Eq.symm⟩
theorem sApart_step {l : List GAtom} {i : Nat} {d : GAtom} (h : i < l.length) : sApart (l.take (i + 1)) = (sApart (l.take i) && (!((l.getD i d).a == 0) && (l.take i).all fun x => !(x.a == (l.getD i d).a))) := by
  have e : l.take (i + 1) = l.take i ++ [l.getD i d] := by
    rw [List.take_add_one, List.getD_eq_getElem?_getD, List.getElem?_eq_getElem h]; rfl
  have okN_append : ∀ (x : Int) (l s : List Int), okN s (l ++ [x]) = (okN s l && (!(x == 0) && !(s.contains x || l.contains x))) := by
    intro x l
    induction l with
    | nil => intro s; simp [okN]
    | cons y l ih =>
      intro s
      simp only [List.cons_append, okN, ih, List.contains_cons]
      cases h1 : (y == 0) <;> cases h2 : (x == 0) <;> cases h4 : (x == y) <;> cases h5 : s.contains x <;> cases h6 : l.contains x <;> cases h8 : s.contains y <;> simp
  unfold sApart
  rw [e, List.map_append, List.map_cons, List.map_nil, okN_append]
  congr 2
  rw [List.contains_nil, Bool.false_or]
  generalize l.take i = m
  induction m with
  | nil => rfl
  | cons y m ih =>
    simp only [List.map_cons, List.contains_cons, List.all_cons, ← ih, Bool.not_or]
    congr 2
    exact BEq.comm
theorem sApart_pre {l : List GAtom} {i : Nat} (h : sApart (l.take i) = false) : sApart l = false := by
  have okN_pre : ∀ (l s r : List Int), okN s (l ++ r) = true → okN s l = true := by
    intro l
    induction l with
    | nil => intros; rfl
    | cons y l ih =>
      intro s r h
      simp only [List.cons_append, okN, Bool.and_eq_true] at h ⊢
      exact ⟨h.1, h.2.1, ih _ _ h.2.2⟩
  cases hs : sApart l with
  | false => rfl
  | true =>
    unfold sApart at hs h
    rw [← List.take_append_drop i l, List.map_append] at hs
    rw [okN_pre _ _ _ hs] at h
    cases h
theorem sApart_zero {l : List GAtom} {i : Nat} {d : GAtom} (h : i < l.length) (h0 : (l.getD i d).a = 0) : sApart l = false := by
  refine sApart_pre (i := i + 1) ?_
  rw [sApart_step (d := d) h, h0]; simp
theorem sApart_two {l : List GAtom} {i j : Nat} {d : GAtom} (h : i < l.length) (hj : j < i) (h0 : (l.getD j d).a = (l.getD i d).a) : sApart l = false := by
  refine sApart_pre (i := i + 1) ?_
  rw [sApart_step (d := d) h]
  have : ((l.take i).all fun x => !(x.a == (l.getD i d).a)) = false := by
    rw [List.all_eq_false]
    refine ⟨l.getD j d, ?_, by rw [h0, beq_self_eq_true]; simp⟩
    rw [List.getD_eq_getElem?_getD, List.getElem?_eq_getElem (by omega)]
    exact List.mem_take_iff_getElem.2 ⟨j, by omega, rfl⟩
  rw [this]; simp
theorem apart_in {l : List GAtom} {i j : Nat} {d : GAtom} (hj : j < l.length) (h : ((l.take j).all fun x => !(x.a == (l.getD i d).a)) = true) (h0 : (l.getD j d).a ≠ (l.getD i d).a) : ((l.take (j + 1)).all fun x => !(x.a == (l.getD i d).a)) = true := by
  have e : l.take (j + 1) = l.take j ++ [l.getD j d] := by
    rw [List.take_add_one, List.getD_eq_getElem?_getD, List.getElem?_eq_getElem hj]; rfl
  rw [e, List.all_append, h, List.all_cons, beq_eq_false_iff_ne.2 h0]
  rfl
def fil3 (x : GAtom) : Bool := x.kind == 1 || !(x.a == x.b)
theorem fL_step {c : List Int} {l : List GAtom} {i : Nat} {d : GAtom} (h : i < l.length) :
    fL c (l.take (i + 1)) = cond (filB c (l.getD i d)) (fL c (l.take i) ++ [⟨(l.getD i d).kind, cl c (l.getD i d).a, cl c (l.getD i d).b⟩]) (fL c (l.take i)) := by
  have e : l.take (i + 1) = l.take i ++ [l.getD i d] := by
    rw [List.take_add_one, List.getD_eq_getElem?_getD, List.getElem?_eq_getElem h]; rfl
  unfold fL
  rw [e, List.map_append, List.filter_append]
  generalize l.getD i d = y
  have : filB c y = (y.kind == 1 || !(cl c y.a == cl c y.b)) := rfl
  cases hb : filB c y <;> rw [this] at hb <;> simp [List.filter, hb]
theorem fL_len (c : List Int) (l : List GAtom) : (fL c l).length ≤ l.length := by
  unfold fL
  exact Nat.le_trans (List.length_filter_le _ _) (by simp)
theorem fL_zero (c : List Int) : fL c [] = [] := rfl

/-! ## the reference's recursion -/
def vA (a : GAsn) : Bool := a.facts.all fV && (a.atoms.all atV && (decide (a.facts.length ≤ 1000) && decide (a.atoms.length ≤ 1000)))
theorem vA_iff {a : GAsn} : vA a = true ↔ a.facts.all fV = true ∧ a.atoms.all atV = true ∧ a.facts.length ≤ 1000 ∧ a.atoms.length ≤ 1000 := by
  unfold vA; simp only [Bool.and_eq_true, decide_eq_true_eq]
def le8 (c : List Int) : Bool := c.all fun x => decide (x ≤ 8)
theorem le8_get {c : List Int} (h : le8 c = true) (t : Int) : cl c t ≤ 8 := by
  unfold cl
  rw [List.getD_eq_getElem?_getD]
  by_cases hi : t.toNat < c.length
  · rw [List.getElem?_eq_getElem hi]
    have := List.all_eq_true.1 h _ (List.getElem_mem hi)
    simpa using this
  · rw [List.getElem?_eq_none (by omega)]; decide
theorem le8_set {c : List Int} (h : le8 c = true) {k : Nat} {x : Int} (hx : x ≤ 8) : le8 (c.set k x) = true := by
  unfold le8 at h ⊢
  rw [List.all_eq_true] at h ⊢
  intro y hy
  rcases List.mem_or_eq_of_mem_set hy with hy | rfl
  · exact h y hy
  · simpa using hx
def sQ (fin : List Int → Bool) (a : GAsn) (tm : List Bool) (c : List Int) (t : Int) : CG := sEn (sFits a) fin (fun k => tm.getD k false) (9 - t).toNat t.toNat c
def brE (fin : List Int → Bool) (a : GAsn) (tm : List Bool) (c : List Int) (t : Int) (j : Nat) : CG := cond (decide ((j : Int) = t) || c.getD j 0 == (j : Int)) (sQ fin a tm (c.set t.toNat (j : Int)) (t + 1)) []
theorem sQ_last {fin : List Int → Bool} {a : GAsn} {tm : List Bool} {c : List Int} {t : Int} (h : 8 < t) : sQ fin a tm c t = cond (sFits a c) (cond (fin c) [c] []) [] := by
  unfold sQ
  rw [show (9 - t).toNat = 0 by omega]
  rfl
theorem sQ_bad {fin : List Int → Bool} {a : GAsn} {tm : List Bool} {c : List Int} {t : Int} (h : sFits a c = false) : sQ fin a tm c t = [] := by
  unfold sQ
  generalize (9 - t).toNat = f
  cases f <;> simp only [sEn, h, cond_false]
theorem sQ_skip {fin : List Int → Bool} {a : GAsn} {tm : List Bool} {c : List Int} {t : Int} (h : ¬ 8 < t) (h0 : 0 ≤ t) (hf : sFits a c = true) (ht : tm.getD t.toNat false = false) : sQ fin a tm c t = sQ fin a tm c (t + 1) := by
  unfold sQ
  rw [show (9 - t).toNat = (9 - (t + 1)).toNat + 1 by omega, show (t + 1).toNat = t.toNat + 1 by omega]
  simp only [sEn, hf, ht, cond_true, cond_false]
theorem sQ_all {fin : List Int → Bool} {a : GAsn} {tm : List Bool} {c : List Int} {t : Int} (h : ¬ 8 < t) (h0 : 0 ≤ t) (hf : sFits a c = true) (ht : tm.getD t.toNat false = true) : sQ fin a tm c t = (List.range (t.toNat + 1)).flatMap (brE fin a tm c t) := by
  unfold sQ
  rw [show (9 - t).toNat = (9 - (t + 1)).toNat + 1 by omega]
  simp only [sEn, hf, ht, cond_true]
  refine flatMap_congr' fun k hk => ?_
  unfold brE sQ
  rw [show (t + 1).toNat = t.toNat + 1 by omega]
  congr 2
  rw [Bool.eq_iff_iff]
  simp
  omega
theorem sQ_none {fin : List Int → Bool} {a : GAsn} {tm : List Bool} {c : List Int} {t : Int} {i : Nat} (h : ¬ 8 < t) (h0 : 0 ≤ t) (hf : sFits a c = true) (ht : tm.getD t.toNat false = true) (hi : ∀ j, j < i → brE fin a tm c t j = []) (he : ¬ (i : Int) ≤ t) : sQ fin a tm c t = [] := by
  rw [sQ_all h h0 hf ht]
  exact fm_none fun j hj => hi j (by omega)
theorem sQ_hit {fin : List Int → Bool} {a : GAsn} {tm : List Bool} {c : List Int} {t : Int} {i : Nat} (h : ¬ 8 < t) (h0 : 0 ≤ t) (hf : sFits a c = true) (ht : tm.getD t.toNat false = true) (hi : ∀ j, j < i → brE fin a tm c t j = []) (he : (i : Int) ≤ t) (hg : (i : Int) = t ∨ c.getD i 0 = (i : Int)) (hb : (sQ fin a tm (c.set t.toNat (i : Int)) (t + 1)).isEmpty = false) :
    (sQ fin a tm c t).headD [] = (sQ fin a tm (c.set t.toNat (i : Int)) (t + 1)).headD [] ∧ (sQ fin a tm c t).isEmpty = false := by
  have e : brE fin a tm c t i = sQ fin a tm (c.set t.toNat (i : Int)) (t + 1) := by
    unfold brE
    have : (decide ((i : Int) = t) || c.getD i 0 == (i : Int)) = true := by
      rcases hg with hg | hg
      · rw [decide_eq_true hg]; rfl
      · rw [hg]; simp
    rw [this, cond_true]
  rw [sQ_all h h0 hf ht]
  have := fm_first (g := brE fin a tm c t) (n := t.toNat + 1) (i := i) (by omega) hi (by rw [e]; exact hb)
  rw [e] at this
  exact this
theorem brE_skip {fin : List Int → Bool} {a : GAsn} {tm : List Bool} {c : List Int} {t : Int} {i : Nat} (hi : ∀ j, j < i → brE fin a tm c t j = []) (hlt : (i : Int) < t) (hne : c.getD i 0 ≠ (i : Int)) : ∀ j, j < i + 1 → brE fin a tm c t j = [] := fun j hj => by
  by_cases e : j = i
  · subst e
    unfold brE
    rw [decide_eq_false (by omega), show (c.getD j 0 == (j : Int)) = false by simpa using hne]
    rfl
  · exact hi j (by omega)
theorem brE_none {fin : List Int → Bool} {a : GAsn} {tm : List Bool} {c : List Int} {t : Int} {i : Nat} (hi : ∀ j, j < i → brE fin a tm c t j = []) (hb : (sQ fin a tm (c.set t.toNat (i : Int)) (t + 1)).isEmpty = true) : ∀ j, j < i + 1 → brE fin a tm c t j = [] := fun j hj => by
  by_cases e : j = i
  · subst e
    unfold brE
    rw [List.isEmpty_iff.1 hb]
    cases (decide ((j : Int) = t) || c.getD j 0 == (j : Int)) <;> rfl
  · exact hi j (by omega)
theorem sQ_len {fin : List Int → Bool} {a : GAsn} {tm : List Bool} {c : List Int} {t : Int} : ∀ d ∈ sQ fin a tm c t, d.length = c.length := by
  have : ∀ (f t : Nat) (c d : List Int), d ∈ sEn (sFits a) fin (fun k => tm.getD k false) f t c → d.length = c.length := by
    intro f
    induction f with
    | zero =>
      intro t c d h
      simp only [sEn] at h
      cases h1 : sFits a c <;> rw [h1] at h
      · cases h
      · cases h2 : fin c <;> rw [h2] at h
        · cases h
        · simp at h; rw [h]
    | succ f ih =>
      intro t c d h
      simp only [sEn] at h
      cases h1 : sFits a c <;> rw [h1] at h
      · cases h
      · cases ht : tm.getD t false with
        | false => rw [ht] at h; exact ih _ _ _ h
        | true =>
          rw [ht] at h
          simp only [cond_true, List.mem_flatMap] at h
          obtain ⟨k, _, h⟩ := h
          cases hg : (k == t || c.getD k 0 == (k : Int)) with
          | false => rw [hg] at h; cases h
          | true => rw [hg] at h; have := ih _ _ _ h; simpa using this
  exact fun d h => this _ _ _ _ h
theorem sQ_head {fin : List Int → Bool} {a : GAsn} {tm : List Bool} {c : List Int} {t : Int} : ((sQ fin a tm c t).headD []).length ≤ c.length := by
  cases h : sQ fin a tm c t with
  | nil => simp
  | cons d l => exact Nat.le_of_eq (sQ_len d (by rw [h]; simp))

/-! ## leaves -/
theorem early_leaf {c : List Int} {l : List GAtom} {i : Nat} {d : GAtom} {p : Int → Bool} (h8 : le8 c = true) (hk : (l.getD i d).kind = 1) (h0 : ¬ cl c (l.getD i d).a < 0) : stE c (l.getD i d) = true ∧ isT (cl c (l.getD i d).a) = true ∧ (fl9 p).getD (cl c (l.getD i d).a).toNat false = p (cl c (l.getD i d).a) := by
  have hT : isT (cl c (l.getD i d).a) = true := isT_iff.2 ⟨by omega, le8_get h8 _⟩
  refine ⟨?_, hT, fl9_get hT⟩
  unfold stE
  rw [hk, decide_eq_true (by omega)]; rfl
theorem early_no {c : List Int} {l : List GAtom} {i : Nat} {d : GAtom} (h8 : le8 c = true) (h : i < l.length) (hk : (l.getD i d).kind = 1) (h0 : ¬ cl c (l.getD i d).a < 0) (h2 : cl c (l.getD i d).a = 0 ∨ (fl9 fun t => (est c (l.take i)).contains t).getD (cl c (l.getD i d).a).toNat false = true) : false = sEarly l c := by
  obtain ⟨e1, e2, e3⟩ := early_leaf (d := d) (p := fun t => (est c (l.take i)).contains t) h8 hk h0
  rw [e3] at h2
  exact (sEarly_no h e1 (h2.imp id fun h => ⟨e2, h⟩)).symm
theorem early_go {c : List Int} {l : List GAtom} {i : Nat} {d : GAtom} (h8 : le8 c = true) (h : i < l.length) (hk : (l.getD i d).kind = 1) (h0 : ¬ cl c (l.getD i d).a < 0) (hs : okS [] (est c (l.take i)) = true) (h2 : ¬ cl c (l.getD i d).a = 0) (h3 : (fl9 fun t => (est c (l.take i)).contains t).getD (cl c (l.getD i d).a).toNat false = false) :
    okS [] (est c (l.take (i + 1))) = true ∧ (fl9 fun t => (est c (l.take i)).contains t).set (cl c (l.getD i d).a).toNat true = fl9 fun t => (est c (l.take (i + 1))).contains t := by
  obtain ⟨e1, e2, e3⟩ := early_leaf (d := d) (p := fun t => (est c (l.take i)).contains t) h8 hk h0
  rw [e3] at h3
  exact sEarly_go h hs e1 h2 e2 h3
theorem early_skip {c : List Int} {l : List GAtom} {i : Nat} {d : GAtom} (h : i < l.length) (hk : ¬ (l.getD i d).kind = 1 ∨ cl c (l.getD i d).a < 0) : est c (l.take (i + 1)) = est c (l.take i) := by
  refine est_skip (d := d) h ?_
  unfold stE
  rw [Bool.and_eq_false_iff, beq_eq_false_iff_ne, decide_eq_false_iff_not]
  exact hk.imp id fun h => by omega
theorem fact_idx {l : List GFact} (h : l.all fV = true) {i : Nat} (hi : i < l.length) : 0 ≤ (l.getD i ⟨false, 0, 0⟩).a ∧ (l.getD i ⟨false, 0, 0⟩).a ≤ 8 ∧ 0 ≤ (l.getD i ⟨false, 0, 0⟩).b ∧ (l.getD i ⟨false, 0, 0⟩).b ≤ 8 := by
  have h1 := fV_isT (all_get (d := ⟨false, 0, 0⟩) h hi)
  have h2 := isT_iff.1 h1.1
  have h3 := isT_iff.1 h1.2
  omega
theorem atom_idx {l : List GAtom} (h : l.all atV = true) {i : Nat} (hi : i < l.length) : 0 ≤ (l.getD i ⟨0, 0, 0⟩).a ∧ (l.getD i ⟨0, 0, 0⟩).a ≤ 8 ∧ 0 ≤ (l.getD i ⟨0, 0, 0⟩).b ∧ (l.getD i ⟨0, 0, 0⟩).b ≤ 8 := by
  have h1 := atV_isT (all_get (d := ⟨0, 0, 0⟩) h hi)
  have h2 := isT_iff.1 h1.1
  have h3 := isT_iff.1 h1.2
  omega

theorem apart_fin {l : List GAtom} {i j : Nat} (h : i < l.length) (h1 : sApart (l.take i) = true) (h2 : ¬ (l.getD i ⟨0, 0, 0⟩).a = 0) (h3 : ((l.take j).all fun x => !(x.a == (l.getD i ⟨0, 0, 0⟩).a)) = true) (h4 : ¬ j < i) (h5 : (j : Int) ≤ (i : Int)) : sApart (l.take (i + 1)) = true := by
  have : j = i := by omega
  subst this
  rw [sApart_step (d := ⟨0, 0, 0⟩) h, h1, h3, beq_eq_false_iff_ne.2 h2]
  rfl
theorem open_lt {i : Nat} (h : (((List.replicate i (-1 : Int)).length + 1 : Nat) : Int) ≤ 8) : i ≤ 7 := by rw [List.length_replicate] at h; omega
theorem open_end {i : Nat} (h0 : i ≤ 8) (h : ¬ (((List.replicate i (-1 : Int)).length + 1 : Nat) : Int) ≤ 8) : (0 : Int) :: List.replicate i (-1) = opens := by
  rw [List.length_replicate] at h
  have : i = 8 := by omega
  subst this; rfl

section
variable {fin : List Int → Bool} {a : GAsn} {tm : List Bool} {c : List Int} {t : Int} {i : Nat}
theorem fits_no1 (h : sFit a.facts c = false) : sQ fin a tm c t = [] := sQ_bad (by unfold sFits; rw [h]; rfl)
theorem fits_no2 (h : sEarly a.atoms c = false) : sQ fin a tm c t = [] := sQ_bad (by unfold sFits; rw [h, Bool.and_false])
theorem fits_yes (h : sFit a.facts c = true) (h2 : sEarly a.atoms c = true) : sFits a c = true := by unfold sFits; rw [h, h2]; rfl
theorem last_yes (h : sFit a.facts c = true) (h2 : sEarly a.atoms c = true) (ht : 8 < t) (hf : fin c = true) : sQ fin a tm c t = [c] := by rw [sQ_last ht, fits_yes h h2, hf]; rfl
theorem last_no (h : sFit a.facts c = true) (h2 : sEarly a.atoms c = true) (ht : 8 < t) (hf : fin c = false) : sQ fin a tm c t = [] := by rw [sQ_last ht, fits_yes h h2, hf]; rfl
end

end Go.SE

namespace Go.SE
open Go.RowKit

theorem sEn_congr {fit fin : List Int → Bool} {has has' : Nat → Bool} : ∀ (f t : Nat) (c : List Int), (∀ k, t ≤ k → k < t + f → has k = has' k) → sEn fit fin has f t c = sEn fit fin has' f t c := by
  intro f
  induction f with
  | zero => intro t c _; rfl
  | succ f ih =>
    intro t c h
    have ih' := fun c => ih (t + 1) c fun k h1 h2 => h k (by omega) (by omega)
    simp only [sEn, ih', h t (Nat.le_refl _) (by omega)]
theorem sQ_cases {fin : List Int → Bool} {b : GAsn} {p : Int → Bool} {has : Nat → Bool} (h : ∀ k : Nat, 1 ≤ k → k ≤ 8 → p (k : Int) = has k) : sQ fin b (fl9 p) opens 1 = casesS b fin has := by
  unfold sQ casesS
  refine sEn_congr 8 1 opens fun k h1 h2 => ?_
  rw [← h k h1 (by omega)]
  have := fl9_get (p := p) (t := (k : Int)) (isT_iff.2 ⟨by omega, by omega⟩)
  simpa using this
theorem hz_get {a : GAsn} {q : Int → Bool} {k : Nat} (h1 : 1 ≤ k) (h2 : k ≤ 8) : hz a q k = (occ a k || q k) := by
  unfold hz
  rw [isT_iff.2 ⟨by omega, by omega⟩, show ((k : Int) == 0) = false by simp; omega]
  simp
theorem sCases {a : GAsn} (ha : asV a = true) : sQ (sFin a) a (fl9 (occ a)) opens 1 = casesF a := by
  rw [sQ_cases (has := hz a fun _ => false) fun k h1 h2 => by rw [hz_get h1 h2, Bool.or_false]]
  exact casesS_eq' (hz_named ha _) rfl

/-- an assertion with a further fact -/
def addF (a : GAsn) (f : GFact) : GAsn := ⟨a.facts ++ [f], a.atoms⟩
def negF (f : GFact) : GFact := ⟨!f.eq, f.a, f.b⟩
def qF (f : GFact) : Int → Bool := fun t => f.a == t || f.b == t
theorem fh_neg (d : List Int) (f : GFact) : fh d (negF f) = !fh d f := by
  unfold fh negF
  cases (cl d f.a == cl d f.b) <;> cases f.eq <;> rfl
theorem named_add {a : GAsn} (ha : asV a = true) {f g : GFact} (hf : fV f = true) (hg : g.a = f.a ∧ g.b = f.b) : Named (addF a g) (hz a (qF f)) := by
  obtain ⟨h1, h2⟩ := hz_named ha (qF f)
  refine ⟨fun x hx => ?_, h2⟩
  rcases List.mem_append.1 hx with hx | hx
  · exact h1 x hx
  · simp only [List.mem_singleton] at hx
    subst hx
    have hv := fV_isT hf
    obtain ⟨a1, a2⟩ := isT_iff.1 hv.1
    obtain ⟨b1, b2⟩ := isT_iff.1 hv.2
    rw [hg.1, hg.2]
    refine ⟨a1, a2, b1, b2, ?_, ?_⟩
    · unfold hz qF
      rw [show ((f.a.toNat : Nat) : Int) = f.a by omega, hv.1]
      simp
    · unfold hz qF
      rw [show ((f.b.toNat : Nat) : Int) = f.b by omega, hv.2]
      simp
theorem possI_add {a : GAsn} {f : GFact} (hf : fV f = true) (d : List Int) : possI (addF a f) d 8 = (possI a d 8 && fh d f) := by
  have hv := fV_isT hf
  obtain ⟨_, a2⟩ := isT_iff.1 hv.1
  obtain ⟨_, b2⟩ := isT_iff.1 hv.2
  unfold possI possF addF
  simp only [List.all_append, List.all_cons, List.all_nil, Bool.and_true, decide_eq_true a2, decide_eq_true b2, Bool.and_self, Bool.not_true, Bool.false_or]
  cases a.facts.all fun f => !(decide (f.a ≤ 8) && decide (f.b ≤ 8)) || fh d f <;> cases fh d f <;> simp
theorem cases_add {a : GAsn} (ha : asV a = true) {f g : GFact} (hf : fV f = true) (hg : g.a = f.a ∧ g.b = f.b) : casesB (addF a g) (hz a (qF f)) = (casesB a (hz a (qF f))).filter fun d => fh d g := by
  have hgv : fV g = true := by unfold fV at hf ⊢; rw [hg.1, hg.2]; exact hf
  rw [casesB_eq (named_add ha hf hg), casesB_eq (hz_named ha _), List.filter_filter]
  refine List.filter_congr fun d _ => ?_
  rw [possI_add hgv, Bool.and_comm]
theorem sImpl {a : GAsn} (ha : asV a = true) {f : GFact} (hf : fV f = true) {p : Int → Bool} (hp : ∀ k : Nat, 1 ≤ k → k ≤ 8 → p (k : Int) = (occ a k || qF f k)) :
    (sQ (sFin (addF a (negF f))) (addF a (negF f)) (fl9 p) opens 1).isEmpty = (casesB a (hz a (qF f))).all fun c => fh c f := by
  rw [sQ_cases (has := hz a (qF f)) fun k h1 h2 => by rw [hz_get h1 h2]; exact hp k h1 h2]
  rw [casesS_eq' (named_add (g := negF f) ha hf ⟨rfl, rfl⟩) rfl, cases_add (g := negF f) ha hf ⟨rfl, rfl⟩]
  rw [Bool.eq_iff_iff, List.isEmpty_iff, List.filter_eq_nil_iff, List.all_eq_true]
  refine ⟨fun h x hx => ?_, fun h x hx => ?_⟩
  · have := h x hx
    rw [fh_neg] at this
    simpa using this
  · rw [fh_neg, h x hx]; simp
theorem vA_of {a : GAsn} (ha : asV a = true) : vA a = true := by
  have := asV_facts ha
  exact vA_iff.2 ⟨this.1, this.2.2.1, by omega, by omega⟩
theorem vA_add {a : GAsn} (ha : asV a = true) {f : GFact} (hf : fV f = true) : vA (addF a f) = true := by
  have := asV_facts ha
  refine vA_iff.2 ⟨?_, this.2.2.1, ?_, by show a.atoms.length ≤ 1000; omega⟩
  · unfold addF; rw [List.all_append, this.1]; simp [hf]
  · unfold addF; simp; omega
theorem fl9_two {a : GAsn} {f : GFact} (hf : fV f = true) : ((fl9 (occ a)).set f.a.toNat true).set f.b.toNat true = fl9 (fun t => occ a t || qF f t) := by
  have hv := fV_isT hf
  rw [fl9_set hv.1, fl9_set hv.2]
  exact fl9_congr fun t => by unfold qF; rw [Bool.or_assoc]
theorem further {f : GFact} (hf : fV f = true) : (0 ≤ tsWith (tsWith 0 f.a) f.b ∧ tsWith (tsWith 0 f.a) f.b < 512) ∧ ∀ t, tsHas (tsWith (tsWith 0 f.a) f.b) t = qF f t := by
  have hv := fV_isT hf
  have h1 := tsWith_bd (s := 0) (t := f.a) (by decide) (by decide)
  refine ⟨tsWith_bd h1.1 h1.2, fun t => ?_⟩
  rw [tsHas_with h1.1 hv.2, tsHas_with (by decide) hv.1, tsHas_zero, Bool.false_or]
  rfl
theorem itEn_two {a : GAsn} (ha : asV a = true) {f : GFact} (hf : fV f = true) : itEn a (bits .or .u16 (tsWith (tsA a) 0) (tsWith (tsWith 0 f.a) f.b)) = casesB a (hz a (qF f)) ∧ itPre a (bits .or .u16 (tsWith (tsA a) 0) (tsWith (tsWith 0 f.a) f.b)) := by
  obtain ⟨⟨h1, h2⟩, h3⟩ := further hf
  obtain ⟨e1, e2⟩ := itEn_or ha h1 h2
  refine ⟨?_, e2⟩
  rw [e1, hz_congr fun k _ => h3 k]

end Go.SE

namespace Go.SE
open Go.RowKit

/-- the filled atoms, for values of the terms -/
def filt (v : Int → Int) (l : List GAtom) : List GAtom := l.filter fun x => x.kind == 1 || !(v x.a == v x.b)
structure possV (a : GAsn) (v : Int → Int) : Prop where
  facts : ∀ f ∈ a.facts, (v f.a == v f.b) = f.eq
  nil : ∀ x ∈ filt v a.atoms, v x.a ≠ v 0
  apart : (filt v a.atoms).Pairwise fun x y => v x.a ≠ v y.a

theorem okS_iff : ∀ (l s : List Int), (∀ x ∈ l, isT x = true) → (okS s l = true ↔ (∀ x ∈ l, x ≠ 0) ∧ (∀ x ∈ l, s.contains x = false) ∧ l.Pairwise (· ≠ ·)) := by
  intro l
  induction l with
  | nil => intro s _; simp [okS]
  | cons x l ih =>
    intro s h
    have ih := ih (x :: s) fun y hy => h y (by simp [hy])
    simp only [okS, h x (by simp), Bool.true_and, Bool.and_eq_true, ih, Bool.not_eq_true', beq_eq_false_iff_ne, List.pairwise_cons, List.mem_cons, forall_eq_or_imp, List.contains_cons, Bool.or_eq_false_iff]
    constructor
    · rintro ⟨h1, h2, h3, h4, h5⟩
      exact ⟨⟨h1, h3⟩, ⟨h2, fun y hy => (h4 y hy).2⟩, fun y hy e => (h4 y hy).1 e.symm, h5⟩
    · rintro ⟨⟨h1, h3⟩, ⟨h2, h4⟩, h5, h6⟩
      exact ⟨h1, h2, h3, fun y hy => ⟨fun e => h5 y hy e.symm, h4 y hy⟩, h6⟩

theorem possI_iff {a : GAsn} {has : Nat → Bool} (hn : Named a has) {d : List Int} (hd : d ∈ fulls has) (h0 : has 0 = true) : possI a d 8 = true ↔ possV a (cl d) := by
  obtain ⟨hl, hv⟩ := fulls_mem hd
  have hcl : ∀ y : Int, 0 ≤ y → y ≤ 8 → has y.toNat = true → 0 ≤ cl d y ∧ cl d y ≤ 8 := fun y h0 h8 hy => by
    have := hv y.toNat (by omega)
    rw [hy] at this
    simp only [cond_true, Bool.and_eq_true, decide_eq_true_eq] at this
    unfold cl
    omega
  have hz0 : cl d 0 = 0 := by
    have := hv 0 (by decide)
    rw [h0] at this
    simp only [cond_true, Bool.and_eq_true, decide_eq_true_eq] at this
    unfold cl
    simp only [Int.toNat_zero]
    omega
  have es : sts d 8 a.atoms = (filt (cl d) a.atoms).map fun x => cl d x.a := by
    unfold sts filt
    congr 1
    refine List.filter_congr fun x hx => ?_
    obtain ⟨h3, h4, h5, h6, _⟩ := hn.2 x hx
    unfold stB filB
    rw [decide_eq_true h4, decide_eq_true h6]; rfl
  have hT : ∀ x ∈ sts d 8 a.atoms, isT x = true := fun x hx => by
    simp only [sts, List.mem_map, List.mem_filter] at hx
    obtain ⟨y, ⟨hy, _⟩, rfl⟩ := hx
    obtain ⟨h3, h4, h5, h6, h7, h8⟩ := hn.2 y hy
    exact isT_iff.2 (hcl _ h3 h4 h7)
  unfold possI
  rw [Bool.and_eq_true, okS_iff _ _ hT, es, List.pairwise_map]
  have ef : possF d 8 a.facts = true ↔ ∀ f ∈ a.facts, (cl d f.a == cl d f.b) = f.eq := by
    unfold possF
    rw [List.all_eq_true]
    refine ⟨fun h f hf => ?_, fun h f hf => ?_⟩
    · have := h f hf
      obtain ⟨h3, h4, h5, h6, _⟩ := hn.1 f hf
      rw [decide_eq_true h4, decide_eq_true h6] at this
      unfold fh at this
      simpa using this
    · unfold fh
      rw [h f hf]; simp
  rw [ef]
  constructor
  · rintro ⟨h1, h2, _, h3⟩
    exact ⟨h1, fun x hx => by rw [hz0]; exact h2 _ (List.mem_map.2 ⟨x, hx, rfl⟩), h3⟩
  · rintro ⟨h1, h2, h3⟩
    refine ⟨h1, fun x hx => ?_, fun _ _ => rfl, h3⟩
    obtain ⟨y, hy, rfl⟩ := List.mem_map.1 hx
    have := h2 y hy
    rw [hz0] at this
    exact this

/-- what is asked of a case, place by place -/
def goodAt (has : Nat → Bool) (d : List Int) (j : Nat) : Prop := (has j = true ∧ ∃ k : Nat, k ≤ j ∧ d.getD j 0 = (k : Int) ∧ (k = j ∨ d.getD k 0 = (k : Int))) ∨ (has j = false ∧ d.getD j 0 = -1)
theorem fEn_of {has : Nat → Bool} {d : List Int} (hd : d.length = 9) : ∀ (f t : Nat) (c : List Int), f + t = 9 → c.length = 9 → (∀ j, j < t → d.getD j 0 = c.getD j 0) → (∀ j, t ≤ j → j < 9 → goodAt has d j) → d ∈ fEn has f t c := by
  intro f
  induction f with
  | zero =>
    intro t c ht hc hag _
    simp only [fEn, List.mem_singleton]
    apply List.ext_getElem (by omega)
    intro j h1 h2
    have := hag j (by omega)
    rw [List.getD_eq_getElem?_getD, List.getD_eq_getElem?_getD, List.getElem?_eq_getElem h1, List.getElem?_eq_getElem h2] at this
    exact this
  | succ f ih =>
    intro t c ht hc hag hg
    have key : ∀ x : Int, d.getD t 0 = x → d ∈ fEn has f (t + 1) (c.set t x) := fun x hx => by
      refine ih (t + 1) _ (by omega) (by simp [hc]) (fun j hj => ?_) fun j h1 h2 => hg j (by omega) h2
      by_cases e : j = t
      · subst e; rw [getD_set_eq (by omega), hx]
      · rw [getD_set_ne e]; exact hag j (by omega)
    simp only [fEn]
    rcases hg t (Nat.le_refl _) (by omega) with ⟨hh, k, hk, hv, hk2⟩ | ⟨hh, hv⟩
    · rw [hh, cond_true, List.mem_flatMap]
      refine ⟨k, List.mem_range.2 (by omega), ?_⟩
      have : (k == t || c.getD k 0 == (k : Int)) = true := by
        rcases hk2 with rfl | hk2
        · simp
        · by_cases e : k = t
          · simp [e]
          · rw [← hag k (by omega), hk2]; simp
      rw [this, cond_true]
      exact key _ hv
    · rw [hh, cond_false]
      exact key _ hv
theorem fulls_of {has : Nat → Bool} {d : List Int} (hd : d.length = 9) (hg : ∀ j, j < 9 → goodAt has d j) : d ∈ fulls has :=
  fEn_of hd 9 0 _ rfl rfl (fun j hj => by omega) fun j _ h => hg j h

/-- the case to which values belong -/
def repV (has : Nat → Bool) (v : Int → Int) (x : Int) : Option Nat := (List.range 9).find? fun k => has k && v k == x
def canon (has : Nat → Bool) (v : Int → Int) : List Int := (List.range 9).map fun t => cond (has t) (((repV has v (v t)).getD 0 : Nat) : Int) (-1)
theorem canon_get {has : Nat → Bool} {v : Int → Int} {t : Nat} (ht : t < 9) : (canon has v).getD t 0 = cond (has t) (((repV has v (v t)).getD 0 : Nat) : Int) (-1) := by
  unfold canon
  rw [List.getD_eq_getElem?_getD, List.getElem?_eq_getElem (by simpa using ht)]
  simp
theorem repV_spec {has : Nat → Bool} {v : Int → Int} {t : Nat} (ht : t < 9) (hh : has t = true) : ∃ k, repV has v (v t) = some k ∧ k ≤ t ∧ has k = true ∧ v k = v t := by
  cases hr : repV has v (v t) with
  | none =>
    exfalso
    have := List.find?_eq_none.1 hr t (List.mem_range.2 ht)
    simp [hh] at this
  | some k =>
    obtain ⟨h1, h2, h3⟩ := List.find?_range_eq_some.1 hr
    simp only [Bool.and_eq_true, beq_iff_eq] at h1
    refine ⟨k, rfl, ?_, h1.1, h1.2⟩
    by_cases e : k ≤ t
    · exact e
    · have := h3 t (by omega)
      simp [hh] at this
theorem canon_mem (has : Nat → Bool) (v : Int → Int) : canon has v ∈ fulls has := by
  refine fulls_of (by simp [canon]) fun j hj => ?_
  unfold goodAt
  cases hh : has j with
  | false => right; refine ⟨rfl, ?_⟩; rw [canon_get hj, hh]; rfl
  | true =>
    left
    obtain ⟨k, h1, h2, h3, h4⟩ := repV_spec (v := v) hj hh
    refine ⟨rfl, k, h2, by rw [canon_get hj, hh, h1]; rfl, .inr ?_⟩
    rw [canon_get (by omega), h3, h4, h1]; rfl
theorem canon_eq {has : Nat → Bool} {v : Int → Int} {s t : Int} (hs0 : 0 ≤ s) (hs : s ≤ 8) (ht0 : 0 ≤ t) (ht : t ≤ 8) (h1 : has s.toNat = true) (h2 : has t.toNat = true) : (cl (canon has v) s == cl (canon has v) t) = (v s == v t) := by
  unfold cl
  rw [canon_get (by omega), canon_get (by omega), h1, h2]
  obtain ⟨k1, a1, a2, a3, a4⟩ := repV_spec (v := v) (t := s.toNat) (by omega) h1
  obtain ⟨k2, b1, b2, b3, b4⟩ := repV_spec (v := v) (t := t.toNat) (by omega) h2
  have es : ((s.toNat : Nat) : Int) = s := by omega
  have et : ((t.toNat : Nat) : Int) = t := by omega
  rw [es] at a1 a4 ⊢
  rw [et] at b1 b4 ⊢
  rw [a1, b1]
  simp only [cond_true, Option.getD_some]
  rw [Bool.eq_iff_iff, beq_iff_eq, beq_iff_eq]
  constructor
  · intro h
    have : k1 = k2 := by omega
    subst this
    rw [← a4, ← b4]
  · intro h
    rw [h, b1] at a1
    injection a1 with a1
    rw [a1]

theorem possV_congr {a : GAsn} {v w : Int → Int} (p : Int → Prop) (h : ∀ s t, p s → p t → (v s == v t) = (w s == w t)) (h0 : p 0) (hf : ∀ f ∈ a.facts, p f.a ∧ p f.b) (hx : ∀ x ∈ a.atoms, p x.a ∧ p x.b) (hv : possV a v) : possV a w := by
  have ef : filt v a.atoms = filt w a.atoms := List.filter_congr fun x hm => by rw [h _ _ (hx x hm).1 (hx x hm).2]
  have hne : ∀ s t, p s → p t → v s ≠ v t → w s ≠ w t := fun s t hs ht hn => by
    have := h s t hs ht
    rw [beq_eq_false_iff_ne.2 hn] at this
    exact beq_eq_false_iff_ne.1 this.symm
  have hm : ∀ x ∈ filt w a.atoms, p x.a := fun x hx' => (hx x (List.mem_filter.1 hx').1).1
  obtain ⟨h1, h2, h3⟩ := hv
  rw [ef] at h2 h3
  refine ⟨fun f hf' => by rw [← h _ _ (hf f hf').1 (hf f hf').2]; exact h1 f hf', fun x hx' => hne _ _ (hm x hx') h0 (h2 x hx'), ?_⟩
  exact h3.imp_of_mem fun hx' hy' hn => hne _ _ (hm _ hx') (hm _ hy') hn

/-- All cases, or all values. -/
theorem cases_all {a : GAsn} {has : Nat → Bool} (hn : Named a has) (h0 : has 0 = true) (Q : (Int → Int) → Bool) (hQ : ∀ v w : Int → Int, (∀ s t : Int, 0 ≤ s → s ≤ 8 → has s.toNat = true → 0 ≤ t → t ≤ 8 → has t.toNat = true → (v s == v t) = (w s == w t)) → Q v = Q w) :
    ((casesB a has).all fun d => Q (cl d)) = true ↔ ∀ v, possV a v → Q v = true := by
  rw [casesB_eq hn, List.all_eq_true]
  constructor
  · intro h v hv
    have hm := canon_mem has v
    have hp : possV a (cl (canon has v)) := possV_congr (fun t => 0 ≤ t ∧ t ≤ 8 ∧ has t.toNat = true) (fun s t hs ht => (canon_eq hs.1 hs.2.1 ht.1 ht.2.1 hs.2.2 ht.2.2).symm) ⟨by decide, by decide, h0⟩
      (fun f hf => by obtain ⟨a1, a2, a3, a4, a5, a6⟩ := hn.1 f hf; exact ⟨⟨a1, a2, a5⟩, a3, a4, a6⟩) (fun x hx => by obtain ⟨a1, a2, a3, a4, a5, a6⟩ := hn.2 x hx; exact ⟨⟨a1, a2, a5⟩, a3, a4, a6⟩) hv
    have := h _ (List.mem_filter.2 ⟨hm, (possI_iff hn hm h0).2 hp⟩)
    rw [hQ v (cl (canon has v)) fun s t s0 s8 hs t0 t8 ht => (canon_eq s0 s8 t0 t8 hs ht).symm]
    exact this
  · intro h d hd
    obtain ⟨h1, h2⟩ := List.mem_filter.1 hd
    exact h _ ((possI_iff hn h1 h0).1 h2)

def IMP (a : GAsn) (f : GFact) : Bool := asV a && (fV f && (casesB a (hz a (qF f))).all fun c => fh c f)
theorem hz_has {a : GAsn} {q : Int → Bool} {t : Int} (h : isT t = true) (hq : q t = true) : hz a q t.toNat = true := by
  have := isT_iff.1 h
  unfold hz
  rw [show ((t.toNat : Nat) : Int) = t by omega, h, hq]
  simp
theorem imp_iff {a : GAsn} {f : GFact} : IMP a f = true ↔ asV a = true ∧ fV f = true ∧ ∀ v, possV a v → (v f.a == v f.b) = f.eq := by
  unfold IMP
  rw [Bool.and_eq_true, Bool.and_eq_true]
  refine and_congr_right fun ha => and_congr_right fun hf => ?_
  have hv := fV_isT hf
  have t1 := isT_iff.1 hv.1
  have t2 := isT_iff.1 hv.2
  have hq1 : hz a (qF f) f.a.toNat = true := hz_has hv.1 (by unfold qF; simp)
  have hq2 : hz a (qF f) f.b.toNat = true := hz_has hv.2 (by unfold qF; simp)
  have := cases_all (hz_named ha (qF f)) rfl (fun v => (v f.a == v f.b) == f.eq) fun v w h => by
    show ((v f.a == v f.b) == f.eq) = _
    rw [h f.a f.b t1.1 t1.2 hq1 t2.1 t2.2 hq2]
  have e : ((casesB a (hz a (qF f))).all fun c => fh c f) = ((casesB a (hz a (qF f))).all fun d => ((cl d f.a == cl d f.b) == f.eq)) := rfl
  rw [e, this]
  exact ⟨fun h v hv => by simpa using h v hv, fun h v hv => by simpa using h v hv⟩
theorem fV_of {e : Bool} {x y : Int} (hx : isT x = true) (hy : isT y = true) : fV ⟨e, x, y⟩ = true := by unfold fV; rw [hx, hy]; rfl
theorem imp_sym (a : GAsn) (x y : Int) : IMP a ⟨true, x, y⟩ = IMP a ⟨true, y, x⟩ := by
  rw [Bool.eq_iff_iff, imp_iff, imp_iff]
  refine and_congr_right fun _ => ?_
  refine and_congr ⟨fun h => fV_of (fV_isT h).2 (fV_isT h).1, fun h => fV_of (fV_isT h).2 (fV_isT h).1⟩ ?_
  exact ⟨fun h v hv => by have := h v hv; simp only [beq_iff_eq] at this ⊢; exact this.symm, fun h v hv => by have := h v hv; simp only [beq_iff_eq] at this ⊢; exact this.symm⟩
theorem imp_refl {a : GAsn} {x : Int} (ha : asV a = true) (hx : isT x = true) : IMP a ⟨true, x, x⟩ = true :=
  imp_iff.2 ⟨ha, fV_of hx hx, fun v _ => by simp⟩
theorem imp_trans {a : GAsn} {x y z : Int} (h1 : IMP a ⟨true, x, y⟩ = true) (h2 : IMP a ⟨true, y, z⟩ = true) : IMP a ⟨true, x, z⟩ = true := by
  obtain ⟨ha, hf, h1⟩ := imp_iff.1 h1
  obtain ⟨_, hg, h2⟩ := imp_iff.1 h2
  refine imp_iff.2 ⟨ha, fV_of (fV_isT hf).1 (fV_isT hg).2, fun v hv => ?_⟩
  have e1 := h1 v hv
  have e2 := h2 v hv
  simp only [beq_iff_eq] at e1 e2 ⊢
  exact e1.trans e2
theorem imp_fact {a : GAsn} (ha : asV a = true) {f : GFact} (hf : f ∈ a.facts) : IMP a f = true :=
  imp_iff.2 ⟨ha, List.all_eq_true.1 (asV_facts ha).1 f hf, fun _ hv => hv.facts f hf⟩

end Go.SE

namespace Go.SE
open Go.RowKit

def ct (s : GState) (n : Int) : Int := if 1 ≤ n ∧ n ≤ 8 then s.heap.getD (n - 1).toNat 0 else -1
def al (s : GState) (n : Int) : Bool := decide (0 ≤ ct s n)
/-- the way from an address to another one, in at most so many steps -/
def walk (s : GState) (to : Int) : Nat → Int → Option (List Int)
  | 0, at' => if at' = to then some [] else none
  | f + 1, at' => if at' = to then some [] else cond (al s at') ((walk s to f (ct s at')).map (at' :: ·)) none
def acO (s : GState) (x : GAtom) : Option (List Int) := if x.kind = 2 then walk s (tv s.vals x.b) 8 (tv s.vals x.a) else if ct s (tv s.vals x.a) = tv s.vals x.b then some [tv s.vals x.a] else none
/-- the cells of all atoms, one behind the other; none if one is there twice -/
def ptO (s : GState) : List Int → List GAtom → Option (List Int)
  | L, [] => some L
  | L, x :: l => match acO s x with
    | none => none
    | some c => cond (c.all (fun n => !L.contains n) && decide c.Nodup) (ptO s (L ++ c) l) none
def addrs : List Int := [1, 2, 3, 4, 5, 6, 7, 8]
def fctB (s : GState) (l : List GFact) : Bool := l.all fun f => (tv s.vals f.a == tv s.vals f.b) == f.eq
def HOL (s : GState) (a : GAsn) : Bool := stV s && (asV a && (fctB s a.facts && (match ptO s [] a.atoms with
  | some L => addrs.all fun n => L.contains n == al s n
  | none => false)))

theorem tv_isT {s : GState} (hs : stV s = true) {t : Int} (ht : isT t = true) : 0 ≤ tv s.vals t ∧ tv s.vals t ≤ 8 := by
  unfold stV at hs
  simp only [Bool.and_eq_true, decide_eq_true_eq, beq_iff_eq] at hs
  obtain ⟨t0, t8⟩ := isT_iff.1 ht
  unfold tv
  split
  · omega
  · have hl : s.vals.length = 8 := by omega
    have hi : (t - 1).toNat < s.vals.length := by omega
    have hall : s.vals.all isT = true := by
      rcases hs with ⟨h1, h2⟩
      grind
    have := List.all_eq_true.1 hall _ (List.getElem_mem hi)
    rw [List.getD_eq_getElem?_getD, List.getElem?_eq_getElem hi]
    exact isT_iff.1 this

theorem al_range {s : GState} {n : Int} (h : al s n = true) : 1 ≤ n ∧ n ≤ 8 := by
  unfold al ct at h
  by_cases e : 1 ≤ n ∧ n ≤ 8
  · exact e
  · rw [if_neg e] at h; cases h
theorem walk_al {s : GState} {to : Int} : ∀ (f : Nat) (x : Int) (L : List Int), walk s to f x = some L → (∀ n ∈ L, al s n = true) ∧ (x ≠ to → x ∈ L) := by
  intro f
  induction f with
  | zero =>
    intro x L h
    simp only [walk] at h
    split at h
    · injection h with h; subst h; exact ⟨fun n hn => (by cases hn), fun hne => (hne (by assumption)).elim⟩
    · cases h
  | succ f ih =>
    intro x L h
    simp only [walk] at h
    split at h
    · injection h with h; subst h; exact ⟨fun n hn => (by cases hn), fun hne => (hne (by assumption)).elim⟩
    · cases ha : al s x with
      | false => rw [ha] at h; cases h
      | true =>
        rw [ha, cond_true] at h
        cases hw : walk s to f (ct s x) with
        | none => rw [hw] at h; cases h
        | some M =>
          rw [hw] at h
          injection h with h
          subst h
          obtain ⟨h1, _⟩ := ih _ _ hw
          exact ⟨fun n hn => by rcases List.mem_cons.1 hn with rfl | hn; exact ha; exact h1 n hn, fun _ => by simp⟩
theorem acO_al {s : GState} (hs : stV s = true) {x : GAtom} (hx : atV x = true) {c : List Int} (h : acO s x = some c) : (∀ n ∈ c, al s n = true) ∧ ((x.kind == 1 || !(tv s.vals x.a == tv s.vals x.b)) = true → tv s.vals x.a ∈ c) := by
  unfold acO at h
  split at h
  · rename_i hk
    obtain ⟨h1, h2⟩ := walk_al _ _ _ h
    refine ⟨h1, fun hf => h2 fun e => ?_⟩
    rw [hk, e] at hf
    simp at hf
  · split at h
    · rename_i he
      injection h with h
      subst h
      refine ⟨fun n hn => ?_, fun _ => by simp⟩
      simp only [List.mem_singleton] at hn
      subst hn
      unfold al
      rw [he]
      exact decide_eq_true (tv_isT hs (atV_isT hx).2).1
    · cases h
theorem ptO_parts {s : GState} (hs : stV s = true) : ∀ (l : List GAtom) (L M : List Int), l.all atV = true → ptO s L l = some M → (∀ n ∈ L, n ∈ M) ∧
    (∀ x ∈ filt (tv s.vals) l, al s (tv s.vals x.a) = true ∧ tv s.vals x.a ∉ L) ∧ (filt (tv s.vals) l).Pairwise fun x y => tv s.vals x.a ≠ tv s.vals y.a := by
  intro l
  induction l with
  | nil => intro L M _ h; simp only [ptO] at h; injection h with h; subst h; exact ⟨fun n hn => hn, fun x hx => (by cases hx), .nil⟩
  | cons x l ih =>
    intro L M hv h
    simp only [List.all_cons, Bool.and_eq_true] at hv
    simp only [ptO] at h
    cases hc : acO s x with
    | none => rw [hc] at h; cases h
    | some c =>
      rw [hc] at h
      simp only at h
      cases hd : (c.all (fun n => !L.contains n) && decide c.Nodup) with
      | false => rw [hd] at h; cases h
      | true =>
        rw [hd, cond_true] at h
        rw [Bool.and_eq_true, List.all_eq_true] at hd
        obtain ⟨h1, h2, h3⟩ := ih _ _ hv.2 h
        obtain ⟨a1, a2⟩ := acO_al hs hv.1 hc
        refine ⟨fun n hn => h1 n (by simp [hn]), ?_, ?_⟩
        · intro y hy
          unfold filt at hy
          rw [List.filter_cons] at hy
          split at hy
          · rename_i hf
            rcases List.mem_cons.1 hy with rfl | hy
            · have hin := a2 hf
              refine ⟨a1 _ hin, ?_⟩
              have := hd.1 _ hin
              simpa using this
            · obtain ⟨b1, b2⟩ := h2 y hy
              exact ⟨b1, fun hm => b2 (by simp [hm])⟩
          · obtain ⟨b1, b2⟩ := h2 y hy
            exact ⟨b1, fun hm => b2 (by simp [hm])⟩
        · unfold filt
          rw [List.filter_cons]
          split
          · rename_i hf
            refine List.pairwise_cons.2 ⟨fun y hy e => ?_, h3⟩
            have hin := a2 hf
            exact (h2 y hy).2 (by rw [← e]; simp [hin])
          · exact h3
/-- Truth gives values for the cases. -/
theorem hol_poss {s : GState} {a : GAsn} (h : HOL s a = true) : stV s = true ∧ asV a = true ∧ possV a (tv s.vals) := by
  unfold HOL at h
  simp only [Bool.and_eq_true] at h
  obtain ⟨hs, ha, hf, hp⟩ := h
  refine ⟨hs, ha, ?_⟩
  cases hpt : ptO s [] a.atoms with
  | none => rw [hpt] at hp; cases hp
  | some M =>
    obtain ⟨_, h2, h3⟩ := ptO_parts hs _ _ _ (asV_facts ha).2.2.1 hpt
    refine ⟨fun f hm => ?_, fun x hx => ?_, h3⟩
    · have := List.all_eq_true.1 hf f hm
      simpa using this
    · have := al_range (h2 x hx).1
      have z : tv s.vals 0 = 0 := rfl
      rw [z]
      omega
theorem imp_hol {s : GState} {a : GAsn} {f : GFact} (hi : IMP a f = true) (h : HOL s a = true) : (tv s.vals f.a == tv s.vals f.b) = f.eq :=
  (imp_iff.1 hi).2.2 _ (hol_poss h).2.2
theorem hol_add {s : GState} {a : GAsn} {f : GFact} (hv : asV a = true) (hb : asV ⟨a.facts ++ [f], a.atoms⟩ = true) : HOL s ⟨a.facts ++ [f], a.atoms⟩ = (HOL s a && ((tv s.vals f.a == tv s.vals f.b) == f.eq)) := by
  unfold HOL fctB
  rw [hv, hb]
  simp only [List.all_append, List.all_cons, List.all_nil, Bool.and_true, Bool.true_and]
  cases stV s <;> cases (a.facts.all fun f => (tv s.vals f.a == tv s.vals f.b) == f.eq) <;> cases ((tv s.vals f.a == tv s.vals f.b) == f.eq) <;> simp
/-- Consistent: some values fit. -/
theorem cons_iff {a : GAsn} (ha : asV a = true) : (casesF a).isEmpty = true ↔ ∀ v, ¬ possV a v := by
  have := cases_all (hz_named ha fun _ => false) rfl (fun _ => false) fun _ _ _ => rfl
  have e : ((casesB a (hz a fun _ => false)).all fun _ => false) = (casesF a).isEmpty := by
    show ((casesF a).all fun _ => false) = _
    cases casesF a <;> rfl
  rw [← e, this]
  exact ⟨fun h v hv => (by have := h v hv; cases this), fun h v hv => (h v hv).elim⟩
theorem possV_add {a : GAsn} {f : GFact} {v : Int → Int} : possV ⟨a.facts ++ [f], a.atoms⟩ v ↔ possV a v ∧ (v f.a == v f.b) = f.eq := by
  constructor
  · intro h
    exact ⟨⟨fun g hg => h.facts g (by simp [hg]), h.nil, h.apart⟩, h.facts f (by simp)⟩
  · rintro ⟨h1, h2⟩
    refine ⟨fun g hg => ?_, h1.nil, h1.apart⟩
    rcases List.mem_append.1 hg with hg | hg
    · exact h1.facts g hg
    · simp only [List.mem_singleton] at hg; subst hg; exact h2
/-- A fact is implied if its contrary makes no sense. -/
theorem imp_neg {a : GAsn} {f : GFact} (ha : asV a = true) (hf : fV f = true) (hb : asV ⟨a.facts ++ [negF f], a.atoms⟩ = true) : IMP a f = (casesF ⟨a.facts ++ [negF f], a.atoms⟩).isEmpty := by
  rw [Bool.eq_iff_iff, imp_iff, cons_iff hb]
  constructor
  · rintro ⟨_, _, h⟩ v hv
    obtain ⟨h1, h2⟩ := possV_add.1 hv
    have h3 := h v h1
    have h4 : (v f.a == v f.b) = !f.eq := h2
    rw [h3] at h4
    cases hq : f.eq <;> rw [hq] at h4 <;> cases h4
  · intro h
    refine ⟨ha, hf, fun v hv => ?_⟩
    cases hq : (v f.a == v f.b) == f.eq with
    | true => simpa using hq
    | false =>
      exfalso
      refine h v (possV_add.2 ⟨hv, ?_⟩)
      show (v f.a == v f.b) = !f.eq
      cases h1 : (v f.a == v f.b) <;> cases h2 : f.eq <;> rw [h1, h2] at hq <;> simp at hq ⊢

end Go.SE

namespace Go.SE
open Go.RowKit

def stA (a : GAsn) (f : GFact) : GAsn := ⟨a.facts ++ [f], a.atoms⟩
def stOk (a : GAsn) (f : GFact) : Bool := asV (stA a f) && !(casesF (stA a f)).isEmpty
def stL (a : GAsn) (f : GFact) : GAsn := cond (stOk a f) (stA a f) ⟨[], []⟩
section
variable {a : GAsn} {f : GFact}
theorem st_yes (h : stOk a f = true) : stA a f = stL a f := by unfold stL; rw [h]; rfl
theorem st_no (h : stOk a f = false) : (⟨[], []⟩ : GAsn) = stL a f := by unfold stL; rw [h]; rfl
theorem st_bad (h : starOk a ⟨[f], []⟩ = false) : stOk a f = false := by
  unfold stOk
  cases e : asV (stA a f) with
  | false => rfl
  | true =>
    exfalso
    unfold starOk starA at h
    unfold stA at e
    rw [List.append_nil, e, Bool.and_true, Bool.and_eq_false_iff] at h
    unfold asV fsV at e h
    simp only [Bool.and_eq_true, decide_eq_true_eq, List.length_append, List.all_append, List.length_cons, List.length_nil, List.all_cons, List.all_nil] at e
    obtain ⟨⟨⟨e1, e2, e3, _⟩, e4⟩, e5⟩ := e
    rcases h with h | h
    · rw [decide_eq_true (show a.facts.length ≤ 12 by omega), e2, decide_eq_true e4, e5] at h; cases h
    · rw [List.all_cons, e3] at h; cases h
theorem st_star (h : starOk a ⟨[f], []⟩ = true) : starL a ⟨[f], []⟩ = stA a f ∧ asV (stA a f) = true := by
  have h2 := h
  unfold starOk at h2
  simp only [Bool.and_eq_true] at h2
  have e : starA a ⟨[f], []⟩ = stA a f := by unfold starA stA; rw [List.append_nil]
  refine ⟨?_, by rw [← e]; exact h2.2⟩
  unfold starL; rw [h, cond_true, e]
theorem st_val (ha : asV a = true) (hf : fV f = true) (hl : ¬ (12 : Int) ≤ a.facts.length) : asV (stA a f) = true := by
  unfold asV fsV stA at *
  simp only [Bool.and_eq_true, decide_eq_true_eq, List.length_append, List.all_append, List.length_cons, List.length_nil, List.all_cons, List.all_nil] at ha ⊢
  exact ⟨⟨⟨by omega, ha.1.1.2, hf, trivial⟩, ha.1.2⟩, ha.2⟩
theorem st_neg (ha : asV a = true) (hf : fV f = true) (hl : ¬ (12 : Int) ≤ a.facts.length) : stOk a f = !IMP a ⟨!f.eq, f.a, f.b⟩ := by
  have hb := st_val ha hf hl
  have e : negF ⟨!f.eq, f.a, f.b⟩ = f := by unfold negF; cases f; simp
  unfold stOk
  rw [imp_neg ha (f := ⟨!f.eq, f.a, f.b⟩) (by unfold fV at hf ⊢; exact hf) (by rw [e]; exact hb), e, hb]
  rfl
theorem st_len : (stL a f).facts.length ≤ 12 ∧ (stL a f).atoms.length ≤ 6 := by
  cases h : stOk a f with
  | false => rw [← st_no h]; exact ⟨Nat.zero_le _, Nat.zero_le _⟩
  | true =>
    have h2 := h
    unfold stOk at h2
    rw [Bool.and_eq_true] at h2
    have := asV_facts h2.1
    rw [← st_yes h]
    exact ⟨this.2.1, this.2.2.2⟩
theorem st_imp (h : stOk a f = true) : IMP (stL a f) f = true := by
  rw [← st_yes h]
  unfold stOk at h
  rw [Bool.and_eq_true] at h
  exact imp_fact h.1 (by unfold stA; simp)
end

end Go.SE
