/-
  Parts of a symbolic engine over the program's code: how operations, regions, loops and calls are shown to keep contracts. No conditions.
-/
import Derived.Test.YtfoioficiffgkaaEb
import Derived.Test.YtfoioficiffgkaaEa
set_option linter.unusedSimpArgs false
set_option linter.unusedVariables false
set_option linter.unusedSectionVars false

namespace Go.SE
open Go.RowKit

section
variable {P : Program} {E : Ty → TypeId} {tab : TypeId → Option TI} {K : FuncId → Option Con} {w0 : World} {M : MM} {n : Nat} {o : Oper} {st : St} {a : Act} {w : World}

theorem ownsC_mem {mem : Nat → Option Res} : ∀ {l ids : List Nat}, ownsC mem l = some ids → ids = l ∧ ∀ id ∈ l, ∃ f t xs, mem id = some (.sl f t xs) := by
  intro l
  induction l with
  | nil => intro ids h; simp only [ownsC, Option.some.injEq] at h; subst h; simp
  | cons x l ih =>
    intro ids h
    simp only [ownsC] at h
    split at h
    · rename_i f t xs ids' h1 h2
      injection h with h
      subst h
      obtain ⟨e, h3⟩ := ih h2
      subst e
      refine ⟨rfl, fun id hid => ?_⟩
      rcases List.mem_cons.1 hid with rfl | hid
      · exact ⟨f, t, xs, h1⟩
      · exact h3 id hid
    · cases h

theorem refsC_eq (c : CV) : refsC c = c.refs := by cases c <;> rfl
theorem refsCs_eq (l : List CV) : refsCs l = refsL l := by
  induction l with
  | nil => rfl
  | cons x l ih => simp [refsCs, refsL, ih, refsC_eq]
theorem refsAr_eq (l : List S0) : refsAr l = refsT l := by
  induction l with
  | nil => rfl
  | cons x l ih => cases x <;> simp [refsAr, refsT, S0.refs, ih, refsC_eq, refsCs_eq]

theorem snd_call0 (h : Rel E w0 M n st a w) (hd : ∀ d, o.dst = some d → d < n) {f : FuncId} {con : Con} (hK : FnOk P E f con) {args : Array Operand} {tys : Array TypeId} (ho : o.op = .call ⟨.value (.func f), args, tys⟩)
    {g g1 : G} (henv : ∀ x, (st.env x).R g (a.tmps.getD x undef)) {fz : List Nat} (hg1 : Good E w0 M g1 { st with fr := sets st.fr fz } w) (hro1 : ∀ b vs, g.ro b = some vs → g1.ro b = some vs) (hκ1 : g1.κ = g.κ) (hln1 : g1.ln = g.ln) (hρ1 : g1.ρ = g.ρ)
    {ro0 : Nat → Option (Array Value)} (hro0 : ∀ b vs, g.ro b = some vs → ro0 b = some vs) (hro10 : ∀ b vs, g1.ro b = some vs → ro0 b = some vs) (hin : ROin w ro0) (hrd0 : ∀ n, st.rd = some n → ro0 g.ρ = none)
    {ss : List S0} (hss : argsS st args.toList = some ss) {x : Args con.aks} (hx : decs st.mem con.aks ss = some x) (hl : ∀ id ∈ refsT ss, Lent st.mem g.κ ro0 id)
    (hmode : nested con.rks = false ∨ (∀ b vs, ro0 b = some vs ↔ g1.ro b = some vs)) (id0 : Nat) (hpre : con.pre x) (hfit : rdFits st.rd (con.cost x) (hasRdr con.aks)) (hfree : ∀ r, con.post x r → allFree st (ress con.rks id0 r).2) {pre : Prop} {det : Option (Args con.rks)} :
    Sound P E w0 M n o st a w { R := Args con.rks, pre, post := con.post x, val := fun r => pack1 (ress con.rks id0 r).1, news := fun r => (ress con.rks id0 r).2, fl := [], fz, wr := none, cost := costIf (hasRdr con.aks) (con.cost x), det } := by
  intro next Q hn
  obtain ⟨fn, c, hf, hname, hbody⟩ := hK.fn
  unfold Oper.wp
  rw [run_call hf hname hbody ho, Oper.upon_enter]
  -- the reader
  have hrdn : ∃ m, (∀ k, st.rd = some k → k = m) ∧ (hasRdr con.aks = true → st.rd = some m ∧ RdOk w ro0 g.ρ m ∧ m + con.cost x ≤ rdLimit) := by
    cases hr : st.rd with
    | none => exact ⟨0, by simp, fun hh => by rw [hr, hh] at hfit; exact hfit.elim⟩
    | some m =>
      refine ⟨m, by simp, fun hh => ⟨rfl, ?_, ?_⟩⟩
      · obtain ⟨⟨hlim, hout, code, v, p, ty, hc, hdr, hrest⟩, _⟩ := hg1.rd m hr
        rw [hρ1] at hc
        exact ⟨hlim, hrd0 m hr, code, v, p, ty, hc, hdr.mono hro10, hrest⟩
      · rw [hr, hh] at hfit; exact hfit
  obtain ⟨m, hm1, hm2⟩ := hrdn
  have hargs := decs_R (ro' := ro0) hro0 hx (argsS_R henv hss) hl
  have hcall := hK.call w ro0 g.ρ m x (args.toList.map a.eval) id0 hpre hin (fun hh => ⟨(hm2 hh).2.1, (hm2 hh).2.2⟩) hargs
  have harr : (args.toList.map a.eval).toArray = args.map a.eval := by apply Array.ext'; simp
  rw [harr] at hcall
  refine Calls.mono hcall fun e w' he => ?_
  obtain ⟨v, r, gc, rfl, hpost, hext, hρc, hres, hrdc⟩ := he
  show next (a.put o.dst v) w'
  refine hn r _ _ hpost ?_
  have hfr : ∀ p ∈ (ress con.rks id0 r).2, st.mem p.1 = none := allFree_mem (hfree r hpost)
  have hfr' : ∀ id q, (id, q) ∈ (ress con.rks id0 r).2 → st.mem id = none := fun id q hq => hfr (id, q) hq
  have hlive : ∀ id q, (id, q) ∈ (ress con.rks id0 r).2 → q.refs = [] := fun id q hq => by
    obtain ⟨_, _, f, t, xs, e⟩ := ress_range _ _ _ _ _ hq
    subst e; rfl
  -- the old memory
  have hρin : ∀ k, st.rd = some k → w0.heap.size ≤ g.ρ ∨ M g.ρ := fun k hk => by have := (hg1.rd k hk).2.1; rwa [hρ1] at this
  have hext' : Ext M.can w0 w' := by
    refine ⟨hext.os.trans hg1.ext.os, hext.tape.trans hg1.ext.tape, hext.output.trans hg1.ext.output, Nat.le_trans hg1.ext.size hext.size, fun b hb hM => ?_⟩
    rw [hext.block b (Nat.lt_of_lt_of_le hb hg1.ext.size) ?_]
    · exact hg1.ext.block b hb hM
    · intro ⟨hh, e⟩
      subst e
      rcases hρin m (hm2 hh).1 with h1 | h1
      · omega
      · exact hM h1
  have hw : ∀ b, b < w.heap.size → (st.rd ≠ none → b ≠ g.ρ) → w'.heap[b]? = w.heap[b]? := by
    intro b hb hne
    refine hext.block b hb fun ⟨hh, e⟩ => ?_
    exact hne (by rw [(hm2 hh).1]; simp) e
  -- the state afterwards
  have fin : ∀ rox : Nat → Option (Array Value), (∀ b vs, g1.ro b = some vs → rox b = some vs) → (∀ b vs, rox b = some vs → g1.ro b = some vs ∨ (w.heap.size ≤ b ∧ ∃ ty fz, w'.heap[b]? = some (.cells vs ty fz))) →
      (∀ g2 : G, g2.ro = rox → g2.ρ = g.ρ → (∀ id q, (id, q) ∈ (ress con.rks id0 r).2 → g2.κ id = gc.κ id ∧ g2.ln id = gc.ln id) →
        (pack1 (ress con.rks id0 r).1).R g2 v ∧ ∀ id q, (id, q) ∈ (ress con.rks id0 r).2 → ResR E w' g2 id q) →
      (∀ id q, (id, q) ∈ (ress con.rks id0 r).2 → ∀ b, blkOf (gc.κ id) = some b → rox b = none) → Rel E w0 M n (st.app o.dst { R := Args con.rks, pre, post := con.post x, val := fun r => pack1 (ress con.rks id0 r).1, news := fun r => (ress con.rks id0 r).2, fl := [], fz, wr := none, cost := costIf (hasRdr con.aks) (con.cost x), det } r) (a.put o.dst v) w' := by
    intro rox f1 f2 f3 f4
    let g2 : G := { ro := rox, κ := fun j => if (st.mem j).isSome then g.κ j else gc.κ j, ln := fun j => if (st.mem j).isSome then g.ln j else gc.ln j, ρ := g.ρ }
    have hnewκ : ∀ id q, (id, q) ∈ (ress con.rks id0 r).2 → g2.κ id = gc.κ id ∧ g2.ln id = gc.ln id := fun id q hq => by simp [g2, hfr' id q hq]
    have holdκ : ∀ id, (st.mem id).isSome = true → g2.κ id = g.κ id ∧ g2.ln id = g.ln id := fun id hid => by simp [g2, hid]
    obtain ⟨f5, f6⟩ := f3 g2 rfl rfl hnewκ
    have hgood : Good E w0 M g2 { st with mem := adds st.mem (ress con.rks id0 r).2, fr := sets st.fr fz, rd := st.rd.map (· + costIf (hasRdr con.aks) (con.cost x)) } w' := by
      refine Good.extendR (st := { st with fr := sets st.fr fz }) hg1 ⟨h.cl.1, h.cl.2⟩ (ress con.rks id0 r).2 (costIf (hasRdr con.aks) (con.cost x)) hext' hext.size (by rw [hρ1]; exact hw) f1 f2 (fun id hid => by rw [hκ1, hln1]; exact holdκ id hid) (by rw [hρ1]) f6 ?_ ?_ ?_ ?_
      · intro id q hq _ b hb
        rw [(hnewκ id q hq).1] at hb
        exact ⟨(hres.new id q hq b hb).1, f4 id q hq b hb⟩
      · intro i q j s hi hj hij b hbi hbj
        rw [(hnewκ i q hi).1] at hbi
        rw [(hnewκ j s hj).1] at hbj
        exact hres.dist i q j s hi hj hij b hbi hbj
      · intro k hk
        have hkm := hm1 k hk
        obtain ⟨⟨hlim, hout, code, v0, p, ty, hc, hdr, hle, hp0, hpn⟩, _⟩ := hg1.rd k hk
        rw [hρ1] at hc hout
        have hρlt := lt_of_some hc
        have houtx : rox g.ρ = none := by
          cases hrx : rox g.ρ with
          | none => rfl
          | some vs =>
            rcases f2 _ _ hrx with h1 | ⟨h1, _⟩
            · rw [hout] at h1; cases h1
            · omega
        have hk' : st.rd = some k := hk
        rw [hk'] at hfit
        cases hh : hasRdr con.aks with
        | false =>
          refine ⟨by show k + 0 ≤ rdLimit; omega, houtx, code, v0, p, ty, ?_, hdr.mono f1, hle, hp0, by show p ≤ ((k + 0 : Nat) : Int); omega⟩
          show w'.heap[g.ρ]? = _
          rw [hext.block _ hρlt (by simp [hh])]
          exact hc
        | true =>
          obtain ⟨p', ty', h1, h2, h3⟩ := hrdc hh v0 p ty hc
          rw [hh] at hfit
          exact ⟨hfit, houtx, code, v0, p', ty', h1, hdr.mono f1, hle, h2, by show p' ≤ ((k + con.cost x : Nat) : Int); omega⟩
      · intro hne v0 p ty h0
        rw [hρ1] at h0 ⊢
        have hsame : RdSame w0 w g.ρ := by have := hg1.rds hne; rwa [hρ1] at this
        obtain ⟨p1, ty1, h1⟩ := hsame v0 p ty h0
        cases hh : hasRdr con.aks with
        | false => exact ⟨p1, ty1, by rw [hext.block _ (lt_of_some h1) (by simp [hh])]; exact h1⟩
        | true =>
          obtain ⟨p2, ty2, h2, _, _⟩ := hrdc hh v0 p1 ty1 h1
          exact ⟨p2, ty2, h2⟩
    refine Rel.app h hd henv (g' := g2) (fun b vs hb => f1 b vs (hro1 b vs hb)) rfl holdκ ?_ f5 ?_ ?_ ?_
    · cases hdst : o.dst <;> exact hgood.env rfl rfl rfl rfl
    · intro id hid; cases hdst : o.dst <;> exact adds_isSome hid
    · intro id hid
      obtain ⟨q, hq⟩ := ress_refs _ _ _ id (pack1_refs _ id hid)
      cases hdst : o.dst <;> exact adds_new hq
    · intro j r' hj id hid
      have hj' : adds st.mem (ress con.rks id0 r).2 j = some r' := by cases hdst : o.dst <;> simpa [St.app, hdst] using hj
      have : (adds st.mem (ress con.rks id0 r).2 id).isSome = true := by
        rcases adds_cases hj' with hj | hj
        · rw [hlive _ _ hj] at hid; cases hid
        · exact adds_isSome (h.cl.2 j r' hj id hid)
      cases hdst : o.dst <;> exact this
  rcases hmode with hm | hm
  · refine fin g1.ro (fun _ _ h => h) (fun _ _ h => .inl h) ?_ ?_
    · intro g2 e1 e2 e3
      refine ⟨pack1_any (ress_any (g := gc) (g' := g2) (by rw [e2, hρc]) con.rks id0 r hm fun id hid => ?_) hres.val, ?_⟩
      · obtain ⟨q, hq⟩ := ress_refs _ _ _ id hid
        exact e3 id q hq
      · intro id q hq
        obtain ⟨f, t, xs, rfl, hflat⟩ := ress_flat _ _ _ hm id q hq
        obtain ⟨h1, h2⟩ := hres.res _ _ hq
        refine ⟨by rw [(e3 _ _ hq).2]; exact h1, ?_⟩
        rw [(e3 _ _ hq).1]
        rcases h2 with h2 | ⟨b, cap, cur, h3, h4, h5, h6, h7, h8⟩
        · exact .inl h2
        · exact .inr ⟨b, cap, cur, h3, h4, h5, h6, h7, RowR.flat_any hflat h8⟩
    · intro id q hq b hb
      have hge := (hres.new id q hq b hb).1
      cases hr : g1.ro b with
      | none => rfl
      | some vs =>
        obtain ⟨ty, fz', hh⟩ := hg1.ro b vs hr
        have := lt_of_some hh
        omega
  · refine fin gc.ro (fun b vs hb => hres.ro b vs ((hm b vs).2 hb)) (fun b vs hb => ?_) ?_ ?_
    · rcases hres.ro' b vs hb with h1 | h1
      · exact .inl ((hm b vs).1 h1)
      · exact .inr h1
    · intro g2 e1 e2 e3
      constructor
      · refine S.R.mono (g := gc) (g' := g2) (by rw [e1]; exact fun _ _ h => h) (by rw [e2, hρc]) (fun id hid => ?_) hres.val
        obtain ⟨q, hq⟩ := ress_refs _ _ _ id (pack1_refs _ id hid)
        exact e3 id q hq
      · intro id q hq
        exact (hres.res id q hq).keep (g' := g2) (fun _ _ => rfl) (by rw [e1]; exact fun _ _ h => h) (by rw [e2, hρc]) (e3 id q hq) (by rw [hlive id q hq]; simp)
    · intro id q hq b hb
      exact (hres.new id q hq b hb).2

end
end Go.SE

namespace Go.SE
open Go.RowKit

section
variable {P : Program} {E : Ty → TypeId} {tab : TypeId → Option TI} {K : FuncId → Option Con} {w0 : World} {M : MM} {n : Nat} {o : Oper} {st : St} {a : Act} {w : World}

theorem freeL_ress : ∀ (ks : List AK) (i : Nat) (r : Args ks), freeL st (rids ks i) → allFree st (ress ks i r).2 := by
  have app1 : ∀ {l l' : List Nat}, freeL st (l ++ l') → freeL st l ∧ freeL st l' := by
    intro l l' h
    induction l with
    | nil => exact ⟨trivial, h⟩
    | cons x l ih => exact ⟨⟨h.1, (ih h.2).1⟩, (ih h.2).2⟩
  have app2 : ∀ {l l' : List (Nat × Res)}, allFree st l → allFree st l' → allFree st (l ++ l') := by
    intro l l' h h'
    induction l with
    | nil => exact h'
    | cons x l ih => exact ⟨h.1, ih h.2⟩
  intro ks
  induction ks with
  | nil => intro i r _; trivial
  | cons k ks ih =>
    intro i r h
    obtain ⟨x, xs⟩ := r
    obtain ⟨h1, h2⟩ := app1 h
    refine app2 ?_ (ih _ xs h2)
    cases k <;> first | trivial | exact ⟨h1.1, h1.2.1, trivial⟩ | exact ⟨h1.1, trivial⟩

theorem snd_call (h : Rel E w0 M n st a w) (hd : ∀ d, o.dst = some d → d < n) (hKA : KAll P E K) {f : FuncId} {args : Array Operand} {tys : Array TypeId} (ho : o.op = .call ⟨.value (.func f), args, tys⟩) {t : Tr}
    (htr : trFn K st (o.dst.getD 0) f args.toList = some t) (hp : t.pre) : Sound P E w0 M n o st a w t := by
  obtain ⟨g, hg, henv⟩ := h.good
  unfold trFn at htr
  split at htr
  · rename_i ss hss
    unfold trCall at htr
    split at htr
    · rename_i con hcon
      split at htr
      · rename_i x hx
        split at htr
        · rename_i hnest
          split at htr
          · rename_i ids hids
            injection htr with htr
            subst htr
            obtain ⟨h1, h2, h3, h4⟩ := hp
            rw [refsAr_eq] at hids
            obtain ⟨rfl, hsl⟩ := ownsC_mem hids
            obtain ⟨ro', hro, hdr, hg1⟩ := hg.freeze (refsT ss) fun id hid => ⟨notSpent_mem h2 id hid, hsl id hid⟩
            refine snd_call0 h hd (hKA f con hcon) ho henv hg1 hro rfl rfl rfl (ro0 := ro') hro (fun _ _ h => h) hg1.ro (fun m hm => (hg1.rd m hm).1.out) hss hx ?_ (.inr fun _ _ => Iff.rfl) _ h1 h3 fun r _ => freeL_ress _ _ r h4
            intro id hid
            refine ⟨fun f t xs hm => hdr id hid f t xs hm, fun t xs hm => ?_⟩
            obtain ⟨f, t', xs', hm'⟩ := hsl id hid
            rw [hm] at hm'; cases hm'
          · cases htr
        · rename_i hnest
          injection htr with htr
          subst htr
          obtain ⟨h1, h3, h4⟩ := hp
          obtain ⟨ro', hro, hin, hlent, hrd⟩ := hg.lend
          exact snd_call0 h hd (hKA f con hcon) ho henv (g1 := g) (fz := []) (hg.env rfl rfl rfl rfl) (fun _ _ h => h) rfl rfl rfl hro hro hin hrd hss hx (fun id _ => hlent id) (.inl hnest) _ h1 h3 fun r _ => freeL_ress _ _ r h4
      · cases htr
    · cases htr
  · cases htr

def opOk (o : Oper) : Bool :=
  match o.op with
  | .binOp _ _ x y _ => constOk x && constOk y
  | _ => true

theorem ptrIds_R {g : G} (henv : ∀ x, (st.env x).R g (a.tmps.getD x undef)) : ∀ {l : List Operand} {ids : List Nat}, ptrIds st l = some ids → l.map a.eval = ids.map g.κ := by
  intro l
  induction l with
  | nil => intro ids h; simp only [ptrIds, Option.some.injEq] at h; subst h; rfl
  | cons x l ih =>
    intro ids h
    simp only [ptrIds] at h
    split at h
    · rename_i id ids' he hl
      injection h with h
      subst h
      have hx := ev_R henv x
      rw [he] at hx
      obtain ⟨b, h1, h2⟩ := hx
      simp only [List.map_cons, ih hl]
      rw [h1, h2]
    · cases h

theorem ptrIds_refs : ∀ {l : List Operand} {ids : List Nat}, ptrIds st l = some ids → Cl st → ∀ id ∈ ids, (st.mem id).isSome = true := by
  intro l
  induction l with
  | nil => intro ids h _ id hid; simp only [ptrIds, Option.some.injEq] at h; subst h; cases hid
  | cons x l ih =>
    intro ids h hcl id hid
    simp only [ptrIds] at h
    split at h
    · rename_i id' ids' he hl
      injection h with h
      subst h
      rcases List.mem_cons.1 hid with rfl | hid
      · exact ev_refs hcl x _ (by rw [he]; simp [S.refs, S0.refs, CV.refs])
      · exact ih hl hcl id hid
    · cases h

theorem snd_makeFunc (h : Rel E w0 M n st a w) (hd : ∀ d, o.dst = some d → d < n) {f : FuncId} {first caps : Array Operand} (ho : o.op = .makeFunc (.func f) first caps) {t : Tr} (htr : trMakeFunc st f first.toList caps.toList = some t) : Sound P E w0 M n o st a w t := by
  unfold trMakeFunc at htr
  split at htr
  · rename_i ids hf hids
    injection htr with htr
    subst htr
    have hfirst : first = #[] := by cases first; simp at hf; subst hf; rfl
    obtain ⟨g0, hg0, henv0⟩ := h.good
    refine Sound.plain h hd ?_ (v := .func (.func f) #[] (caps.map a.eval)) ?_ fun g hg henv => ?_
    · intro id hid
      simp only [S.refs, S0.refs, CV.refs] at hid
      exact ptrIds_refs hids h.cl id hid
    · simp [execOp, ho, hfirst, Instr.makeFunc, go_sem]
    · have := ptrIds_R henv hids
      show _ = _
      congr 1
      apply Array.ext'
      simpa using this
  · cases htr

theorem snd_op (h : Rel E w0 M n st a w) (ht : TabOk P E tab) (hKA : KAll P E K) (hd : ∀ d, o.dst = some d → d < n) (hok : opOk o = true) {t : Tr} (htr : trOp tab K o st = some t) (hp : t.pre) : Sound P E w0 M n o st a w t := by
  unfold trOp at htr
  split at htr
  case h_1 x ho => exact snd_move h ht hd (.inl ho) htr hp
  case h_2 x ho => exact snd_move h ht hd (.inr ho) htr hp
  case h_3 c x y ho => exact snd_pick h hd ho htr
  case h_4 ty ho => exact snd_alloc h ht hd ho htr hp
  case h_5 ty x ho => exact snd_box h hd ho htr hp
  case h_6 ty ps ho => exact snd_build h ht hd ho htr hp
  case h_7 ty k ps ho => exact snd_buildSlice h ht hd ho htr hp
  case h_8 ty x ho => exact snd_load h ht hd ho htr hp
  case h_9 ty x v ho => exact snd_store h ht hd ho htr hp
  case h_10 x ho => exact snd_nilCheck h hd ho htr
  case h_11 op ty x y yt ho =>
    have hc : constOk x = true ∧ constOk y = true := by simpa [opOk, ho] using hok
    exact snd_bin h ht hd ho hc.1 hc.2 htr hp
  case h_12 op ty x ho => exact snd_un h hd ho htr hp
  case h_13 s t x ho => exact snd_convert h ht hd ho htr hp
  case h_14 ty x f ho => exact snd_fieldAddr h ht hd ho htr
  case h_15 ty x f ho => exact snd_field h ht hd ho htr
  case h_16 ty x i ho => exact snd_indexAddr h ht hd ho htr hp
  case h_17 ty x i ho => exact snd_index h ht hd ho htr hp
  case h_18 ty x lo hi ho => exact snd_slice h ht hd ho htr hp
  case h_19 ty l c ho => exact snd_makeSlice h ht hd ho htr hp
  case h_20 x i ho => exact snd_extract h hd ho htr
  case h_21 f args tys ho => exact snd_call h hd hKA ho htr hp
  case h_22 args tys ho =>
    split at htr
    · rename_i x ty h1 h2
      exact snd_len h ht hd h1 h2 ho htr
    · cases htr
  case h_23 args tys ho =>
    split at htr
    · rename_i x y ty u h1 h2
      split at htr
      · rename_i e
        subst e
        exact snd_append h ht hd h1 h2 ho htr hp
      · cases htr
    · cases htr
  case h_24 args tys ho =>
    split at htr
    · rename_i x y ty u h1 h2
      split at htr
      · rename_i e
        subst e
        exact snd_copy h ht hd h1 h2 ho htr hp
      · cases htr
    · cases htr
  case h_25 f first caps ho => exact snd_makeFunc h hd ho htr
  case h_26 => cases htr

end
end Go.SE

namespace Go.SE
open Go.RowKit

section
variable {P : Program} {E : Ty → TypeId} {tab : TypeId → Option TI} {K : FuncId → Option Con} {w0 : World} {M : MM} {n : Nat} {st : St} {a : Act} {w : World}

theorem upd_self {α : Type} (f : Nat → α) (k : Nat) (v : α) (h : f k = v) : upd f k v = f := by
  funext j
  by_cases e : j = k
  · subst e; rw [upd_same, h]
  · rw [upd_ne _ _ e]

theorem Rel.junk {o : Oper} (h : Rel E w0 M n st a w) (hd : ∀ d, o.dst = some d → d < n) (v : Value) : Rel E w0 M n (St.put st o.dst SE.junk) (a.put o.dst v) w := by
  obtain ⟨g, hg, henv⟩ := h.good
  have envEq : ∀ x, (St.put st o.dst SE.junk).env x = if o.dst = some x then SE.junk else st.env x := by
    intro x
    cases hdst : o.dst with
    | none => simp [St.put]
    | some d =>
      by_cases e : x = d
      · subst e; simp [St.put, upd]
      · have : ¬ (some d = some x) := fun h => e (by injection h with h; exact h.symm)
        rw [if_neg this]
        simp [St.put, upd, e]
  have memEq : (St.put st o.dst SE.junk).mem = st.mem ∧ (St.put st o.dst SE.junk).sp = st.sp ∧ (St.put st o.dst SE.junk).fr = st.fr ∧ (St.put st o.dst SE.junk).rd = st.rd := by
    cases hdst : o.dst <;> exact ⟨rfl, rfl, rfl, rfl⟩
  refine ⟨⟨?_, ?_⟩, ?_, ?_, g, hg.env memEq.1 memEq.2.1 memEq.2.2.1 memEq.2.2.2, ?_⟩
  · intro x id hid
    rw [envEq] at hid
    rw [memEq.1]
    split at hid
    · simp [SE.junk, S.refs, S0.refs, CV.refs] at hid
    · exact h.cl.1 x id hid
  · rw [memEq.1]; exact h.cl.2
  · cases hdst : o.dst <;> simp [Act.put, h.size]
  · cases hdst : o.dst <;> simp [Act.put, h.defers]
  · intro x
    rw [put_get (by rw [h.size]; exact hd), envEq]
    split
    · trivial
    · exact henv x

theorem yields (h : Rel E w0 M n st a w) {ops : Array Oper} {j g : Nat} (hg : gslot ops j = some g) {b : Bool} (he : st.env g = .s (.c (.d (.val (.bool b))))) : yielded ops a.tmps j = some b := by
  obtain ⟨g', hgood, henv⟩ := h.good
  have := henv g
  rw [he] at this
  have hv := R_val this
  unfold gslot at hg
  unfold yielded
  rw [hg]
  simp only [Option.bind_some]
  have hx : a.tmps[g]? = some (.bool b) := by
    cases hq : a.tmps[g]? with
    | none =>
      rw [Array.getD_eq_getD_getElem?, hq] at hv
      simp [undef] at hv
    | some u =>
      rw [Array.getD_eq_getD_getElem?, hq] at hv
      simp at hv
      rw [hv]
  rw [hx]

def DetOk (t : Tr) : Prop := ∀ r0, t.det = some r0 → ∀ r, t.post r → r = r0

theorem detOk_map {α : Type} {x : Option α} {f : α → Tr} {t : Tr} (h : x.map f = some t) (hf : ∀ a, DetOk (f a)) : DetOk t := by
  cases x with
  | none => cases h
  | some a => injection h with h; subst h; exact hf a

theorem detOk_one {v : S} {p : Prop} {l : List (Nat × Res)} : DetOk (.one v p l) := fun _ _ _ _ => rfl
theorem detOk_gen {v : S} {p : Prop} {l : List (Nat × Res)} {fl fz : List Nat} {w : Option ((Nat → Option Res) → Nat → Option Res)} : DetOk (.gen v p l fl fz w) := fun _ _ _ _ => rfl
theorem detOk_write {p : Prop} {w : (Nat → Option Res) → Nat → Option Res} {fz : List Nat} : DetOk (.write p w fz) := fun _ _ _ _ => rfl

theorem detOk_con {con : Con} {x : Args con.aks} {pre : Prop} {val : Args con.rks → S} {news : Args con.rks → List (Nat × Res)} {fl fz : List Nat} {wr : Option ((Nat → Option Res) → Nat → Option Res)} {c : Nat} :
    DetOk { R := Args con.rks, pre, post := con.post x, val, news, fl, fz, wr, cost := c, det := con.det x } := by
  intro r0 h0 r hr
  have h0 : con.det x = some r0 := h0
  have hr : con.post x r := hr
  unfold Con.det at h0
  unfold Con.post at hr
  split at h0
  · rename_i f hf
    rw [hf] at hr
    injection h0 with h0
    subst h0
    exact hr
  · cases h0

theorem det_ok {o : Oper} {t : Tr} (h : trOp tab K o st = some t) : DetOk t := by
  unfold trOp at h
  split at h
  all_goals first
    | (unfold trMove at h) | (unfold trPick at h) | (unfold trAlloc at h) | (unfold trBox at h) | (unfold trBuild at h) | (unfold trBuildSlice at h) | (unfold trLoad at h) | (unfold trStore at h)
    | (unfold trNilCheck at h) | (unfold trBin at h) | (unfold trUn at h) | (unfold trConvert at h) | (unfold trFieldAddr at h) | (unfold trField at h) | (unfold trIndexAddr at h) | (unfold trIndex at h)
    | (unfold trSlice at h) | (unfold trMakeSlice at h) | (unfold trExtract at h) | (unfold trMakeFunc at h) | (unfold trFn trCall at h) | skip
  all_goals repeat' split at h
  all_goals first
    | cases h; done
    | (injection h with h; subst h; exact detOk_one)
    | (injection h with h; subst h; exact detOk_gen)
    | (injection h with h; subst h; exact detOk_write)
    | (injection h with h; subst h; exact detOk_con)
    | exact detOk_map h fun _ => detOk_one
    | (unfold trLen at h; repeat' split at h
       all_goals first
        | cases h; done
        | (injection h with h; subst h; exact detOk_one))
    | (unfold trAppend at h; repeat' split at h
       all_goals first
        | cases h; done
        | (injection h with h; subst h; exact detOk_gen))
    | (unfold trCopy at h; repeat' split at h
       all_goals first
        | cases h; done
        | (injection h with h; subst h; exact detOk_gen))

theorem vcOp_sound {o : Oper} (h : Rel E w0 M n st a w) (ht : TabOk P E tab) (hKA : KAll P E K) (hd : ∀ d, o.dst = some d → d < n) (hok : opOk o = true) {k : St → Prop} (hv : vcOp tab K o st k) {next : Act → World → Prop} {Q : Exit → Act → World → Prop}
    (hk : ∀ st' a' w', Rel E w0 M n st' a' w' → k st' → next a' w') : o.wp P a w next Q := by
  unfold vcOp vcTr at hv
  cases htr : trOp tab K o st with
  | none => rw [htr] at hv; exact hv.elim
  | some t =>
    rw [htr] at hv
    refine snd_op h ht hKA hd hok htr hv.1 next Q fun r a' w' hr hrel => hk _ a' w' hrel ?_
    have h2 := hv.2
    unfold vcDet at h2
    split at h2
    · rename_i r0 hr0
      rw [det_ok htr r0 hr0 r hr]
      exact h2
    · exact h2 r hr

def opsOk (n : Nat) (ops : List Oper) : Bool := ops.all fun o => opOk o && (match o.dst with | some d => decide (d < n) | none => true)

theorem opsOk_mem {l : List Oper} (h : opsOk n l = true) : ∀ o ∈ l, opOk o = true ∧ ∀ d, o.dst = some d → d < n := by
  intro o ho
  have := List.all_eq_true.1 h o ho
  simp only [Bool.and_eq_true] at this
  refine ⟨this.1, fun d hd => ?_⟩
  have h2 := this.2
  rw [hd] at h2
  simpa using h2

theorem Rel.skip {o : Oper} (h : Rel E w0 M n st a w) (hd : ∀ d, o.dst = some d → d < n) : Rel E w0 M n (St.put st o.dst (.tup [])) (a.put o.dst undef) w := by
  obtain ⟨g, hg, henv⟩ := h.good
  have memEq : (St.put st o.dst (.tup [])).mem = st.mem ∧ (St.put st o.dst (.tup [])).sp = st.sp ∧ (St.put st o.dst (.tup [])).fr = st.fr ∧ (St.put st o.dst (.tup [])).rd = st.rd := by
    cases hdst : o.dst <;> exact ⟨rfl, rfl, rfl, rfl⟩
  have envEq : ∀ x, (St.put st o.dst (.tup [])).env x = if o.dst = some x then .tup [] else st.env x := by
    intro x
    cases hdst : o.dst with
    | none => simp [St.put]
    | some d =>
      by_cases e : x = d
      · subst e; simp [St.put, upd]
      · have : ¬ (some d = some x) := fun h => e (by injection h with h; exact h.symm)
        rw [if_neg this]
        simp [St.put, upd, e]
  refine ⟨⟨fun x id hid => ?_, fun j r hj => ?_⟩, ?_, ?_, g, hg.env memEq.1 memEq.2.1 memEq.2.2.1 memEq.2.2.2, fun x => ?_⟩
  · rw [memEq.1]
    rw [envEq] at hid
    split at hid
    · cases hid
    · exact h.cl.1 x id hid
  · rw [memEq.1] at hj ⊢
    exact h.cl.2 j r hj
  · cases hdst : o.dst <;> simp [Act.put, h.size]
  · cases hdst : o.dst <;> exact h.defers
  · rw [envEq, put_get (by rw [h.size]; exact hd)]
    split
    · exact ⟨#[], rfl, rfl, fun j s hj => by cases hj⟩
    · exact henv x

theorem noYield (h : Rel E w0 M n st a w) {ops : Array Oper} {j g : Nat} (hg : gslot ops j = some g) (he : st.env g = .tup []) : yielded ops a.tmps j = none := by
  obtain ⟨g', hgood, henv⟩ := h.good
  have := henv g
  rw [he] at this
  obtain ⟨vs, hv, _⟩ := this
  unfold gslot at hg
  unfold yielded
  rw [hg]
  simp only [Option.bind_some]
  rw [Array.getD_eq_getD_getElem?] at hv
  cases hq : a.tmps[g]? with
  | none => rfl
  | some u =>
    rw [hq] at hv
    simp only [Option.getD_some] at hv
    rw [hv]

def RunsOp (P : Program) (ops : Array Oper) (o : Oper) (next : Act → World → Prop) (Q : Exit → Act → World → Prop) (a : Act) (w : World) : Prop :=
  if Region.wanted o (yielded ops a.tmps) then o.wp P a w next Q ∨ (o.asks P a w ∧ LetsOut Q) else next (a.put o.dst undef) w

theorem step_sound (ht : TabOk P E tab) (hKA : KAll P E K) {ops : Array Oper} {o : Oper} (hok : opOk o = true) (hd : ∀ d, o.dst = some d → d < n) (h : Rel E w0 M n st a w) {k : St → Prop} (hv : vcStep tab K ops o st k) {next : Act → World → Prop} {Q : Exit → Act → World → Prop}
    (hk : ∀ st' a' w', Rel E w0 M n st' a' w' → k st' → next a' w') : RunsOp P ops o next Q a w := by
  unfold vcStep at hv
  unfold RunsOp
  cases hg : o.guard with
  | none =>
    rw [hg] at hv
    rw [if_pos (by simp [Region.wanted, hg])]
    exact .inl (vcOp_sound h ht hKA hd hok hv hk)
  | some gw =>
    obtain ⟨j, want⟩ := gw
    rw [hg] at hv
    simp only at hv
    split at hv
    · exact hv.elim
    · rename_i g hgs
      split at hv
      · rename_i b he
        have hy := yields h hgs he
        have hwant : Region.wanted o (yielded ops a.tmps) = (b == want) := by simp [Region.wanted, hg, hy]
        rw [hwant]
        have hself : ∀ c : Bool, b = c → ({ st with env := upd st.env g (sv (.bool c)) } : St) = st := by
          intro c hc
          subst hc
          have := upd_self st.env g (sv (.bool b)) he
          rw [this]
        cases want <;> cases b <;> simp only at hv
        · have hv := vcIf_f hv
          rw [hself false rfl] at hv
          exact .inl (vcOp_sound h ht hKA hd hok hv hk)
        · have hv := vcIf_t hv
          rw [hself true rfl] at hv
          exact hk _ _ w (h.skip hd) hv
        · have hv := vcIf_f hv
          rw [hself false rfl] at hv
          exact hk _ _ w (h.skip hd) hv
        · have hv := vcIf_t hv
          rw [hself true rfl] at hv
          exact .inl (vcOp_sound h ht hKA hd hok hv hk)
      · rename_i he
        have hwant : Region.wanted o (yielded ops a.tmps) = false := by simp [Region.wanted, hg, noYield h hgs he]
        rw [hwant]
        exact hk _ _ w (h.skip hd) hv
      · exact hv.elim

theorem seq_sound (ht : TabOk P E tab) (hKA : KAll P E K) {ops : Array Oper} {k : St → Prop} {Q : Exit → Act → World → Prop} (hk : ∀ st' a' w', Rel E w0 M n st' a' w' → k st' → Q .normal a' w') :
    ∀ (l : List Oper) (st : St) (a : Act) (w : World), (∀ o ∈ l, opOk o = true ∧ ∀ d, o.dst = some d → d < n) → Rel E w0 M n st a w → vcOps tab K ops l st k → wpList P ops Q l a w := by
  intro l
  induction l with
  | nil => intro st a w _ h hv; exact hk st a w h hv
  | cons o rest ih =>
    intro st a w hl h hv
    obtain ⟨hok, hd⟩ := hl o (by simp)
    have hl' : ∀ o ∈ rest, opOk o = true ∧ ∀ d, o.dst = some d → d < n := fun o ho => hl o (by simp [ho])
    unfold wpList
    exact step_sound ht hKA hok hd h hv fun st' a' w' hr hv' => ih st' a' w' hl' hr hv'

end
end Go.SE

namespace Go.SE
open Go.RowKit

section
variable {P : Program} {E : Ty → TypeId} {w0 : World} {M : MM} {n : Nat} {st st' : St} {a : Act} {w : World}

def G.ren (g : G) (ρ : Nat → Nat) : G := { g with κ := fun j => g.κ (ρ j), ln := fun j => g.ln (ρ j) }

theorem CV.ren_R {g : G} {ρ : Nat → Nat} {c : CV} {v : Value} (h : (c.ren ρ).R g v) : c.R (g.ren ρ) v := by
  cases c with
  | fn f ids => have h : v = _ := h; rw [h]; show _ = _; simp [G.ren, Function.comp_def]
  | _ => exact h

theorem Cells.ren {g : G} {ρ : Nat → Nat} {cs : List CV} {vs : Array Value} (h : Cells g (cs.map (CV.ren ρ)) vs) : Cells (g.ren ρ) cs vs := by
  refine ⟨by simpa using h.1, fun j c hj => ?_⟩
  obtain ⟨u, h1, h2⟩ := h.2 j (c.ren ρ) (by simp [hj])
  exact ⟨u, h1, CV.ren_R h2⟩

theorem S0.ren_R {g : G} {ρ : Nat → Nat} {s : S0} {v : Value} (h : (s.ren ρ).R g v) : s.R (g.ren ρ) v := by
  cases s with
  | c x => exact CV.ren_R h
  | agg cs => obtain ⟨vs, h1, h2⟩ := h; exact ⟨vs, h1, h2.ren⟩
  | vec t xs => exact h

theorem S.ren_R {g : G} {ρ : Nat → Nat} {s : S} {v : Value} (h : (s.ren ρ).R g v) : s.R (g.ren ρ) v := by
  cases s with
  | s x => exact S0.ren_R h
  | tup l =>
    obtain ⟨vs, h1, h2, h3⟩ := h
    refine ⟨vs, h1, by simpa using h2, fun j s hj => ?_⟩
    obtain ⟨u, h4, h5⟩ := h3 j (s.ren ρ) (by simp [hj])
    exact ⟨u, h4, S0.ren_R h5⟩

theorem puts_cases (j : Nat) : ∀ (l : List (Nat × S)) (e : Nat → S), (∃ v, (j, v) ∈ l ∧ puts e l j = v) ∨ puts e l j = e j := by
  intro l
  induction l with
  | nil => intro e; exact .inr rfl
  | cons p l ih =>
    intro e
    obtain ⟨k, v⟩ := p
    rcases ih (upd e k v) with ⟨u, h1, h2⟩ | h
    · exact .inl ⟨u, by simp [h1], h2⟩
    · by_cases e' : j = k
      · subst e'; exact .inl ⟨v, by simp, by rw [puts, h, upd_same]⟩
      · exact .inr (by rw [puts, h, upd_ne _ _ e'])

theorem inL_mem : ∀ {l : List Nat} {j : Nat}, inL l j = true ↔ j ∈ l := by
  intro l j
  induction l with
  | nil => simp [inL]
  | cons x l ih =>
    simp only [inL]
    by_cases e : j = x
    · simp [e]
    · simp [e, ih]

theorem envSame_mem {e e' : Nat → S} : ∀ {l : List Nat}, envSame e e' l → ∀ j ∈ l, e j = e' j := by
  intro l
  induction l with
  | nil => intro _ j h; simp at h
  | cons x l ih => intro h j hj; rcases List.mem_cons.1 hj with rfl | hj; exact h.1; exact ih h.2 j hj

theorem envSets_mem {e : Nat → S} {ρ : Nat → Nat} : ∀ {l : List (Nat × S)}, envSets e ρ l → ∀ p ∈ l, e p.1 = p.2.ren ρ := by
  intro l
  induction l with
  | nil => intro _ j h; simp at h
  | cons x l ih => intro h j hj; rcases List.mem_cons.1 hj with rfl | hj; exact h.1; exact ih h.2 j hj

theorem memSame_mem : ∀ {l : List Nat}, memSame st st' l → ∀ j ∈ l, (st.mem j).isSome = true ∧ st'.mem j = st.mem j ∧ st'.sp j = st.sp j ∧ st'.fr j = st.fr j := by
  intro l
  induction l with
  | nil => intro _ j h; simp at h
  | cons x l ih => intro h j hj; rcases List.mem_cons.1 hj with rfl | hj; exact h.1; exact ih h.2 j hj

theorem memBlks_mem {ρ : Nat → Nat} : ∀ {l : List (Nat × Res)}, memBlks st ρ l → ∀ p ∈ l, st.mem p.1 = some (p.2.ren ρ) ∧ st.sp p.1 = false ∧ st.fr p.1 = false ∧ ((∃ cs, p.2 = .blk cs) ∨ ∃ t xs, p.2 = .vec t xs) := by
  intro l
  induction l with
  | nil => intro _ j h; simp at h
  | cons x l ih =>
    intro h j hj
    rcases List.mem_cons.1 hj with rfl | hj
    · obtain ⟨⟨h1, h2, h3, h4⟩, _⟩ := h
      refine ⟨h1, h2, h3, ?_⟩
      obtain ⟨k, r⟩ := j
      cases r <;> simp at h4
      · exact .inl ⟨_, rfl⟩
      · exact .inr ⟨_, _, rfl⟩
    · exact ih h.2 j hj

theorem memOwns_mem {ρ : Nat → Nat} : ∀ {l : List Own}, memOwns st ρ l → ∀ o ∈ l, st.sp (ρ o.id) = false ∧ st.fr (ρ o.id) = false ∧ ∃ f, st.mem (ρ o.id) = some (.sl f o.t o.xs) := by
  intro l
  induction l with
  | nil => intro _ j h; simp at h
  | cons x l ih =>
    intro h j hj
    rcases List.mem_cons.1 hj with rfl | hj
    · obtain ⟨⟨h1, h2, h3⟩, _⟩ := h
      refine ⟨h1, h2, ?_⟩
      split at h3
      · rename_i f t xs hm
        obtain ⟨e, hq⟩ := castL_eq h3
        obtain ⟨id, src, t', xs'⟩ := j
        simp only at e hq
        subst e
        cases hq
        exact ⟨f, hm⟩
      · exact h3.elim
    · exact ih h.2 j hj

theorem notIn_mem {x : Nat} : ∀ {l : List Nat}, notIn x l → x ∉ l := by
  intro l
  induction l with
  | nil => intro _; simp
  | cons y l ih => intro h; simp only [List.mem_cons, not_or]; exact ⟨h.1, ih h.2⟩

theorem allDiff_nodup : ∀ {l : List Nat}, allDiff l → l.Nodup := by
  intro l
  induction l with
  | nil => intro _; simp
  | cons y l ih => intro h; exact List.nodup_cons.2 ⟨notIn_mem h.1, ih h.2⟩

theorem allIn_mem {ids : List Nat} : ∀ {l : List Nat}, allIn ids l → ∀ x ∈ l, x ∈ ids := by
  intro l
  induction l with
  | nil => intro _ j h; simp at h
  | cons x l ih => intro h j hj; rcases List.mem_cons.1 hj with rfl | hj; exact h.1; exact ih h.2 j hj

theorem closedE_mem {e : Nat → S} {ids : List Nat} : ∀ {l : List Nat}, closedE e ids l → ∀ j ∈ l, ∀ x ∈ (e j).refs, x ∈ ids := by
  intro l
  induction l with
  | nil => intro _ j h; simp at h
  | cons x l ih => intro h j hj; rcases List.mem_cons.1 hj with rfl | hj; exact allIn_mem h.1; exact ih h.2 j hj

theorem closedV_mem {ids : List Nat} : ∀ {l : List (Nat × S)}, closedV ids l → ∀ p ∈ l, ∀ x ∈ p.2.refs, x ∈ ids := by
  intro l
  induction l with
  | nil => intro _ j h; simp at h
  | cons x l ih => intro h j hj; rcases List.mem_cons.1 hj with rfl | hj; exact allIn_mem h.1; exact ih h.2 j hj

theorem closedR_mem {ids : List Nat} : ∀ {l : List (Nat × Res)}, closedR ids l → ∀ p ∈ l, ∀ x ∈ p.2.refs, x ∈ ids := by
  intro l
  induction l with
  | nil => intro _ j h; simp at h
  | cons x l ih => intro h j hj; rcases List.mem_cons.1 hj with rfl | hj; exact allIn_mem h.1; exact ih h.2 j hj

theorem closedM_mem {m : Nat → Option Res} {ids : List Nat} : ∀ {l : List Nat}, closedM m ids l → ∀ j ∈ l, ∀ r, m j = some r → ∀ x ∈ r.refs, x ∈ ids := by
  intro l
  induction l with
  | nil => intro _ j h; simp at h
  | cons x l ih =>
    intro h j hj
    rcases List.mem_cons.1 hj with rfl | hj
    · intro r hr
      have h1 := h.1
      rw [hr] at h1
      exact allIn_mem h1
    · exact ih h.2 j hj

theorem famsOf_mem : ∀ {l : List Nat} {x : Nat} {f : Nat} {t : Ty} {xs : List t.den}, x ∈ l → st.mem x = some (.sl f t xs) → f ∈ famsOf st l := by
  intro l
  induction l with
  | nil => intro x f t xs h; simp at h
  | cons y l ih =>
    intro x f t xs h hm
    simp only [famsOf]
    rcases List.mem_cons.1 h with rfl | h
    · rw [hm]; simp
    · split
      · exact List.mem_cons_of_mem _ (ih h hm)
      · exact ih h hm

theorem famsOf_diff : ∀ {l : List Nat}, (famsOf st l).Nodup → ∀ {x y f : Nat} {t t' : Ty} {xs : List t.den} {ys : List t'.den}, x ∈ l → y ∈ l → x ≠ y → st.mem x = some (.sl f t xs) → st.mem y = some (.sl f t' ys) → False := by
  intro l
  induction l with
  | nil => intro _ x y f t t' xs ys h; simp at h
  | cons z l ih =>
    intro hnd x y f t t' xs ys hx hy hne hmx hmy
    simp only [famsOf] at hnd
    rcases List.mem_cons.1 hx with rfl | hx2 <;> rcases List.mem_cons.1 hy with rfl | hy2
    · exact hne rfl
    · rw [hmx] at hnd
      exact (List.nodup_cons.1 hnd).1 (famsOf_mem hy2 hmy)
    · rw [hmy] at hnd
      exact (List.nodup_cons.1 hnd).1 (famsOf_mem hx2 hmx)
    · split at hnd
      · exact ih (List.nodup_cons.1 hnd).2 hx2 hy2 hne hmx hmy
      · exact ih hnd hx2 hy2 hne hmx hmy

theorem renL_spec : ∀ {l : List Own} {m : List (Nat × Nat)}, renL st l = some m → m.map (·.1) = l.map (·.id) ∧ ((l.map (·.id)).Nodup → ∀ o ∈ l, srcId st o.src = some (lookR m o.id)) := by
  intro l
  induction l with
  | nil => intro m h; simp only [renL, Option.some.injEq] at h; subst h; simp
  | cons x l ih =>
    intro m h
    simp only [renL] at h
    split at h
    · rename_i id m' h1 h2
      injection h with h
      subst h
      obtain ⟨h3, h4⟩ := ih h2
      refine ⟨by simp [h3], fun hnd o ho => ?_⟩
      simp only [List.map_cons, List.nodup_cons] at hnd
      rcases List.mem_cons.1 ho with rfl | ho
      · simp [lookR, h1]
      · have hne : o.id ≠ x.id := fun e => hnd.1 (by rw [← e]; exact List.mem_map_of_mem ho)
        simp only [lookR, if_neg hne]
        exact h4 hnd.2 o ho
    · cases h

theorem lookR_id : ∀ {m : List (Nat × Nat)} {j : Nat}, j ∉ m.map (·.1) → lookR m j = j := by
  intro m
  induction m with
  | nil => intro j _; rfl
  | cons p m ih =>
    intro j h
    simp only [List.map_cons, List.mem_cons, not_or] at h
    simp only [lookR, if_neg h.1]
    exact ih h.2

theorem ownRes_mem : ∀ {l : List Own} {p : Nat × Res}, p ∈ ownRes l → ∃ o ∈ l, p = (o.id, .sl o.id o.t o.xs) := by
  intro l
  induction l with
  | nil => intro p h; simp [ownRes] at h
  | cons x l ih =>
    intro p h
    simp only [ownRes, List.mem_cons] at h
    rcases h with rfl | h
    · exact ⟨x, by simp, rfl⟩
    · obtain ⟨o, h1, h2⟩ := ih h
      exact ⟨o, by simp [h1], h2⟩

theorem ownRes_of : ∀ {l : List Own} {o : Own}, o ∈ l → (o.id, .sl o.id o.t o.xs) ∈ ownRes l := by
  intro l
  induction l with
  | nil => intro o h; simp at h
  | cons x l ih =>
    intro o h
    simp only [ownRes, List.mem_cons]
    rcases List.mem_cons.1 h with rfl | h
    · exact .inl rfl
    · exact .inr (ih h)

theorem ownEnv_mem : ∀ {l : List Own} {p : Nat × S}, p ∈ ownEnv l → ∃ o ∈ l, o.src = .slot p.1 ∧ p.2 = .s (.c (.own o.id)) := by
  intro l
  induction l with
  | nil => intro p h; simp [ownEnv] at h
  | cons x l ih =>
    intro p h
    obtain ⟨id, src, t, xs⟩ := x
    cases src with
    | slot s =>
      simp only [ownEnv, List.mem_cons] at h
      rcases h with rfl | h
      · exact ⟨_, List.mem_cons_self, rfl, rfl⟩
      · obtain ⟨o, h1, h2⟩ := ih h
        exact ⟨o, by simp [h1], h2⟩
    | cell b off =>
      simp only [ownEnv] at h
      obtain ⟨o, h1, h2⟩ := ih h
      exact ⟨o, by simp [h1], h2⟩

end
end Go.SE

namespace Go.SE
open Go.RowKit

section
variable {P : Program} {E : Ty → TypeId} {w0 : World} {M : MM} {n : Nat} {st st' : St} {a : Act} {w : World}

theorem Rel.head (h : Rel E w0 M n st' a w) (hpin : ∀ id, M.pin id = none ∧ M.pinl id = none) {A : Ann} {α : A.α} (hf : A.fits st st' α) : Rel E w0 M n (A.head st α) a w := by
  unfold Ann.fits at hf
  split at hf
  · exact hf.elim
  rename_i m hm
  obtain ⟨f1, f2, f3, f4, f5, f6, f7, f8, f9, f10, f11, f12, f13⟩ := hf
  obtain ⟨hkeys, hsrc⟩ := renL_spec hm
  have n6 := allDiff_nodup f6
  have n7 := allDiff_nodup f7
  have n8 := allDiff_nodup f8
  have nown : ((A.owns α).map (·.id)).Nodup := by
    have h1 : (A.mids ++ ((A.blks α).map (·.1) ++ (A.owns α).map (·.id))).Nodup := n6
    exact (List.nodup_append.1 (List.nodup_append.1 h1).2.1).2.1
  -- what stays keeps its number
  have stay : ∀ x ∈ A.mids ++ (A.blks α).map (·.1), lookR m x = x := by
    intro x hx
    refine lookR_id ?_
    rw [hkeys]
    intro ho
    have h1 : ((A.mids ++ (A.blks α).map (·.1)) ++ (A.owns α).map (·.id)).Nodup := by rw [List.append_assoc]; exact n6
    exact (List.nodup_append.1 h1).2.2 x hx x ho rfl
  have stay_head : ∀ x ∈ A.mids ++ (A.blks α).map (·.1), x ∈ headIds A α := by
    intro x hx
    simp only [headIds, List.mem_append] at hx ⊢
    rcases hx with hx | hx
    · exact .inl hx
    · exact .inr (.inl hx)
  obtain ⟨g, hg, henv⟩ := h.good
  have hmemcases : ∀ k r, (A.head st α).mem k = some r → (∃ o ∈ A.owns α, k = o.id ∧ r = .sl o.id o.t o.xs) ∨ ((k, r) ∈ A.blks α) ∨ (k ∈ A.mids ∧ st'.mem k = some r) := by
    intro k r hk
    rcases adds_cases hk with hk | hk
    · obtain ⟨o, h1, h2⟩ := ownRes_mem hk
      injection h2 with h2 h3
      exact .inl ⟨o, h1, h2, h3⟩
    · rcases adds_cases hk with hk | hk
      · exact .inr (.inl hk)
      · refine .inr (.inr ?_)
        unfold keepM at hk
        split at hk
        · rename_i hin
          have hin' := inL_mem.1 hin
          refine ⟨hin', ?_⟩
          rw [(memSame_mem f3 k hin').2.1]
          exact hk
        · cases hk
  have hdom : ∀ k ∈ headIds A α, ((A.head st α).mem k).isSome = true := by
    intro k hk
    simp only [headIds, List.mem_append, List.mem_map] at hk
    rcases hk with hk | ⟨p, hp, rfl⟩ | ⟨o, ho, rfl⟩
    · have h1 := (memSame_mem f3 k hk).1
      refine adds_isSome (adds_isSome ?_)
      have : inL A.mids k = true := inL_mem.2 hk
      simp [keepM, this, h1]
    · exact adds_isSome (adds_new (k := p.1) (r := p.2) hp)
    · exact adds_new (ownRes_of ho)
  -- each number at the head: what it is in st'
  have there : ∀ k r, (A.head st α).mem k = some r → k ∈ headIds A α ∧ (A.head st α).sp k = st'.sp (lookR m k) ∧ (A.head st α).fr k = st'.fr (lookR m k) ∧
      ((r.live → ∃ r', st'.mem (lookR m k) = some r' ∧ r'.live ∧ ((∃ f t xs, r' = .sl f t xs) ↔ (∃ f t xs, r = .sl f t xs))) ∧ ResR E w (g.ren (lookR m)) k r) ∧ ∀ id ∈ r.refs, id ∈ headIds A α := by
    intro k r hk
    have hspfr : (k ∉ A.mids → (A.head st α).sp k = false ∧ (A.head st α).fr k = false) ∧ (k ∈ A.mids → (A.head st α).sp k = st.sp k ∧ (A.head st α).fr k = st.fr k) := by
      constructor
      · intro hn
        have : inL A.mids k = false := by
          cases hq : inL A.mids k with
          | false => rfl
          | true => exact (hn (inL_mem.1 hq)).elim
        simp [Ann.head, keepB, this]
      · intro hin
        have : inL A.mids k = true := inL_mem.2 hin
        simp [Ann.head, keepB, this]
    have nodup3 : (A.mids ++ ((A.blks α).map (·.1) ++ (A.owns α).map (·.id))).Nodup := n6
    rcases hmemcases k r hk with ⟨o, ho, rfl, rfl⟩ | hk | ⟨hin, hk⟩
    · obtain ⟨h1, h2, f, h3⟩ := memOwns_mem f5 o ho
      have hmem : o.id ∈ (A.owns α).map (·.id) := List.mem_map_of_mem ho
      have hnot : o.id ∉ A.mids := fun hin => (List.nodup_append.1 nodup3).2.2 _ hin _ (List.mem_append_right _ hmem) rfl
      refine ⟨by simp only [headIds, List.mem_append]; exact .inr (.inr hmem), by rw [(hspfr.1 hnot).1, h1], by rw [(hspfr.1 hnot).2, h2], ⟨fun _ => ⟨_, h3, trivial, ⟨fun _ => ⟨_, _, _, rfl⟩, fun _ => ⟨_, _, _, rfl⟩⟩⟩, ?_⟩, by simp [Res.refs]⟩
      exact hg.res _ _ h3
    · obtain ⟨h1, h2, h3, h4⟩ := memBlks_mem f4 (k, r) hk
      simp only at h1 h2 h3 h4
      have hmem : k ∈ (A.blks α).map (·.1) := List.mem_map.2 ⟨(k, r), hk, rfl⟩
      have hnot : k ∉ A.mids := fun hin => (List.nodup_append.1 nodup3).2.2 _ hin _ (List.mem_append_left _ hmem) rfl
      have hst : lookR m k = k := stay k (List.mem_append_right _ hmem)
      refine ⟨by simp only [headIds, List.mem_append]; exact .inr (.inl hmem), by rw [(hspfr.1 hnot).1, hst, h2], by rw [(hspfr.1 hnot).2, hst, h3], ⟨fun hl => ⟨r.ren (lookR m), by rw [hst]; exact h1, ?_, ?_⟩, ?_⟩, closedR_mem f12 _ hk⟩
      · rcases h4 with ⟨cs, rfl⟩ | ⟨t, xs, rfl⟩ <;> trivial
      · rcases h4 with ⟨cs, rfl⟩ | ⟨t, xs, rfl⟩ <;> simp [Res.ren]
      · have hr := hg.res _ _ h1
        rcases h4 with ⟨cs, rfl⟩ | ⟨t, xs, rfl⟩
        · obtain ⟨b, vs, ty, h5, h6, h7⟩ := hr
          exact ⟨b, vs, ty, by show g.κ (lookR m k) = _; rw [hst]; exact h5, h6, h7.ren⟩
        · obtain ⟨h0, b, vs, ty, h5, h6, h7⟩ := hr
          exact ⟨by show g.ln (lookR m k) = _; rw [hst]; exact h0, b, vs, ty, by show g.κ (lookR m k) = _; rw [hst]; exact h5, h6, h7⟩
    · obtain ⟨_, h1, h2, h3⟩ := memSame_mem f3 k hin
      have hst : lookR m k = k := stay k (List.mem_append_left _ hin)
      have hcl : ∀ id ∈ r.refs, id ∈ A.mids ++ (A.blks α).map (·.1) := closedM_mem f11 k hin r (by rw [← h1]; exact hk)
      refine ⟨by simp only [headIds, List.mem_append]; exact .inl hin, by rw [(hspfr.2 hin).1, hst, h2], by rw [(hspfr.2 hin).2, hst, h3], ⟨fun hl => ⟨r, by rw [hst]; exact hk, hl, Iff.rfl⟩, ?_⟩, fun id hid => stay_head id (hcl id hid)⟩
      refine (hg.res k r hk).keep (g' := g.ren (lookR m)) (fun _ _ => rfl) (fun _ _ h => h) rfl ?_ ?_
      · show g.κ (lookR m k) = _ ∧ g.ln (lookR m k) = _
        rw [hst]
        exact ⟨rfl, rfl⟩
      · intro i hi
        show g.κ (lookR m i) = _ ∧ g.ln (lookR m i) = _
        rw [stay i (hcl i hi)]
        exact ⟨rfl, rfl⟩
  have inj : ∀ i ∈ headIds A α, ∀ j ∈ headIds A α, i ≠ j → lookR m i ≠ lookR m j := by
    intro i hi j hj hij e
    have hp := List.nodup_iff_pairwise_ne.1 n7
    rw [List.pairwise_map] at hp
    have key : ∀ (l : List Nat), l.Pairwise (fun a b => lookR m a ≠ lookR m b) → i ∈ l → j ∈ l → False := by
      intro l
      induction l with
      | nil => intro _ h; simp at h
      | cons x l ih =>
        intro hp hi hj
        obtain ⟨h1, h2⟩ := List.pairwise_cons.1 hp
        rcases List.mem_cons.1 hi with rfl | hi2 <;> rcases List.mem_cons.1 hj with rfl | hj2
        · exact hij rfl
        · exact h1 j hj2 e
        · exact h1 i hi2 e.symm
        · exact ih h2 hi2 hj2
    exact key _ hp hi hj
  have hrd : ∀ k, (A.head st α).rd = some k → ∃ j, st'.rd = some j ∧ j ≤ k ∧ k ≤ rdLimit := by
    intro k hk
    have hk' : A.rd st.rd α = some k := hk
    rw [hk'] at f13
    cases hr : st'.rd with
    | none => rw [hr] at f13; exact f13.elim
    | some j => rw [hr] at f13; exact ⟨j, rfl, f13⟩
  refine ⟨⟨?_, fun j r hj id hid => hdom id ((there j r hj).2.2.2.2 id hid)⟩, h.size, h.defers, g.ren (lookR m), ⟨hg.ext, hg.ro, fun id r hid => (there id r hid).2.2.2.1.2, ?_, ?_, ?_, ?_, ?_, hg.roo, hg.rho, fun id v hv => (by rw [(hpin id).1] at hv; cases hv), ⟨fun id v hv => (by rw [(hpin id).2] at hv; cases hv), hg.keep.2⟩⟩, ?_⟩
  · -- what the slots name
    intro x id hid
    refine hdom id ?_
    rcases puts_cases x (A.sets α) (puts (keepE A.live st.env) (ownEnv (A.owns α))) with ⟨v, h1, h2⟩ | h1
    · have : (A.head st α).env x = v := h2
      rw [this] at hid
      exact closedV_mem f10 _ h1 id hid
    · rcases puts_cases x (ownEnv (A.owns α)) (keepE A.live st.env) with ⟨v, h2, h3⟩ | h2
      · have : (A.head st α).env x = v := by show puts _ _ x = _; rw [h1, h3]
        rw [this] at hid
        obtain ⟨o, h4, _, h6⟩ := ownEnv_mem h2
        simp only at h6
        subst h6
        simp [S.refs, S0.refs, CV.refs] at hid
        subst hid
        simp only [headIds, List.mem_append]
        exact .inr (.inr (List.mem_map_of_mem h4))
      · have : (A.head st α).env x = keepE A.live st.env x := by show puts _ _ x = _; rw [h1, h2]
        rw [this] at hid
        unfold keepE at hid
        split at hid
        · rename_i hin
          exact stay_head id (closedE_mem f9 x (inL_mem.1 hin) id hid)
        · simp [SE.junk, S.refs, S0.refs, CV.refs] at hid
  · intro i j r s hi hj hij hli hlj b hbi hbj
    obtain ⟨i1, i2, i3, ⟨i4, i5⟩, _⟩ := there i r hi
    obtain ⟨j1, j2, j3, ⟨j4, j5⟩, _⟩ := there j s hj
    obtain ⟨r', ri1, ri2, _⟩ := i4 hli
    obtain ⟨s', sj1, sj2, _⟩ := j4 hlj
    obtain ⟨f, t, xs, ys, h1, h2, _⟩ := hg.sep _ _ r' s' ri1 sj1 (inj i i1 j j1 hij) ri2 sj2 b hbi hbj
    subst h1 h2
    exact (famsOf_diff n8 (List.mem_map_of_mem i1) (List.mem_map_of_mem j1) (inj i i1 j j1 hij) ri1 sj1).elim
  · intro i r hi hl b hb
    obtain ⟨i1, i2, i3, ⟨i4, i5⟩, _⟩ := there i r hi
    obtain ⟨r', ri1, ri2, _⟩ := i4 hl
    exact hg.fresh _ r' ri1 ri2 b hb
  · intro i r hi hl b hb h1 h2
    obtain ⟨i1, i2, i3, ⟨i4, i5⟩, _⟩ := there i r hi
    obtain ⟨r', ri1, ri2, _⟩ := i4 hl
    exact hg.wro _ r' ri1 ri2 b hb (by rw [← i2]; exact h1) (by rw [← i3]; exact h2)
  · intro k hk
    obtain ⟨j, hj, hle, hlim⟩ := hrd k hk
    obtain ⟨⟨_, hout, code, v, p, ty, hc, hd, hl, h0, hp⟩, hin, hno⟩ := hg.rd j hj
    refine ⟨⟨hlim, hout, code, v, p, ty, hc, hd, hl, h0, by omega⟩, hin, ?_⟩
    intro i r hi hl
    obtain ⟨i1, i2, i3, ⟨i4, i5⟩, _⟩ := there i r hi
    obtain ⟨r', ri1, ri2, _⟩ := i4 hl
    exact hno _ r' ri1 ri2
  · intro hn
    cases hk : (A.head st α).rd with
    | none => exact (hn hk).elim
    | some k =>
      obtain ⟨j, hj, _⟩ := hrd k hk
      exact hg.rds (by rw [hj]; simp)
  · intro x
    rcases puts_cases x (A.sets α) (puts (keepE A.live st.env) (ownEnv (A.owns α))) with ⟨v, h1, h2⟩ | h1
    · have e : (A.head st α).env x = v := h2
      rw [e]
      have := henv x
      rw [envSets_mem f2 _ h1] at this
      exact S.ren_R this
    · rcases puts_cases x (ownEnv (A.owns α)) (keepE A.live st.env) with ⟨v, h2, h3⟩ | h2
      · have e : (A.head st α).env x = v := by show puts _ _ x = _; rw [h1, h3]
        rw [e]
        obtain ⟨o, h4, h5, h6⟩ := ownEnv_mem h2
        simp only at h5 h6
        subst h6
        have hs := hsrc nown o h4
        rw [h5] at hs
        simp only [srcId] at hs
        split at hs
        · rename_i id he
          injection hs with hs
          have := henv x
          rw [he, hs] at this
          exact this
        · cases hs
      · have e : (A.head st α).env x = keepE A.live st.env x := by show puts _ _ x = _; rw [h1, h2]
        rw [e]
        unfold keepE
        split
        · rename_i hin
          have hin' := inL_mem.1 hin
          have := henv x
          rw [envSame_mem f1 x hin'] at this
          refine S.R.mono (g := g) (g' := g.ren (lookR m)) (fun _ _ h => h) rfl (fun id hid => ?_) this
          show g.κ (lookR m id) = _ ∧ g.ln (lookR m id) = _
          rw [stay id (closedE_mem f9 x hin' id hid)]
          exact ⟨rfl, rfl⟩
        · trivial

end
end Go.SE

namespace Go.SE

def clsOf (K : FuncId → Option Con) (tab : TypeId → Option TI) (o : Oper) : Nat :=
  match o.op with
  | .move _ | .assign _ => 1
  | .pick .. | .binOp .. | .unOp .. | .convert .. | .nilCheck _ | .fieldAddr .. | .field .. | .extract .. => 0
  | .alloc _ | .box .. | .build .. | .load .. | .indexAddr .. | .index .. | .makeSlice .. => 1
  | .slice .. => 5
  | .buildSlice t _ _ => match tab t with
    | some ⟨_, _, .sl _ _ t⟩ => if t.flat then 1 else 3
    | _ => 4
  | .call ⟨.value (.func f), _, _⟩ => match K f with
    | some con => if con.rks.length ≤ 7 then (if nested con.rks then (if hasRdr con.aks then 4 else 3) else if hasRdr con.aks then 2 else 1) else 4
    | none => 4
  | .call ⟨.builtin .append, _, _⟩ => 3
  | .call ⟨.builtin .len, _, _⟩ => 1
  | _ => 4

def clash (a b : Nat) : Bool := a == 4 || b == 4 || (a == 2 && b == 2) || (a == 3 && (b == 3 || b == 5)) || (a == 5 && b == 3)

def certOk (ops : Array Oper) (bf : Array Nat) : Bool :=
  (List.range ops.size).all fun j => (List.range ops.size).all fun i =>
    !(bf.getD j 0).testBit i || (match ops[j]? with
      | some o => o.after.toList.any fun e => Region.binds .any e && decide (e.on < j) && (e.on == i || (bf.getD e.on 0).testBit i)
      | none => false)

def dstOk (K : FuncId → Option Con) (tab : TypeId → Option TI) (o : Oper) : Bool := o.dst.isSome || clsOf K tab o == 0

def backOk (ops : Array Oper) : Bool :=
  (List.range ops.size).all fun j => match ops[j]? with
    | some o => o.after.toList.all fun e => !Region.binds .any e || decide (e.on < j)
    | none => true

def lateP (x y : Oper) : Bool :=
  match x.op, x.guard, y.op, y.guard, y.dst with
  | .extract _ _, none, .store _ _ _, none, none => true
  | _, _, _, _, _ => false

def pairOk (K : FuncId → Option Con) (tab : TypeId → Option TI) (ops : Array Oper) (bf : Array Nat) (i j : Nat) : Bool :=
  match ops[i]?, ops[j]? with
  | some oi, some oj => (bf.getD j 0).testBit i || (oi.apart ops oj && !clash (clsOf K tab oi) (clsOf K tab oj) && dstOk K tab oi && dstOk K tab oj) || (oi.apart ops oj && lateP oi oj)
  | _, _ => true

def drawOk (K : FuncId → Option Con) (tab : TypeId → Option TI) (ops : Array Oper) : Bool :=
  certOk ops (Region.before ops) && backOk ops && (List.range ops.size).all fun j => (List.range j).all fun i => pairOk K tab ops (Region.before ops) i j

def linExts (ops : Array Oper) : Nat → Array Bool → List (List Nat)
  | 0, _ => [[]]
  | fuel + 1, listed => match Region.ready .any ops listed with
    | [] => [[]]
    | i :: l => (i :: l).flatMap fun j => (linExts ops fuel (listed.setIfInBounds j true)).map (j :: ·)

def linDone (ops : Array Oper) : Nat → Array Bool → Bool
  | 0, listed => (Region.ready .any ops listed).isEmpty
  | fuel + 1, listed => (Region.ready .any ops listed).all fun j => linDone ops fuel (listed.setIfInBounds j true)

def permOk (ops : Array Oper) (ls : List (List Nat)) : Bool :=
  linDone ops ops.size (Array.replicate ops.size false) && (linExts ops ops.size (Array.replicate ops.size false)).all fun l => ls.contains l

end Go.SE

namespace Go.SE
open Go.RowKit

section
variable {P : Program} {E : Ty → TypeId} {tab : TypeId → Option TI} {K : FuncId → Option Con} {anns : Nat → Option Ann} {perm : Nat → List (List Nat)} {w0 : World} {M : MM} {n : Nat}

def XK.exit' : XK → Exit
  | .normal => .normal
  | .exit id => .exit id
  | .ret => .ret

def codeOk (tab : TypeId → Option TI) (K : FuncId → Option Con) (perm : Nat → List (List Nat)) (n : Nat) : Code → Bool
  | .region id ops draw => opsOk n ops.toList && (match perm id with
    | [] => !draw || drawOk K tab ops
    | l :: ls => draw && permOk ops (l :: ls))
  | .seq a b => codeOk tab K perm n a && codeOk tab K perm n b
  | .block _ c => codeOk tab K perm n c
  | .loop c => codeOk tab K perm n c
  | .cond _ a b => codeOk tab K perm n a && codeOk tab K perm n b
  | _ => true

def DrawSound (P : Program) (E : Ty → TypeId) (tab : TypeId → Option TI) (K : FuncId → Option Con) (w0 : World) (M : MM) (n : Nat) : Prop :=
  ∀ (id : Nat) (ops : Array Oper) (st : St) (a : Act) (w : World) (k : St → Prop) (Q : Exit → Act → World → Prop), drawOk K tab ops = true → opsOk n ops.toList = true → Rel E w0 M n st a w → vcOps tab K ops ops.toList st k →
    (∀ st' a' w', Rel E w0 M n st' a' w' → k st' → Q .normal a' w') → (Code.region id ops true).wp P Q a w

theorem least {p : Nat → Prop} (h : ∃ m, p m) : ∃ m, p m ∧ ∀ k, p k → m ≤ k := by
  obtain ⟨m, hm⟩ := h
  induction m using Nat.strongRecOn with
  | _ m ih =>
    by_cases hk : ∃ k, k < m ∧ p k
    · obtain ⟨k, h1, h2⟩ := hk
      exact ih k h1 h2
    · refine ⟨m, hm, fun k hk' => ?_⟩
      apply Classical.byContradiction
      intro hlt
      exact hk ⟨k, by omega, hk'⟩

theorem Rel.drawn {st : St} {a : Act} {w : World} (h : Rel E w0 M n st a w) : Rel E w0 M n st a { w with drawn := w.drawn + 1 } := by
  obtain ⟨g, hg, henv⟩ := h.good
  have hres : ∀ id r, st.mem id = some r → ResR E { w with drawn := w.drawn + 1 } g id r := by
    intro id r hr
    have := hg.res id r hr
    cases r <;> exact this
  have hrd : ∀ n, st.rd = some n → RdOk { w with drawn := w.drawn + 1 } g.ro g.ρ n ∧ (w0.heap.size ≤ g.ρ ∨ M.can g.ρ) ∧ ∀ id r, st.mem id = some r → r.live → blkOf (g.κ id) ≠ some g.ρ := by
    intro m hm
    obtain ⟨⟨h1, h2, h3⟩, h4⟩ := hg.rd m hm
    exact ⟨⟨h1, h2, h3⟩, h4⟩
  exact ⟨h.cl, h.size, h.defers, g, ⟨⟨hg.ext.os, hg.ext.tape, hg.ext.output, hg.ext.size, hg.ext.block⟩, hg.ro, hres, hg.sep, hg.fresh, hg.wro, hrd, hg.rds, hg.roo, hg.rho, hg.pin, hg.keep⟩, henv⟩

theorem vcTr_all {ι : Type} {f : ι → St → Prop} {L : ι → Prop} (l0 : ι) (h0 : L l0) {dst : Option Nat} {st : St} {t : Option Tr} (h : ∀ l, L l → vcTr dst st (f l) t) : vcTr dst st (fun s => ∀ l, L l → f l s) t := by
  cases t with
  | none => exact h l0 h0
  | some t =>
    refine ⟨(h l0 h0).1, ?_⟩
    have h2 : ∀ l, L l → vcDet (fun r => f l (st.app dst t r)) t.post t.det := fun l hl => (h l hl).2
    unfold vcDet at h2 ⊢
    split
    · rename_i r hr
      intro l hl
      have := h2 l hl
      rw [hr] at this
      exact this
    · rename_i hr
      intro r hp l hl
      have := h2 l hl
      rw [hr] at this
      exact this r hp

theorem vcStep_none {ops : Array Oper} {o : Oper} (h : o.guard = none) (st : St) (k : St → Prop) : vcStep tab K ops o st k = vcOp tab K o st k := by simp only [vcStep, h]

def vcGuard (tab : TypeId → Option TI) (K : FuncId → Option Con) (o : Oper) (g : Nat) (b want : Bool) (st : St) (k : St → Prop) : Prop :=
  if b = want then vcOp tab K o st k else k (St.put st o.dst (.tup []))

theorem St.self {st : St} {g : Nat} {b : Bool} (h : st.env g = sv (.bool b)) : ({ st with env := upd st.env g (sv (.bool b)) } : St) = st := by
  rw [upd_self st.env g (sv (.bool b)) h]

theorem vcStep_some {ops : Array Oper} {o : Oper} {j g : Nat} {want b : Bool} {st : St} {k : St → Prop} (h : o.guard = some (j, want)) (hg : gslot ops j = some g) (he : st.env g = sv (.bool b)) : vcStep tab K ops o st k ↔ vcGuard tab K o g b want st k := by
  simp only [vcStep, h, hg, he]
  unfold vcGuard
  have hs := St.self he
  cases b <;> cases want <;> simp [vcIf, hs]

theorem vcStep_pass {ops : Array Oper} {o : Oper} {j g : Nat} {want : Bool} {st : St} {k : St → Prop} (h : o.guard = some (j, want)) (hg : gslot ops j = some g) (he : st.env g = .tup []) : vcStep tab K ops o st k ↔ k (St.put st o.dst (.tup [])) := by
  simp only [vcStep, h, hg, he]

theorem vcStep_inv {ops : Array Oper} {o : Oper} {st : St} {k : St → Prop} (hv : vcStep tab K ops o st k) : o.guard = none ∨ (∃ j g want b, o.guard = some (j, want) ∧ gslot ops j = some g ∧ st.env g = sv (.bool b)) ∨ ∃ j g want, o.guard = some (j, want) ∧ gslot ops j = some g ∧ st.env g = .tup [] := by
  cases ho : o.guard with
  | none => exact .inl rfl
  | some gw =>
    obtain ⟨j, want⟩ := gw
    simp only [vcStep, ho] at hv
    split at hv
    · exact hv.elim
    · rename_i g hg
      split at hv
      · rename_i b hb
        exact .inr (.inl ⟨j, g, want, b, rfl, hg, hb⟩)
      · rename_i hb
        exact .inr (.inr ⟨j, g, want, rfl, hg, hb⟩)
      · exact hv.elim

theorem vcStep_all {ι : Type} {f : ι → St → Prop} {L : ι → Prop} (l0 : ι) (h0 : L l0) {ops : Array Oper} {o : Oper} {st : St} (h : ∀ l, L l → vcStep tab K ops o st (f l)) : vcStep tab K ops o st (fun s => ∀ l, L l → f l s) := by
  rcases vcStep_inv (h l0 h0) with ho | ⟨j, g, want, b, h1, h2, h3⟩ | ⟨j, g, want, h1, h2, h3⟩
  · simp only [vcStep_none ho] at h ⊢
    exact vcTr_all l0 h0 h
  · simp only [vcStep_some h1 h2 h3] at h ⊢
    unfold vcGuard at h ⊢
    split
    · rename_i e
      simp only [if_pos e] at h
      exact vcTr_all l0 h0 h
    · rename_i e
      simp only [if_neg e] at h
      exact h
  · simp only [vcStep_pass h1 h2 h3] at h ⊢
    exact h

theorem vcEach_mem {ops : Array Oper} {st : St} {k : St → Prop} : ∀ {ls : List (List Nat)}, vcEach tab K ops st k ls → ∀ l ∈ ls, vcOps tab K ops (pickOps ops l) st k := by
  intro ls
  induction ls with
  | nil => intro _ l h; cases h
  | cons x ls ih => intro h l hl; rcases List.mem_cons.1 hl with rfl | hl; exact h.1; exact ih h.2 l hl

theorem any_sound (ht : TabOk P E tab) (hKA : KAll P E K) {ops : Array Oper} (hok : opsOk n ops.toList = true) {k : St → Prop} {Q : Exit → Act → World → Prop} (hQ : ∀ st' a' w', Rel E w0 M n st' a' w' → k st' → Q .normal a' w') :
    ∀ (fuel : Nat) (listed : Array Bool) (st : St) (a : Act) (w : World), linDone ops fuel listed = true → Rel E w0 M n st a w → (∀ l ∈ linExts ops fuel listed, vcOps tab K ops (pickOps ops l) st k) → wpAny P .any ops Q fuel listed a w := by
  intro fuel
  induction fuel with
  | zero =>
    intro listed st a w hd h hv
    simp only [linDone, List.isEmpty_iff] at hd
    exact ⟨hd, hQ st a w h (hv [] (by simp [linExts]))⟩
  | succ fuel ih =>
    intro listed st a w hd h hv
    simp only [linDone, List.all_eq_true] at hd
    refine ⟨fun he => hQ st a w h (hv [] (by simp [linExts, he])), fun i hi => ?_⟩
    have hmem : ∀ l ∈ linExts ops fuel (listed.setIfInBounds i true), (i :: l) ∈ linExts ops (fuel + 1) listed := by
      intro l hl
      simp only [linExts]
      split
      · rename_i he; rw [he] at hi; cases hi
      · rename_i x xs he
        rw [he] at hi
        exact List.mem_flatMap.2 ⟨i, hi, List.mem_map.2 ⟨l, hl, rfl⟩⟩
    unfold wpOp
    cases ho : ops[i]? with
    | none =>
      exact ih _ st a w (hd i hi) h fun l hl => by
        have := hv _ (hmem l hl)
        simpa [pickOps, ho] using this
    | some o =>
      have ho' : o ∈ ops.toList := by
        have := Array.mem_of_getElem? ho
        simpa using this
      obtain ⟨h1, h2⟩ := opsOk_mem hok o ho'
      have hne : ∃ l, l ∈ linExts ops fuel (listed.setIfInBounds i true) := by
        have hex : ∀ (f : Nat) (ls : Array Bool), ∃ l, l ∈ linExts ops f ls := by
          intro f
          induction f with
          | zero => intro ls; exact ⟨[], by simp [linExts]⟩
          | succ f ihf =>
            intro ls
            simp only [linExts]
            split
            · exact ⟨[], by simp⟩
            · rename_i x xs _
              obtain ⟨l, hl⟩ := ihf (ls.setIfInBounds x true)
              exact ⟨x :: l, List.mem_flatMap.2 ⟨x, by simp, List.mem_map.2 ⟨l, hl, rfl⟩⟩⟩
        exact hex _ _
      obtain ⟨l0, hl0⟩ := hne
      have hall : ∀ l, l ∈ linExts ops fuel (listed.setIfInBounds i true) → vcStep tab K ops o st (fun s => vcOps tab K ops (pickOps ops l) s k) := by
        intro l hl
        have := hv _ (hmem l hl)
        simpa only [pickOps, ho, vcOps] using this
      exact step_sound ht hKA h1 h2 h (vcStep_all l0 hl0 hall) fun st' a' w' hr hk => ih _ st' a' w' (hd i hi) hr fun l hl => hk l hl

open Classical in
theorem code_sound (ht : TabOk P E tab) (hKA : KAll P E K) (hmix : P.follows .mixedOrders = true) (hdr : DrawSound P E tab K w0 M n) (hpin : ∀ (k : Nat) (A : Ann), anns k = some A → ∀ id, M.pin id = none ∧ M.pinl id = none) : ∀ (c : Code) (st : St) (a : Act) (w : World) (Qs : XK → St → Prop) (Q : Exit → Act → World → Prop), codeOk tab K perm n c = true → Rel E w0 M n st a w → vc tab K anns perm c st Qs →
    (∀ x st' a' w', Rel E w0 M n st' a' w' → Qs x st' → Q x.exit' a' w') → c.wp P Q a w := by
  intro c
  induction c with
  | skip => intro st a w Qs Q _ h hv hQ; exact wp_skip (hQ .normal st a w h hv)
  | region id ops draw =>
    intro st a w Qs Q hok h hv hQ
    simp only [codeOk, Bool.and_eq_true] at hok
    obtain ⟨hok1, hok2⟩ := hok
    simp only [vc] at hv
    cases hp : perm id with
    | nil =>
      rw [hp] at hv hok2
      simp only [vcReg] at hv
      simp only at hok2
      cases draw with
      | false => exact wp_region_list (seq_sound ht hKA (fun st' a' w' hr hk => hQ .normal st' a' w' hr hk) ops.toList st a w (opsOk_mem hok1) h hv)
      | true => exact hdr id ops st a w _ Q (by simpa using hok2) hok1 h hv fun st' a' w' hr hk => hQ .normal st' a' w' hr hk
    | cons l ls =>
      rw [hp] at hv hok2
      simp only [vcReg] at hv
      simp only [Bool.and_eq_true, permOk, List.all_eq_true] at hok2
      obtain ⟨hd, hp1, hp2⟩ := hok2
      subst hd
      refine wp_region_any hmix (any_sound ht hKA hok1 (fun st' a' w' hr hk => hQ .normal st' a' w' hr hk) _ _ st a _ hp1 h.drawn fun x hx => vcEach_mem hv x ?_)
      have := hp2 x hx
      simpa using this
  | seq x y ihx ihy =>
    intro st a w Qs Q hok h hv hQ
    simp only [codeOk, Bool.and_eq_true] at hok
    refine wp_seq (ihx st a w _ _ hok.1 h hv fun k st' a' w' hr hk => ?_)
    cases k with
    | normal => exact ihy st' a' w' Qs Q hok.2 hr hk hQ
    | exit id => exact hQ (.exit id) st' a' w' hr hk
    | ret => exact hQ .ret st' a' w' hr hk
  | cond cnd x y ihx ihy =>
    intro st a w Qs Q hok h hv hQ
    simp only [codeOk, Bool.and_eq_true] at hok
    simp only [vc] at hv
    unfold condK at hv
    split at hv
    · rename_i t he
      have hval := (ev_val h he).1
      cases t with
      | true => exact wp_cond_true hval (ihx st a w Qs Q hok.1 h (vcIf_t hv) hQ)
      | false => exact wp_cond_false hval (ihy st a w Qs Q hok.2 h (vcIf_f hv) hQ)
    · exact hv.elim
  | block id x ih =>
    intro st a w Qs Q hok h hv hQ
    refine wp_block (ih st a w _ _ hok h hv fun k st' a' w' hr hk => ?_)
    cases k with
    | normal => exact hQ .normal st' a' w' hr hk
    | exit id' =>
      simp only [XK.exit', Exit.inBlock]
      simp only [blockK] at hk
      split
      · rename_i e; rw [if_pos e] at hk; exact hQ .normal st' a' w' hr hk
      · rename_i e; rw [if_neg e] at hk; exact hQ (.exit id') st' a' w' hr hk
    | ret => exact hQ .ret st' a' w' hr hk
  | loop x ih =>
    intro st a w Qs Q hok h hv hQ
    simp only [vc] at hv
    unfold vcLoop at hv
    split at hv
    · exact hv.elim
    · rename_i α ok mu i0 nx live sets mids blks owns rd base hA
      let A : Ann := ⟨α, ok, mu, i0, nx, live, sets, mids, blks, owns, rd, base⟩
      obtain ⟨⟨ho0, hf0⟩, hround⟩ := hv
      let α0 : A.α := i0 st
      have hex : ∀ (a : Act) (w : World), (∃ α, A.ok α ∧ Rel E w0 M n (A.head st α) a w) → ∃ m, ∃ α, A.ok α ∧ Rel E w0 M n (A.head st α) a w ∧ A.mu α = m :=
        fun a w ⟨α, h1, h2⟩ => ⟨_, α, h1, h2, rfl⟩
      let μ : Act → World → Nat := fun a w => if hh : ∃ m, ∃ α, A.ok α ∧ Rel E w0 M n (A.head st α) a w ∧ A.mu α = m then Classical.choose (least hh) else 0
      refine wp_loop (fun a w => ∃ α, A.ok α ∧ Rel E w0 M n (A.head st α) a w) μ ⟨α0, ho0, h.head (hpin _ _ hA) hf0⟩ ?_
      intro a w hI
      have hh := hex a w hI
      obtain ⟨α, h1, h2, h3⟩ := (Classical.choose_spec (least hh)).1
      have hμ : μ a w = A.mu α := by simp only [μ, dif_pos hh]; exact h3.symm
      refine ih _ a w _ _ hok h2 (hround α h1) fun k st' a' w' hr hk => ?_
      cases k with
      | normal =>
        obtain ⟨g1, g2, g3⟩ := hk
        let α' : A.α := nx α st'
        have g3' : A.fits st st' α' := g3
        have hrel := hr.head (hpin _ _ hA) g3'
        refine ⟨⟨α', g1, hrel⟩, ?_⟩
        have hh' : ∃ m, ∃ α, A.ok α ∧ Rel E w0 M n (A.head st α) a' w' ∧ A.mu α = m := ⟨_, α', g1, hrel, rfl⟩
        have : μ a' w' ≤ A.mu α' := by simp only [μ, dif_pos hh']; exact (Classical.choose_spec (least hh')).2 _ ⟨α', g1, hrel, rfl⟩
        have g2' : A.mu α' < A.mu α := g2
        omega
      | exit id => exact hQ (.exit id) st' a' w' hr hk
      | ret => exact hQ .ret st' a' w' hr hk
  | exit id => intro st a w Qs Q _ h hv hQ; exact wp_exit (hQ (.exit id) st a w h hv)
  | ret => intro st a w Qs Q _ h hv hQ; exact wp_ret (hQ .ret st a w h hv)
  | _ => intro st a w Qs Q _ h hv hQ; exact hv.elim

end
end Go.SE

namespace Go.SE

theorem rdl_ag {m m' : Nat → Option Res} {t : Ty} {c : CV} (h : ∀ id ∈ c.refs, m' id = m id) : rdl m' t c = rdl m t c := by
  cases c with
  | own id => simp only [rdl, h id (by simp [CV.refs])]
  | d x => cases x <;> rfl
  | _ => rfl

theorem datas_ag {m m' : Nat → Option Res} : ∀ {vs : List CV}, (∀ id ∈ refsL vs, m' id = m id) → datas m' vs = datas m vs := by
  intro vs
  induction vs with
  | nil => intro _; rfl
  | cons v l ih =>
    intro h
    simp only [datas, ih fun id hid => h id (by simp [refsL, hid])]
    cases v with
    | own id => simp only [h id (by simp [refsL, CV.refs])]
    | _ => rfl

theorem partCells_refs {sz : Nat} {s : S} {vs : List CV} (h : partCells sz s = some vs) : ∀ id ∈ refsL vs, id ∈ s.refs := by
  intro id hid
  unfold partCells at h
  split at h
  · cases h
  · split at h
    · injection h with h; subst h; simpa [refsL, S.refs, S0.refs] using hid
    · cases h
  · split at h
    · injection h with h; subst h; exact hid
    · cases h
  · cases h

theorem elemOf_ag {m m' : Nat → Option Res} {t : Ty} {s : S} (h : ∀ id ∈ s.refs, m' id = m id) : elemOf m' t s = elemOf m t s := by
  unfold elemOf
  cases hp : partCells t.sz s with
  | none => rfl
  | some vs => simp only [datas_ag fun id hid => h id (partCells_refs hp id hid)]

structure AgX (st st' : St) (x : Operand) : Prop where
  ev : SE.ev st' x = SE.ev st x
  mem : ∀ id ∈ (SE.ev st x).refs, st'.mem id = st.mem id

theorem elemsOf_ag {st st' : St} {t : Ty} : ∀ {ps : List (Nat × Operand)} {k : Nat}, (∀ p ∈ ps, AgX st st' p.2) → elemsOf st' t k ps = elemsOf st t k ps := by
  intro ps
  induction ps with
  | nil => intro k _; rfl
  | cons p l ih =>
    intro k h
    obtain ⟨i, x⟩ := p
    have h1 := h (i, x) (by simp)
    simp only [elemsOf, ih fun p hp => h p (by simp [hp]), h1.ev, elemOf_ag h1.mem]

theorem fills_ag {st st' : St} {fs : List (Nat × Nat × Bool)} : ∀ {ps : List (Nat × Operand)} {cs : List CV}, (∀ p ∈ ps, AgX st st' p.2) → fills st' fs cs ps = fills st fs cs ps := by
  intro ps
  induction ps with
  | nil => intro cs _; rfl
  | cons p l ih =>
    intro cs h
    obtain ⟨i, x⟩ := p
    have h1 := h (i, x) (by simp)
    simp only [fills, h1.ev]
    split
    · split
      · split
        · exact ih fun p hp => h p (by simp [hp])
        · rfl
      · rfl
    · rfl

theorem dec_ag {m m' : Nat → Option Res} {k : AK} {s : S0} (h : ∀ id ∈ s.refs, m' id = m id) : k.dec m' s = k.dec m s := by
  unfold AK.dec
  split
  case h_8 f a => simp only [rdl_ag (m := m) (m' := m') (c := f) fun id hid => h id (by simp [S0.refs, refsL, hid]), rdl_ag (m := m) (m' := m') (c := a) fun id hid => h id (by simp [S0.refs, refsL, hid])]
  case h_9 f a => simp only [rdl_ag (m := m) (m' := m') (c := f) fun id hid => h id (by simp [S0.refs, refsL, hid]), rdl_ag (m := m) (m' := m') (c := a) fun id hid => h id (by simp [S0.refs, refsL, hid])]
  case h_10 =>
    rename_i f a b c
    simp only [rdl_ag (m := m) (m' := m') (c := f) fun id hid => h id (by simp [S0.refs, refsL, hid]), rdl_ag (m := m) (m' := m') (c := a) fun id hid => h id (by simp [S0.refs, refsL, hid]),
      rdl_ag (m := m) (m' := m') (c := b) fun id hid => h id (by simp [S0.refs, refsL, hid]), rdl_ag (m := m) (m' := m') (c := c) fun id hid => h id (by simp [S0.refs, refsL, hid])]
  case h_11 t x => exact rdl_ag fun id hid => h id hid
  all_goals first
    | rfl
    | (rename_i id; simp only [h id (by simp [S0.refs, CV.refs])])
    | (split <;> simp_all)

theorem decs_ag {m m' : Nat → Option Res} : ∀ {ks : List AK} {ss : List S0}, (∀ id ∈ refsT ss, m' id = m id) → decs m' ks ss = decs m ks ss := by
  intro ks
  induction ks with
  | nil => intro ss _; cases ss <;> rfl
  | cons k ks ih =>
    intro ss h
    cases ss with
    | nil => rfl
    | cons s ss => simp only [decs, ih (ss := ss) fun id hid => h id (by simp [refsT, hid]), dec_ag (k := k) (s := s) fun id hid => h id (by simp [refsT, hid])]

theorem ownsC_ag {m m' : Nat → Option Res} : ∀ {l : List Nat}, (∀ id ∈ l, m' id = m id) → ownsC m' l = ownsC m l := by
  intro l
  induction l with
  | nil => intro _; rfl
  | cons x l ih => intro h; simp only [ownsC, ih fun id hid => h id (by simp [hid]), h x (by simp)]

theorem notSpent_ag {st st' : St} : ∀ {l : List Nat}, (∀ id ∈ l, st'.sp id = st.sp id) → notSpent st' l = notSpent st l := by
  intro l
  induction l with
  | nil => intro _; rfl
  | cons x l ih => intro h; simp only [notSpent, ih fun id hid => h id (by simp [hid]), h x (by simp)]

theorem argsS_ag {st st' : St} : ∀ {l : List Operand}, (∀ x ∈ l, AgX st st' x) → argsS st' l = argsS st l := by
  intro l
  induction l with
  | nil => intro _; rfl
  | cons x l ih => intro h; simp only [argsS, ih fun y hy => h y (by simp [hy]), (h x (by simp)).ev]

theorem argsS_refs2 {st : St} : ∀ {l : List Operand} {ss : List S0}, argsS st l = some ss → ∀ id ∈ refsT ss, ∃ x ∈ l, id ∈ (ev st x).refs := by
  intro l
  induction l with
  | nil => intro ss h id hid; simp only [argsS, Option.some.injEq] at h; subst h; simp [refsT] at hid
  | cons x l ih =>
    intro ss h id hid
    simp only [argsS] at h
    split at h
    · rename_i s ss' h1 h2
      injection h with h
      subst h
      simp only [refsT, List.mem_append] at hid
      rcases hid with hid | hid
      · exact ⟨x, by simp, by rw [h1]; exact hid⟩
      · obtain ⟨y, hy, hr⟩ := ih h2 id hid
        exact ⟨y, by simp [hy], hr⟩
    · cases h

def AgN (st st' : St) (d : Nat) : Prop := st'.base = st.base ∧ ∀ j, j < 16 → st'.mem (nid st.base d j) = st.mem (nid st.base d j)

theorem AgN.free {st st' : St} {d : Nat} (h : AgN st st' d) {j : Nat} (hj : j < 16) : free st' d j = free st d j := by
  unfold SE.free; rw [h.1, h.2 j hj]

theorem rids_range : ∀ (ks : List AK) (i : Nat), ∀ id ∈ rids ks i, i ≤ id ∧ id < i + 2 * ks.length := by
  intro ks
  induction ks with
  | nil => intro i id h; simp [rids] at h
  | cons k ks ih =>
    intro i id h
    simp only [rids, List.mem_append] at h
    rcases h with h | h
    · cases k <;> simp [AK.rids] at h <;> simp <;> omega
    · have := ih _ _ h; simp; omega

theorem freeL_ag {st st' : St} : ∀ {l : List Nat}, (∀ id ∈ l, st'.mem id = st.mem id) → freeL st' l = freeL st l := by
  intro l
  induction l with
  | nil => intro _; rfl
  | cons x l ih => intro h; simp only [freeL, ih fun id hid => h id (by simp [hid]), h x (by simp)]

theorem allFree_ag {st st' : St} : ∀ {l : List (Nat × Res)}, (∀ p ∈ l, st'.mem p.1 = st.mem p.1) → allFree st' l = allFree st l := by
  intro l
  induction l with
  | nil => intro _; rfl
  | cons p l ih => intro h; obtain ⟨k, r⟩ := p; simp only [allFree, ih fun q hq => h q (by simp [hq]), h (k, r) (by simp)]

theorem zcells_range {base d : Nat} : ∀ (cks : List CK) (j : Nat), ∀ p ∈ (zcells base d cks j).2, ∃ i, j ≤ i ∧ i < j + cks.length ∧ p.1 = nid base d i ∧ p.2.refs = [] := by
  intro cks
  induction cks with
  | nil => intro j p h; simp [zcells] at h
  | cons c l ih =>
    intro j p h
    cases c with
    | sc z => obtain ⟨i, h1, h2, h3⟩ := ih (j + 1) p (by simpa [zcells] using h); exact ⟨i, by omega, by simp; omega, h3⟩
    | sl t =>
      simp only [zcells, List.mem_cons] at h
      rcases h with h | h
      · subst h; exact ⟨j, Nat.le_refl _, by simp, rfl, rfl⟩
      · obtain ⟨i, h1, h2, h3⟩ := ih (j + 1) p h; exact ⟨i, by omega, by simp; omega, h3⟩

end Go.SE

namespace Go.SE

section
variable {tab : TypeId → Option TI} {K : FuncId → Option Con} {st st' : St} {d : Nat}

theorem trMove_ag {ty : Nat} {x : Operand} (h : AgX st st' x) (hn : AgN st st' d) : trMove tab st' ty d x = trMove tab st ty d x := by
  have e : moveId st' d = moveId st d := by
    unfold moveId
    rw [hn.1, hn.2 0 (by omega), hn.2 14 (by omega)]
  have e2 : st'.mem (moveId st d) = st.mem (moveId st d) := by
    unfold moveId
    split
    · exact hn.2 0 (by omega)
    · split
      · exact hn.2 14 (by omega)
      · exact hn.2 13 (by omega)
  unfold trMove
  rw [h.ev, e, e2]

theorem trPick_ag {c x y : Operand} (h1 : AgX st st' c) (h2 : AgX st st' x) (h3 : AgX st st' y) : trPick st' c x y = trPick st c x y := by
  unfold trPick
  rw [h1.ev, h2.ev, h3.ev]

theorem zeroOf_range {base : Nat} {k : TK} {r : Res} {l : List (Nat × Res)} (h : zeroOf base d k = some (r, l)) (hk : ∀ cks fs, k = .st cks fs → cks.length ≤ 15) : ∀ p ∈ l, ∃ i, i < 15 ∧ p.1 = nid base d i ∧ p.2.refs = [] := by
  intro p hp
  unfold zeroOf at h
  split at h
  · injection h with h; injection h with _ h; subst h; cases hp
  · injection h with h; injection h with _ h; subst h
    simp at hp; subst hp
    exact ⟨0, by omega, rfl, rfl⟩
  · rename_i cks fs
    injection h with h; injection h with _ h; subst h
    obtain ⟨i, _, h2, h3⟩ := zcells_range cks 0 p hp
    exact ⟨i, by have := hk cks fs rfl; omega, h3⟩
  · injection h with h; injection h with _ h; subst h; cases hp
  · cases h

def TabSmall (tab : TypeId → Option TI) : Prop := ∀ ty a b cks fs, tab ty = some ⟨a, b, .st cks fs⟩ → cks.length ≤ 15

theorem trAlloc_ag {ty : Nat} (hs : TabSmall tab) (hn : AgN st st' d) : trAlloc tab st' ty d = trAlloc tab st ty d := by
  unfold trAlloc
  split
  · rename_i ti hti
    rw [hn.1]
    cases hz : zeroOf st.base d ti.k with
    | none => rfl
    | some p =>
      obtain ⟨r, l⟩ := p
      have e : allFree st' ((nid st.base d 15, r) :: l) = allFree st ((nid st.base d 15, r) :: l) := by
        refine allFree_ag fun p hp => ?_
        rcases List.mem_cons.1 hp with rfl | hp
        · exact hn.2 15 (by omega)
        · obtain ⟨i, h1, h2, _⟩ := zeroOf_range hz (fun cks fs he => hs ty ti.sz ti.bytes cks fs (by rw [hti, ← he])) p hp
          rw [h2]; exact hn.2 i (by omega)
      simp only [e]
  · rfl

theorem trBox_ag {x : Operand} (h : AgX st st' x) (hn : AgN st st' d) : trBox st' d x = trBox st d x := by
  unfold trBox
  rw [h.ev, hn.free (by omega), hn.1]

theorem trBuild_ag {ty : Nat} {ps : List (Nat × Operand)} (hs : TabSmall tab) (h : ∀ p ∈ ps, AgX st st' p.2) (hn : AgN st st' d) : trBuild tab st' ty d ps = trBuild tab st ty d ps := by
  unfold trBuild
  split
  · rename_i a b cks fs hti
    have e : allFree st' (zcells st.base d cks 0).2 = allFree st (zcells st.base d cks 0).2 := by
      refine allFree_ag fun p hp => ?_
      obtain ⟨i, _, h2, h3, _⟩ := zcells_range cks 0 p hp
      rw [h3]
      have := hs ty a b cks fs hti
      exact hn.2 i (by omega)
    rw [hn.1, fills_ag h, e]
  · rw [elemsOf_ag h]
  · rfl

theorem elems_ids {t : Ty} : ∀ {ps : List (Nat × Operand)} {k : Nat} {xs : List t.den} {ids : List Nat}, elemsOf st t k ps = some (xs, ids) → ∀ id ∈ ids, ∃ p ∈ ps, id ∈ (ev st p.2).refs := by
  have one : ∀ {s : S} {x : t.den} {ids : List Nat}, elemOf st.mem t s = some (x, ids) → ∀ id ∈ ids, id ∈ s.refs := by
    intro s x ids h id hid
    unfold elemOf at h
    split at h
    · rename_i vs hp
      split at h
      · rename_i ds ids' hd
        split at h
        · injection h with h; injection h with _ h; subst h
          refine partCells_refs hp id ?_
          have : ∀ (vs : List CV) (ds : List DC) (ids : List Nat), datas st.mem vs = some (ds, ids) → ∀ id ∈ ids, id ∈ refsL vs := by
            intro vs
            induction vs with
            | nil => intro ds ids h id hid; simp only [datas, Option.some.injEq, Prod.mk.injEq] at h; rw [← h.2] at hid; cases hid
            | cons v l ih =>
              intro ds ids h id hid
              simp only [datas] at h
              split at h
              · cases h
              · rename_i ds' ids'' h1
                split at h
                · injection h with h; injection h with _ h; subst h
                  simp only [refsL, List.mem_append]; exact .inr (ih _ _ h1 id hid)
                · split at h
                  · injection h with h; injection h with _ h; subst h
                    simp only [refsL, List.mem_append, CV.refs]
                    rcases List.mem_cons.1 hid with rfl | hid
                    · exact .inl (by simp)
                    · exact .inr (ih _ _ h1 id hid)
                  · cases h
                · cases h
          exact this vs ds ids' hd id hid
        · cases h
      · cases h
    · cases h
  intro ps
  induction ps with
  | nil => intro k xs ids h id hid; simp only [elemsOf, Option.some.injEq, Prod.mk.injEq] at h; rw [← h.2] at hid; cases hid
  | cons p l ih =>
    intro k xs ids h id hid
    obtain ⟨i, x⟩ := p
    simp only [elemsOf] at h
    split at h
    · split at h
      · rename_i y a ys b h1 h2
        injection h with h; injection h with _ h; subst h
        rcases List.mem_append.1 hid with hid | hid
        · exact ⟨(i, x), by simp, one h1 id hid⟩
        · obtain ⟨p, hp, hr⟩ := ih h2 id hid
          exact ⟨p, by simp [hp], hr⟩
      · cases h
    · cases h

def AgS (st st' : St) (x : Operand) : Prop := ∀ id ∈ (ev st x).refs, st'.sp id = st.sp id ∧ st'.fr id = st.fr id

theorem datas_flat {t : Ty} (ht : t.flat = true) {mem : Nat → Option Res} : ∀ {s : S} {x : t.den} {ids : List Nat}, elemOf mem t s = some (x, ids) → ids = [] := by
  have key : ∀ (vs : List CV) (ds : List DC) (ids : List Nat), datas mem vs = some (ds, ids) → (∀ c ∈ ds, ∃ v, c = .val v) → ids = [] := by
    intro vs
    induction vs with
    | nil => intro ds ids h _; simp only [datas, Option.some.injEq, Prod.mk.injEq] at h; exact h.2.symm
    | cons v l ih =>
      intro ds ids h hv
      simp only [datas] at h
      split at h
      · cases h
      · rename_i ds' ids' h1
        split at h
        · injection h with h; injection h with h2 h; subst h h2
          exact ih _ _ h1 fun c hc => hv c (by simp [hc])
        · split at h
          · injection h with h; injection h with h2 h; subst h2
            obtain ⟨v, hv⟩ := hv _ List.mem_cons_self
            cases hv
          · cases h
        · cases h
  intro s x ids h
  unfold elemOf at h
  split at h
  · split at h
    · rename_i ds ids' hd
      split at h
      · rename_i y hy
        injection h with h; injection h with _ h; subst h
        refine key _ _ _ hd fun c hc => ?_
        have hcell : ∀ (ds : List DC) (y : t.den), t.dec ds = some y → ∀ c ∈ ds, ∃ v, c = .val v := by
          intro ds y hy c hc
          rw [← dec_cells hy] at hc
          cases t <;> simp [Ty.flat] at ht <;> simp [Ty.cells] at hc
          · exact ⟨_, hc⟩
          · exact ⟨_, hc⟩
          · exact ⟨_, hc⟩
          · rcases hc with h | h | h <;> exact ⟨_, h⟩
          · rcases hc with h | h | h <;> exact ⟨_, h⟩
        exact hcell ds y hy c hc
      · cases h
    · cases h
  · cases h

theorem elems_flat {t : Ty} (ht : t.flat = true) : ∀ {ps : List (Nat × Operand)} {k : Nat} {xs : List t.den} {ids : List Nat}, elemsOf st t k ps = some (xs, ids) → ids = [] := by
  intro ps
  induction ps with
  | nil => intro k xs ids h; simp only [elemsOf, Option.some.injEq, Prod.mk.injEq] at h; exact h.2.symm
  | cons p l ih =>
    intro k xs ids h
    obtain ⟨i, x⟩ := p
    simp only [elemsOf] at h
    split at h
    · split at h
      · rename_i y a ys b h1 h2
        injection h with h; injection h with _ h; subst h
        rw [datas_flat ht h1, ih h2]; rfl
      · cases h
    · cases h

theorem trBuildSlice_ag {ty n : Nat} {ps : List (Nat × Operand)} (h : ∀ p ∈ ps, AgX st st' p.2) (hn : AgN st st' d)
    (hf : (∀ a b rw e t, tab ty = some ⟨a, b, .sl rw e t⟩ → t.flat = true) ∨ ∀ p ∈ ps, AgS st st' p.2) : trBuildSlice tab st' ty d n ps = trBuildSlice tab st ty d n ps := by
  unfold trBuildSlice
  split
  · rename_i a b e t hti
    rw [elemsOf_ag h]
    cases he : elemsOf st t 0 ps with
    | none => rfl
    | some q =>
      obtain ⟨xs, ids⟩ := q
      have e2 : notSpent st' ids = notSpent st ids := by
        refine notSpent_ag fun id hid => ?_
        rcases hf with hf | hf
        · rw [elems_flat (hf _ _ _ _ _ hti) he] at hid; cases hid
        · obtain ⟨p, hp, hr⟩ := elems_ids he id hid
          exact (hf p hp id hr).1
      simp only [e2, hn.free (j := 0) (by omega), hn.1]
  · rfl

theorem trLoad_ag {ty : Nat} {x : Operand} (h : AgX st st' x) : trLoad tab st' ty x = trLoad tab st ty x := by
  unfold trLoad
  rw [h.ev]
  split
  · rename_i id off _ hx; rw [h.mem id (by rw [hx]; simp [S.refs, S0.refs, CV.refs])]
  · rename_i id t k off _ hx; rw [h.mem id (by rw [hx]; simp [S.refs, S0.refs, CV.refs])]
  · rfl
  · rfl
  · rfl

theorem trNilCheck_ag {x : Operand} (h : AgX st st' x) : trNilCheck st' x = trNilCheck st x := by unfold trNilCheck; rw [h.ev]

theorem trBin_ag {op : BinOp} {ty : Nat} {x y : Operand} (h1 : AgX st st' x) (h2 : AgX st st' y) : trBin tab st' op ty x y = trBin tab st op ty x y := by
  have e : ∀ {x : Operand}, AgX st st' x → aggS st' x = aggS st x := by
    intro x h
    unfold aggS
    split
    · rfl
    · rw [h.ev]
  unfold trBin
  rw [h1.ev, h2.ev, e h1, e h2]

theorem trUn_ag {op : UnOp} {x : Operand} (h : AgX st st' x) : trUn st' op x = trUn st op x := by unfold trUn; rw [h.ev]
theorem trConvert_ag {s t : Nat} {x : Operand} (h : AgX st st' x) : trConvert tab st' s t x = trConvert tab st s t x := by unfold trConvert; rw [h.ev]
theorem trFieldAddr_ag {ty f : Nat} {x : Operand} (h : AgX st st' x) : trFieldAddr tab st' ty x f = trFieldAddr tab st ty x f := by unfold trFieldAddr; rw [h.ev]
theorem trField_ag {ty f : Nat} {x : Operand} (h : AgX st st' x) : trField tab st' ty x f = trField tab st ty x f := by unfold trField; rw [h.ev]
theorem trExtract_ag {i : Nat} {x : Operand} (h : AgX st st' x) : trExtract st' x i = trExtract st x i := by unfold trExtract; rw [h.ev]

theorem trIndexAddr_ag {ty : Nat} {x i : Operand} (h : AgX st st' x) (hi : AgX st st' i) : trIndexAddr tab st' ty x i = trIndexAddr tab st ty x i := by
  unfold trIndexAddr
  rw [h.ev, hi.ev]
  split
  · split
    · rfl
    · rename_i id hx; rw [h.mem id (by rw [hx]; simp [S.refs, S0.refs, CV.refs])]
    · rfl
  · split
    · rename_i id hx; rw [h.mem id (by rw [hx]; simp [S.refs, S0.refs, CV.refs])]
    · rfl
    · rfl
  · rfl

theorem trIndex_ag {ty : Nat} {x i : Operand} (h : AgX st st' x) (hi : AgX st st' i) : trIndex tab st' ty x i = trIndex tab st ty x i := by
  unfold trIndex; rw [h.ev, hi.ev]

theorem intOp_ag {x : Option Operand} (h : ∀ y, x = some y → AgX st st' y) : intOp st' x = intOp st x := by
  cases x with
  | none => rfl
  | some y => simp only [intOp, (h y rfl).ev]

theorem trSlice_ag {ty : Nat} {x : Operand} {lo hi : Option Operand} (h : AgX st st' x) (hs : ∀ id ∈ (ev st x).refs, st'.sp id = st.sp id) (h1 : ∀ y, lo = some y → AgX st st' y) (h2 : ∀ y, hi = some y → AgX st st' y) :
    trSlice tab st' ty x lo hi = trSlice tab st ty x lo hi := by
  unfold trSlice
  rw [h.ev, intOp_ag h1, intOp_ag h2]
  split
  · rfl
  · split
    · rfl
    · rename_i id hx
      have hid : id ∈ (ev st x).refs := by rw [hx]; simp [S.refs, S0.refs, CV.refs]
      rw [h.mem id hid, hs id hid]
    · rfl
  · split
    · rename_i id hx
      have hid : id ∈ (ev st x).refs := by rw [hx]; simp [S.refs, S0.refs, CV.refs]
      rw [h.mem id hid]
    · rfl
  · rfl

theorem trMakeSlice_ag {ty : Nat} {x y : Operand} (h1 : AgX st st' x) (h2 : AgX st st' y) (hn : AgN st st' d) : trMakeSlice tab st' ty d x y = trMakeSlice tab st ty d x y := by
  unfold trMakeSlice
  rw [h1.ev, h2.ev, hn.free (by omega), hn.1]

theorem trLen_ag {ty : Nat} {x : Operand} (h : AgX st st' x) : trLen tab st' ty x = trLen tab st ty x := by
  unfold trLen
  rw [h.ev]
  split
  · rename_i v _ hx
    rw [rdl_ag fun id hid => h.mem id (by rw [hx]; exact hid)]
  · rfl
  · rfl
  · rfl

theorem trAppend_ag {ty : Nat} {x y : Operand} (h1 : AgX st st' x) (h2 : AgX st st' y) (hs : AgS st st' x) (hn : AgN st st' d) : trAppend tab st' ty d x y = trAppend tab st ty d x y := by
  unfold trAppend
  rw [h1.ev, h2.ev]
  split
  · rename_i id v _ hx hy
    have hid : id ∈ (ev st x).refs := by rw [hx]; simp [S.refs, S0.refs, CV.refs]
    rw [h1.mem id hid, rdl_ag fun id hid => h2.mem id (by rw [hy]; exact hid), hn.free (by omega), hn.1, (hs id hid).1, (hs id hid).2]
  · rfl

theorem refsT_refsAr (l : List S0) : refsAr l = refsT l := by
  induction l with
  | nil => rfl
  | cons x l ih =>
    have e1 : ∀ c : CV, refsC c = c.refs := fun c => by cases c <;> rfl
    have e2 : ∀ l : List CV, refsCs l = refsL l := fun l => by
      induction l with
      | nil => rfl
      | cons x l ih => simp [refsCs, refsL, ih, e1]
    cases x <;> simp [refsAr, refsT, S0.refs, ih, e1, e2]

theorem trFn_ag {f : Nat} {args : List Operand} (h : ∀ x ∈ args, AgX st st' x) (hn : AgN st st' d) (hr : ∀ con, K f = some con → con.rks.length ≤ 7 ∧ (nested con.rks = true → ∀ x ∈ args, AgS st st' x) ∧ (hasRdr con.aks = true → st'.rd = st.rd)) :
    trFn K st' d f args = trFn K st d f args := by
  unfold trFn
  rw [argsS_ag h]
  cases hss : argsS st args with
  | none => rfl
  | some ss =>
    simp only
    have hmem : ∀ id ∈ refsT ss, st'.mem id = st.mem id := fun id hid => by
      obtain ⟨x, hx, hr⟩ := argsS_refs2 hss id hid
      exact (h x hx).mem id hr
    unfold trCall
    cases hK : K f with
    | none => rfl
    | some con =>
      obtain ⟨r1, r2, r3⟩ := hr con hK
      simp only
      rw [decs_ag hmem]
      cases hx : decs st.mem con.aks ss with
      | none => rfl
      | some x =>
        simp only
        have e1 : freeL st' (rids con.rks (nid st.base d 0)) = freeL st (rids con.rks (nid st.base d 0)) := by
          refine freeL_ag fun id hid => ?_
          obtain ⟨h1, h2⟩ := rids_range _ _ id hid
          obtain ⟨j, rfl⟩ : ∃ j, id = nid st.base d j := ⟨id - nid st.base d 0, by unfold nid at *; omega⟩
          exact hn.2 j (by unfold nid at *; omega)
        have e2 : rdFits st'.rd (con.cost x) (hasRdr con.aks) = rdFits st.rd (con.cost x) (hasRdr con.aks) := by
          cases hh : hasRdr con.aks with
          | false => rfl
          | true => rw [r3 hh]
        cases hnest : nested con.rks with
        | false => simp only [e1, e2, hn.1]
        | true =>
          simp only
          rw [refsT_refsAr, ownsC_ag hmem]
          cases ho : ownsC st.mem (refsT ss) with
          | none => rfl
          | some ids =>
            have e3 : notSpent st' ids = notSpent st ids := by
              refine notSpent_ag fun id hid => ?_
              have hin : id ∈ refsT ss := by
                have key : ∀ (l ids : List Nat), ownsC st.mem l = some ids → ids = l := by
                  intro l
                  induction l with
                  | nil => intro ids h; simp only [ownsC, Option.some.injEq] at h; exact h.symm
                  | cons y l ih =>
                    intro ids h
                    simp only [ownsC] at h
                    split at h
                    · rename_i ids' _ h2
                      injection h with h; subst h; rw [ih _ h2]
                    · cases h
                rw [← key _ _ ho]; exact hid
              obtain ⟨y, hy, hyr⟩ := argsS_refs2 hss id hin
              exact (r2 hnest y hy id hyr).1
            simp only [e1, e2, e3, hn.1]

end
end Go.SE

namespace Go.SE

section
variable {tab : TypeId → Option TI} {K : FuncId → Option Con} {st st' : St} {d : Nat}

structure Nice (st : St) (d : Nat) (cls : Nat) (xs : List Operand) (t : Tr) : Prop where
  wr : t.wr = none
  ids : ∀ r p, p ∈ t.news r → ∃ j, j < 16 ∧ p.1 = nid st.base d j
  fre : t.pre → ∀ r, ∀ p ∈ t.news r, st.mem p.1 = none
  spfr : ∀ id, id ∈ t.fl ∨ id ∈ t.fz → (cls = 3 ∨ cls = 5 ∧ t.fl = []) ∧ ∃ x ∈ xs, id ∈ (ev st x).refs
  cost : cls ≠ 2 → t.cost = 0
  none : cls = 0 → ∀ r, t.news r = []
  val : Cl st → ∀ r, ∀ id ∈ (t.val r).refs, (st.mem id).isSome = true ∨ ∃ q, (id, q) ∈ t.news r
  new : Cl st → ∀ r p, p ∈ t.news r → ∀ id ∈ p.2.refs, (st.mem id).isSome = true ∨ ∃ q, (id, q) ∈ t.news r

theorem Nice.plain {cls : Nat} {xs : List Operand} {v : S} {p : Prop} (hv : Cl st → ∀ id ∈ v.refs, (st.mem id).isSome = true) : Nice st d cls xs (.one v p) :=
  ⟨rfl, fun _ _ h => (by cases h), fun _ _ _ h => (by cases h), fun _ h => (by rcases h with h | h <;> cases h), fun _ => rfl, fun _ _ => rfl, fun hc _ id hid => .inl (hv hc id hid), fun _ _ _ h => (by cases h)⟩

theorem Nice.sv {cls : Nat} {xs : List Operand} {v : Value} {p : Prop} : Nice st d cls xs (.one (SE.sv v) p) := Nice.plain fun _ id hid => by simp [SE.sv, S.refs, S0.refs, CV.refs] at hid

theorem Nice.make1 {cls : Nat} {xs : List Operand} {j : Nat} {v : S} {p : Prop} {q : Res} (hj : j < 16) (hc : cls ≠ 0) (hp : p → st.mem (nid st.base d j) = Option.none) (hv : v.refs = [nid st.base d j]) (hq : Cl st → ∀ id ∈ q.refs, (st.mem id).isSome = true) :
    Nice st d cls xs (.one v p [(nid st.base d j, q)]) :=
  ⟨rfl, fun _ p h => ⟨j, hj, by simp at h; rw [h]⟩, fun h _ p hm => by simp at hm; rw [hm]; exact hp h, fun _ h => (by rcases h with h | h <;> cases h), fun _ => rfl, fun h => (hc h).elim,
   fun _ _ id hid => .inr ⟨q, by rw [hv] at hid; simp at hid; simp [hid]⟩, fun hcl _ p hm id hid => .inl (by simp at hm; rw [hm] at hid; exact hq hcl id hid)⟩

theorem moveId_range (st : St) (d : Nat) : ∃ j, j < 16 ∧ moveId st d = nid st.base d j := by
  unfold moveId
  split
  · exact ⟨0, by omega, rfl⟩
  · split
    · exact ⟨14, by omega, rfl⟩
    · exact ⟨13, by omega, rfl⟩

theorem nice_move {cls : Nat} {xs : List Operand} {ty : Nat} {x : Operand} {t : Tr} (hc : cls ≠ 0) (h : trMove tab st ty d x = some t) : Nice st d cls xs t := by
  unfold trMove at h
  split at h
  · split at h
    · injection h with h; subst h
      obtain ⟨j, hj, e⟩ := moveId_range st d
      rw [e]
      exact Nice.make1 hj hc (fun h => h) rfl fun _ id hid => by simp [Res.refs] at hid
    · cases h
  · injection h with h; subst h
    exact Nice.plain fun hcl id hid => ev_refs hcl x id hid

theorem nice_pick {cls : Nat} {xs : List Operand} {c x y : Operand} {t : Tr} (h : trPick st c x y = some t) : Nice st d cls xs t := by
  unfold trPick at h
  split at h
  · injection h with h; subst h; exact Nice.plain fun hcl id hid => ev_refs hcl x id hid
  · injection h with h; subst h; exact Nice.plain fun hcl id hid => ev_refs hcl y id hid
  · cases h

theorem allFree_mem' {l : List (Nat × Res)} (h : allFree st l) : ∀ p ∈ l, st.mem p.1 = Option.none := by
  induction l with
  | nil => intro p hp; cases hp
  | cons q l ih =>
    intro p hp
    obtain ⟨k, r⟩ := q
    rcases List.mem_cons.1 hp with rfl | hp
    · exact h.1
    · exact ih h.2 p hp

theorem zero_refs {base : Nat} {k : TK} {r : Res} {l : List (Nat × Res)} (h : zeroOf base d k = some (r, l)) : (∀ id ∈ r.refs, ∃ q, (id, q) ∈ l) ∧ ∀ p ∈ l, p.2.refs = [] := by
  unfold zeroOf at h
  split at h
  · injection h with h; injection h with h1 h; subst h h1; exact ⟨by simp [Res.refs, refsL, CV.refs], by simp⟩
  · injection h with h; injection h with h1 h; subst h h1; exact ⟨by simp [Res.refs, refsL, CV.refs], by simp [Res.refs]⟩
  · injection h with h; injection h with h1 h; subst h h1
    refine ⟨fun id hid => zcells_refs _ _ id hid, fun p hp => ?_⟩
    obtain ⟨_, _, _, _, h4⟩ := zcells_range _ _ p hp
    exact h4
  · injection h with h; injection h with h1 h; subst h h1; exact ⟨by simp [Res.refs], by simp⟩
  · cases h

theorem nice_alloc {cls : Nat} {xs : List Operand} {ty : Nat} {t : Tr} (hs : TabSmall tab) (hc : cls ≠ 0) (h : trAlloc tab st ty d = some t) : Nice st d cls xs t := by
  unfold trAlloc at h
  split at h
  · rename_i ti hti
    split at h
    · rename_i r l hz
      injection h with h; subst h
      obtain ⟨z1, z2⟩ := zero_refs hz
      have zr := zeroOf_range hz (fun cks fs he => hs ty ti.sz ti.bytes cks fs (by rw [hti, ← he]))
      refine ⟨rfl, ?_, fun h _ => allFree_mem' h, fun _ h => (by rcases h with h | h <;> cases h), fun _ => rfl, fun h => (hc h).elim, ?_, ?_⟩
      · intro _ p hp
        rcases List.mem_cons.1 hp with rfl | hp
        · exact ⟨15, by omega, rfl⟩
        · obtain ⟨i, h1, h2, _⟩ := zr p hp; exact ⟨i, by omega, h2⟩
      · intro _ _ id hid
        simp [S.refs, S0.refs, CV.refs] at hid
        subst hid
        exact .inr ⟨r, List.mem_cons_self⟩
      · intro _ _ p hp id hid
        rcases List.mem_cons.1 hp with rfl | hp
        · obtain ⟨q, hq⟩ := z1 id hid; exact .inr ⟨q, List.mem_cons_of_mem _ hq⟩
        · rw [z2 p hp] at hid; cases hid
    · cases h
  · cases h

theorem nice_box {cls : Nat} {xs : List Operand} {x : Operand} {t : Tr} (hc : cls ≠ 0) (h : trBox st d x = some t) : Nice st d cls xs t := by
  unfold trBox at h
  split at h
  · cases h
  · rename_i v _ hx
    injection h with h; subst h
    exact Nice.make1 (by omega) hc (fun h => h) rfl fun hcl id hid => ev_refs hcl x id (by rw [hx]; simpa [Res.refs, refsL, S.refs, S0.refs] using hid)
  · rename_i vs hx
    injection h with h; subst h
    exact Nice.make1 (by omega) hc (fun h => h) rfl fun hcl id hid => ev_refs hcl x id (by rw [hx]; exact hid)
  · injection h with h; subst h
    exact Nice.make1 (by omega) hc (fun h => h) rfl fun hcl id hid => by simp [Res.refs] at hid
  · cases h

theorem nice_build {cls : Nat} {xs : List Operand} {ty : Nat} {ps : List (Nat × Operand)} {t : Tr} (hs : TabSmall tab) (hc : cls ≠ 0) (h : trBuild tab st ty d ps = some t) : Nice st d cls xs t := by
  unfold trBuild at h
  split at h
  · rename_i a b cks fs hti
    split at h
    · rename_i cs hcs
      injection h with h; subst h
      refine ⟨rfl, ?_, fun h _ => allFree_mem' h, fun _ h => (by rcases h with h | h <;> cases h), fun _ => rfl, fun h => (hc h).elim, ?_, ?_⟩
      · intro _ p hp
        obtain ⟨i, _, h2, h3, _⟩ := zcells_range cks 0 p hp
        exact ⟨i, by have := hs ty a b cks fs hti; omega, h3⟩
      · intro hcl _ id hid
        rcases fills_refs ps _ cs hcl hcs id hid with h1 | h1
        · obtain ⟨q, hq⟩ := zcells_refs _ _ id h1; exact .inr ⟨q, hq⟩
        · exact .inl h1
      · intro _ _ p hp id hid
        obtain ⟨_, _, _, _, h4⟩ := zcells_range cks 0 p hp
        rw [h4] at hid; cases hid
    · cases h
  · split at h
    · split at h
      · injection h with h; subst h; exact Nice.plain fun _ id hid => by simp [S.refs, S0.refs] at hid
      · split at h
        · injection h with h; subst h; exact Nice.plain fun _ id hid => by simp [S.refs, S0.refs] at hid
        · cases h
    · cases h
  · cases h

theorem cellsAt_refs {k : TK} {sz off : Nat} {cs : List CV} {s : S} (h : cellsAt k sz off cs = some s) : ∀ id ∈ s.refs, id ∈ refsL cs := by
  intro id hid
  have sub : ∀ (l : List CV) (a b : Nat), ∀ id ∈ refsL ((l.drop a).take b), id ∈ refsL l := by
    intro l a b id hid
    obtain ⟨c, hc, hi⟩ := refsL_mem hid
    have : c ∈ l := List.mem_of_mem_drop (List.mem_of_mem_take hc)
    obtain ⟨j, hj⟩ := List.getElem?_of_mem this
    exact mem_refsL hj hi
  unfold cellsAt at h
  split at h
  · split at h
    · injection h with h; subst h; exact sub _ _ _ id hid
    · cases h
  · cases h
  · split at h
    · rename_i v hv
      injection h with h; subst h
      exact mem_refsL hv (weak_refs _ id hid)
    · cases h

theorem dcellsAt_refs {k : TK} {sz off : Nat} {cs : List DC} {s : S} (h : dcellsAt k sz off cs = some s) : s.refs = [] := by
  have := cellsAt_refs (h : cellsAt k sz off (cs.map .d) = some s)
  rw [refs_d] at this
  cases hs : s.refs with
  | nil => rfl
  | cons x l => have := this x (by rw [hs]; simp); cases this

theorem nice_load {cls : Nat} {xs : List Operand} {ty : Nat} {x : Operand} {t : Tr} (h : trLoad tab st ty x = some t) : Nice st d cls xs t := by
  have dmap : ∀ {k : TK} {sz off : Nat} {cs : List DC} {t : Tr}, (dcellsAt k sz off cs).map (fun v => Tr.one v) = some t → Nice st d cls xs t := by
    intro k sz off cs t h
    cases hd : dcellsAt k sz off cs with
    | none => rw [hd] at h; cases h
    | some v => rw [hd] at h; injection h with h; subst h; exact Nice.plain fun _ id hid => by rw [dcellsAt_refs hd] at hid; cases hid
  unfold trLoad at h
  split at h
  · rename_i ti id off hti hx
    split at h
    · rename_i cs hm
      cases hc : cellsAt ti.k ti.sz off cs with
      | none => rw [hc] at h; cases h
      | some v => rw [hc] at h; injection h with h; subst h; exact Nice.plain fun hcl i hi => hcl.2 _ _ hm i (cellsAt_refs hc i hi)
    · split at h
      · injection h with h; subst h; exact Nice.plain fun _ id hid => by simp [S.refs, S0.refs] at hid
      · cases h
    · cases h
  · split at h
    · split at h
      · exact dmap h
      · cases h
    · split at h
      · exact dmap h
      · cases h
    · cases h
  · exact dmap h
  · split at h
    · injection h with h; subst h; exact Nice.plain fun _ id hid => by simp [S.refs, S0.refs] at hid
    · cases h
  · cases h

end
end Go.SE

namespace Go.SE

section
variable {tab : TypeId → Option TI} {K : FuncId → Option Con} {st st' : St} {d : Nat}

theorem nice_nilCheck {cls : Nat} {xs : List Operand} {x : Operand} {t : Tr} (h : trNilCheck st x = some t) : Nice st d cls xs t := by
  unfold trNilCheck at h
  split at h
  case h_6 => cases h
  all_goals
    rename_i hx
    injection h with h; subst h
    exact Nice.plain fun hcl id hid => ev_refs hcl x id (by rw [hx]; exact hid)

theorem nice_map {α : Type} {cls : Nat} {xs : List Operand} {x : Option α} {f : α → Tr} {t : Tr} (h : x.map f = some t) (hf : ∀ a, Nice st d cls xs (f a)) : Nice st d cls xs t := by
  cases x with
  | none => cases h
  | some a => injection h with h; subst h; exact hf a

theorem nice_bin {cls : Nat} {xs : List Operand} {op : BinOp} {ty : Nat} {x y : Operand} {t : Tr} (h : trBin tab st op ty x y = some t) : Nice st d cls xs t := by
  unfold trBin at h
  split at h
  · split at h
    · exact nice_map h fun _ => Nice.sv
    · split at h
      · exact nice_map h fun _ => Nice.sv
      · cases h
  · split at h
    · injection h with h; subst h; exact Nice.sv
    · injection h with h; subst h; exact Nice.sv
    · cases h
  · split at h
    · injection h with h; subst h; exact Nice.sv
    · injection h with h; subst h; exact Nice.sv
    · injection h with h; subst h; exact Nice.sv
    · cases h
  · split at h
    · split at h
      · exact nice_map h fun _ => Nice.sv
      · exact nice_map h fun _ => Nice.sv
      · cases h
    · cases h
  · cases h

theorem nice_un {cls : Nat} {xs : List Operand} {op : UnOp} {x : Operand} {t : Tr} (h : trUn st op x = some t) : Nice st d cls xs t := by
  unfold trUn at h
  split at h
  · injection h with h; subst h; exact Nice.sv
  · injection h with h; subst h; exact Nice.sv
  · cases h

theorem nice_convert {cls : Nat} {xs : List Operand} {s u : Nat} {x : Operand} {t : Tr} (h : trConvert tab st s u x = some t) : Nice st d cls xs t := by
  unfold trConvert at h
  split at h
  · injection h with h; subst h; exact Nice.sv
  · cases h

theorem nice_fieldAddr {cls : Nat} {xs : List Operand} {ty f : Nat} {x : Operand} {t : Tr} (h : trFieldAddr tab st ty x f = some t) : Nice st d cls xs t := by
  unfold trFieldAddr at h
  split at h
  · split at h
    · split at h
      case h_4 => cases h
      all_goals
        rename_i hx
        injection h with h; subst h
        exact Nice.plain fun hcl id hid => ev_refs hcl x id (by rw [hx]; exact hid)
    · cases h
  · cases h

theorem nice_field {cls : Nat} {xs : List Operand} {ty f : Nat} {x : Operand} {t : Tr} (h : trField tab st ty x f = some t) : Nice st d cls xs t := by
  unfold trField at h
  split at h
  · split at h
    · rename_i off sz vs _ hx
      split at h
      · injection h with h; subst h
        refine Nice.plain fun hcl id hid => ev_refs hcl x id ?_
        rw [hx]
        obtain ⟨c, hc, hi⟩ := refsL_mem (show id ∈ refsL ((vs.drop off).take sz) from hid)
        obtain ⟨j, hj⟩ := List.getElem?_of_mem (List.mem_of_mem_drop (List.mem_of_mem_take hc))
        exact mem_refsL hj hi
      · cases h
    · rename_i off _ vs _ hx
      split at h
      · rename_i v hv
        injection h with h; subst h
        refine Nice.plain fun hcl id hid => ev_refs hcl x id ?_
        rw [hx]
        exact mem_refsL hv hid
      · cases h
    · cases h
  · cases h

theorem nice_indexAddr {cls : Nat} {xs : List Operand} {ty : Nat} {x i : Operand} {t : Tr} (h : trIndexAddr tab st ty x i = some t) : Nice st d cls xs t := by
  have own : ∀ {id : Nat} {off : Nat} {t : Ty} {k : Int} {p : Prop} {v : S}, ev st x = v → id ∈ v.refs → Nice st d cls xs (.one (.s (.c (.vp id t k off))) p) := by
    intro id off t k p v hx hi
    exact Nice.plain fun hcl j hj => by
      simp [S.refs, S0.refs, CV.refs] at hj
      subst hj
      exact ev_refs hcl x j (by rw [hx]; exact hi)
  unfold trIndexAddr at h
  split at h
  · split at h
    · split at h
      · injection h with h; subst h; exact Nice.plain fun _ id hid => by simp [S.refs, S0.refs, CV.refs] at hid
      · cases h
    · rename_i id hx
      split at h
      · split at h
        · injection h with h; subst h; exact own hx (by simp [S.refs, S0.refs, CV.refs])
        · cases h
      · cases h
    · cases h
  · split at h
    · rename_i id hx
      split at h
      · split at h
        · injection h with h; subst h; exact own hx (by simp [S.refs, S0.refs, CV.refs])
        · cases h
      · cases h
    · split at h
      · injection h with h; subst h; exact Nice.plain fun _ id hid => by simp [S.refs, S0.refs, CV.refs] at hid
      · cases h
    · cases h
  · cases h

theorem nice_index {cls : Nat} {xs : List Operand} {ty : Nat} {x i : Operand} {t : Tr} (h : trIndex tab st ty x i = some t) : Nice st d cls xs t := by
  unfold trIndex at h
  split at h
  · injection h with h; subst h; exact Nice.sv
  · split at h
    · split at h
      · rename_i ys _ _
        cases hd : dcellsAt (.sc (.bool false)) 1 0 (Ty.cells _ (ys.getD _ _)) with
        | none => rw [hd] at h; cases h
        | some v => rw [hd] at h; injection h with h; subst h; exact Nice.plain fun _ id hid => by rw [dcellsAt_refs hd] at hid; cases hid
      · cases h
    · cases h
  · cases h

theorem nice_makeSlice {cls : Nat} {xs : List Operand} {ty : Nat} {x y : Operand} {t : Tr} (hc : cls ≠ 0) (h : trMakeSlice tab st ty d x y = some t) : Nice st d cls xs t := by
  unfold trMakeSlice at h
  split at h
  · injection h with h; subst h
    exact Nice.make1 (by omega) hc (fun h => h.1) rfl fun _ id hid => by simp [Res.refs] at hid
  · cases h

theorem nice_extract {cls : Nat} {xs : List Operand} {x : Operand} {i : Nat} {t : Tr} (h : trExtract st x i = some t) : Nice st d cls xs t := by
  unfold trExtract at h
  split at h
  · rename_i l hx
    split at h
    · rename_i s hs
      injection h with h; subst h
      exact Nice.plain fun hcl id hid => ev_refs hcl x id (by rw [hx]; exact mem_refsT hs hid)
    · cases h
  · cases h

theorem nice_len {cls : Nat} {xs : List Operand} {ty : Nat} {x : Operand} {t : Tr} (h : trLen tab st ty x = some t) : Nice st d cls xs t := by
  unfold trLen at h
  split at h
  · split at h
    · injection h with h; subst h; exact Nice.sv
    · cases h
  · injection h with h; subst h; exact Nice.sv
  · injection h with h; subst h; exact Nice.sv
  · cases h

theorem nice_slice {xs : List Operand} {ty : Nat} {x : Operand} {lo hi : Option Operand} {t : Tr} (hx0 : x ∈ xs) (h : trSlice tab st ty x lo hi = some t) : Nice st d 5 xs t := by
  unfold trSlice at h
  split at h
  · split at h
    · injection h with h; subst h; exact Nice.sv
    · cases h
  · split at h
    · split at h
      · injection h with h; subst h; exact Nice.plain fun _ id hid => by simp [S.refs, S0.refs, CV.refs] at hid
      · cases h
    · rename_i id hx
      split at h
      · split at h
        · injection h with h; subst h
          refine ⟨rfl, fun _ _ h => (by cases h), fun _ _ _ h => (by cases h), ?_, fun _ => rfl, fun _ _ => rfl, fun _ _ id hid => by simp [S.refs, S0.refs, CV.refs] at hid, fun _ _ _ h => (by cases h)⟩
          intro i hi
          rcases hi with hi | hi
          · cases hi
          · simp at hi; subst hi; exact ⟨.inr ⟨rfl, rfl⟩, x, hx0, by rw [hx]; simp [S.refs, S0.refs, CV.refs]⟩
        · cases h
      · cases h
    · cases h
  · split at h
    · rename_i id hx
      split at h
      · split at h
        · injection h with h; subst h
          refine ⟨rfl, fun _ _ h => (by cases h), fun _ _ _ h => (by cases h), ?_, fun _ => rfl, fun _ _ => rfl, fun _ _ id hid => by simp [S.refs, S0.refs, CV.refs] at hid, fun _ _ _ h => (by cases h)⟩
          intro i hi
          rcases hi with hi | hi
          · cases hi
          · simp at hi; subst hi; exact ⟨.inr ⟨rfl, rfl⟩, x, hx0, by rw [hx]; simp [S.refs, S0.refs, CV.refs]⟩
        · cases h
      · cases h
    · cases h
  · cases h

theorem nice_append {xs : List Operand} {ty : Nat} {x y : Operand} {t : Tr} (hx0 : x ∈ xs) (h : trAppend tab st ty d x y = some t) : Nice st d 3 xs t := by
  unfold trAppend at h
  split at h
  · rename_i id v _ hx _
    split at h
    · split at h
      · injection h with h; subst h
        refine ⟨rfl, fun _ p h => ⟨0, by omega, by simp at h; rw [h]⟩, fun h _ p hm => by simp at hm; rw [hm]; exact h.1, ?_, fun _ => rfl, fun h => (by cases h), (fun _ _ i hi => by simp [S.refs, S0.refs, CV.refs] at hi; subst hi; exact .inr ⟨_, List.mem_cons_self⟩), ?_⟩
        · intro i hi
          rcases hi with hi | hi
          · simp at hi; subst hi; exact ⟨.inl rfl, x, hx0, by rw [hx]; simp [S.refs, S0.refs, CV.refs]⟩
          · cases hi
        · intro _ _ p hp i hi; simp at hp; rw [hp] at hi; simp [Res.refs] at hi
      · cases h
    · cases h
  · cases h

theorem nice_buildSlice {cls : Nat} {xs : List Operand} {ty n : Nat} {ps : List (Nat × Operand)} {t : Tr} (hc : cls ≠ 0) (hps : ∀ p ∈ ps, p.2 ∈ xs) (hf : (∀ a b rw e t, tab ty = some ⟨a, b, .sl rw e t⟩ → t.flat = true) ∨ cls = 3)
    (h : trBuildSlice tab st ty d n ps = some t) : Nice st d cls xs t := by
  unfold trBuildSlice at h
  split at h
  · rename_i a b e t hti
    split at h
    · rename_i ys ids he
      split at h
      · injection h with h; subst h
        refine ⟨rfl, fun _ p h => ⟨0, by omega, by simp at h; rw [h]⟩, fun h _ p hm => by simp at hm; rw [hm]; exact h.1, ?_, fun _ => rfl, fun h => (hc h).elim, (fun _ _ i hi => by simp [S.refs, S0.refs, CV.refs] at hi; subst hi; exact .inr ⟨_, List.mem_cons_self⟩), ?_⟩
        · intro i hi
          rcases hi with hi | hi
          · cases hi
          · rcases hf with hf | hf
            · rw [elems_flat (hf _ _ _ _ _ hti) he] at hi; cases hi
            · obtain ⟨p, hp, hr⟩ := elems_ids he i hi
              exact ⟨.inl hf, p.2, hps p hp, hr⟩
        · intro _ _ p hp i hi; simp at hp; rw [hp] at hi; simp [Res.refs] at hi
      · cases h
    · cases h
  · cases h

theorem ress_ids : ∀ (ks : List AK) (i : Nat) (r : Args ks), ∀ p ∈ (ress ks i r).2, p.1 ∈ rids ks i := by
  intro ks
  induction ks with
  | nil => intro i r p h; simp [ress] at h
  | cons k ks ih =>
    intro i r p h
    obtain ⟨x, xs⟩ := r
    simp only [ress, List.mem_append] at h
    simp only [rids, List.mem_append]
    rcases h with h | h
    · left
      cases k <;> simp [AK.res] at h <;> simp [AK.rids] <;> first
        | (rcases h with h | h <;> simp [h]; done)
        | (simp [h]; done)
    · exact .inr (ih _ _ p h)

theorem freeL_mem {l : List Nat} (h : freeL st l) : ∀ id ∈ l, st.mem id = none := by
  induction l with
  | nil => intro id hid; cases hid
  | cons x l ih => intro id hid; rcases List.mem_cons.1 hid with rfl | hid; exact h.1; exact ih h.2 id hid

theorem nice_call {cls : Nat} {xs : List Operand} {f : Nat} {args : List Operand} {t : Tr} (hxs : ∀ x ∈ args, x ∈ xs) (hc : ∀ con, K f = some con → con.rks.length ≤ 7 ∧ (nested con.rks = true → cls = 3) ∧ (hasRdr con.aks = true → cls = 2) ∧ cls ≠ 0)
    (h : trFn K st d f args = some t) : Nice st d cls xs t := by
  unfold trFn at h
  split at h
  · rename_i ss hss
    unfold trCall at h
    split at h
    · rename_i con hcon
      obtain ⟨c1, c2, c3, c4⟩ := hc con hcon
      have main : ∀ (fz : List Nat) (pre : Prop) , (pre → freeL st (rids con.rks (nid st.base d 0))) → (∀ id ∈ fz, cls = 3 ∧ ∃ x ∈ xs, id ∈ (ev st x).refs) → ∀ x,
          Nice st d cls xs { R := Args con.rks, pre, post := con.post x, val := fun r => pack1 (ress con.rks (nid st.base d 0) r).1, news := fun r => (ress con.rks (nid st.base d 0) r).2, fl := [], fz, wr := none, cost := costIf (hasRdr con.aks) (con.cost x), det := con.det x } := by
        intro fz pre hp hfz x
        refine ⟨rfl, ?_, ?_, ?_, ?_, fun h => (c4 h).elim, ?_, ?_⟩
        · intro r p hm
          obtain ⟨h1, h2⟩ := rids_range _ _ p.1 (ress_ids _ _ _ p hm)
          exact ⟨p.1 - nid st.base d 0, by unfold nid at *; omega, by unfold nid at *; omega⟩
        · intro h r p hm
          exact freeL_mem (hp h) p.1 (ress_ids _ _ _ p hm)
        · intro id hid
          rcases hid with hid | hid
          · cases hid
          · exact ⟨.inl (hfz id hid).1, (hfz id hid).2⟩
        · intro h2
          cases hh : hasRdr con.aks with
          | false => rfl
          | true => exact (h2 (c3 hh)).elim
        · intro _ r id hid
          obtain ⟨q, hq⟩ := ress_refs _ _ _ id (pack1_refs _ id hid)
          exact .inr ⟨q, hq⟩
        · intro _ r p hm id hid
          obtain ⟨_, _, f, t, xs, e⟩ := ress_range _ _ _ p.1 p.2 hm
          rw [e] at hid; cases hid
      split at h
      · rename_i x hx
        split at h
        · rename_i hnest
          split at h
          · rename_i ids hids
            injection h with h; subst h
            refine main ids _ (fun h => h.2.2.2) ?_ x
            intro id hid
            rw [refsT_refsAr] at hids
            obtain ⟨rfl, _⟩ := ownsC_mem hids
            obtain ⟨y, hy, hr⟩ := argsS_refs2 hss id hid
            exact ⟨c2 hnest, y, hxs y hy, hr⟩
          · cases h
        · injection h with h; subst h
          exact main [] _ (fun h => h.2.2) (fun _ h => by cases h) x
      · cases h
    · cases h
  · cases h

end
end Go.SE

namespace Go.SE

section
variable {tab : TypeId → Option TI} {K : FuncId → Option Con} {st st' : St} {o : Oper}

def opnds (o : Oper) : List Operand := o.op.operands.toList

theorem cls_call {f : FuncId} {args : Array Operand} {tys : Array TypeId} (ho : o.op = .call ⟨.value (.func f), args, tys⟩) (hc : clsOf K tab o ≠ 4) {con : Con} (hK : K f = some con) :
    con.rks.length ≤ 7 ∧ (nested con.rks = true → clsOf K tab o = 3) ∧ (hasRdr con.aks = true → clsOf K tab o = 2) ∧ clsOf K tab o ≠ 0 := by
  have e : clsOf K tab o = if con.rks.length ≤ 7 then (if nested con.rks then (if hasRdr con.aks then 4 else 3) else if hasRdr con.aks then 2 else 1) else 4 := by
    simp only [clsOf, ho, hK]
  rw [e] at hc ⊢
  by_cases h1 : con.rks.length ≤ 7
  · rw [if_pos h1] at hc ⊢
    cases h2 : nested con.rks <;> cases h3 : hasRdr con.aks <;> simp [h2, h3] at hc ⊢ <;> exact h1
  · rw [if_neg h1] at hc; exact (hc rfl).elim

theorem cls_bs {ty : TypeId} {n : Nat} {ps : Array (Nat × Operand)} (ho : o.op = .buildSlice ty n ps) (hc : clsOf K tab o ≠ 4) : clsOf K tab o ≠ 0 ∧ ((∀ a b rw e t, tab ty = some ⟨a, b, .sl rw e t⟩ → t.flat = true) ∨ clsOf K tab o = 3) := by
  have e : clsOf K tab o = match tab ty with
    | some ⟨_, _, .sl _ _ t⟩ => if t.flat then 1 else 3
    | _ => 4 := by simp only [clsOf, ho] <;> rfl
  rw [e] at hc ⊢
  split
  · rename_i a b rw e' t hti
    cases hf : t.flat with
    | true => exact ⟨by simp, .inl fun a' b' rw' e'' t' h => by rw [hti] at h; injection h with h; injection h with _ _ h; injection h with _ _ h; subst h; exact hf⟩
    | false => exact ⟨by simp, .inr (by simp)⟩
  · rename_i hne
    split at hc
    · rename_i a b rw e' t hti
      exact (hne _ _ _ _ _ hti).elim
    · exact (hc rfl).elim

theorem trOp_ag (hs : TabSmall tab) (hc : clsOf K tab o ≠ 4) (hx : ∀ x ∈ opnds o, AgX st st' x) (hsf : clsOf K tab o = 3 → ∀ x ∈ opnds o, AgS st st' x) (hs5 : clsOf K tab o = 5 → ∀ x ∈ opnds o, ∀ id ∈ (ev st x).refs, st'.sp id = st.sp id) (hrd : clsOf K tab o = 2 → st'.rd = st.rd) (hn : clsOf K tab o ≠ 0 → AgN st st' (o.dst.getD 0)) :
    trOp tab K o st' = trOp tab K o st := by
  unfold opnds at hx hsf
  unfold trOp
  split
  case h_1 x ho => exact trMove_ag (hx x (by simp [ho, Op.operands])) (hn (by simp [clsOf, ho]))
  case h_2 x ho => exact trMove_ag (hx x (by simp [ho, Op.operands])) (hn (by simp [clsOf, ho]))
  case h_3 c x y ho => exact trPick_ag (hx c (by simp [ho, Op.operands])) (hx x (by simp [ho, Op.operands])) (hx y (by simp [ho, Op.operands]))
  case h_4 ty ho => exact trAlloc_ag hs (hn (by simp [clsOf, ho]))
  case h_5 ty x ho => exact trBox_ag (hx x (by simp [ho, Op.operands])) (hn (by simp [clsOf, ho]))
  case h_6 ty ps ho => exact trBuild_ag hs (fun p hp => hx p.2 (by simp only [ho, Op.operands]; exact List.mem_map.2 ⟨p, hp, rfl⟩)) (hn (by simp [clsOf, ho]))
  case h_7 ty k ps ho =>
    have hm : ∀ p ∈ ps.toList, p.2 ∈ o.op.operands.toList := fun p hp => by simp only [ho, Op.operands]; exact List.mem_map.2 ⟨p, hp, rfl⟩
    refine trBuildSlice_ag (fun p hp => hx p.2 (hm p hp)) (hn (cls_bs ho hc).1) ?_
    rcases (cls_bs ho hc).2 with h | h
    · exact .inl h
    · exact .inr fun p hp => hsf h p.2 (hm p hp)
  case h_8 ty x ho => exact trLoad_ag (hx x (by simp [ho, Op.operands]))
  case h_9 ty x v ho => exact (hc (by simp only [clsOf, ho])).elim
  case h_10 x ho => exact trNilCheck_ag (hx x (by simp [ho, Op.operands]))
  case h_11 op ty x y yt ho => exact trBin_ag (hx x (by simp [ho, Op.operands])) (hx y (by simp [ho, Op.operands]))
  case h_12 op ty x ho => exact trUn_ag (hx x (by simp [ho, Op.operands]))
  case h_13 s t x ho => exact trConvert_ag (hx x (by simp [ho, Op.operands]))
  case h_14 ty x f ho => exact trFieldAddr_ag (hx x (by simp [ho, Op.operands]))
  case h_15 ty x f ho => exact trField_ag (hx x (by simp [ho, Op.operands]))
  case h_16 ty x i ho => exact trIndexAddr_ag (hx x (by simp [ho, Op.operands])) (hx i (by simp [ho, Op.operands]))
  case h_17 ty x i ho => exact trIndex_ag (hx x (by simp [ho, Op.operands])) (hx i (by simp [ho, Op.operands]))
  case h_18 ty x lo hi ho =>
    have h3 : clsOf K tab o = 5 := by simp only [clsOf, ho]
    have hm : x ∈ opnds o := by simp [opnds, ho, Op.operands]
    refine trSlice_ag (hx x hm) (hs5 h3 x hm) (fun y hy => hx y (by simp [ho, Op.operands, hy])) (fun y hy => hx y (by simp [ho, Op.operands, hy]))
  case h_19 ty l c ho => exact trMakeSlice_ag (hx l (by simp [ho, Op.operands])) (hx c (by simp [ho, Op.operands])) (hn (by simp [clsOf, ho]))
  case h_20 x i ho => exact trExtract_ag (hx x (by simp [ho, Op.operands]))
  case h_21 f args tys ho =>
    have hm : ∀ x ∈ args.toList, x ∈ o.op.operands.toList := fun x hx => by simp only [ho, Op.operands, Call.operands]; simp; exact .inr (by simpa using hx)
    cases hKf : K f with
    | none => unfold trFn; rw [argsS_ag fun x h => hx x (hm x h)]; unfold trCall; rw [hKf]
    | some con0 =>
    refine trFn_ag (fun x h => hx x (hm x h)) (hn (cls_call ho hc hKf).2.2.2) fun con hK => ?_
    obtain ⟨c1, c2, c3, c4⟩ := cls_call ho hc hK
    exact ⟨c1, fun h x hxx => hsf (c2 h) x (hm x hxx), fun h => hrd (c3 h)⟩
  case h_22 args tys ho =>
    split
    · rename_i x t h1 h2
      exact trLen_ag (hx x (by
        simp only [ho, Op.operands, Call.operands]
        simp
        have : x ∈ args.toList := by rw [h1]; simp
        simpa using this))
    · rfl
  case h_23 args tys ho =>
    have h3 : clsOf K tab o = 3 := by simp only [clsOf, ho]
    split
    · rename_i x y t u h1 h2
      have hm : ∀ z ∈ args.toList, z ∈ o.op.operands.toList := fun z hz => by simp only [ho, Op.operands, Call.operands]; simp; simpa using hz
      split
      · exact trAppend_ag (hx x (hm x (by rw [h1]; simp))) (hx y (hm y (by rw [h1]; simp))) (hsf h3 x (hm x (by rw [h1]; simp))) (hn (by rw [h3]; simp))
      · rfl
    · rfl
  case h_24 args tys ho => exact (hc (by simp only [clsOf, ho])).elim
  case h_25 f first caps ho => exact (hc (by simp only [clsOf, ho])).elim
  case h_26 => rfl

theorem trOp_nice (hs : TabSmall tab) (hc : clsOf K tab o ≠ 4) {t : Tr} (htr : trOp tab K o st = some t) : Nice st (o.dst.getD 0) (clsOf K tab o) (opnds o) t := by
  unfold trOp at htr
  split at htr
  case h_1 x ho => exact nice_move (by simp [clsOf, ho]) htr
  case h_2 x ho => exact nice_move (by simp [clsOf, ho]) htr
  case h_3 c x y ho => exact nice_pick htr
  case h_4 ty ho => exact nice_alloc hs (by simp [clsOf, ho]) htr
  case h_5 ty x ho => exact nice_box (by simp [clsOf, ho]) htr
  case h_6 ty ps ho => exact nice_build hs (by simp [clsOf, ho]) htr
  case h_7 ty k ps ho =>
    obtain ⟨h1, h2⟩ := cls_bs ho hc
    exact nice_buildSlice h1 (fun p hp => by simp only [opnds, ho, Op.operands]; exact List.mem_map.2 ⟨p, hp, rfl⟩) h2 htr
  case h_8 ty x ho => exact nice_load htr
  case h_9 ty x v ho => exact (hc (by simp only [clsOf, ho])).elim
  case h_10 x ho => exact nice_nilCheck htr
  case h_11 op ty x y yt ho => exact nice_bin htr
  case h_12 op ty x ho => exact nice_un htr
  case h_13 s t x ho => exact nice_convert htr
  case h_14 ty x f ho => exact nice_fieldAddr htr
  case h_15 ty x f ho => exact nice_field htr
  case h_16 ty x i ho => exact nice_indexAddr htr
  case h_17 ty x i ho => exact nice_index htr
  case h_18 ty x lo hi ho =>
    have h3 : clsOf K tab o = 5 := by simp only [clsOf, ho]
    rw [h3]
    exact nice_slice (by simp [opnds, ho, Op.operands]) htr
  case h_19 ty l c ho => exact nice_makeSlice (by simp [clsOf, ho]) htr
  case h_20 x i ho => exact nice_extract htr
  case h_21 f args tys ho =>
    refine nice_call (args := args.toList) (fun x hx => ?_) (fun con hK => cls_call ho hc hK) htr
    simp only [opnds, ho, Op.operands, Call.operands]; simp; exact .inr (by simpa using hx)
  case h_22 args tys ho =>
    split at htr
    · exact nice_len htr
    · cases htr
  case h_23 args tys ho =>
    have h3 : clsOf K tab o = 3 := by simp only [clsOf, ho]
    rw [h3]
    split at htr
    · rename_i x y t u h1 h2
      split at htr
      · refine nice_append ?_ htr
        simp only [opnds, ho, Op.operands, Call.operands]
        simp
        have : x ∈ args.toList := by rw [h1]; simp
        simpa using this
      · cases htr
    · cases htr
  case h_24 args tys ho => exact (hc (by simp only [clsOf, ho])).elim
  case h_25 f first caps ho => exact (hc (by simp only [clsOf, ho])).elim
  case h_26 => cases htr

def Out (t : Tr) (r : t.R) : Prop := t.det = some r ∨ (t.det = none ∧ t.post r)

theorem vcTr_iff {dst : Option Nat} {k : St → Prop} {t : Tr} : vcTr dst st k (some t) ↔ t.pre ∧ ∀ r, Out t r → k (st.app dst t r) := by
  show (t.pre ∧ vcDet (fun r => k (st.app dst t r)) t.post t.det) ↔ _
  unfold vcDet Out
  constructor
  · rintro ⟨h1, h2⟩
    refine ⟨h1, fun r hr => ?_⟩
    split at h2
    · rename_i r0 h0
      rcases hr with hr | ⟨hr, _⟩
      · rw [h0] at hr; injection hr with hr; subst hr; exact h2
      · rw [h0] at hr; cases hr
    · rename_i h0
      rcases hr with hr | ⟨_, hr⟩
      · rw [h0] at hr; cases hr
      · exact h2 r hr
  · rintro ⟨h1, h2⟩
    refine ⟨h1, ?_⟩
    split
    · rename_i r0 h0; exact h2 r0 (.inl h0)
    · rename_i h0; exact fun r hr => h2 r (.inr ⟨h0, hr⟩)

def KTot (K : FuncId → Option Con) : Prop := ∀ f con, K f = some con → ∀ x, con.pre x → ∃ r, con.post x r

end
end Go.SE

namespace Go.SE

section
variable {tab : TypeId → Option TI} {K : FuncId → Option Con} {st st' : St} {o : Oper} {ops : Array Oper}

def trStep (tab : TypeId → Option TI) (K : FuncId → Option Con) (ops : Array Oper) (o : Oper) (st : St) : Option Tr :=
  match o.guard with
  | none => trOp tab K o st
  | some (j, want) => match gslot ops j with
    | none => none
    | some g => match st.env g with
      | .s (.c (.d (.val (.bool b)))) => match b == want with
        | true => trOp tab K o st
        | false => some (.one (.tup []))
      | .tup [] => some (.one (.tup []))
      | _ => none

theorem app_one2 (dst : Option Nat) (v : S) (r : Unit) : st.app dst (.one v) r = St.put st dst v := by
  have e : Option.map (fun x => x + 0) st.rd = st.rd := by cases st.rd <;> rfl
  cases dst <;> simp only [St.app, St.put, adds, sets, e]

theorem vcStep_tr {k : St → Prop} : vcStep tab K ops o st k ↔ vcTr o.dst st k (trStep tab K ops o st) := by
  unfold trStep
  cases ho : o.guard with
  | none => rw [vcStep_none ho]; rfl
  | some gw =>
    obtain ⟨j, want⟩ := gw
    cases hg : gslot ops j with
    | none => simp only [vcStep, ho, hg]; exact Iff.rfl
    | some g =>
      simp only [hg]
      split
      · rename_i b he
        rw [vcStep_some ho hg he]
        unfold vcGuard
        by_cases e : b = want
        · subst e
          rw [if_pos rfl]
          simp only [beq_self_eq_true]
          exact Iff.rfl
        · have : (b == want) = false := by simpa using e
          rw [if_neg e, this]
          constructor
          · intro h; exact ⟨trivial, by show k (st.app o.dst (.one (.tup [])) ()); rw [app_one2]; exact h⟩
          · intro h
            have h2 : k (st.app o.dst (.one (.tup [])) ()) := h.2
            rw [app_one2] at h2; exact h2
      · rename_i he
        rw [vcStep_pass ho hg he]
        constructor
        · intro h; exact ⟨trivial, by show k (st.app o.dst (.one (.tup [])) ()); rw [app_one2]; exact h⟩
        · intro h
          have h2 : k (st.app o.dst (.one (.tup [])) ()) := h.2
          rw [app_one2] at h2; exact h2
      · simp only [vcStep, ho, hg]
        exact Iff.rfl

structure AgO (K : FuncId → Option Con) (tab : TypeId → Option TI) (ops : Array Oper) (o : Oper) (st st' : St) : Prop where
  x : ∀ x ∈ opnds o, AgX st st' x
  sf : clsOf K tab o = 3 → ∀ x ∈ opnds o, AgS st st' x
  s5 : clsOf K tab o = 5 → ∀ x ∈ opnds o, ∀ id ∈ (ev st x).refs, st'.sp id = st.sp id
  rd : clsOf K tab o = 2 → st'.rd = st.rd
  n : clsOf K tab o ≠ 0 → AgN st st' (o.dst.getD 0)
  g : ∀ j want g, o.guard = some (j, want) → gslot ops j = some g → st'.env g = st.env g

theorem trStep_ag (hs : TabSmall tab) (hc : clsOf K tab o ≠ 4) (h : AgO K tab ops o st st') : trStep tab K ops o st' = trStep tab K ops o st := by
  have e := trOp_ag (K := K) hs hc h.x h.sf h.s5 h.rd h.n
  unfold trStep
  cases ho : o.guard with
  | none => exact e
  | some gw =>
    obtain ⟨j, want⟩ := gw
    simp only
    cases hg : gslot ops j with
    | none => rfl
    | some g =>
      simp only
      rw [h.g j want g ho hg, e]

theorem trStep_nice (hs : TabSmall tab) (hc : clsOf K tab o ≠ 4) {t : Tr} (htr : trStep tab K ops o st = some t) : Nice st (o.dst.getD 0) (clsOf K tab o) (opnds o) t := by
  have sk : Nice st (o.dst.getD 0) (clsOf K tab o) (opnds o) (.one (.tup [])) := Nice.plain fun _ id hid => by cases hid
  unfold trStep at htr
  split at htr
  · exact trOp_nice hs hc htr
  · split at htr
    · cases htr
    · split at htr
      · split at htr
        · exact trOp_nice hs hc htr
        · injection htr with htr; subst htr; exact sk
      · injection htr with htr; subst htr; exact sk
      · cases htr

theorem out_con (hK : KTot K) {f : FuncId} {con : Con} (hf : K f = some con) {x : Args con.aks} (hp : con.pre x) {pre : Prop} {val : Args con.rks → S} {news : Args con.rks → List (Nat × Res)} {fl fz : List Nat} {wr : Option ((Nat → Option Res) → Nat → Option Res)} {c : Nat} :
    ∃ r, Out { R := Args con.rks, pre, post := con.post x, val, news, fl, fz, wr, cost := c, det := con.det x } r := by
  have key : ∀ d, con.det x = d → ∃ r, con.det x = some r ∨ (con.det x = none ∧ con.post x r) := by
    intro d hd
    cases d with
    | some r => exact ⟨r, .inl hd⟩
    | none =>
      obtain ⟨r, hr⟩ := hK f con hf x hp
      exact ⟨r, .inr ⟨hd, hr⟩⟩
  exact key _ rfl

theorem out_map {α : Type} {x : Option α} {f : α → Tr} {t : Tr} (h : x.map f = some t) (hf : ∀ a, ∃ r, Out (f a) r) : ∃ r, Out t r := by
  cases x with
  | none => cases h
  | some a => injection h with h; subst h; exact hf a

theorem out_one {v : S} {p : Prop} {l : List (Nat × Res)} : ∃ r, Out (.one v p l) r := ⟨(), .inl rfl⟩
theorem out_gen {v : S} {p : Prop} {l : List (Nat × Res)} {fl fz : List Nat} {w : Option ((Nat → Option Res) → Nat → Option Res)} : ∃ r, Out (.gen v p l fl fz w) r := ⟨(), .inl rfl⟩
theorem out_write {p : Prop} {w : (Nat → Option Res) → Nat → Option Res} {fz : List Nat} : ∃ r, Out (.write p w fz) r := ⟨(), .inl rfl⟩

theorem out_ex (hK : KTot K) {t : Tr} (h : trOp tab K o st = some t) (hp : t.pre) : ∃ r, Out t r := by
  unfold trOp at h
  split at h
  all_goals first
    | (unfold trMove at h) | (unfold trPick at h) | (unfold trAlloc at h) | (unfold trBox at h) | (unfold trBuild at h) | (unfold trBuildSlice at h) | (unfold trLoad at h) | (unfold trStore at h)
    | (unfold trNilCheck at h) | (unfold trBin at h) | (unfold trUn at h) | (unfold trConvert at h) | (unfold trFieldAddr at h) | (unfold trField at h) | (unfold trIndexAddr at h) | (unfold trIndex at h)
    | (unfold trSlice at h) | (unfold trMakeSlice at h) | (unfold trExtract at h) | (unfold trMakeFunc at h) | (unfold trFn trCall at h) | skip
  all_goals repeat' split at h
  all_goals first
    | cases h; done
    | (injection h with h; subst h; exact out_one)
    | (injection h with h; subst h; exact out_gen)
    | (injection h with h; subst h; exact out_write)
    | (injection h with h; subst h; exact out_con hK (by assumption) hp.1)
    | exact out_map h fun _ => out_one
    | (unfold trLen at h; repeat' split at h
       all_goals first
        | cases h; done
        | (injection h with h; subst h; exact out_one))
    | (unfold trAppend at h; repeat' split at h
       all_goals first
        | cases h; done
        | (injection h with h; subst h; exact out_gen))
    | (unfold trCopy at h; repeat' split at h
       all_goals first
        | cases h; done
        | (injection h with h; subst h; exact out_gen))

theorem trStep_out (hK : KTot K) {t : Tr} (htr : trStep tab K ops o st = some t) (hp : t.pre) : ∃ r, Out t r := by
  unfold trStep at htr
  split at htr
  · exact out_ex hK htr hp
  · split at htr
    · cases htr
    · split at htr
      · split at htr
        · exact out_ex hK htr hp
        · injection htr with htr; subst htr; exact out_one
      · injection htr with htr; subst htr; exact out_one
      · cases htr

theorem Cl.app (hcl : Cl st) {dst : Option Nat} {d c : Nat} {xs : List Operand} {t : Tr} (hn : Nice st d c xs t) (r : t.R) : Cl (st.app dst t r) := by
  have emem : (st.app dst t r).mem = adds st.mem (t.news r) := by simp only [St.app, hn.wr]
  have up : ∀ id, (st.mem id).isSome = true ∨ (∃ q, (id, q) ∈ t.news r) → ((st.app dst t r).mem id).isSome = true := by
    intro id h
    rw [emem]
    rcases h with h | ⟨q, h⟩
    · exact adds_isSome h
    · exact adds_new h
  constructor
  · intro x id hid
    cases dst with
    | none => exact up id (.inl (hcl.1 x id hid))
    | some e =>
      have ee : (st.app (some e) t r).env x = if x = e then t.val r else st.env x := rfl
      rw [ee] at hid
      split at hid
      · exact up id (hn.val hcl r id hid)
      · exact up id (.inl (hcl.1 x id hid))
  · intro j q hj id hid
    rw [emem] at hj
    rcases adds_cases hj with hj | hj
    · exact up id (hn.new hcl r (j, q) hj id hid)
    · exact up id (.inl (hcl.2 j q hj id hid))

theorem ev_app {x : Operand} {dst : Option Nat} {t : Tr} {r : t.R} (h : ∀ e, dst = some e → x ≠ .tmp e) : ev (st.app dst t r) x = ev st x := by
  cases x with
  | tmp a =>
    cases dst with
    | none => rfl
    | some e =>
      show (if a = e then t.val r else st.env a) = st.env a
      rw [if_neg fun h1 => h e rfl (by rw [h1])]
  | _ => rfl

theorem ag_after {x y : Oper} (hcl : Cl st) (hy4 : clsOf K tab y ≠ 4) (hdx : dstOk K tab x = true) (hdy : dstOk K tab y = true)
    (hap : ∀ d, x.dst = some d → d ∉ y.looksAt ops) (hdd : ∀ d, x.dst = some d → y.dst ≠ some d) (hclash : clash (clsOf K tab x) (clsOf K tab y) = false) {t : Tr} (hn : Nice st (x.dst.getD 0) (clsOf K tab x) (opnds x) t) (hp : t.pre) (r : t.R) :
    AgO K tab ops y st (st.app x.dst t r) := by
  have emem : (st.app x.dst t r).mem = adds st.mem (t.news r) := by simp only [St.app, hn.wr]
  have hold : ∀ id, (st.mem id).isSome = true → (st.app x.dst t r).mem id = st.mem id := by
    intro id hid
    rw [emem]
    refine adds_old fun p hpm e => ?_
    have := hn.fre hp r p hpm
    rw [e] at this
    rw [this] at hid; cases hid
  have hlook : ∀ z ∈ opnds y, ∀ e, x.dst = some e → z ≠ .tmp e := by
    intro z hz e he hze
    refine hap e he ?_
    unfold Oper.looksAt
    simp only [List.mem_append]
    refine .inl (List.mem_filterMap.2 ⟨z, hz, by rw [hze]⟩)
  have hc4 : clsOf K tab x ≠ 4 := by
    intro e
    rw [e] at hclash
    cases h : clsOf K tab y <;> simp [clash] at hclash
  refine ⟨fun z hz => ⟨ev_app (hlook z hz), fun id hid => hold id (ev_refs hcl z id hid)⟩, ?_, ?_, ?_, fun hy0 => ⟨rfl, ?_⟩, ?_⟩
  · intro h3 z hz id hid
    have : ∀ id, ¬ (id ∈ t.fl ∨ id ∈ t.fz) := fun id h => by
      rcases (hn.spfr id h).1 with this | ⟨this, _⟩ <;> rw [this, h3] at hclash <;> simp [clash] at hclash
    have e1 : t.fl = [] := List.eq_nil_iff_forall_not_mem.2 fun id h => this id (.inl h)
    have e2 : t.fz = [] := List.eq_nil_iff_forall_not_mem.2 fun id h => this id (.inr h)
    constructor
    · show sets st.sp t.fl id = _; rw [e1]; rfl
    · show sets st.fr t.fz id = _; rw [e2]; rfl
  · intro h5 z hz id hid
    have e1 : t.fl = [] := List.eq_nil_iff_forall_not_mem.2 fun id h => by
      rcases (hn.spfr id (.inl h)).1 with this | ⟨_, this⟩
      · rw [this, h5] at hclash
        simp [clash] at hclash
      · rw [this] at h; cases h
    show sets st.sp t.fl id = _; rw [e1]; rfl
  · intro h2
    have hx2 : clsOf K tab x ≠ 2 := fun e => by rw [e, h2] at hclash; simp [clash] at hclash
    show st.rd.map (· + t.cost) = st.rd
    rw [hn.cost hx2]
    cases st.rd <;> rfl
  · intro j hj
    rw [emem]
    refine adds_old fun p hpm e => ?_
    obtain ⟨i, hi, hpi⟩ := hn.ids r p hpm
    rw [hpi] at e
    have hxd : x.dst.isSome = true := by
      cases hx : x.dst with
      | some _ => rfl
      | none =>
        simp only [dstOk, hx] at hdx
        have h0 : clsOf K tab x = 0 := by simpa using hdx
        rw [hn.none h0 r] at hpm; cases hpm
    obtain ⟨dx, hdx'⟩ := Option.isSome_iff_exists.1 hxd
    rw [hdx'] at e
    cases hyd : y.dst with
    | none =>
      simp only [dstOk, hyd] at hdy
      exact (hy0 (by simpa using hdy)).elim
    | some dy =>
      rw [hyd] at e
      have : @Eq Nat dx dy := by unfold nid at e; simp at e; omega
      exact hdd dx hdx' (by rw [hyd, this])
  · intro j want g hg hs
    have hgl : g ∈ y.looksAt ops := by
      unfold Oper.looksAt
      simp only [List.mem_append]
      refine .inr ?_
      rw [hg]
      simp only [gslot] at hs
      simp [hs]
    cases hxd : x.dst with
    | none => rfl
    | some e =>
      show (if g = e then t.val r else st.env g) = st.env g
      rw [if_neg fun h1 => hap e hxd (by rw [← h1]; exact hgl)]

end
end Go.SE

namespace Go.SE

section
variable {tab : TypeId → Option TI} {K : FuncId → Option Con} {st st' : St} {ops : Array Oper}

theorem upd_swap {α : Type} (f : Nat → α) {a b : Nat} (u v : α) (h : a ≠ b) : upd (upd f a u) b v = upd (upd f b v) a u := by
  funext j
  unfold upd
  by_cases h1 : j = b
  · subst h1
    rw [if_pos rfl, if_neg (Ne.symm h), if_pos rfl]
  · rw [if_neg h1, if_neg h1]

theorem adds_get_of {m m' : Nat → Option Res} {k : Nat} (h : m k = m' k) : ∀ (l : List (Nat × Res)), adds m l k = adds m' l k := by
  intro l
  induction l generalizing m m' with
  | nil => exact h
  | cons p l ih =>
    obtain ⟨a, r⟩ := p
    refine ih ?_
    unfold upd
    split
    · rfl
    · exact h

theorem adds_swap (m : Nat → Option Res) {l1 l2 : List (Nat × Res)} (h : ∀ p ∈ l1, ∀ q ∈ l2, p.1 ≠ q.1) : adds (adds m l1) l2 = adds (adds m l2) l1 := by
  funext k
  by_cases h1 : ∃ p ∈ l1, p.1 = k
  · obtain ⟨p, hp, rfl⟩ := h1
    rw [adds_old fun q hq e => h p hp q hq e.symm]
    exact (adds_get_of (adds_old fun q hq e => h p hp q hq e.symm) l1).symm
  · have e1 : adds (adds m l2) l1 k = adds m l2 k := adds_old fun p hp e => h1 ⟨p, hp, e⟩
    rw [e1]
    exact adds_get_of (adds_old fun p hp e => h1 ⟨p, hp, e⟩) l2

theorem sets_swap (f : Nat → Bool) (l1 l2 : List Nat) : sets (sets f l1) l2 = sets (sets f l2) l1 := by
  funext k
  simp only [sets_get]
  cases f k <;> cases l1.contains k <;> cases l2.contains k <;> rfl

theorem app_swap {dx dy : Option Nat} {d1 d2 c1 c2 : Nat} {xs ys : List Operand} {tx ty : Tr} (hx : Nice st d1 c1 xs tx) (hy : Nice st d2 c2 ys ty) (rx : tx.R) (ry : ty.R) (hd : ∀ d, dx = some d → dy ≠ some d) (hn : ∀ p ∈ tx.news rx, ∀ q ∈ ty.news ry, p.1 ≠ q.1) :
    (st.app dx tx rx).app dy ty ry = (st.app dy ty ry).app dx tx rx := by
  have e1 : ((st.app dx tx rx).app dy ty ry).env = ((st.app dy ty ry).app dx tx rx).env := by
    cases dx with
    | none => cases dy <;> rfl
    | some a =>
      cases dy with
      | none => rfl
      | some b => exact upd_swap _ _ _ fun h => hd a rfl (by rw [h])
  have e2 : ((st.app dx tx rx).app dy ty ry).mem = ((st.app dy ty ry).app dx tx rx).mem := by
    simp only [St.app, hx.wr, hy.wr]
    exact adds_swap _ hn
  have e3 : ((st.app dx tx rx).app dy ty ry).sp = ((st.app dy ty ry).app dx tx rx).sp := sets_swap _ _ _
  have e4 : ((st.app dx tx rx).app dy ty ry).fr = ((st.app dy ty ry).app dx tx rx).fr := sets_swap _ _ _
  have e5 : ((st.app dx tx rx).app dy ty ry).rd = ((st.app dy ty ry).app dx tx rx).rd := by
    show Option.map (· + ty.cost) (Option.map (· + tx.cost) st.rd) = Option.map (· + tx.cost) (Option.map (· + ty.cost) st.rd)
    cases st.rd with
    | none => rfl
    | some n => simp only [Option.map_some]; rw [Nat.add_right_comm]
  have ext : ∀ a b : St, a.env = b.env → a.mem = b.mem → a.sp = b.sp → a.fr = b.fr → a.base = b.base → a.rd = b.rd → a = b := by
    intro a b h1 h2 h3 h4 h5 h6
    cases a; cases b; simp only at *; subst h1 h2 h3 h4 h5 h6; rfl
  exact ext _ _ e1 e2 e3 e4 rfl e5

def Free2 (K : FuncId → Option Con) (tab : TypeId → Option TI) (ops : Array Oper) (x y : Oper) : Prop := x.apart ops y = true ∧ clash (clsOf K tab x) (clsOf K tab y) = false ∧ dstOk K tab x = true ∧ dstOk K tab y = true

theorem clash_cls {a b : Nat} (h : clash a b = false) : a ≠ 4 ∧ b ≠ 4 ∧ clash b a = false := by
  unfold clash at h ⊢
  simp only [Bool.or_eq_false_iff, Bool.and_eq_false_iff, beq_eq_false_iff_ne] at h ⊢
  omega

theorem commute (hs : TabSmall tab) (hK : KTot K) (hcl : Cl st) {x y : Oper} (hf : Free2 K tab ops x y) {k : St → Prop} (h : vcStep tab K ops x st fun s => vcStep tab K ops y s k) : vcStep tab K ops y st fun s => vcStep tab K ops x s k := by
  obtain ⟨hap, hclash, hdx, hdy⟩ := hf
  obtain ⟨ha1, ha2, ha3⟩ := Oper.apart_spec hap
  obtain ⟨hx4, hy4, hclash'⟩ := clash_cls hclash
  have hdd' : ∀ d, y.dst = some d → x.dst ≠ some d := fun d h1 h2 => ha2 d h2 h1
  simp only [vcStep_tr] at h ⊢
  cases htx : trStep tab K ops x st with
  | none => rw [htx] at h; exact h.elim
  | some tx =>
    rw [htx, vcTr_iff] at h
    obtain ⟨hpx, h⟩ := h
    have hnx := trStep_nice hs hx4 htx
    obtain ⟨rx0, hrx0⟩ := trStep_out hK htx hpx
    have hy : ∀ rx, trStep tab K ops y (st.app x.dst tx rx) = trStep tab K ops y st := fun rx => trStep_ag hs hy4 (ag_after hcl hy4 hdx hdy ha1 ha2 hclash hnx hpx rx)
    have h' : ∀ rx, Out tx rx → vcTr y.dst (st.app x.dst tx rx) k (trStep tab K ops y st) := fun rx hrx => by rw [← hy rx]; exact h rx hrx
    cases hty : trStep tab K ops y st with
    | none => have := h' rx0 hrx0; rw [hty] at this; exact this.elim
    | some ty =>
      simp only [hty, vcTr_iff] at h'
      have hpy := (h' rx0 hrx0).1
      have hny := trStep_nice hs hy4 hty
      rw [vcTr_iff]
      refine ⟨hpy, fun ry hry => ?_⟩
      have hx : trStep tab K ops x (st.app y.dst ty ry) = trStep tab K ops x st := trStep_ag hs hx4 (ag_after hcl hx4 hdy hdx ha3 hdd' hclash' hny hpy ry)
      rw [hx, htx, vcTr_iff]
      refine ⟨hpx, fun rx hrx => ?_⟩
      rw [← app_swap hnx hny rx ry ha2 ?_]
      · exact (h' rx hrx).2 ry hry
      · intro p hp q hq e
        obtain ⟨i, hi, hpi⟩ := hnx.ids rx p hp
        obtain ⟨j, hj, hqj⟩ := hny.ids ry q hq
        have hxd : x.dst.isSome = true := by
          cases hx : x.dst with
          | some _ => rfl
          | none =>
            simp only [dstOk, hx] at hdx
            rw [hnx.none (by simpa using hdx) rx] at hp; cases hp
        have hyd : y.dst.isSome = true := by
          cases hy : y.dst with
          | some _ => rfl
          | none =>
            simp only [dstOk, hy] at hdy
            rw [hny.none (by simpa using hdy) ry] at hq; cases hq
        obtain ⟨a, ha⟩ := Option.isSome_iff_exists.1 hxd
        obtain ⟨b, hb⟩ := Option.isSome_iff_exists.1 hyd
        rw [hpi, hqj, ha, hb] at e
        have : @Eq Nat a b := by unfold nid at e; simp at e; omega
        exact ha2 a ha (by rw [hb, this])

theorem vcOp_extract {o : Oper} {z : Operand} {n : Nat} (ho : o.op = .extract z n) {k : St → Prop} : vcOp tab K o st k = vcTr o.dst st k (trExtract st z n) := by
  unfold vcOp trOp
  rw [ho]
theorem vcOp_store {o : Oper} {ty : TypeId} {p v : Operand} (ho : o.op = .store ty p v) {k : St → Prop} : vcOp tab K o st k = vcTr o.dst st k (trStore tab st ty p v) := by
  unfold vcOp trOp
  rw [ho]
theorem notSpent_put {d : Option Nat} {s : S} : ∀ ids : List Nat, notSpent (St.put st d s) ids = notSpent st ids := by
  intro ids
  induction ids with
  | nil => rfl
  | cons i l ih =>
    unfold notSpent
    rw [ih]
    cases d <;> rfl
theorem trStore_put {ty : TypeId} {p v : Operand} {d : Nat} {s : S} (h1 : p ≠ .tmp d) (h2 : v ≠ .tmp d) : trStore tab (St.put st (some d) s) ty p v = trStore tab st ty p v := by
  have e : ∀ z : Operand, z ≠ .tmp d → ev (St.put st (some d) s) z = ev st z := fun z hz => by
    cases z with
    | tmp a =>
      show (if a = d then s else st.env a) = st.env a
      rw [if_neg fun e => hz (by rw [e])]
    | _ => rfl
  unfold trStore
  rw [e p h1, e v h2]
  simp only [notSpent_put]
  rfl
theorem commute_late {x y : Oper} (hap : x.apart ops y = true) (hl : lateP x y = true) {k : St → Prop} (h : vcStep tab K ops x st fun s => vcStep tab K ops y s k) : vcStep tab K ops y st fun s => vcStep tab K ops x s k := by
  obtain ⟨ha1, ha2, ha3⟩ := Oper.apart_spec hap
  unfold lateP at hl
  split at hl
  · rename_i z n ty p v e1 e2 e3 e4 e5
    simp only [vcStep_none e2, vcStep_none e4, vcOp_extract e1, vcOp_store e3] at h ⊢
    rw [e5] at h ⊢
    have hlook : ∀ q ∈ opnds y, ∀ d, x.dst = some d → q ≠ .tmp d := by
      intro q hq d hd hqd
      refine ha1 d hd ?_
      unfold Oper.looksAt
      simp only [List.mem_append]
      exact .inl (List.mem_filterMap.2 ⟨q, hq, by rw [hqd]⟩)
    cases hx : trExtract st z n with
    | none => rw [hx] at h; exact h.elim
    | some tx =>
      obtain ⟨s, rfl⟩ : ∃ s, tx = Tr.one (.s s) := by
        unfold trExtract at hx
        split at hx
        · split at hx
          · injection hx with hx; exact ⟨_, hx.symm⟩
          · cases hx
        · cases hx
      rw [hx, vcTr_iff] at h
      have h := h.2 () (.inl rfl)
      rw [app_one2] at h
      have est : trStore tab (St.put st x.dst (.s s)) ty p v = trStore tab st ty p v := by
        cases hd : x.dst with
        | none => rfl
        | some d => exact trStore_put (hlook p (by simp [opnds, e3, Op.operands]) d hd) (hlook v (by simp [opnds, e3, Op.operands]) d hd)
      rw [est] at h
      cases hs : trStore tab st ty p v with
      | none => rw [hs] at h; exact h.elim
      | some ts =>
        rw [hs, vcTr_iff] at h
        rw [vcTr_iff]
        refine ⟨h.1, fun r hr => ?_⟩
        have ex : trExtract (st.app none ts r) z n = some (Tr.one (.s s)) := by
          rw [← hx]
          unfold trExtract
          rw [show ev (st.app none ts r) z = ev st z from by cases z <;> rfl]
        rw [ex, vcTr_iff]
        refine ⟨trivial, fun u _ => ?_⟩
        rw [app_one2]
        have e : (St.put st x.dst (.s s)).app none ts r = St.put (st.app none ts r) x.dst (.s s) := by cases x.dst <;> rfl
        rw [← e]
        exact h.2 r hr
  · cases hl
theorem vcStep_monoCl (hs : TabSmall tab) (hcl : Cl st) {x : Oper} (hx : clsOf K tab x ≠ 4) {k k' : St → Prop} (hk : ∀ s, Cl s → k s → k' s) (h : vcStep tab K ops x st k) : vcStep tab K ops x st k' := by
  rw [vcStep_tr] at h ⊢
  cases htx : trStep tab K ops x st with
  | none => rw [htx] at h; exact h.elim
  | some tx =>
    rw [htx, vcTr_iff] at h
    rw [vcTr_iff]
    exact ⟨h.1, fun r hr => hk _ (hcl.app (trStep_nice hs hx htx) r) (h.2 r hr)⟩

def Free3 (K : FuncId → Option Con) (tab : TypeId → Option TI) (ops : Array Oper) (x y : Oper) : Prop := Free2 K tab ops x y ∨ (x.apart ops y = true ∧ lateP x y = true)
theorem late_cls {x y : Oper} (h : lateP x y = true) : clsOf K tab x ≠ 4 := by
  unfold lateP at h
  split at h
  · rename_i e1 e2 e3 e4 e5
    unfold clsOf
    rw [e1]
    show (0 : Nat) ≠ 4; decide
  · cases h
theorem extract (hs : TabSmall tab) (hK : KTot K) {y : Oper} {l2 : List Oper} {k : St → Prop} : ∀ {l1 : List Oper} {st : St}, Cl st → (∀ x ∈ l1, Free3 K tab ops x y) → vcOps tab K ops (l1 ++ y :: l2) st k → vcStep tab K ops y st fun s => vcOps tab K ops (l1 ++ l2) s k := by
  intro l1
  induction l1 with
  | nil => intro st _ _ h; exact h
  | cons x l1 ih =>
    intro st hcl hf h
    have hfx := hf x (by simp)
    have h1 : vcStep tab K ops x st fun s => vcStep tab K ops y s fun s' => vcOps tab K ops (l1 ++ l2) s' k :=
      vcStep_monoCl hs hcl (hfx.elim (fun h => (clash_cls h.2.1).1) fun h => late_cls h.2) (fun s hc hh => ih hc (fun z hz => hf z (by simp [hz])) hh) h
    rcases hfx with hfx | ⟨h2, h3⟩
    · exact commute hs hK hcl hfx h1
    · exact commute_late h2 h3 h1

end
end Go.SE
