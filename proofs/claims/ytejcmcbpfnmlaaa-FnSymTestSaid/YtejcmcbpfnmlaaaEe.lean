/-
  Parts of a symbolic engine over the program's code: how operations, regions, loops and calls are shown to keep contracts. No conditions.
-/
import Derived.Test.YtejcmcbpfnmlaaaEd
set_option linter.unusedSimpArgs false
set_option linter.unusedVariables false
set_option linter.unusedSectionVars false

namespace Go.SE
open Go.RowKit

section
variable {P : Program} {E : Ty → TypeId} {tab : TypeId → Option TI} {K : FuncId → Option Con} {pts : FuncId → Option PT} {w0 : World} {M : MM} {n : Nat} {o : Oper} {st : St} {a : Act} {w : World}

def MCl (st : St) : Prop := ∀ j r, st.mem j = some r → ∀ id ∈ r.refs, (st.mem id).isSome = true

/-- What a call does is what 'pt' says. -/
structure PTOk (P : Program) (E : Ty → TypeId) (f : FuncId) (pt : PT) : Prop where
  fn : ∃ fn c, P.funcs[f]? = some fn ∧ (fn.name == "runtime.NumGoroutine") = false ∧ fn.body = some c
  call : ∀ (w0 : World) (M : MM) (g : G) (st : St) (w : World) (args : List S0) (vs : List Value) (base : Nat) (k : S → St → Prop),
    Good E w0 M g st w → MCl st → (∀ id ∈ refsT args, (st.mem id).isSome = true) → ArgsR g args vs → pt args base st k →
    Calls P f vs.toArray w fun e w' => ∃ v s st' g', e = .returned v ∧ k s st' ∧ Good E w0 M g' st' w' ∧ s.R g' v ∧ (∀ id ∈ s.refs, (st'.mem id).isSome = true) ∧ MCl st' ∧
      (∀ id, (st.mem id).isSome = true → (st'.mem id).isSome = true ∧ g'.κ id = g.κ id ∧ g'.ln id = g.ln id) ∧ (∀ b vs, g.ro b = some vs → g'.ro b = some vs) ∧ g'.ρ = g.ρ

def PAll (P : Program) (E : Ty → TypeId) (pts : FuncId → Option PT) : Prop := ∀ f pt, pts f = some pt → PTOk P E f pt

theorem snd_pt (h : Rel E w0 M n st a w) (hd : ∀ d, o.dst = some d → d < n) {f : FuncId} {pt : PT} (hP : PTOk P E f pt) {args : Array Operand} {tys : Array TypeId} (ho : o.op = .call ⟨.value (.func f), args, tys⟩) {k : St → Prop}
    (hv : vcPt pt o.dst st k (argsS st args.toList)) {next : Act → World → Prop} {Q : Exit → Act → World → Prop} (hk : ∀ st' a' w', Rel E w0 M n st' a' w' → k st' → next a' w') : o.wp P a w next Q := by
  obtain ⟨g, hg, henv⟩ := h.good
  unfold vcPt at hv
  split at hv
  · rename_i ss hss
    obtain ⟨fn, c, hf, hname, hbody⟩ := hP.fn
    unfold Oper.wp
    rw [run_call hf hname hbody ho, Oper.upon_enter]
    have hargs := argsS_R henv hss
    have hrefs : ∀ id ∈ refsT ss, (st.mem id).isSome = true := argsS_refs h.cl hss
    have hcall := hP.call w0 M g st w ss (args.toList.map a.eval) (ptBase st.base (o.dst.getD 0)) _ hg h.cl.2 hrefs hargs hv
    have harr : (args.toList.map a.eval).toArray = args.map a.eval := by apply Array.ext'; simp
    rw [harr] at hcall
    refine Calls.mono hcall fun e w' he => ?_
    obtain ⟨v, s, st', g', rfl, hks, hg', hsR, hsref, hcl', hold, hro, hρ⟩ := he
    show next (a.put o.dst v) w'
    refine hk _ _ _ ?_ hks
    have envEq : ∀ x, (st.back o.dst s st').env x = if o.dst = some x then s else st.env x := by
      intro x
      cases hdst : o.dst with
      | none => simp [St.back]
      | some d =>
        by_cases e : x = d
        · subst e; simp [St.back, upd]
        · have : ¬ (some d = some x) := fun h => e (by injection h with h; exact h.symm)
          rw [if_neg this]
          simp [St.back, upd, e]
    refine ⟨⟨?_, hcl'⟩, ?_, ?_, g', hg'.env rfl rfl rfl rfl, ?_⟩
    · intro x id hid
      rw [envEq] at hid
      split at hid
      · exact hsref id hid
      · exact (hold id (h.cl.1 x id hid)).1
    · cases o.dst <;> simp [Act.put, h.size]
    · cases o.dst <;> simp [Act.put, h.defers]
    · intro x
      rw [put_get (by rw [h.size]; exact hd), envEq]
      split
      · exact hsR
      · exact (henv x).mono hro hρ fun id hid => (hold id (h.cl.1 x id hid)).2
  · exact hv.elim

theorem vcOpP_sound (h : Rel E w0 M n st a w) (ht : TabOk P E tab) (hKA : KAll P E K) (hPA : PAll P E pts) (hd : ∀ d, o.dst = some d → d < n) (hok : opOk o = true) {k : St → Prop} (hv : vcOpP tab K pts o st k) {next : Act → World → Prop} {Q : Exit → Act → World → Prop}
    (hk : ∀ st' a' w', Rel E w0 M n st' a' w' → k st' → next a' w') : o.wp P a w next Q := by
  unfold vcOpP at hv
  cases hp : ptOf pts o with
  | none => rw [hp] at hv; exact vcOp_sound h ht hKA hd hok hv hk
  | some q =>
    obtain ⟨pt, args⟩ := q
    rw [hp] at hv
    unfold ptOf at hp
    split at hp
    · rename_i f args' tys ho
      split at hp
      · rename_i pt' hpt
        injection hp with hp
        injection hp with hp1 hp2
        subst hp1 hp2
        exact snd_pt h hd (hPA f _ hpt) ho hv hk
      · cases hp
    · cases hp

/-- an operation that is passed over leaves the empty tuple -/
theorem Rel.skip {o : Oper} (h : Rel E w0 M n st a w) (hd : ∀ d, o.dst = some d → d < n) : Rel E w0 M n (St.put st o.dst (.tup [])) (a.put o.dst undef) w := by
  obtain ⟨g, hg, henv⟩ := h.good
  have memEq : (St.put st o.dst (.tup [])).mem = st.mem ∧ (St.put st o.dst (.tup [])).sp = st.sp ∧ (St.put st o.dst (.tup [])).fr = st.fr ∧ (St.put st o.dst (.tup [])).rd = st.rd := by
    cases hdst : o.dst <;> exact ⟨rfl, rfl, rfl, rfl⟩
  have envEq : ∀ x, (St.put st o.dst (.tup [])).env x = if o.dst = some x then .tup [] else st.env x := by
    intro x
    cases hdst : o.dst with
    | none => simp [St.put]
    | some d =>
      by_cases e : x = d
      · subst e; simp [St.put, upd]
      · have : ¬ (some d = some x) := fun h => e (by injection h with h; exact h.symm)
        rw [if_neg this]
        simp [St.put, upd, e]
  refine ⟨⟨fun x id hid => ?_, fun j r hj => ?_⟩, ?_, ?_, g, hg.env memEq.1 memEq.2.1 memEq.2.2.1 memEq.2.2.2, fun x => ?_⟩
  · rw [memEq.1]
    rw [envEq] at hid
    split at hid
    · cases hid
    · exact h.cl.1 x id hid
  · rw [memEq.1] at hj ⊢
    exact h.cl.2 j r hj
  · cases hdst : o.dst <;> simp [Act.put, h.size]
  · cases hdst : o.dst <;> exact h.defers
  · rw [envEq, put_get (by rw [h.size]; exact hd)]
    split
    · exact ⟨#[], rfl, rfl, fun j s hj => by cases hj⟩
    · exact henv x

theorem noYield (h : Rel E w0 M n st a w) {ops : Array Oper} {j g : Nat} (hg : gslot ops j = some g) (he : st.env g = .tup []) : yielded ops a.tmps j = none := by
  obtain ⟨g', hgood, henv⟩ := h.good
  have := henv g
  rw [he] at this
  obtain ⟨vs, hv, _⟩ := this
  unfold gslot at hg
  unfold yielded
  rw [hg]
  simp only [Option.bind_some]
  rw [Array.getD_eq_getD_getElem?] at hv
  cases hq : a.tmps[g]? with
  | none => rfl
  | some u =>
    rw [hq] at hv
    simp only [Option.getD_some] at hv
    rw [hv]

theorem stepP_sound (ht : TabOk P E tab) (hKA : KAll P E K) (hPA : PAll P E pts) {ops : Array Oper} {o : Oper} (hok : opOk o = true) (hd : ∀ d, o.dst = some d → d < n) (h : Rel E w0 M n st a w) {k : St → Prop} (hv : vcStepP tab K pts ops o st k) {next : Act → World → Prop} {Q : Exit → Act → World → Prop}
    (hk : ∀ st' a' w', Rel E w0 M n st' a' w' → k st' → next a' w') : RunsOp P ops o next Q a w := by
  unfold vcStepP at hv
  unfold RunsOp
  cases hg : o.guard with
  | none =>
    rw [hg] at hv
    rw [if_pos (by simp [Region.wanted, hg])]
    exact .inl (vcOpP_sound h ht hKA hPA hd hok hv hk)
  | some gw =>
    obtain ⟨j, want⟩ := gw
    rw [hg] at hv
    simp only at hv
    split at hv
    · exact hv.elim
    · rename_i g hgs
      split at hv
      · rename_i b he
        have hy := yields h hgs he
        have hwant : Region.wanted o (yielded ops a.tmps) = (b == want) := by simp [Region.wanted, hg, hy]
        rw [hwant]
        have hself : ∀ c : Bool, b = c → ({ st with env := upd st.env g (sv (.bool c)) } : St) = st := by
          intro c hc
          subst hc
          have := upd_self st.env g (sv (.bool b)) he
          rw [this]
        cases want <;> cases b <;> simp only at hv
        · have hv := vcIf_f hv
          rw [hself false rfl] at hv
          exact .inl (vcOpP_sound h ht hKA hPA hd hok hv hk)
        · have hv := vcIf_t hv
          rw [hself true rfl] at hv
          exact hk _ _ w (h.skip hd) hv
        · have hv := vcIf_f hv
          rw [hself false rfl] at hv
          exact hk _ _ w (h.skip hd) hv
        · have hv := vcIf_t hv
          rw [hself true rfl] at hv
          exact .inl (vcOpP_sound h ht hKA hPA hd hok hv hk)
      · rename_i he
        have hwant : Region.wanted o (yielded ops a.tmps) = false := by simp [Region.wanted, hg, noYield h hgs he]
        rw [hwant]
        exact hk _ _ w (h.skip hd) hv
      · exact hv.elim

theorem seqP_sound (ht : TabOk P E tab) (hKA : KAll P E K) (hPA : PAll P E pts) {ops : Array Oper} {k : St → Prop} {Q : Exit → Act → World → Prop} (hk : ∀ st' a' w', Rel E w0 M n st' a' w' → k st' → Q .normal a' w') :
    ∀ (l : List Oper) (st : St) (a : Act) (w : World), (∀ o ∈ l, opOk o = true ∧ ∀ d, o.dst = some d → d < n) → Rel E w0 M n st a w → vcOpsP tab K pts ops l st k → wpList P ops Q l a w := by
  intro l
  induction l with
  | nil => intro st a w _ h hv; exact hk st a w h hv
  | cons o rest ih =>
    intro st a w hl h hv
    obtain ⟨hok, hd⟩ := hl o (by simp)
    have hl' : ∀ o ∈ rest, opOk o = true ∧ ∀ d, o.dst = some d → d < n := fun o ho => hl o (by simp [ho])
    unfold wpList
    exact stepP_sound ht hKA hPA hok hd h hv fun st' a' w' hr hv' => ih st' a' w' hl' hr hv'

theorem linExts_ex (ops : Array Oper) : ∀ (f : Nat) (ls : Array Bool), ∃ l, l ∈ linExts ops f ls := by
  intro f
  induction f with
  | zero => intro ls; exact ⟨[], by simp [linExts]⟩
  | succ f ihf =>
    intro ls
    simp only [linExts]
    split
    · exact ⟨[], by simp⟩
    · rename_i x xs _
      obtain ⟨l, hl⟩ := ihf (ls.setIfInBounds x true)
      exact ⟨x :: l, List.mem_flatMap.2 ⟨x, by simp, List.mem_map.2 ⟨l, hl, rfl⟩⟩⟩

/-- a region that has one order only -/
theorem one_sound (ht : TabOk P E tab) (hKA : KAll P E K) (hPA : PAll P E pts) {ops : Array Oper} (hok : opsOk n ops.toList = true) {k : St → Prop} {Q : Exit → Act → World → Prop} (hQ : ∀ st' a' w', Rel E w0 M n st' a' w' → k st' → Q .normal a' w') :
    ∀ (fuel : Nat) (l0 : List Nat) (listed : Array Bool) (st : St) (a : Act) (w : World), linDone ops fuel listed = true → (∀ l ∈ linExts ops fuel listed, l = l0) → Rel E w0 M n st a w → vcOpsP tab K pts ops (pickOps ops l0) st k → wpAny P .any ops Q fuel listed a w := by
  intro fuel
  induction fuel with
  | zero =>
    intro l0 listed st a w hd hone h hv
    simp only [linDone, List.isEmpty_iff] at hd
    have : ([] : List Nat) = l0 := hone [] (by simp [linExts])
    subst this
    exact ⟨hd, hQ st a w h hv⟩
  | succ fuel ih =>
    intro l0 listed st a w hd hone h hv
    simp only [linDone, List.all_eq_true] at hd
    refine ⟨fun he => ?_, fun i hi => ?_⟩
    · have : ([] : List Nat) = l0 := hone [] (by simp [linExts, he])
      subst this
      exact hQ st a w h hv
    have hmem : ∀ l ∈ linExts ops fuel (listed.setIfInBounds i true), (i :: l) ∈ linExts ops (fuel + 1) listed := by
      intro l hl
      simp only [linExts]
      split
      · rename_i he; rw [he] at hi; cases hi
      · rename_i x xs he
        rw [he] at hi
        exact List.mem_flatMap.2 ⟨i, hi, List.mem_map.2 ⟨l, hl, rfl⟩⟩
    obtain ⟨l1, hl1⟩ := linExts_ex ops fuel (listed.setIfInBounds i true)
    have e0 : l0 = i :: l1 := (hone _ (hmem l1 hl1)).symm
    have hone' : ∀ l ∈ linExts ops fuel (listed.setIfInBounds i true), l = l1 := by
      intro l hl
      have := hone _ (hmem l hl)
      rw [e0] at this
      injection this
    subst e0
    unfold wpOp
    cases ho : ops[i]? with
    | none =>
      have e1 : pickOps ops (i :: l1) = pickOps ops l1 := by simp only [pickOps, ho]
      rw [e1] at hv
      exact ih l1 _ st a w (hd i hi) hone' h hv
    | some o =>
      have ho' : o ∈ ops.toList := by
        have := Array.mem_of_getElem? ho
        simpa using this
      obtain ⟨h1, h2⟩ := opsOk_mem hok o ho'
      have e1 : pickOps ops (i :: l1) = o :: pickOps ops l1 := by simp only [pickOps, ho]
      rw [e1] at hv
      exact stepP_sound ht hKA hPA h1 h2 h hv fun st' a' w' hr hk => ih l1 _ st' a' w' (hd i hi) hone' hr hk

/-! ## States cut down -/

theorem tabE_cases (e : Nat → S) : ∀ (l : List Nat) (j : Nat), (j ∈ l ∧ tabE l e j = e j) ∨ tabE l e j = junk := by
  intro l
  induction l with
  | nil => intro j; exact .inr rfl
  | cons x l ih =>
    intro j
    by_cases h : j = x
    · subst h; exact .inl ⟨by simp, by simp [tabE, upd]⟩
    · rcases ih j with ⟨h1, h2⟩ | h1
      · exact .inl ⟨by simp [h1], by simp [tabE, upd, h, h2]⟩
      · exact .inr (by simp [tabE, upd, h, h1])

theorem tabM_get (O m : Nat → Option Res) : ∀ (l : List Nat) (j : Nat), tabM O m l j = if (inL l j || (O j).isSome) = true then m j else none := by
  intro l
  induction l with
  | nil => intro j; simp only [tabM, inL]; cases O j <;> simp
  | cons x l ih =>
    intro j
    by_cases h : j = x
    · subst h; simp [tabM, upd, inL]
    · simp [tabM, upd, inL, h, ih]

theorem tabQ_get (O : Nat → Option Res) (m : Nat → Bool) : ∀ (l : List Nat) (j : Nat), tabQ O m l j = if (inL l j || (O j).isSome) = true then m j else false := by
  intro l
  induction l with
  | nil => intro j; simp only [tabQ, inL]; cases O j <;> simp
  | cons x l ih =>
    intro j
    by_cases h : j = x
    · subst h; simp [tabQ, upd, inL]
    · simp [tabQ, upd, inL, h, ih]

theorem allInO_mem {O : Nat → Option Res} {ids : List Nat} : ∀ {l : List Nat}, allInO O ids l → ∀ x ∈ l, (inL ids x || (O x).isSome) = true := by
  intro l
  induction l with
  | nil => intro _ x h; cases h
  | cons y l ih => intro h x hx; rcases List.mem_cons.1 hx with rfl | hx; exact h.1; exact ih h.2 x hx

theorem closedEO_mem {O : Nat → Option Res} {e : Nat → S} {ids : List Nat} : ∀ {l : List Nat}, closedEO O e ids l → ∀ j ∈ l, ∀ x ∈ (e j).refs, (inL ids x || (O x).isSome) = true := by
  intro l
  induction l with
  | nil => intro _ j h; cases h
  | cons y l ih => intro h j hj; rcases List.mem_cons.1 hj with rfl | hj; exact allInO_mem h.1; exact ih h.2 j hj

theorem closedMO_mem {O m : Nat → Option Res} {ids : List Nat} : ∀ {l : List Nat}, closedMO O m ids l → ∀ j ∈ l, ∀ r, m j = some r → ∀ x ∈ r.refs, (inL ids x || (O x).isSome) = true := by
  intro l
  induction l with
  | nil => intro _ j h; cases h
  | cons y l ih =>
    intro h j hj
    rcases List.mem_cons.1 hj with rfl | hj
    · intro r hr
      have h1 := h.1
      rw [hr] at h1
      exact allInO_mem h1
    · exact ih h.2 j hj

theorem closedVO_mem {O : Nat → Option Res} {ids : List Nat} : ∀ {l : List (Nat × S)}, closedVO O ids l → ∀ p ∈ l, ∀ x ∈ p.2.refs, (inL ids x || (O x).isSome) = true := by
  intro l
  induction l with
  | nil => intro _ j h; cases h
  | cons y l ih => intro h j hj; rcases List.mem_cons.1 hj with rfl | hj; exact allInO_mem h.1; exact ih h.2 j hj

theorem closedRO_mem {O : Nat → Option Res} {ids : List Nat} : ∀ {l : List (Nat × Res)}, closedRO O ids l → ∀ p ∈ l, ∀ x ∈ p.2.refs, (inL ids x || (O x).isSome) = true := by
  intro l
  induction l with
  | nil => intro _ j h; cases h
  | cons y l ih => intro h j hj; rcases List.mem_cons.1 hj with rfl | hj; exact allInO_mem h.1; exact ih h.2 j hj

theorem allSome_mem {m : Nat → Option Res} : ∀ {l : List Nat}, allSome m l → ∀ j ∈ l, (m j).isSome = true := by
  intro l
  induction l with
  | nil => intro _ j h; cases h
  | cons y l ih => intro h j hj; rcases List.mem_cons.1 hj with rfl | hj; exact h.1; exact ih h.2 j hj

/-- what the memory of a call's beginning is to the run of its body -/
structure OOk (O : Nat → Option Res) (M : MM) : Prop where
  cl : ∀ j r, O j = some r → ∀ id ∈ r.refs, (O id).isSome = true
  pin : ∀ id, (M.pin id).isSome = true ∨ (M.pinl id).isSome = true → (O id).isSome = true
  pin' : ∀ id, (O id).isSome = true → (M.pin id).isSome = true

theorem OOk.dom {O : Nat → Option Res} (hO : OOk O M) (h : Rel E w0 M n st a w) : ∀ j, (O j).isSome = true → (st.mem j).isSome = true := by
  intro j hj
  obtain ⟨g, hg, _⟩ := h.good
  obtain ⟨v, hv⟩ := Option.isSome_iff_exists.1 (hO.pin' j hj)
  exact (hg.pin j v hv).1

theorem Rel.gc {O : Nat → Option Res} (h : Rel E w0 M n st a w) (hO : OOk O M) {live ids : List Nat} (hok : gcOk O live ids st) : Rel E w0 M n (gcSt O live ids st) a w := by
  obtain ⟨h1, h2, h4⟩ := hok
  have hOs := hO.dom h
  obtain ⟨g, hg, henv⟩ := h.good
  have hin : ∀ j r, (gcSt O live ids st).mem j = some r → (inL ids j || (O j).isSome) = true ∧ st.mem j = some r := by
    intro j r hj
    have hj' : tabM O st.mem ids j = some r := hj
    rw [tabM_get] at hj'
    split at hj'
    · rename_i e; exact ⟨e, hj'⟩
    · cases hj'
  have hdom : ∀ j, (inL ids j || (O j).isSome) = true → (st.mem j).isSome = true → ((gcSt O live ids st).mem j).isSome = true := by
    intro j hj hs
    show (tabM O st.mem ids j).isSome = true
    rw [tabM_get, if_pos hj]
    exact hs
  have hsp : ∀ j r, (gcSt O live ids st).mem j = some r → (gcSt O live ids st).sp j = st.sp j ∧ (gcSt O live ids st).fr j = st.fr j := by
    intro j r hj
    have e := (hin j r hj).1
    constructor
    · show tabQ O st.sp ids j = _; rw [tabQ_get, if_pos e]
    · show tabQ O st.fr ids j = _; rw [tabQ_get, if_pos e]
  have hcl2 : ∀ j r, (gcSt O live ids st).mem j = some r → ∀ id ∈ r.refs, (inL ids id || (O id).isSome) = true := by
    intro j r hj id hid
    obtain ⟨e, hm⟩ := hin j r hj
    cases hi : inL ids j with
    | true => exact closedMO_mem h2 j (inL_mem.1 hi) r hm id hid
    | false =>
      rw [hi] at e
      simp only [Bool.false_or] at e
      have := h4 j e hi
      rw [hm] at this
      have := hO.cl j r this.symm id hid
      simp [this]
  refine ⟨⟨?_, fun j r hj id hid => hdom id (hcl2 j r hj id hid) (h.cl.2 j r (hin j r hj).2 id hid)⟩, h.size, h.defers, g, ?_, ?_⟩
  · intro x id hid
    rcases tabE_cases st.env live x with ⟨hx, e⟩ | e
    · have e' : (gcSt O live ids st).env x = st.env x := e
      rw [e'] at hid
      exact hdom id (closedEO_mem h1 x hx id hid) (h.cl.1 x id hid)
    · have e' : (gcSt O live ids st).env x = SE.junk := e
      rw [e'] at hid
      simp [SE.junk, S.refs, S0.refs, CV.refs] at hid
  · refine ⟨hg.ext, hg.ro, fun id r hr => hg.res id r (hin id r hr).2, ?_, fun id r hr => hg.fresh id r (hin id r hr).2, ?_, ?_, hg.rds, hg.roo, hg.rho, ?_, ?_, hg.keep.2⟩
    · intro i j r s hi hj hij hli hlj b hbi hbj
      obtain ⟨f, t, xs, ys, e1, e2, e3⟩ := hg.sep i j r s (hin i r hi).2 (hin j s hj).2 hij hli hlj b hbi hbj
      refine ⟨f, t, xs, ys, e1, e2, fun hs => ?_⟩
      rw [(hsp i r hi).1] at hs
      rw [(hsp j s hj).1]
      exact e3 hs
    · intro id r hr hl b hb e1 e2
      rw [(hsp id r hr).1] at e1
      rw [(hsp id r hr).2] at e2
      exact hg.wro id r (hin id r hr).2 hl b hb e1 e2
    · intro m hm
      obtain ⟨e1, e2, e3⟩ := hg.rd m hm
      exact ⟨e1, e2, fun id r hr => e3 id r (hin id r hr).2⟩
    · intro id v hv
      exact ⟨hdom id (by simp [hO.pin id (.inl (by simp [hv]))]) (hg.pin id v hv).1, (hg.pin id v hv).2⟩
    · intro id v hv
      exact ⟨hdom id (by simp [hO.pin id (.inr (by simp [hv]))]) (hg.keep.1 id v hv).1, (hg.keep.1 id v hv).2⟩
  · intro x
    rcases tabE_cases st.env live x with ⟨_, e⟩ | e
    · have e' : (gcSt O live ids st).env x = st.env x := e
      rw [e']; exact henv x
    · have e' : (gcSt O live ids st).env x = SE.junk := e
      rw [e']; trivial

end
end Go.SE

namespace Go.SE
open Go.RowKit

section
variable {P : Program} {E : Ty → TypeId} {w0 : World} {M : MM} {n : Nat} {st st' : St} {a : Act} {w : World}

theorem okO_mem {O : Nat → Option Res} {ρ : Nat → Nat} : ∀ {l : List Nat}, okO O ρ l → ∀ j ∈ l, ((O j).isSome = true → ρ j = j) ∧ (O j = none → O (ρ j) = none) := by
  intro l
  induction l with
  | nil => intro _ j h; cases h
  | cons x l ih =>
    intro h j hj
    rcases List.mem_cons.1 hj with rfl | hj
    · have h1 := h.1
      cases hO : O j with
      | none => rw [hO] at h1; exact ⟨fun h => (by cases h), fun _ => h1⟩
      | some r => rw [hO] at h1; exact ⟨fun _ => h1, fun h => (by cases h)⟩
    · exact ih h.2 j hj

theorem inL_false {l : List Nat} {j : Nat} : inL l j = false ↔ j ∉ l := by
  rw [← inL_mem]; cases inL l j <;> simp

theorem adds_key {k : Nat} {r : Res} : ∀ {l : List (Nat × Res)} {m : Nat → Option Res}, k ∈ l.map (·.1) → adds m l k = some r → (k, r) ∈ l := by
  intro l
  induction l with
  | nil => intro m hk; cases hk
  | cons p l ih =>
    intro m hk h
    obtain ⟨j, s⟩ := p
    by_cases hl : k ∈ l.map (·.1)
    · exact List.mem_cons_of_mem _ (ih hl h)
    · have hkj : k = j := by
        rcases List.mem_cons.1 hk with h | h
        · exact h
        · exact (hl h).elim
      subst hkj
      rw [adds, adds_old (fun p hp e => hl (List.mem_map.2 ⟨p, hp, e⟩)), upd_same] at h
      injection h with h
      subst h
      exact List.mem_cons_self

theorem ownRes_keys : ∀ (l : List Own), (ownRes l).map (·.1) = l.map (·.id) := by
  intro l
  induction l with
  | nil => rfl
  | cons x l ih => simp [ownRes, ih]

theorem Rel.headP {O : Nat → Option Res} (h : Rel E w0 M n st' a w) (hO : OOk O M) {live : List Nat} {sets : List (Nat × S)} {mids : List Nat} {blks : List (Nat × Res)} {owns : List Own} {base : Nat} {rd : Option Nat} (hf : fitsP O live sets mids blks owns rd st st') :
    Rel E w0 M n (SE.headP O live sets mids blks owns base rd st) a w := by
  have hOs := hO.dom h
  unfold fitsP at hf
  split at hf
  · exact hf.elim
  rename_i m hm
  obtain ⟨f1, f2, f3, f4, f5, f6, f7, f8, f9, f10, f11, f12, f14, f15, f16, f13⟩ := hf
  obtain ⟨hkeys, hsrc⟩ := renL_spec hm
  have n6 := allDiff_nodup f6
  have n7 := allDiff_nodup f7
  have n8 := allDiff_nodup f8
  have nodup3 : (mids ++ (blks.map (·.1) ++ owns.map (·.id))).Nodup := n6
  have nown : (owns.map (·.id)).Nodup := (List.nodup_append.1 (List.nodup_append.1 nodup3).2.1).2.1
  -- what stays keeps its number
  have stay : ∀ x ∈ mids ++ blks.map (·.1), lookR m x = x := by
    intro x hx
    refine lookR_id ?_
    rw [hkeys]
    intro ho
    have h1 : ((mids ++ blks.map (·.1)) ++ owns.map (·.id)).Nodup := by rw [List.append_assoc]; exact nodup3
    exact (List.nodup_append.1 h1).2.2 x hx x ho rfl
  have stayO : ∀ x, (O x).isSome = true → lookR m x = x := by
    intro x hx
    by_cases hin : x ∈ idsC mids blks owns
    · exact (okO_mem f14 x hin).1 hx
    · refine lookR_id ?_
      rw [hkeys]
      intro ho
      exact hin (by simp only [idsC, List.mem_append]; exact .inr (.inr ho))
  obtain ⟨g, hg, henv⟩ := h.good
  have idsM : ∀ x ∈ mids, x ∈ idsC mids blks owns := fun x hx => by simp only [idsC, List.mem_append]; exact .inl hx
  have idsB : ∀ x ∈ blks.map (·.1), x ∈ idsC mids blks owns := fun x hx => by simp only [idsC, List.mem_append]; exact .inr (.inl hx)
  have idsW : ∀ x ∈ owns.map (·.id), x ∈ idsC mids blks owns := fun x hx => by simp only [idsC, List.mem_append]; exact .inr (.inr hx)
  have hmemcases : ∀ k r, (SE.headP O live sets mids blks owns base rd st).mem k = some r → (∃ o ∈ owns, k = o.id ∧ r = .sl o.id o.t o.xs) ∨ ((k, r) ∈ blks) ∨ (k ∈ mids ∧ st'.mem k = some r) ∨ (k ∉ idsC mids blks owns ∧ (O k).isSome = true ∧ O k = some r ∧ st'.mem k = some r) := by
    intro k r hk
    have hk : adds (adds (tabM O st.mem mids) blks) (ownRes owns) k = some r := hk
    by_cases h1 : k ∈ owns.map (·.id)
    · obtain ⟨o, h2, h3⟩ := ownRes_mem (adds_key (by rw [ownRes_keys]; exact h1) hk)
      injection h3 with h3 h4
      exact .inl ⟨o, h2, h3, h4⟩
    · rw [adds_old (fun p hp e => h1 (by rw [← ownRes_keys]; exact List.mem_map.2 ⟨p, hp, e⟩))] at hk
      by_cases h2 : k ∈ blks.map (·.1)
      · exact .inr (.inl (adds_key h2 hk))
      · rw [adds_old (fun p hp e => h2 (List.mem_map.2 ⟨p, hp, e⟩)), tabM_get] at hk
        split at hk
        · rename_i e
          by_cases hmid : k ∈ mids
          · exact .inr (.inr (.inl ⟨hmid, by rw [(memSame_mem f3 k hmid).2.1]; exact hk⟩))
          · rw [inL_false.2 hmid] at e
            simp only [Bool.false_or] at e
            have hin : k ∉ idsC mids blks owns := by
              simp only [idsC, List.mem_append, not_or]
              exact ⟨hmid, h2, h1⟩
            obtain ⟨e1, e2, _⟩ := f15 k e (inL_false.2 hin)
            exact .inr (.inr (.inr ⟨hin, e, by rw [← e1]; exact hk, by rw [e2]; exact hk⟩))
        · cases hk
  have hdom : ∀ k, (inL (idsC mids blks owns) k || (O k).isSome) = true → ((SE.headP O live sets mids blks owns base rd st).mem k).isSome = true := by
    intro k hk
    show (adds (adds (tabM O st.mem mids) blks) (ownRes owns) k).isSome = true
    by_cases h1 : k ∈ owns.map (·.id)
    · obtain ⟨o, ho, rfl⟩ := List.mem_map.1 h1
      exact adds_new (ownRes_of ho)
    · by_cases h2 : k ∈ blks.map (·.1)
      · obtain ⟨p, hp, rfl⟩ := List.mem_map.1 h2
        exact adds_isSome (adds_new (k := p.1) (r := p.2) hp)
      · refine adds_isSome (adds_isSome ?_)
        rw [tabM_get]
        by_cases h3 : k ∈ mids
        · rw [if_pos (by simp [inL_mem.2 h3])]
          exact (memSame_mem f3 k h3).1
        · have hin : k ∉ idsC mids blks owns := by
            simp only [idsC, List.mem_append, not_or]
            exact ⟨h3, h2, h1⟩
          rw [inL_false.2 hin] at hk
          simp only [Bool.false_or] at hk
          rw [if_pos (by simp [hk]), (f15 k hk (inL_false.2 hin)).1]
          exact hk
  have spfr : ∀ k, (k ∈ blks.map (·.1) ++ owns.map (·.id) → (SE.headP O live sets mids blks owns base rd st).sp k = false ∧ (SE.headP O live sets mids blks owns base rd st).fr k = false) ∧
      (k ∉ blks.map (·.1) ++ owns.map (·.id) → (inL mids k || (O k).isSome) = true → (SE.headP O live sets mids blks owns base rd st).sp k = st.sp k ∧ (SE.headP O live sets mids blks owns base rd st).fr k = st.fr k) := by
    intro k
    constructor
    · intro hk
      have := inL_mem.2 hk
      simp [SE.headP, this]
    · intro hk hk2
      have := inL_false.2 hk
      simp [SE.headP, this, tabQ_get, hk2]
  -- each number at the head: what it is in st'
  have there : ∀ k r, (SE.headP O live sets mids blks owns base rd st).mem k = some r → (k ∈ idsC mids blks owns ∨ (k ∉ idsC mids blks owns ∧ (O k).isSome = true ∧ O k = some r ∧ st'.mem k = some r)) ∧
      (SE.headP O live sets mids blks owns base rd st).sp k = st'.sp (lookR m k) ∧ (SE.headP O live sets mids blks owns base rd st).fr k = st'.fr (lookR m k) ∧
      ((r.live → ∃ r', st'.mem (lookR m k) = some r' ∧ r'.live ∧ ((∃ f t xs, r' = .sl f t xs) ↔ (∃ f t xs, r = .sl f t xs))) ∧ ResR E w (g.ren (lookR m)) k r) ∧ ∀ id ∈ r.refs, (inL (idsC mids blks owns) id || (O id).isSome) = true := by
    intro k r hk
    rcases hmemcases k r hk with ⟨o, ho, rfl, rfl⟩ | hk | ⟨hin, hk⟩ | ⟨hin, hOk, hOr, hk⟩
    · obtain ⟨h1, h2, f, h3⟩ := memOwns_mem f5 o ho
      have hmem : o.id ∈ owns.map (·.id) := List.mem_map_of_mem ho
      have hs := (spfr o.id).1 (List.mem_append_right _ hmem)
      refine ⟨.inl (idsW _ hmem), by rw [hs.1, h1], by rw [hs.2, h2], ⟨fun _ => ⟨_, h3, trivial, ⟨fun _ => ⟨_, _, _, rfl⟩, fun _ => ⟨_, _, _, rfl⟩⟩⟩, ?_⟩, by simp [Res.refs]⟩
      exact hg.res _ _ h3
    · obtain ⟨h1, h2, h3, h4⟩ := memBlks_mem f4 (k, r) hk
      simp only at h1 h2 h3 h4
      have hmem : k ∈ blks.map (·.1) := List.mem_map.2 ⟨(k, r), hk, rfl⟩
      have hs := (spfr k).1 (List.mem_append_left _ hmem)
      have hst : lookR m k = k := stay k (List.mem_append_right _ hmem)
      refine ⟨.inl (idsB _ hmem), by rw [hs.1, hst, h2], by rw [hs.2, hst, h3], ⟨fun hl => ⟨r.ren (lookR m), by rw [hst]; exact h1, ?_, ?_⟩, ?_⟩, closedRO_mem f12 (k, r) hk⟩
      · rcases h4 with ⟨cs, rfl⟩ | ⟨t, xs, rfl⟩ <;> trivial
      · rcases h4 with ⟨cs, rfl⟩ | ⟨t, xs, rfl⟩ <;> simp [Res.ren]
      · have hr := hg.res _ _ h1
        rcases h4 with ⟨cs, rfl⟩ | ⟨t, xs, rfl⟩
        · obtain ⟨b, vs, ty, h5, h6, h7⟩ := hr
          exact ⟨b, vs, ty, by show g.κ (lookR m k) = _; rw [hst]; exact h5, h6, h7.ren⟩
        · obtain ⟨h0, b, vs, ty, h5, h6, h7⟩ := hr
          exact ⟨by show g.ln (lookR m k) = _; rw [hst]; exact h0, b, vs, ty, by show g.κ (lookR m k) = _; rw [hst]; exact h5, h6, h7⟩
    · obtain ⟨_, h1, h2, h3⟩ := memSame_mem f3 k hin
      have hst : lookR m k = k := stay k (List.mem_append_left _ hin)
      have hnot : k ∉ blks.map (·.1) ++ owns.map (·.id) := fun hh => (List.nodup_append.1 nodup3).2.2 _ hin _ hh rfl
      have hs := (spfr k).2 hnot (by simp [inL_mem.2 hin])
      have hcl := closedMO_mem f11 k hin r (by rw [← h1]; exact hk)
      have hren : ∀ id ∈ r.refs, lookR m id = id := by
        intro id hid
        have := hcl id hid
        cases hi : inL (mids ++ blks.map (·.1)) id with
        | true => exact stay id (inL_mem.1 hi)
        | false => rw [hi] at this; simp at this; exact stayO id (by simp [this])
      have hcl2 : ∀ id ∈ r.refs, (inL (idsC mids blks owns) id || (O id).isSome) = true := by
        intro id hid
        have := hcl id hid
        cases hi : inL (mids ++ blks.map (·.1)) id with
        | true =>
          have hi' := inL_mem.1 hi
          have : id ∈ idsC mids blks owns := by
            rcases List.mem_append.1 hi' with h | h
            · exact idsM _ h
            · exact idsB _ h
          simp [inL_mem.2 this]
        | false => rw [hi] at this; simp at this; simp [this]
      refine ⟨.inl (idsM _ hin), by rw [hs.1, hst, h2], by rw [hs.2, hst, h3], ⟨fun hl => ⟨r, by rw [hst]; exact hk, hl, Iff.rfl⟩, ?_⟩, hcl2⟩
      refine (hg.res k r hk).keep (g' := g.ren (lookR m)) (fun _ _ => rfl) (fun _ _ h => h) rfl ?_ ?_
      · show g.κ (lookR m k) = _ ∧ g.ln (lookR m k) = _
        rw [hst]
        exact ⟨rfl, rfl⟩
      · intro i hi
        show g.κ (lookR m i) = _ ∧ g.ln (lookR m i) = _
        rw [hren i hi]
        exact ⟨rfl, rfl⟩
    · have hst : lookR m k = k := stayO k hOk
      have hnot : k ∉ blks.map (·.1) ++ owns.map (·.id) := fun hh => hin (by simp only [idsC, List.mem_append] at hh ⊢; exact .inr hh)
      have hs := (spfr k).2 hnot (by simp [hOk])
      obtain ⟨e1, e2, e3, e4⟩ := f15 k hOk (inL_false.2 hin)
      have hren : ∀ id ∈ r.refs, (O id).isSome = true := hO.cl k r hOr
      refine ⟨.inr ⟨hin, hOk, hOr, hk⟩, by rw [hs.1, hst, e3], by rw [hs.2, hst, e4], ⟨fun hl => ⟨r, by rw [hst]; exact hk, hl, Iff.rfl⟩, ?_⟩, fun id hid => by simp [hren id hid]⟩
      refine (hg.res k r hk).keep (g' := g.ren (lookR m)) (fun _ _ => rfl) (fun _ _ h => h) rfl ?_ ?_
      · show g.κ (lookR m k) = _ ∧ g.ln (lookR m k) = _
        rw [hst]
        exact ⟨rfl, rfl⟩
      · intro i hi
        show g.κ (lookR m i) = _ ∧ g.ln (lookR m i) = _
        rw [stayO i (hren i hi)]
        exact ⟨rfl, rfl⟩
  have injL : ∀ i ∈ idsC mids blks owns, ∀ j ∈ idsC mids blks owns, i ≠ j → lookR m i ≠ lookR m j := by
    intro i hi j hj hij e
    have hp := List.nodup_iff_pairwise_ne.1 n7
    rw [List.pairwise_map] at hp
    have key : ∀ (l : List Nat), l.Pairwise (fun a b => lookR m a ≠ lookR m b) → i ∈ l → j ∈ l → False := by
      intro l
      induction l with
      | nil => intro _ h; simp at h
      | cons x l ih =>
        intro hp hi hj
        obtain ⟨h1, h2⟩ := List.pairwise_cons.1 hp
        rcases List.mem_cons.1 hi with rfl | hi2 <;> rcases List.mem_cons.1 hj with rfl | hj2
        · exact hij rfl
        · exact h1 j hj2 e
        · exact h1 i hi2 e.symm
        · exact ih h2 hi2 hj2
    exact key _ hp hi hj
  -- a number that is named, and one that lay there and is not
  have mixed : ∀ i ∈ idsC mids blks owns, ∀ j, j ∉ idsC mids blks owns → (O j).isSome = true → lookR m i ≠ j := by
    intro i hi j hj hOj e
    cases hOi : O i with
    | some r =>
      rw [(okO_mem f14 i hi).1 (by simp [hOi])] at e
      exact hj (e ▸ hi)
    | none =>
      have := (okO_mem f14 i hi).2 hOi
      rw [e] at this
      rw [this] at hOj
      cases hOj
  have hrd : ∀ k, (SE.headP O live sets mids blks owns base rd st).rd = some k → ∃ j, st'.rd = some j ∧ j ≤ k ∧ k ≤ rdLimit := by
    intro k hk
    have hk' : rd = some k := hk
    rw [hk'] at f13
    cases hr : st'.rd with
    | none => rw [hr] at f13; exact f13.elim
    | some j => rw [hr] at f13; exact ⟨j, rfl, f13⟩
  refine ⟨⟨?_, fun j r hj id hid => hdom id ((there j r hj).2.2.2.2 id hid)⟩, h.size, h.defers, g.ren (lookR m), ⟨hg.ext, hg.ro, fun id r hid => (there id r hid).2.2.2.1.2, ?_, ?_, ?_, ?_, ?_, hg.roo, hg.rho, ?_, ⟨?_, hg.keep.2⟩⟩, ?_⟩
  · -- what the slots name
    intro x id hid
    rcases puts_cases x sets (puts (keepE live st.env) (ownEnv owns)) with ⟨v, h1, h2⟩ | h1
    · have : (SE.headP O live sets mids blks owns base rd st).env x = v := h2
      rw [this] at hid
      exact hdom id (closedVO_mem f10 (x, v) h1 id hid)
    · rcases puts_cases x (ownEnv owns) (keepE live st.env) with ⟨v, h2, h3⟩ | h2
      · have : (SE.headP O live sets mids blks owns base rd st).env x = v := by show puts _ _ x = _; rw [h1, h3]
        rw [this] at hid
        obtain ⟨o, h4, _, h6⟩ := ownEnv_mem h2
        simp only at h6
        subst h6
        simp [S.refs, S0.refs, CV.refs] at hid
        subst hid
        exact hdom _ (by simp [inL_mem.2 (idsW _ (List.mem_map_of_mem h4))])
      · have : (SE.headP O live sets mids blks owns base rd st).env x = keepE live st.env x := by show puts _ _ x = _; rw [h1, h2]
        rw [this] at hid
        unfold keepE at hid
        split at hid
        · rename_i hin
          have := closedEO_mem f9 x (inL_mem.1 hin) id hid
          refine hdom id ?_
          cases hi : inL (mids ++ blks.map (·.1)) id with
          | true =>
            have hi' := inL_mem.1 hi
            have : id ∈ idsC mids blks owns := by
              rcases List.mem_append.1 hi' with h | h
              · exact idsM _ h
              · exact idsB _ h
            simp [inL_mem.2 this]
          | false => rw [hi] at this; simp at this; simp [this]
        · simp [SE.junk, S.refs, S0.refs, CV.refs] at hid
  · intro i j r s hi hj hij hli hlj b hbi hbj
    obtain ⟨i1, i2, i3, ⟨i4, i5⟩, _⟩ := there i r hi
    obtain ⟨j1, j2, j3, ⟨j4, j5⟩, _⟩ := there j s hj
    obtain ⟨r', ri1, ri2, _⟩ := i4 hli
    obtain ⟨s', sj1, sj2, _⟩ := j4 hlj
    rcases i1 with i1 | ⟨i1, iO, iOr, iM⟩ <;> rcases j1 with j1 | ⟨j1, jO, jOr, jM⟩
    · obtain ⟨f, t, xs, ys, h1, h2, _⟩ := hg.sep _ _ r' s' ri1 sj1 (injL i i1 j j1 hij) ri2 sj2 b hbi hbj
      subst h1 h2
      exact (famsOf_diff n8 (List.mem_map_of_mem i1) (List.mem_map_of_mem j1) (injL i i1 j j1 hij) ri1 sj1).elim
    · have e := stayO j jO
      have hbj' : blkOf (g.κ (lookR m j)) = some b := hbj
      rw [e] at sj1 hbj'
      obtain ⟨f, t, xs, ys, h1, h2, _⟩ := hg.sep _ _ r' s' ri1 sj1 (mixed i i1 j j1 jO) ri2 sj2 b hbi hbj'
      subst h1 h2
      rw [jM] at sj1
      injection sj1 with sj1
      subst sj1
      exact (notIn_mem (f16 j f t ys jOr (inL_false.2 j1)) (famsOf_mem (List.mem_map_of_mem i1) ri1)).elim
    · have e := stayO i iO
      have hbi' : blkOf (g.κ (lookR m i)) = some b := hbi
      rw [e] at ri1 hbi'
      obtain ⟨f, t, xs, ys, h1, h2, _⟩ := hg.sep _ _ s' r' sj1 ri1 (mixed j j1 i i1 iO) sj2 ri2 b hbj hbi'
      subst h1 h2
      rw [iM] at ri1
      injection ri1 with ri1
      subst ri1
      exact (notIn_mem (f16 i f t ys iOr (inL_false.2 i1)) (famsOf_mem (List.mem_map_of_mem j1) sj1)).elim
    · have e := stayO i iO
      have e' := stayO j jO
      have hbi' : blkOf (g.κ (lookR m i)) = some b := hbi
      have hbj' : blkOf (g.κ (lookR m j)) = some b := hbj
      rw [e] at ri1 hbi' i2
      rw [e'] at sj1 hbj' j2
      obtain ⟨f, t, xs, ys, h1, h2, h3⟩ := hg.sep i j r' s' ri1 sj1 hij ri2 sj2 b hbi' hbj'
      rw [iM] at ri1
      rw [jM] at sj1
      injection ri1 with ri1
      injection sj1 with sj1
      subst ri1 sj1
      exact ⟨f, t, xs, ys, h1, h2, fun hs => by rw [i2] at hs; rw [j2]; exact h3 hs⟩
  · intro i r hi hl b hb
    obtain ⟨i1, i2, i3, ⟨i4, i5⟩, _⟩ := there i r hi
    obtain ⟨r', ri1, ri2, _⟩ := i4 hl
    exact hg.fresh _ r' ri1 ri2 b hb
  · intro i r hi hl b hb h1 h2
    obtain ⟨i1, i2, i3, ⟨i4, i5⟩, _⟩ := there i r hi
    obtain ⟨r', ri1, ri2, _⟩ := i4 hl
    exact hg.wro _ r' ri1 ri2 b hb (by rw [← i2]; exact h1) (by rw [← i3]; exact h2)
  · intro k hk
    obtain ⟨j, hj, hle, hlim⟩ := hrd k hk
    obtain ⟨⟨_, hout, code, v, p, ty, hc, hd, hl, h0, hp⟩, hin, hno⟩ := hg.rd j hj
    refine ⟨⟨hlim, hout, code, v, p, ty, hc, hd, hl, h0, by omega⟩, hin, ?_⟩
    intro i r hi hl
    obtain ⟨i1, i2, i3, ⟨i4, i5⟩, _⟩ := there i r hi
    obtain ⟨r', ri1, ri2, _⟩ := i4 hl
    exact hno _ r' ri1 ri2
  · intro hn
    cases hk : (SE.headP O live sets mids blks owns base rd st).rd with
    | none => exact (hn hk).elim
    | some k =>
      obtain ⟨j, hj, _⟩ := hrd k hk
      exact hg.rds (by rw [hj]; simp)
  · intro id v hv
    have hi := hO.pin id (.inl (by simp [hv]))
    refine ⟨hdom id (by simp [hi]), ?_⟩
    show g.κ (lookR m id) = v
    rw [stayO id hi]
    exact (hg.pin id v hv).2
  · intro id v hv
    have hi := hO.pin id (.inr (by simp [hv]))
    refine ⟨hdom id (by simp [hi]), ?_⟩
    show g.ln (lookR m id) = v
    rw [stayO id hi]
    exact (hg.keep.1 id v hv).2
  · intro x
    rcases puts_cases x sets (puts (keepE live st.env) (ownEnv owns)) with ⟨v, h1, h2⟩ | h1
    · have e : (SE.headP O live sets mids blks owns base rd st).env x = v := h2
      rw [e]
      have := henv x
      rw [envSets_mem f2 _ h1] at this
      exact S.ren_R this
    · rcases puts_cases x (ownEnv owns) (keepE live st.env) with ⟨v, h2, h3⟩ | h2
      · have e : (SE.headP O live sets mids blks owns base rd st).env x = v := by show puts _ _ x = _; rw [h1, h3]
        rw [e]
        obtain ⟨o, h4, h5, h6⟩ := ownEnv_mem h2
        simp only at h5 h6
        subst h6
        have hs := hsrc nown o h4
        rw [h5] at hs
        simp only [srcId] at hs
        split at hs
        · rename_i id he
          injection hs with hs
          have := henv x
          rw [he, hs] at this
          exact this
        · cases hs
      · have e : (SE.headP O live sets mids blks owns base rd st).env x = keepE live st.env x := by show puts _ _ x = _; rw [h1, h2]
        rw [e]
        unfold keepE
        split
        · rename_i hin
          have hin' := inL_mem.1 hin
          have := henv x
          rw [envSame_mem f1 x hin'] at this
          refine S.R.mono (g := g) (g' := g.ren (lookR m)) (fun _ _ h => h) rfl (fun id hid => ?_) this
          show g.κ (lookR m id) = _ ∧ g.ln (lookR m id) = _
          have hc := closedEO_mem f9 x hin' id hid
          have : lookR m id = id := by
            cases hi : inL (mids ++ blks.map (·.1)) id with
            | true => exact stay id (inL_mem.1 hi)
            | false => rw [hi] at hc; simp at hc; exact stayO id (by simp [hc])
          rw [this]
          exact ⟨rfl, rfl⟩
        · trivial

end
end Go.SE

namespace Go.SE
open Go.RowKit

section
variable {P : Program} {E : Ty → TypeId} {tab : TypeId → Option TI} {K : FuncId → Option Con} {O : Nat → Option Res} {pts : FuncId → Option PT} {hp : Nat → Bool} {gcs : Nat → Option (List Nat × List Nat)} {anns : Nat → Option Ann} {perm : Nat → List (List Nat)} {w0 : World} {M : MM} {n : Nat}

def codeOkP (tab : TypeId → Option TI) (K : FuncId → Option Con) (hp : Nat → Bool) (perm : Nat → List (List Nat)) (n : Nat) : Code → Bool
  | .region id ops draw => opsOk n ops.toList && (match hp id with
    | false => (match perm id with
      | [] => !draw || drawOk K tab ops
      | l :: ls => draw && permOk ops (l :: ls))
    | true => (match perm id with
      | [] => !draw
      | [l] => draw && permOk ops [l]
      | _ => false))
  | .seq a b => codeOkP tab K hp perm n a && codeOkP tab K hp perm n b
  | .block _ c => codeOkP tab K hp perm n c
  | .loop c => codeOkP tab K hp perm n c
  | .cond _ a b => codeOkP tab K hp perm n a && codeOkP tab K hp perm n b
  | _ => true

open Classical in
theorem codeP_sound (ht : TabOk P E tab) (hKA : KAll P E K) (hPA : PAll P E pts) (hmix : P.follows .mixedOrders = true) (hdr : DrawSound P E tab K w0 M n) (hO : OOk O M) : ∀ (c : Code) (st : St) (a : Act) (w : World) (Qs : XK → St → Prop) (Q : Exit → Act → World → Prop), codeOkP tab K hp perm n c = true → Rel E w0 M n st a w → vcP tab K O pts hp gcs anns perm c st Qs →
    (∀ x st' a' w', Rel E w0 M n st' a' w' → Qs x st' → Q x.exit' a' w') → c.wp P Q a w := by
  intro c
  induction c with
  | skip => intro st a w Qs Q _ h hv hQ; exact wp_skip (hQ .normal st a w h hv)
  | region id ops draw =>
    intro st a w Qs Q hok h hv hQ
    simp only [codeOkP, Bool.and_eq_true] at hok
    obtain ⟨hok1, hok2⟩ := hok
    simp only [vcP] at hv
    cases hh : hp id with
    | false =>
      rw [hh] at hv hok2
      cases hpm : perm id with
      | nil =>
        rw [hpm] at hv hok2
        simp only [vcRegP, vcReg] at hv
        simp only at hok2
        cases draw with
        | false => exact wp_region_list (seq_sound ht hKA (fun st' a' w' hr hk => hQ .normal st' a' w' hr hk) ops.toList st a w (opsOk_mem hok1) h hv)
        | true => exact hdr id ops st a w _ Q (by simpa using hok2) hok1 h hv fun st' a' w' hr hk => hQ .normal st' a' w' hr hk
      | cons l ls =>
        rw [hpm] at hv hok2
        simp only [vcRegP, vcReg] at hv
        simp only [Bool.and_eq_true, permOk, List.all_eq_true] at hok2
        obtain ⟨hd, hp1, hp2⟩ := hok2
        subst hd
        refine wp_region_any hmix (any_sound ht hKA hok1 (fun st' a' w' hr hk => hQ .normal st' a' w' hr hk) _ _ st a _ hp1 h.drawn fun x hx => vcEach_mem hv x ?_)
        have := hp2 x hx
        simpa using this
    | true =>
      rw [hh] at hv hok2
      cases hpm : perm id with
      | nil =>
        rw [hpm] at hv hok2
        simp only [vcRegP] at hv
        simp only [Bool.not_eq_true'] at hok2
        subst hok2
        exact wp_region_list (seqP_sound ht hKA hPA (fun st' a' w' hr hk => hQ .normal st' a' w' hr hk) ops.toList st a w (opsOk_mem hok1) h hv)
      | cons l ls =>
        rw [hpm] at hv hok2
        simp only [vcRegP] at hv
        cases ls with
        | cons l' ls => cases hok2
        | nil =>
          simp only [Bool.and_eq_true, permOk, List.all_eq_true] at hok2
          obtain ⟨hd, hp1, hp2⟩ := hok2
          subst hd
          refine wp_region_any hmix (one_sound ht hKA hPA hok1 (fun st' a' w' hr hk => hQ .normal st' a' w' hr hk) _ l _ st a _ hp1 (fun x hx => ?_) h.drawn hv)
          have := hp2 x hx
          simpa using this
  | seq x y ihx ihy =>
    intro st a w Qs Q hok h hv hQ
    simp only [codeOkP, Bool.and_eq_true] at hok
    refine wp_seq (ihx st a w _ _ hok.1 h hv fun k st' a' w' hr hk => ?_)
    cases k with
    | normal =>
      simp only [seqK] at hk
      unfold gcK at hk
      split at hk
      · exact ihy st' a' w' Qs Q hok.2 hr hk hQ
      · exact ihy _ a' w' Qs Q hok.2 (hr.gc hO hk.1) hk.2 hQ
    | exit id => exact hQ (.exit id) st' a' w' hr hk
    | ret => exact hQ .ret st' a' w' hr hk
  | cond cnd x y ihx ihy =>
    intro st a w Qs Q hok h hv hQ
    simp only [codeOkP, Bool.and_eq_true] at hok
    simp only [vcP] at hv
    unfold condK at hv
    split at hv
    · rename_i t he
      have hval := (ev_val h he).1
      cases t with
      | true => exact wp_cond_true hval (ihx st a w Qs Q hok.1 h (vcIf_t hv) hQ)
      | false => exact wp_cond_false hval (ihy st a w Qs Q hok.2 h (vcIf_f hv) hQ)
    · exact hv.elim
  | block id x ih =>
    intro st a w Qs Q hok h hv hQ
    refine wp_block (ih st a w _ _ hok h hv fun k st' a' w' hr hk => ?_)
    cases k with
    | normal => exact hQ .normal st' a' w' hr hk
    | exit id' =>
      simp only [XK.exit', Exit.inBlock]
      simp only [blockK] at hk
      split
      · rename_i e; rw [if_pos e] at hk; exact hQ .normal st' a' w' hr hk
      · rename_i e; rw [if_neg e] at hk; exact hQ (.exit id') st' a' w' hr hk
    | ret => exact hQ .ret st' a' w' hr hk
  | loop x ih =>
    intro st a w Qs Q hok h hv hQ
    simp only [vcP] at hv
    unfold vcLoopP at hv
    split at hv
    · exact hv.elim
    · rename_i α ok mu i0 nx live sets mids blks owns rd base hA
      obtain ⟨⟨ho0, hf0⟩, hround⟩ := hv
      let α0 : α := i0 st
      let hd : α → St := fun α => headP O live (sets α) mids (blks α) (owns α) base (rd st.rd α) st
      have hex : ∀ (a : Act) (w : World), (∃ α, ok α ∧ Rel E w0 M n (hd α) a w) → ∃ m, ∃ α, ok α ∧ Rel E w0 M n (hd α) a w ∧ mu α = m :=
        fun a w ⟨α, h1, h2⟩ => ⟨_, α, h1, h2, rfl⟩
      let μ : Act → World → Nat := fun a w => if hh : ∃ m, ∃ α, ok α ∧ Rel E w0 M n (hd α) a w ∧ mu α = m then Classical.choose (least hh) else 0
      refine wp_loop (fun a w => ∃ α, ok α ∧ Rel E w0 M n (hd α) a w) μ ⟨α0, ho0, h.headP hO hf0⟩ ?_
      intro a w hI
      have hh := hex a w hI
      obtain ⟨α, h1, h2, h3⟩ := (Classical.choose_spec (least hh)).1
      have hμ : μ a w = mu α := by simp only [μ, dif_pos hh]; exact h3.symm
      refine ih _ a w _ _ hok h2 (hround α h1) fun k st' a' w' hr hk => ?_
      cases k with
      | normal =>
        obtain ⟨g1, g2, g3⟩ := hk
        have hrel : Rel E w0 M n (hd (nx α st')) a' w' := hr.headP hO g3
        refine ⟨⟨nx α st', g1, hrel⟩, ?_⟩
        have hh' : ∃ m, ∃ α, ok α ∧ Rel E w0 M n (hd α) a' w' ∧ mu α = m := ⟨_, nx α st', g1, hrel, rfl⟩
        have : μ a' w' ≤ mu (nx α st') := by simp only [μ, dif_pos hh']; exact (Classical.choose_spec (least hh')).2 _ ⟨nx α st', g1, hrel, rfl⟩
        omega
      | exit id => exact hQ (.exit id) st' a' w' hr hk
      | ret => exact hQ .ret st' a' w' hr hk
  | exit id => intro st a w Qs Q _ h hv hQ; exact wp_exit (hQ (.exit id) st a w h hv)
  | ret => intro st a w Qs Q _ h hv hQ; exact wp_ret (hQ .ret st a w h hv)
  | _ => intro st a w Qs Q _ h hv hQ; exact hv.elim

theorem OOk.none {h : Bool} {ρ : Nat} {ro0 : Nat → Option (Array Value)} : OOk (fun _ => Option.none) (MOf h ρ ro0) :=
  ⟨fun _ _ h => (by cases h), fun _ h => (by rcases h with h | h <;> cases h), fun _ h => (by cases h)⟩

/-- A function keeps its contract where the condition of its body holds. -/
theorem fnP_sound (ht : TabOk P E tab) (hKA : KAll P E K) (hPA : PAll P E pts) (hmix : P.follows .mixedOrders = true) (hdr : ∀ w0 M n, DrawSound P E tab K w0 M n) {f : FuncId} {fn : Func} {c : Code} {con : Con} (hf : P.funcs[f]? = some fn) (hb : fn.body = some c) (hn : con.aks.length ≤ fn.ntmps) (hok : codeOkP tab K hp perm fn.ntmps c = true)
    {anns : Args con.aks → Nat → Nat → Option Ann} (hvc : ∀ x k, con.pre x → (hasRdr con.aks = true → k + con.cost x ≤ rdLimit) → vcP tab K (fun _ => none) pts hp gcs (anns x k) perm c (entry (encs con.aks x) (rdOf (hasRdr con.aks) k)) (retOk tab con fn.results.toList x k)) : CallOk P E f con := by
  intro w0 ro0 ρ k x vs id0 hpre hin hrd hargs
  have hlen : vs.length = con.aks.length := by
    rw [hargs.1]
    have : ∀ (ks : List AK) (x : Args ks), (encs ks x).length = ks.length := by
      intro ks
      induction ks with
      | nil => intro x; rfl
      | cons k ks ih => intro x; obtain ⟨x, xs⟩ := x; simp [encs, ih]
    exact this _ _
  have hrd1 : hasRdr con.aks = true → RdOk w0 ro0 ρ k := fun h => (hrd h).1
  refine calls_of_wp hf hb ?_
  refine codeP_sound ht hKA hPA hmix (hdr _ _ _) OOk.none c _ _ _ (retOk tab con fn.results.toList x k) _ hok (entry_rel hin hrd1 hargs (by omega)) (hvc x k hpre fun h => (hrd h).2) ?_
  intro xk st' a' w' hr hk
  have fin : retOk tab con fn.results.toList x k .ret st' → a'.defers = [] ∧ ∃ v, (results fn a'.tmps).run P w' = .ok v w' ∧ ∃ v1 r g, Ending.returned v = .returned v1 ∧ con.post x r ∧ Ext (fun b => hasRdr con.aks = true ∧ b = ρ) w0 w' ∧ g.ρ = ρ ∧ ResOk E w0 w' ro0 con.rks id0 r v1 g ∧ (hasRdr con.aks = true → RdStep w0 w' ρ (k + con.cost x)) := by
    intro hv
    obtain ⟨v, h1, r, g, h2, h3, h4, h5, h6⟩ := exit_ok id0 ht hin hrd1 hr hv
    exact ⟨hr.defers, v, h1, v, r, g, rfl, h2, h3, h4, h5, h6⟩
  cases xk with
  | normal => exact fin hk
  | ret => exact fin hk
  | exit id => exact hk.elim

/-- A body that is run in its caller's memory. -/
theorem inl_ok (ht : TabOk P E tab) (hKA : KAll P E K) (hPA : PAll P E pts) (hmix : P.follows .mixedOrders = true) (hdr : ∀ w0 M n, DrawSound P E tab K w0 M n) {f : FuncId} {fn : Func} (hf : P.funcs[f]? = some fn) (hb : fn.body = some (bodyOf fn)) (hname : (fn.name == "runtime.NumGoroutine") = false)
    (hok : codeOkP tab K hp perm fn.ntmps (bodyOf fn) = true) {gcb : Nat → Nat → Option (List Nat × List Nat)} {ann : List S0 → Nat → St → Nat → Option Ann} : PTOk P E f (inl tab K pts hp gcb ann perm fn.ntmps (bodyOf fn) fn.results.toList) := by
  refine ⟨⟨fn, _, hf, hname, hb⟩, ?_⟩
  intro w0 M g st w args vs base k hg hcl hrefs hargs hv
  obtain ⟨hlen, hv⟩ := hv
  let M' : MM := { M with pin := fun id => if (st.mem id).isSome then some (g.κ id) else none, pinl := fun id => if (st.mem id).isSome then some (g.ln id) else none, rok := g.ro }
  have hg' : Good E w0 M' g (inlSt args base st) w := by
    refine ⟨hg.ext, hg.ro, hg.res, hg.sep, hg.fresh, hg.wro, hg.rd, hg.rds, hg.roo, hg.rho, ?_, ?_, fun b vs h => h⟩
    · intro id v hid
      have hid : (if (st.mem id).isSome then some (g.κ id) else none) = some v := hid
      split at hid
      · rename_i e; injection hid with hid; exact ⟨e, hid⟩
      · cases hid
    · intro id v hid
      have hid : (if (st.mem id).isSome then some (g.ln id) else none) = some v := hid
      split at hid
      · rename_i e; injection hid with hid; exact ⟨e, hid⟩
      · cases hid
  have hOO : OOk st.mem M' := by
    refine ⟨hcl, ?_, ?_⟩
    · intro id hid
      rcases hid with hid | hid
      · have hid : (if (st.mem id).isSome then some (g.κ id) else none).isSome = true := hid
        split at hid
        · assumption
        · cases hid
      · have hid : (if (st.mem id).isSome then some (g.ln id) else none).isSome = true := hid
        split at hid
        · assumption
        · cases hid
    · intro id hid
      show (if (st.mem id).isSome then some (g.κ id) else none).isSome = true
      rw [if_pos hid]; rfl
  refine calls_of_wp hf hb ?_
  have hrel : Rel E w0 M' fn.ntmps (inlSt args base st) { tmps := vs.toArray ++ Array.replicate (fn.ntmps - vs.toArray.size) undef, defers := [] } w := by
    refine ⟨⟨?_, hcl⟩, by simp; have := hargs.1; omega, rfl, g, hg', ?_⟩
    · intro j id hid
      have e : (inlSt args base st).env j = envOf args 0 j := rfl
      rw [e] at hid
      rcases envOf_cases args 0 j with h1 | ⟨i, s, h1, _, h3⟩
      · rw [h1] at hid; simp [SE.junk, S.refs, S0.refs, CV.refs] at hid
      · rw [h3] at hid
        exact hrefs id (mem_refsT h1 hid)
    · intro j
      have e : (inlSt args base st).env j = envOf args 0 j := rfl
      rw [e]
      rcases envOf_cases args 0 j with h1 | ⟨i, s, h1, h2, h3⟩
      · rw [h1]; trivial
      · rw [h3]
        obtain ⟨v, h4, h5⟩ := hargs.2 i s h1
        have hj : j = i := by omega
        subst hj
        have hlt : j < vs.length := (List.getElem?_eq_some_iff.1 h4).1
        have : (vs.toArray ++ Array.replicate (fn.ntmps - vs.toArray.size) undef).getD j undef = v := by
          rw [Array.getD_eq_getD_getElem?, Array.getElem?_append_left (by simpa using hlt)]
          simp [h4]
        show S.R _ _ ((vs.toArray ++ Array.replicate (fn.ntmps - vs.toArray.size) undef).getD j undef)
        rw [this]
        exact h5
  refine codeP_sound ht hKA hPA hmix (hdr _ _ _) hOO (bodyOf fn) _ _ _ _ _ hok hrel hv ?_
  intro xk st' a' w' hr hk
  have fin : retP tab fn.results.toList k .ret st' → a'.defers = [] ∧ ∃ v, (results fn a'.tmps).run P w' = .ok v w' ∧ ∃ v1 s st1 g1, Ending.returned v = .returned v1 ∧ k s st1 ∧ Good E w0 M g1 st1 w' ∧ s.R g1 v1 ∧ (∀ id ∈ s.refs, (st1.mem id).isSome = true) ∧ MCl st1 ∧
      (∀ id, (st.mem id).isSome = true → (st1.mem id).isSome = true ∧ g1.κ id = g.κ id ∧ g1.ln id = g.ln id) ∧ (∀ b vs, g.ro b = some vs → g1.ro b = some vs) ∧ g1.ρ = g.ρ := by
    intro hk
    unfold retP at hk
    simp only at hk
    split at hk
    · rename_i ss hss
      obtain ⟨g1, hg1, henv1⟩ := hr.good
      obtain ⟨vs1, hrun, hargs1, hrefs1⟩ := loads_run (P := P) ht hg1 henv1 hr.cl hss
      have hres := results_run (fn := fn) hrun
      have hpin : ∀ id, (st.mem id).isSome = true → (st'.mem id).isSome = true ∧ g1.κ id = g.κ id ∧ g1.ln id = g.ln id := by
        intro id hid
        have h1 := hg1.pin id (g.κ id) (by show (if (st.mem id).isSome then some (g.κ id) else none) = _; rw [if_pos hid])
        have h2 := hg1.keep.1 id (g.ln id) (by show (if (st.mem id).isSome then some (g.ln id) else none) = _; rw [if_pos hid])
        exact ⟨h1.1, h1.2, h2.2⟩
      refine ⟨hr.defers, _, hres, _, pack1 ss, st', g1, rfl, hk, ?_, ?_, fun id hid => hrefs1 id (pack1_refs _ id hid), hr.cl.2, hpin, fun b vs hb => hg1.keep.2 b vs hb, hg1.rho.trans hg.rho.symm⟩
      · refine ⟨hg1.ext, hg1.ro, hg1.res, hg1.sep, hg1.fresh, hg1.wro, hg1.rd, hg1.rds, hg1.roo, hg1.rho, ?_, ?_, ?_⟩
        · intro id v hid
          obtain ⟨h1, h2⟩ := hg.pin id v hid
          obtain ⟨h3, h4, h5⟩ := hpin id h1
          exact ⟨h3, h4.trans h2⟩
        · intro id v hid
          obtain ⟨h1, h2⟩ := hg.keep.1 id v hid
          obtain ⟨h3, h4, h5⟩ := hpin id h1
          exact ⟨h3, h5.trans h2⟩
        · intro b vs hb
          exact hg1.keep.2 b vs (hg.keep.2 b vs hb)
      · have := pack1_R hargs1
        rcases vs1 with _ | ⟨v, _ | ⟨u, l⟩⟩ <;> exact this
    · exact hk.elim
  cases xk with
  | normal => exact fin hk
  | ret => exact fin hk
  | exit id => exact hk.elim

def AllPt (P : Program) (E : Ty → TypeId) : List (FuncId × PT) → Prop
  | [] => True
  | (f, c) :: l => PTOk P E f c ∧ AllPt P E l

theorem pall_of : ∀ {l : List (FuncId × PT)}, AllPt P E l → PAll P E (lookP l) := by
  intro l
  induction l with
  | nil => intro _ f con h; cases h
  | cons p l ih =>
    intro h f con hf
    obtain ⟨a, b⟩ := p
    simp only [lookP] at hf
    split at hf
    · rename_i e; injection hf with hf; subst e hf; exact h.1
    · exact ih h.2 f con hf

theorem fn_okP {l : List (FuncId × Con)} {lp : List (FuncId × PT)} (ht : TabOk P E tab) (hmix : P.follows .mixedOrders = true) (hl : AllOk P E l) (hlp : AllPt P E lp) {f : FuncId} {fn : Func} {con : Con} (hf : P.funcs[f]? = some fn)
    (hb : fn.body = some (bodyOf fn)) (hname : (fn.name == "runtime.NumGoroutine") = false) (hn : con.aks.length ≤ fn.ntmps) (hok : codeOkP tab (lookF l) hp perm fn.ntmps (bodyOf fn) = true) {anns : Args con.aks → Nat → Nat → Option Ann}
    (hvc : ∀ x k, con.pre x → (hasRdr con.aks = true → k + con.cost x ≤ rdLimit) → vcP tab (lookF l) (fun _ => none) (lookP lp) hp gcs (anns x k) perm (bodyOf fn) (entry (encs con.aks x) (rdOf (hasRdr con.aks) k)) (retOk tab con fn.results.toList x k))
    (htot : ∀ x, con.pre x → ∃ r, con.post x r) : FnOk P E f con :=
  ⟨⟨fn, _, hf, hname, hb⟩, fnP_sound ht (kall_of hl) (pall_of hlp) hmix (fun _ _ _ => draw_sound ht (tab_small ht) (kall_of hl) hmix _ _ _) hf hb hn hok hvc, htot⟩

/-- Inlining is sound. -/
theorem pt_ok {l : List (FuncId × Con)} {lp : List (FuncId × PT)} (ht : TabOk P E tab) (hmix : P.follows .mixedOrders = true) (hl : AllOk P E l) (hlp : AllPt P E lp) {f : FuncId} {fn : Func} (hf : P.funcs[f]? = some fn)
    (hb : fn.body = some (bodyOf fn)) (hname : (fn.name == "runtime.NumGoroutine") = false) (hok : codeOkP tab (lookF l) hp perm fn.ntmps (bodyOf fn) = true) {gcb : Nat → Nat → Option (List Nat × List Nat)} {ann : List S0 → Nat → St → Nat → Option Ann} :
    PTOk P E f (inl tab (lookF l) (lookP lp) hp gcb ann perm fn.ntmps (bodyOf fn) fn.results.toList) :=
  inl_ok ht (kall_of hl) (pall_of hlp) hmix (fun _ _ _ => draw_sound ht (tab_small ht) (kall_of hl) hmix _ _ _) hf hb hname hok
end
end Go.SE

namespace Go.SE
open Go.RowKit

abbrev TT : Prop := true = true
abbrev TF : Prop := false = false
abbrev TN : Prop := (none : Option Res) = none
abbrev RL (l : List S) : Prop := l = l
abbrev RM (l : List (Option Res)) : Prop := l = l

def allInB (ids : List Nat) : List Nat → Bool
  | [] => true
  | x :: l => inL ids x && allInB ids l
def closedEB (e : Nat → S) (ids : List Nat) : List Nat → Bool
  | [] => true
  | j :: l => allInB ids (e j).refs && closedEB e ids l
def closedMB (m : Nat → Option Res) (ids : List Nat) : List Nat → Bool
  | [] => true
  | j :: l => (match m j with
      | some r => allInB ids r.refs
      | none => true) && closedMB m ids l
def closedVB (ids : List Nat) : List (Nat × S) → Bool
  | [] => true
  | (_, v) :: l => allInB ids v.refs && closedVB ids l
def closedRB (ids : List Nat) : List (Nat × Res) → Bool
  | [] => true
  | (_, r) :: l => allInB ids r.refs && closedRB ids l
def notInB (x : Nat) : List Nat → Bool
  | [] => true
  | y :: l => !(x == y) && notInB x l
def allDiffB : List Nat → Bool
  | [] => true
  | x :: l => notInB x l && allDiffB l

theorem allInB_ok {O : Nat → Option Res} {ids : List Nat} : ∀ {l : List Nat}, allInB ids l = true → allInO O ids l := by
  intro l
  induction l with
  | nil => intro _; trivial
  | cons x l ih => intro h; simp only [allInB, Bool.and_eq_true] at h; exact ⟨by simp [h.1], ih h.2⟩
theorem closedEB_ok {O : Nat → Option Res} {e : Nat → S} {ids : List Nat} : ∀ {l : List Nat}, closedEB e ids l = true → closedEO O e ids l := by
  intro l
  induction l with
  | nil => intro _; trivial
  | cons x l ih => intro h; simp only [closedEB, Bool.and_eq_true] at h; exact ⟨allInB_ok h.1, ih h.2⟩
theorem closedMB_ok {O m : Nat → Option Res} {ids : List Nat} : ∀ {l : List Nat}, closedMB m ids l = true → closedMO O m ids l := by
  intro l
  induction l with
  | nil => intro _; trivial
  | cons x l ih =>
    intro h
    simp only [closedMB, Bool.and_eq_true] at h
    refine ⟨?_, ih h.2⟩
    have h1 := h.1
    cases hm : m x with
    | none => trivial
    | some r => rw [hm] at h1; exact allInB_ok h1
theorem closedVB_ok {O : Nat → Option Res} {ids : List Nat} : ∀ {l : List (Nat × S)}, closedVB ids l = true → closedVO O ids l := by
  intro l
  induction l with
  | nil => intro _; trivial
  | cons x l ih => intro h; obtain ⟨j, v⟩ := x; simp only [closedVB, Bool.and_eq_true] at h; exact ⟨allInB_ok h.1, ih h.2⟩
theorem closedRB_ok {O : Nat → Option Res} {ids : List Nat} : ∀ {l : List (Nat × Res)}, closedRB ids l = true → closedRO O ids l := by
  intro l
  induction l with
  | nil => intro _; trivial
  | cons x l ih => intro h; obtain ⟨j, v⟩ := x; simp only [closedRB, Bool.and_eq_true] at h; exact ⟨allInB_ok h.1, ih h.2⟩
theorem notInB_ok {x : Nat} : ∀ {l : List Nat}, notInB x l = true → notIn x l := by
  intro l
  induction l with
  | nil => intro _; trivial
  | cons y l ih => intro h; simp only [notInB, Bool.and_eq_true, Bool.not_eq_true', beq_eq_false_iff_ne] at h; exact ⟨h.1, ih h.2⟩
theorem allDiffB_ok : ∀ {l : List Nat}, allDiffB l = true → allDiff l := by
  intro l
  induction l with
  | nil => intro _; trivial
  | cons y l ih => intro h; simp only [allDiffB, Bool.and_eq_true] at h; exact ⟨notInB_ok h.1, ih h.2⟩

def gcB (live ids : List Nat) (st : St) : Bool := closedEB st.env ids live && closedMB st.mem ids ids

def gcQ (st : St) (k : St → Prop) : Option (List Nat × List Nat) → Prop
  | none => k st
  | some (live, ids) => gcB live ids st = true ∧ k (gcSt (fun _ => none) live ids st)

theorem gcQ_ok {st : St} {k k' : St → Prop} (hk : ∀ s, k s → k' s) : ∀ {g : Option (List Nat × List Nat)}, gcQ st k g → gcK (fun _ => none) st k' g := by
  intro g
  cases g with
  | none => exact hk st
  | some p =>
    obtain ⟨live, ids⟩ := p
    intro h
    have h1 := h.1
    unfold gcB at h1
    simp only [Bool.and_eq_true] at h1
    exact ⟨⟨closedEB_ok h1.1, closedMB_ok h1.2, fun j hj => (by cases hj)⟩, hk _ h.2⟩

def eqB (a b : Bool) : Bool := match a, b with
  | true, true => true
  | false, false => true
  | _, _ => false
theorem eqB_ok {a b : Bool} (h : eqB a b = true) : a = b := by cases a <;> cases b <;> first | rfl | cases h

def memSpB (st st' : St) : List Nat → Bool
  | [] => true
  | j :: l => ((st.mem j).isSome && eqB (st'.sp j) (st.sp j) && eqB (st'.fr j) (st.fr j)) && memSpB st st' l
def blkSpB (st : St) : List (Nat × Res) → Bool
  | [] => true
  | (j, r) :: l => (!(st.sp j) && !(st.fr j) && match r with
      | .blk _ => true
      | .vec _ _ => true
      | _ => false) && blkSpB st l
def ownSpB (st : St) (ρ : Nat → Nat) : List Own → Bool
  | [] => true
  | o :: l => (!(st.sp (ρ o.id)) && !(st.fr (ρ o.id))) && ownSpB st ρ l
def ownEq (st : St) (ρ : Nat → Nat) : List Own → Prop
  | [] => True
  | o :: l => (match st.mem (ρ o.id) with
      | some (.sl _ t xs) => castL o.t t xs = some o.xs
      | _ => False) ∧ ownEq st ρ l

def rdQ : Option Nat → Option Nat → Prop
  | none, none => TT
  | some n, some m => n ≤ m ∧ m ≤ 1099511627776
  | _, _ => False

def fitsB (live : List Nat) (sets : List (Nat × S)) (mids : List Nat) (blks : List (Nat × Res)) (owns : List Own) (st st' : St) (m : List (Nat × Nat)) : Bool :=
  allDiffB (idsC mids blks owns) && (allDiffB ((idsC mids blks owns).map (lookR m)) && (allDiffB (famsOf st' ((idsC mids blks owns).map (lookR m))) &&
    (closedEB st.env (mids ++ blks.map (·.1)) live && (closedVB (idsC mids blks owns) sets && (closedMB st.mem (mids ++ blks.map (·.1)) mids && (closedRB (idsC mids blks owns) blks &&
    (memSpB st st' mids && (blkSpB st' blks && ownSpB st' (lookR m) owns))))))))

def fitsQ1 (live : List Nat) (sets : List (Nat × S)) (mids : List Nat) (blks : List (Nat × Res)) (owns : List Own) (rd : Option Nat) (st st' : St) : Option (List (Nat × Nat)) → Prop
  | none => False
  | some m => fitsB live sets mids blks owns st st' m = true ∧ live.map st'.env = live.map st.env ∧ sets.map (fun p => st'.env p.1) = sets.map (fun p => p.2.ren (lookR m)) ∧
      mids.map st'.mem = mids.map st.mem ∧ blks.map (fun p => st'.mem p.1) = blks.map (fun p => some (p.2.ren (lookR m))) ∧ ownEq st' (lookR m) owns ∧ rdQ st'.rd rd

/-- at the top: nothing lay there when the call began -/
def fitsQ (live : List Nat) (sets : List (Nat × S)) (mids : List Nat) (blks : List (Nat × Res)) (owns : List Own) (rd : Option Nat) (st st' : St) : Prop :=
  fitsQ1 live sets mids blks owns rd st st' (renL st' owns)

theorem envSame_of {e e' : Nat → S} : ∀ {l : List Nat}, l.map e = l.map e' → envSame e e' l := by
  intro l
  induction l with
  | nil => intro _; trivial
  | cons x l ih => intro h; simp only [List.map_cons, List.cons.injEq] at h; exact ⟨h.1, ih h.2⟩
theorem envSets_of {e : Nat → S} {ρ : Nat → Nat} : ∀ {l : List (Nat × S)}, l.map (fun p => e p.1) = l.map (fun p => p.2.ren ρ) → envSets e ρ l := by
  intro l
  induction l with
  | nil => intro _; trivial
  | cons x l ih => intro h; obtain ⟨j, v⟩ := x; simp only [List.map_cons, List.cons.injEq] at h; exact ⟨h.1, ih h.2⟩
theorem memSame_of {st st' : St} : ∀ {l : List Nat}, memSpB st st' l = true → l.map st'.mem = l.map st.mem → memSame st st' l := by
  intro l
  induction l with
  | nil => intro _ _; trivial
  | cons x l ih =>
    intro hb h
    simp only [List.map_cons, List.cons.injEq] at h
    simp only [memSpB, Bool.and_eq_true] at hb
    exact ⟨⟨hb.1.1.1, h.1, eqB_ok hb.1.1.2, eqB_ok hb.1.2⟩, ih hb.2 h.2⟩
theorem memBlks_of {st : St} {ρ : Nat → Nat} : ∀ {l : List (Nat × Res)}, blkSpB st l = true → l.map (fun p => st.mem p.1) = l.map (fun p => some (p.2.ren ρ)) → memBlks st ρ l := by
  intro l
  induction l with
  | nil => intro _ _; trivial
  | cons x l ih =>
    intro hb h
    obtain ⟨j, r⟩ := x
    simp only [List.map_cons, List.cons.injEq] at h
    simp only [blkSpB, Bool.and_eq_true, Bool.not_eq_true'] at hb
    refine ⟨⟨h.1, hb.1.1.1, hb.1.1.2, ?_⟩, ih hb.2 h.2⟩
    cases r <;> first | trivial | (have := hb.1.2; cases this)
theorem memOwns_of {st : St} {ρ : Nat → Nat} : ∀ {l : List Own}, ownSpB st ρ l = true → ownEq st ρ l → memOwns st ρ l := by
  intro l
  induction l with
  | nil => intro _ _; trivial
  | cons x l ih =>
    intro hb h
    simp only [ownSpB, Bool.and_eq_true, Bool.not_eq_true'] at hb
    exact ⟨⟨hb.1.1, hb.1.2, h.1⟩, ih hb.2 h.2⟩

theorem okO_none {ρ : Nat → Nat} : ∀ l : List Nat, okO (fun _ => none) ρ l := by
  intro l
  induction l with
  | nil => trivial
  | cons x l ih => exact ⟨rfl, ih⟩

theorem fitsQ_ok {live : List Nat} {sets : List (Nat × S)} {mids : List Nat} {blks : List (Nat × Res)} {owns : List Own} {rd : Option Nat} {st st' : St} (h : fitsQ live sets mids blks owns rd st st') : fitsP (fun _ => none) live sets mids blks owns rd st st' := by
  unfold fitsQ at h
  unfold fitsP
  cases hm : renL st' owns with
  | none => rw [hm] at h; exact h.elim
  | some m =>
    rw [hm] at h
    obtain ⟨hb, h1, h2, h3, h4, h5, h6⟩ := h
    unfold fitsB at hb
    simp only [Bool.and_eq_true] at hb
    obtain ⟨b1, b2, b3, b4, b5, b6, b7, b8, b9, b10⟩ := hb
    refine ⟨envSame_of h1, envSets_of h2, memSame_of b8 h3, memBlks_of b9 h4, memOwns_of b10 h5, allDiffB_ok b1, allDiffB_ok b2, allDiffB_ok b3, closedEB_ok b4, closedVB_ok b5, closedMB_ok b6, closedRB_ok b7, okO_none _, fun j hj => (by cases hj), fun j f t xs hj => (by cases hj), ?_⟩
    cases h7 : st'.rd <;> cases rd <;> rw [h7] at h6
    · trivial
    · exact h6.elim
    · exact h6.elim
    · exact h6

def vcLoopQ (body : St → (XK → St → Prop) → Prop) (st : St) (Q : XK → St → Prop) : Option Ann → Prop
  | none => False
  | some ⟨α, ok, mu, i0, nx, live, sets, mids, blks, owns, rd, base⟩ => (ok (i0 st) ∧ fitsQ live (sets (i0 st)) mids (blks (i0 st)) (owns (i0 st)) (rd st.rd (i0 st)) st st) ∧
      ∀ a : α, ok a → body (headP (fun _ => none) live (sets a) mids (blks a) (owns a) base (rd st.rd a) st) (seqK (fun st' => ok (nx a st') ∧ mu (nx a st') < mu a ∧ fitsQ live (sets (nx a st')) mids (blks (nx a st')) (owns (nx a st')) (rd st.rd (nx a st')) st st') Q)

section
variable (tab : TypeId → Option TI) (K : FuncId → Option Con) (pts : FuncId → Option PT) (hp : Nat → Bool) (gcs : Nat → Option (List Nat × List Nat)) (anns : Nat → St → Option Ann) (perm : Nat → List (List Nat))

def vcQ : Code → St → (XK → St → Prop) → Prop
  | .skip, st, Q => Q .normal st
  | .region id ops _, st, Q => vcRegP tab K pts ops st (Q .normal) (hp id) (perm id)
  | .seq a b, st, Q => vcQ a st (seqK (fun st' => gcQ st' (fun s => vcQ b s Q) (gcs (firstReg b))) Q)
  | .cond c a b, st, Q => condK (vcQ a st Q) (vcQ b st Q) (ev st c)
  | .block id c, st, Q => vcQ c st (blockK id Q)
  | .loop c, st, Q => vcLoopQ (fun st' Q' => vcQ c st' Q') st Q (anns (firstReg c) st)
  | .exit id, st, Q => Q (.exit id) st
  | .ret, st, Q => Q .ret st
  | _, _, _ => False

end

section
variable {P : Program} {E : Ty → TypeId} {tab : TypeId → Option TI} {K : FuncId → Option Con} {pts : FuncId → Option PT} {hp : Nat → Bool} {gcs : Nat → Option (List Nat × List Nat)} {anns : Nat → St → Option Ann} {perm : Nat → List (List Nat)} {w0 : World} {M : MM} {n : Nat}

open Classical in
theorem codeQ_sound (ht : TabOk P E tab) (hKA : KAll P E K) (hPA : PAll P E pts) (hmix : P.follows .mixedOrders = true) (hdr : DrawSound P E tab K w0 M n) (hOO : OOk (fun _ => none) M) : ∀ (c : Code) (st : St) (a : Act) (w : World) (Qs : XK → St → Prop) (Q : Exit → Act → World → Prop), codeOkP tab K hp perm n c = true → Rel E w0 M n st a w → vcQ tab K pts hp gcs anns perm c st Qs →
    (∀ x st' a' w', Rel E w0 M n st' a' w' → Qs x st' → Q x.exit' a' w') → c.wp P Q a w := by
  have hO := hOO
  intro c
  induction c with
  | skip => intro st a w Qs Q _ h hv hQ; exact wp_skip (hQ .normal st a w h hv)
  | region id ops draw =>
    intro st a w Qs Q hok h hv hQ
    simp only [codeOkP, Bool.and_eq_true] at hok
    obtain ⟨hok1, hok2⟩ := hok
    simp only [vcQ] at hv
    cases hh : hp id with
    | false =>
      rw [hh] at hv hok2
      cases hpm : perm id with
      | nil =>
        rw [hpm] at hv hok2
        simp only [vcRegP, vcReg] at hv
        simp only at hok2
        cases draw with
        | false => exact wp_region_list (seq_sound ht hKA (fun st' a' w' hr hk => hQ .normal st' a' w' hr hk) ops.toList st a w (opsOk_mem hok1) h hv)
        | true => exact hdr id ops st a w _ Q (by simpa using hok2) hok1 h hv fun st' a' w' hr hk => hQ .normal st' a' w' hr hk
      | cons l ls =>
        rw [hpm] at hv hok2
        simp only [vcRegP, vcReg] at hv
        simp only [Bool.and_eq_true, permOk, List.all_eq_true] at hok2
        obtain ⟨hd, hp1, hp2⟩ := hok2
        subst hd
        refine wp_region_any hmix (any_sound ht hKA hok1 (fun st' a' w' hr hk => hQ .normal st' a' w' hr hk) _ _ st a _ hp1 h.drawn fun x hx => vcEach_mem hv x ?_)
        have := hp2 x hx
        simpa using this
    | true =>
      rw [hh] at hv hok2
      cases hpm : perm id with
      | nil =>
        rw [hpm] at hv hok2
        simp only [vcRegP] at hv
        simp only [Bool.not_eq_true'] at hok2
        subst hok2
        exact wp_region_list (seqP_sound ht hKA hPA (fun st' a' w' hr hk => hQ .normal st' a' w' hr hk) ops.toList st a w (opsOk_mem hok1) h hv)
      | cons l ls =>
        rw [hpm] at hv hok2
        simp only [vcRegP] at hv
        cases ls with
        | cons l' ls => cases hok2
        | nil =>
          simp only [Bool.and_eq_true, permOk, List.all_eq_true] at hok2
          obtain ⟨hd, hp1, hp2⟩ := hok2
          subst hd
          refine wp_region_any hmix (one_sound ht hKA hPA hok1 (fun st' a' w' hr hk => hQ .normal st' a' w' hr hk) _ l _ st a _ hp1 (fun x hx => ?_) h.drawn hv)
          have := hp2 x hx
          simpa using this
  | seq x y ihx ihy =>
    intro st a w Qs Q hok h hv hQ
    simp only [codeOkP, Bool.and_eq_true] at hok
    refine wp_seq (ihx st a w _ _ hok.1 h hv fun k st' a' w' hr hk => ?_)
    cases k with
    | normal =>
      simp only [seqK] at hk
      have hk2 := gcQ_ok (k' := fun s => vcQ tab K pts hp gcs anns perm y s Qs) (fun _ h => h) hk
      unfold gcK at hk2
      split at hk2
      · exact ihy st' a' w' Qs Q hok.2 hr hk2 hQ
      · exact ihy _ a' w' Qs Q hok.2 (hr.gc hO hk2.1) hk2.2 hQ
    | exit id => exact hQ (.exit id) st' a' w' hr hk
    | ret => exact hQ .ret st' a' w' hr hk
  | cond cnd x y ihx ihy =>
    intro st a w Qs Q hok h hv hQ
    simp only [codeOkP, Bool.and_eq_true] at hok
    simp only [vcQ] at hv
    unfold condK at hv
    split at hv
    · rename_i t he
      have hval := (ev_val h he).1
      cases t with
      | true => exact wp_cond_true hval (ihx st a w Qs Q hok.1 h (vcIf_t hv) hQ)
      | false => exact wp_cond_false hval (ihy st a w Qs Q hok.2 h (vcIf_f hv) hQ)
    · exact hv.elim
  | block id x ih =>
    intro st a w Qs Q hok h hv hQ
    refine wp_block (ih st a w _ _ hok h hv fun k st' a' w' hr hk => ?_)
    cases k with
    | normal => exact hQ .normal st' a' w' hr hk
    | exit id' =>
      simp only [XK.exit', Exit.inBlock]
      simp only [blockK] at hk
      split
      · rename_i e; rw [if_pos e] at hk; exact hQ .normal st' a' w' hr hk
      · rename_i e; rw [if_neg e] at hk; exact hQ (.exit id') st' a' w' hr hk
    | ret => exact hQ .ret st' a' w' hr hk
  | loop x ih =>
    intro st a w Qs Q hok h hv hQ
    simp only [vcQ] at hv
    unfold vcLoopQ at hv
    split at hv
    · exact hv.elim
    · rename_i α ok mu i0 nx live sets mids blks owns rd base hA
      obtain ⟨⟨ho0, hf0⟩, hround⟩ := hv
      let α0 : α := i0 st
      let hd : α → St := fun α => SE.headP (fun _ => none) live (sets α) mids (blks α) (owns α) base (rd st.rd α) st
      have hex : ∀ (a : Act) (w : World), (∃ α, ok α ∧ Rel E w0 M n (hd α) a w) → ∃ m, ∃ α, ok α ∧ Rel E w0 M n (hd α) a w ∧ mu α = m :=
        fun a w ⟨α, h1, h2⟩ => ⟨_, α, h1, h2, rfl⟩
      let μ : Act → World → Nat := fun a w => if hh : ∃ m, ∃ α, ok α ∧ Rel E w0 M n (hd α) a w ∧ mu α = m then Classical.choose (least hh) else 0
      refine wp_loop (fun a w => ∃ α, ok α ∧ Rel E w0 M n (hd α) a w) μ ⟨α0, ho0, h.headP hO (fitsQ_ok hf0)⟩ ?_
      intro a w hI
      have hh := hex a w hI
      obtain ⟨α, h1, h2, h3⟩ := (Classical.choose_spec (least hh)).1
      have hμ : μ a w = mu α := by simp only [μ, dif_pos hh]; exact h3.symm
      refine ih _ a w _ _ hok h2 (hround α h1) fun k st' a' w' hr hk => ?_
      cases k with
      | normal =>
        obtain ⟨g1, g2, g3⟩ := hk
        have hrel : Rel E w0 M n (hd (nx α st')) a' w' := hr.headP hO (fitsQ_ok g3)
        refine ⟨⟨nx α st', g1, hrel⟩, ?_⟩
        have hh' : ∃ m, ∃ α, ok α ∧ Rel E w0 M n (hd α) a' w' ∧ mu α = m := ⟨_, nx α st', g1, hrel, rfl⟩
        have : μ a' w' ≤ mu (nx α st') := by simp only [μ, dif_pos hh']; exact (Classical.choose_spec (least hh')).2 _ ⟨nx α st', g1, hrel, rfl⟩
        omega
      | exit id => exact hQ (.exit id) st' a' w' hr hk
      | ret => exact hQ .ret st' a' w' hr hk
  | exit id => intro st a w Qs Q _ h hv hQ; exact wp_exit (hQ (.exit id) st a w h hv)
  | ret => intro st a w Qs Q _ h hv hQ; exact wp_ret (hQ .ret st a w h hv)
  | _ => intro st a w Qs Q _ h hv hQ; exact hv.elim


/-- A function keeps its contract where the condition of its body holds. -/
theorem fnQ_sound (ht : TabOk P E tab) (hKA : KAll P E K) (hPA : PAll P E pts) (hmix : P.follows .mixedOrders = true) (hdr : ∀ w0 M n, DrawSound P E tab K w0 M n) {f : FuncId} {fn : Func} {c : Code} {con : Con} (hf : P.funcs[f]? = some fn) (hb : fn.body = some c) (hn : con.aks.length ≤ fn.ntmps) (hok : codeOkP tab K hp perm fn.ntmps c = true)
    {anns : Args con.aks → Nat → Nat → St → Option Ann} (hvc : ∀ x k, con.pre x → (hasRdr con.aks = true → k + con.cost x ≤ rdLimit) → vcQ tab K pts hp gcs (anns x k) perm c (entry (encs con.aks x) (rdOf (hasRdr con.aks) k)) (retOk tab con fn.results.toList x k)) : CallOk P E f con := by
  intro w0 ro0 ρ k x vs id0 hpre hin hrd hargs
  have hlen : vs.length = con.aks.length := by
    rw [hargs.1]
    have : ∀ (ks : List AK) (x : Args ks), (encs ks x).length = ks.length := by
      intro ks
      induction ks with
      | nil => intro x; rfl
      | cons k ks ih => intro x; obtain ⟨x, xs⟩ := x; simp [encs, ih]
    exact this _ _
  have hrd1 : hasRdr con.aks = true → RdOk w0 ro0 ρ k := fun h => (hrd h).1
  refine calls_of_wp hf hb ?_
  refine codeQ_sound ht hKA hPA hmix (hdr _ _ _) OOk.none c _ _ _ (retOk tab con fn.results.toList x k) _ hok (entry_rel hin hrd1 hargs (by omega)) (hvc x k hpre fun h => (hrd h).2) ?_
  intro xk st' a' w' hr hk
  have fin : retOk tab con fn.results.toList x k .ret st' → a'.defers = [] ∧ ∃ v, (results fn a'.tmps).run P w' = .ok v w' ∧ ∃ v1 r g, Ending.returned v = .returned v1 ∧ con.post x r ∧ Ext (fun b => hasRdr con.aks = true ∧ b = ρ) w0 w' ∧ g.ρ = ρ ∧ ResOk E w0 w' ro0 con.rks id0 r v1 g ∧ (hasRdr con.aks = true → RdStep w0 w' ρ (k + con.cost x)) := by
    intro hv
    obtain ⟨v, h1, r, g, h2, h3, h4, h5, h6⟩ := exit_ok id0 ht hin hrd1 hr hv
    exact ⟨hr.defers, v, h1, v, r, g, rfl, h2, h3, h4, h5, h6⟩
  cases xk with
  | normal => exact fin hk
  | ret => exact fin hk
  | exit id => exact hk.elim


theorem fn_okQ {l : List (FuncId × Con)} {lp : List (FuncId × PT)} (ht : TabOk P E tab) (hmix : P.follows .mixedOrders = true) (hl : AllOk P E l) (hlp : AllPt P E lp) {f : FuncId} {fn : Func} {con : Con} (hf : P.funcs[f]? = some fn)
    (hb : fn.body = some (bodyOf fn)) (hname : (fn.name == "runtime.NumGoroutine") = false) (hn : con.aks.length ≤ fn.ntmps) (hok : codeOkP tab (lookF l) hp perm fn.ntmps (bodyOf fn) = true) {anns : Args con.aks → Nat → Nat → St → Option Ann}
    (hvc : ∀ x k, con.pre x → (hasRdr con.aks = true → k + con.cost x ≤ rdLimit) → vcQ tab (lookF l) (lookP lp) hp gcs (anns x k) perm (bodyOf fn) (entry (encs con.aks x) (rdOf (hasRdr con.aks) k)) (retOk tab con fn.results.toList x k))
    (htot : ∀ x, con.pre x → ∃ r, con.post x r) : FnOk P E f con :=
  ⟨⟨fn, _, hf, hname, hb⟩, fnQ_sound ht (kall_of hl) (pall_of hlp) hmix (fun _ _ _ => draw_sound ht (tab_small ht) (kall_of hl) hmix _ _ _) hf hb hn hok hvc, htot⟩


end
end Go.SE

namespace Go.SE
open Go.RowKit

section
variable {P : Program} {E : Ty → TypeId} {tab : TypeId → Option TI} {w0 : World} {M : MM} {n : Nat} {o : Oper} {st : St} {a : Act} {w : World}

def noREB (e : Nat → S) : List Nat → Bool
  | [] => true
  | x :: l => noRS (e x) && noREB e l
def noRMB (m : Nat → Option Res) : List Nat → Bool
  | [] => true
  | x :: l => (match m x with
      | some r => noRR r
      | none => true) && noRMB m l
theorem noREB_ok {e : Nat → S} : ∀ {l : List Nat}, noREB e l = true → ∀ x ∈ l, noRS (e x) = true := by
  intro l
  induction l with
  | nil => intro _ x h; cases h
  | cons y l ih => intro h x hx; simp only [noREB, Bool.and_eq_true] at h; rcases List.mem_cons.1 hx with rfl | hx; exact h.1; exact ih h.2 x hx
theorem noRMB_ok {m : Nat → Option Res} : ∀ {l : List Nat}, noRMB m l = true → ∀ x ∈ l, ∀ r, m x = some r → noRR r = true := by
  intro l
  induction l with
  | nil => intro _ x h; cases h
  | cons y l ih =>
    intro h x hx r hr
    simp only [noRMB, Bool.and_eq_true] at h
    rcases List.mem_cons.1 hx with rfl | hx
    · have h1 := h.1; rw [hr] at h1; exact h1
    · exact ih h.2 x hx r hr
theorem noR_gc {live ids : List Nat} (h1 : noREB st.env live = true) (h2 : noRMB st.mem ids = true) : NoR (gcSt (fun _ => none) live ids st) := by
  constructor
  · intro x
    rcases tabE_cases st.env live x with ⟨hx, e⟩ | e
    · have e' : (gcSt (fun _ => none) live ids st).env x = st.env x := e
      rw [e']; exact noREB_ok h1 x hx
    · have e' : (gcSt (fun _ => none) live ids st).env x = SE.junk := e
      rw [e']; rfl
  · intro j r hj
    have hj' : tabM (fun _ => none) st.mem ids j = some r := hj
    rw [tabM_get] at hj'
    split at hj'
    · rename_i e
      simp at e
      exact noRMB_ok h2 j (inL_mem.1 e) r hj'
    · cases hj'

def openKQ (tab : TypeId → Option TI) (K : FuncId → Option Con) (pts : FuncId → Option PT) (hp : Nat → Bool) (anns : Nat → St → Option Ann) (perm : Nat → List (List Nat)) (gl : List Nat × List Nat) (n : Nat) (rest : Code) (Q : XK → St → Prop) (st1 : St) : Option (Nat × Nat × Nat) → Prop
  | some d => openN d n ∧ st1.rd = none ∧ gcB gl.1 gl.2 st1 = true ∧ (noREB st1.env gl.1 && noRMB st1.mem gl.2) = true ∧ openA ((gcSt (fun _ => none) gl.1 gl.2 st1).env 0) ∧ vcQ tab K pts hp (fun _ => none) anns perm rest (openSt d (gcSt (fun _ => none) gl.1 gl.2 st1)) Q
  | none => False

def vcOpenQ (tab : TypeId → Option TI) (K : FuncId → Option Con) (pts : FuncId → Option PT) (hp : Nat → Bool) (anns : Nat → St → Option Ann) (perm : Nat → List (List Nat)) (gl : List Nat × List Nat) (fo n : Nat) : Code → St → (XK → St → Prop) → Prop
  | .seq c0 (.seq (.region _ ops false) rest), st, Q => vcQ tab K pts hp (fun _ => none) anns perm c0 st (seqK (fun st1 => openKQ tab K pts hp anns perm gl n rest Q st1 (opensB fo ops.toList)) Q)
  | _, _, _ => False

/-- A function that opens the reader keeps its contract. -/
theorem draw_fnQ {K : FuncId → Option Con} {pts : FuncId → Option PT} {hp : Nat → Bool} {gl : List Nat × List Nat} (ht : TabOk P E tab) (hmix : P.follows .mixedOrders = true) (hKA : KAll P E K) (hPA : PAll P E pts) {perm : Nat → List (List Nat)} {fo : FuncId} (hopen : OpenOk P fo)
    (hfo : ∃ fn c, P.funcs[fo]? = some fn ∧ (fn.name == "runtime.NumGoroutine") = false ∧ fn.body = some c) {f : FuncId} {fn : Func} {con : Con} (hf : P.funcs[f]? = some fn) (hb : fn.body = some (bodyOf fn))
    (hname : (fn.name == "runtime.NumGoroutine") = false) (hn : con.aks.length ≤ fn.ntmps) (hok : codeOkP tab K hp perm fn.ntmps (bodyOf fn) = true) (hrd : hasRdr con.aks = false) (hrk : noRk con.rks = true) {anns : Args con.aks → Nat → St → Option Ann}
    (hvc : ∀ x, con.pre x → vcOpenQ tab K pts hp (anns x) perm gl fo fn.ntmps (bodyOf fn) (entry (encs con.aks x) none) (retOk tab con fn.results.toList x 0)) (htot : ∀ x, con.pre x → ∃ r, con.post x r) : FnOk P E f con := by
  refine ⟨⟨fn, _, hf, hname, hb⟩, ?_, htot⟩
  intro w0 ro0 ρ k x vs id0 hpre hin _ hargs
  have hlen : vs.length = con.aks.length := by
    rw [hargs.1]
    have : ∀ (ks : List AK) (x : Args ks), (encs ks x).length = ks.length := by
      intro ks
      induction ks with
      | nil => intro x; rfl
      | cons k ks ih => intro x; obtain ⟨x, xs⟩ := x; simp [encs, ih]
    exact this _ _
  refine calls_of_wp hf hb ?_
  -- the end
  have fin : ∀ (ρ' : Nat) (st' : St) (a' : Act) (w' : World), Rel E w0 (MOf false ρ' ro0) fn.ntmps st' a' w' → retOk tab con fn.results.toList x 0 .ret st' →
      a'.defers = [] ∧ ∃ v, (results fn a'.tmps).run P w' = .ok v w' ∧ ∃ v1 r g, Ending.returned v = .returned v1 ∧ con.post x r ∧ Ext (fun b => hasRdr con.aks = true ∧ b = ρ) w0 w' ∧ g.ρ = ρ ∧ ResOk E w0 w' ro0 con.rks id0 r v1 g ∧ (hasRdr con.aks = true → RdStep w0 w' ρ (k + con.cost x)) := by
    intro ρ' st' a' w' hr hv
    have hr' : Rel E w0 (MOf (hasRdr con.aks) ρ' ro0) fn.ntmps st' a' w' := by rw [hrd]; exact hr
    obtain ⟨v, h1, r, g, h2, h3, h4, h5, h6⟩ := exit_ok (k := 0) id0 ht hin (fun h => by rw [hrd] at h; cases h) hr' hv
    refine ⟨hr.defers, v, h1, v, r, { g with ρ := ρ }, rfl, h2, ⟨h3.os, h3.tape, h3.output, h3.size, fun c hc _ => h3.block c hc fun ⟨h, _⟩ => by rw [hrd] at h; cases h⟩, rfl, ⟨h5.ro, h5.ro', ?_, ?_, h5.new, h5.dist⟩, fun h => by rw [hrd] at h; cases h⟩
    · exact S.R.rho (pack1_noR (ress_noR _ _ _ hrk)) h5.val
    · intro id q hq
      have := h5.res id q hq
      obtain ⟨_, _, f', t, xs, e⟩ := ress_range _ _ _ _ _ hq
      subst e
      exact this
  have hv0 := hvc x hpre
  revert hok hv0
  generalize bodyOf fn = body
  intro hok hv0
  unfold vcOpenQ at hv0
  split at hv0
  · rename_i c0 rid ops rest
    simp only [codeOkP, Bool.and_eq_true] at hok
    have hrel : Rel E w0 (MOf false ρ ro0) fn.ntmps (entry (encs con.aks x) (rdOf false 0)) { tmps := vs.toArray ++ Array.replicate (fn.ntmps - vs.toArray.size) undef, defers := [] } w0 := entry_rel hin (fun h => by cases h) hargs (by omega)
    refine wp_seq (codeQ_sound ht hKA hPA hmix (draw_sound ht (tab_small ht) hKA hmix _ _ _) OOk.none c0 _ _ _ _ _ hok.1 hrel hv0 ?_)
    intro xk st1 a1 w1 hr1 hk1
    cases xk with
    | exit id => exact hk1.elim
    | ret => exact fin ρ st1 a1 w1 hr1 hk1
    | normal =>
      have hk1 : openKQ tab K pts hp (anns x) perm gl fn.ntmps rest (retOk tab con fn.results.toList x 0) st1 (opensB fo ops.toList) := hk1
      unfold openKQ at hk1
      split at hk1
      · rename_i d hd
        obtain ⟨⟨hd1, hd2, hd3, hd0⟩, hrd1, hgc, hnr, hA, hvr⟩ := hk1
        simp only [Bool.and_eq_true] at hnr
        have hno := noR_gc hnr.1 hnr.2
        unfold gcB at hgc
        simp only [Bool.and_eq_true] at hgc
        replace hr1 := hr1.gc (OOk.none (ρ := ρ) (ro0 := ro0)) (live := gl.1) (ids := gl.2) ⟨closedEB_ok hgc.1, closedMB_ok hgc.2, fun j hj => (by cases hj)⟩
        replace hrd1 : (gcSt (fun _ => none) gl.1 gl.2 st1).rd = none := hrd1
        generalize gcSt (fun _ => none) gl.1 gl.2 st1 = st1 at hr1 hrd1 hno hA hvr
        obtain ⟨o1, o2, o3, args, tys, hl, e1, e2, e3, e4, e5, e6, e7, e8, e9, e10⟩ := opensB_some hd
        refine wp_seq (wp_region_list ?_)
        rw [hl]
        -- the text
        simp only [wpList]
        rw [if_pos (by simp [Region.wanted, e3])]
        refine .inl ?_
        unfold Oper.wp
        rw [show (execOp a1.eval o1).run P w1 = .ok (.value (a1.eval (.tmp 0))) w1 by simp [execOp, e2], Oper.upon_value, e1]
        have hS : ∃ code, st1.env 0 = .s (.c (.d (.arr .u8 code))) := by
          unfold openA at hA
          split at hA
          · rename_i c hc; exact ⟨c, hc⟩
          · exact hA.elim
        obtain ⟨code, henv0⟩ := hS
        have hev : a1.eval (.tmp 0) = a1.tmps.getD 0 undef := rfl
        have hr2 := hr1.put1 hd1 (s := st1.env 0) (v := a1.eval (.tmp 0)) (fun g _ henv => henv 0) (fun id hid => hr1.cl.1 0 id hid)
        have hno2 : NoR { st1 with env := upd st1.env d.1 (st1.env 0) } := ⟨fun y => by
          show noRS (upd st1.env d.1 (st1.env 0) y) = true
          by_cases e : y = d.1
          · subst e; rw [upd_same]; exact hno.1 0
          · rw [upd_ne _ _ e]; exact hno.1 y, hno.2⟩
        generalize ha2 : a1.put (some d.1) (a1.eval (.tmp 0)) = a2 at hr2 ⊢
        -- the call
        rw [if_pos (by simp [Region.wanted, e7])]
        refine .inl ?_
        obtain ⟨fn', c', hf', hname', hbody'⟩ := hfo
        rw [run_call hf' hname' hbody' e5, Oper.upon_enter]
        obtain ⟨g, hg, henv⟩ := hr2.good
        have hargv : args.map a2.eval = #[a2.tmps.getD d.1 undef] := by
          apply Array.ext'
          rw [Array.toList_map, e6]
          rfl
        rw [hargv]
        have hdr : DR g.ro (.arr .u8 code) (a2.tmps.getD d.1 undef) := by
          have h1 := henv d.1
          have h2 : ({ st1 with env := upd st1.env d.1 (st1.env 0) } : St).env d.1 = .s (.c (.d (.arr .u8 code))) := by
            show upd st1.env d.1 (st1.env 0) d.1 = _
            rw [upd_same]; exact henv0
          rw [h2] at h1
          exact h1
        refine Calls.mono (hopen w1 g.ro code _ hg.ro hdr) fun e w2 he => ?_
        obtain ⟨b, ro', rfl, q1, q2, q3, q4, q5⟩ := he
        have hr3 := rel_open hr2 hg henv hrd1 hno2 q1 q2 q3 q4 q5
        rw [e4]
        show (if Region.wanted o3 _ then _ else _)
        rw [if_pos (by simp [Region.wanted, e10])]
        refine .inl ?_
        have hr4 := hr3.put1 hd2 (s := .s (.c .rdr)) (v := .pointer (some ⟨b, 0, none⟩)) (fun g' hg' _ => by
          show _ = _
          rw [hg'.rho]; rfl) (fun id hid => by simp [S.refs, S0.refs, CV.refs] at hid)
        generalize ha3 : a2.put (some d.2.1) (.pointer (some ⟨b, 0, none⟩)) = a3 at hr4 ⊢
        have hev3 : a3.eval (.tmp d.2.1) = .pointer (some ⟨b, 0, none⟩) := by
          show a3.tmps.getD d.2.1 undef = _
          rw [← ha3, get_put (by rw [hr2.size]; exact hd2), if_pos rfl]
        rw [show (execOp a3.eval o3).run P w2 = .ok (.value (a3.eval (.tmp d.2.1))) w2 by simp [execOp, e9], Oper.upon_value, e8, hev3]
        have hr5 := hr4.put1 hd3 (s := .s (.c .rdr)) (v := .pointer (some ⟨b, 0, none⟩)) (fun g' hg' _ => by
          show _ = _
          rw [hg'.rho]; rfl) (fun id hid => by simp [S.refs, S0.refs, CV.refs] at hid)
        refine codeQ_sound ht hKA hPA hmix (draw_sound ht (tab_small ht) hKA hmix _ _ _) OOk.none rest _ _ _ (retOk tab con fn.results.toList x 0) _ hok.2.2 hr5 hvr ?_
        intro xk st' a' w' hr hk
        cases xk with
        | normal => exact fin b st' a' w' hr hk
        | ret => exact fin b st' a' w' hr hk
        | exit id => exact hk.elim
      · exact hk1.elim
  · exact hv0.elim
end
end Go.SE

namespace Go.SE
open Go.RowKit

section
variable {P : Program} {E : Ty → TypeId} {tab : TypeId → Option TI} {K : FuncId → Option Con} {pts : FuncId → Option PT} {hp : Nat → Bool} {anns : Nat → St → Option Ann} {perm : Nat → List (List Nat)} {w0 : World} {M : MM} {n : Nat} {st : St} {a : Act} {w : World}

/-- What stands in a block is replaced. -/
theorem Good.write' {g : G} (hg : Good E w0 M g st w) {id b : Nat} {r r' : Res} {m' : Nat → Option Res} {w' : World}
    (hm : st.mem id = some r) (hl : r.live) (hb : blkOf (g.κ id) = some b ∨ (blkOf (g.κ id) = none ∧ b = w.heap.size))
    (hm' : ∀ j s, m' j = some s → (j = id ∧ s = r') ∨ (j ≠ id ∧ (st.mem j = some s ∨ s = .dead)))
    (hother : ∀ j s, j ≠ id → m' j = some s → s.live → blkOf (g.κ j) ≠ some b) (hro : g.ro b = none)
    (hos : w'.os = w.os) (htape : w'.tape = w.tape) (hout : w'.output = w.output) (hsize : w.heap.size ≤ w'.heap.size) (hw : ∀ b', b' < w.heap.size → b' ≠ b → w'.heap[b']? = w.heap[b']?)
    (hres : ResR E w' g id r') (hdom : ∀ j, (st.mem j).isSome = true → (m' j).isSome = true) : Good E w0 M g { st with mem := m' } w' := by
  have hlive : ∀ j s, j ≠ id → m' j = some s → s.live → st.mem j = some s := by
    intro j s hj hs hl
    rcases hm' j s hs with ⟨e, _⟩ | ⟨_, h | h⟩
    · exact (hj e).elim
    · exact h
    · subst h; exact hl.elim
  have hb1 : ∀ b', blkOf (g.κ id) = some b' → b' = b := by
    intro b' hb'
    rcases hb with hb | ⟨hb, _⟩
    · rw [hb] at hb'; injection hb' with hb'; exact hb'.symm
    · rw [hb] at hb'; cases hb'
  have hfr : w0.heap.size ≤ b ∨ M b := by
    rcases hb with hb | ⟨_, rfl⟩
    · exact hg.fresh id r hm hl b hb
    · exact .inl hg.ext.size
  refine ⟨⟨hos.trans hg.ext.os, htape.trans hg.ext.tape, hout.trans hg.ext.output, Nat.le_trans hg.ext.size hsize, fun b' hb' hM => ?_⟩, ?_, ?_, ?_, ?_, ?_, ?_, ?_, hg.roo, hg.rho, fun i v hv => ⟨hdom i (hg.pin i v hv).1, (hg.pin i v hv).2⟩, ⟨fun i m hv => ⟨hdom i (hg.keep.1 i m hv).1, (hg.keep.1 i m hv).2⟩, hg.keep.2⟩⟩
  · rw [hw b' (Nat.lt_of_lt_of_le hb' hg.ext.size) fun e => ?_]
    · exact hg.ext.block b' hb' hM
    · subst e
      rcases hfr with h | h
      · omega
      · exact hM h
  · intro b' vs hv
    obtain ⟨ty, fz, hh⟩ := hg.ro b' vs hv
    refine ⟨ty, fz, ?_⟩
    rw [hw b' (lt_of_some hh) fun e => by subst e; rw [hro] at hv; cases hv]
    exact hh
  · intro j s hs
    by_cases e : j = id
    · subst e
      rcases hm' j s hs with ⟨_, e⟩ | ⟨h, _⟩
      · subst e; exact hres
      · exact (h rfl).elim
    · by_cases hsl : s.live
      · have hj := hlive j s e hs hsl
        exact (hg.res j s hj).keep (fun b' hb' => hw b' ((hg.res j s hj).lt hsl hb') fun e' => by subst e'; exact hother j s e hs hsl hb') (fun _ _ h => h) rfl ⟨rfl, rfl⟩ fun _ _ => ⟨rfl, rfl⟩
      · cases s with
        | dead => trivial
        | _ => exact (hsl trivial).elim
  · intro i j ri rj hi hj hij hli hlj b' hbi hbj
    by_cases ei : i = id
    · subst ei
      have := hb1 b' hbi
      subst this
      exact (hother j rj (Ne.symm hij) hj hlj hbj).elim
    · by_cases ej : j = id
      · subst ej
        have := hb1 b' hbj
        subst this
        exact (hother i ri ei hi hli hbi).elim
      · exact hg.sep i j ri rj (hlive i ri ei hi hli) (hlive j rj ej hj hlj) hij hli hlj b' hbi hbj
  · intro j s hs hsl b' hb'
    by_cases e : j = id
    · subst e
      have := hb1 b' hb'
      subst this
      exact hfr
    · exact hg.fresh j s (hlive j s e hs hsl) hsl b' hb'
  · intro j s hs hsl b' hb' h1 h2
    by_cases e : j = id
    · subst e
      have := hb1 b' hb'
      subst this
      exact hro
    · exact hg.wro j s (hlive j s e hs hsl) hsl b' hb' h1 h2
  · intro m hmr
    obtain ⟨⟨hlim, hout, code, v, p, ty, hc, hd, hrest⟩, hin, hno⟩ := hg.rd m hmr
    have hne : g.ρ ≠ b := by
      intro e
      rcases hb with hb | ⟨_, hb⟩
      · exact hno id r hm hl (by rw [hb, e])
      · have := lt_of_some hc
        omega
    refine ⟨⟨hlim, hout, code, v, p, ty, by rw [hw _ (lt_of_some hc) hne]; exact hc, hd, hrest⟩, hin, ?_⟩
    intro j s hs hsl
    by_cases e : j = id
    · subst e; exact hno j r hm hl
    · exact hno j s (hlive j s e hs hsl) hsl
  · intro hn
    refine (hg.rds hn).next fun hlt => hw _ hlt fun e => ?_
    cases hr : st.rd with
    | none => exact hn hr
    | some m =>
      rcases hb with hb | ⟨_, hb⟩
      · exact (hg.rd m hr).2.2 id r hm hl (by rw [hb, e])
      · omega


/-- the numbers that lay there are named by every loop, under their own number -/
def outB (x ids : List Nat) (m : List (Nat × Nat)) : Bool :=
  x.all (fun j => inL ids j && (lookR m j == j)) && ids.all (fun j => inL x j || !(inL x (lookR m j)))

def fitsR1 (x : List Nat) (live : List Nat) (sets : List (Nat × S)) (mids : List Nat) (blks : List (Nat × Res)) (owns : List Own) (rd : Option Nat) (st st' : St) : Option (List (Nat × Nat)) → Prop
  | none => False
  | some m => (fitsB live sets mids blks owns st st' m && outB x (idsC mids blks owns) m) = true ∧ live.map st'.env = live.map st.env ∧ sets.map (fun p => st'.env p.1) = sets.map (fun p => p.2.ren (lookR m)) ∧
      mids.map st'.mem = mids.map st.mem ∧ blks.map (fun p => st'.mem p.1) = blks.map (fun p => some (p.2.ren (lookR m))) ∧ ownEq st' (lookR m) owns ∧ rdQ st'.rd rd

def fitsR (x : List Nat) (live : List Nat) (sets : List (Nat × S)) (mids : List Nat) (blks : List (Nat × Res)) (owns : List Own) (rd : Option Nat) (st st' : St) : Prop :=
  fitsR1 x live sets mids blks owns rd st st' (renL st' owns)

theorem okO_of {O : Nat → Option Res} {x : List Nat} (hx : ∀ j, (O j).isSome = inL x j) {ρ : Nat → Nat} {ids : List Nat} (h1 : ∀ j ∈ x, ρ j = j) : ∀ l : List Nat, (∀ j ∈ l, inL x j = true ∨ inL x (ρ j) = false) → okO O ρ l := by
  intro l
  induction l with
  | nil => intro _; trivial
  | cons y l ih =>
    intro h
    refine ⟨?_, ih fun j hj => h j (by simp [hj])⟩
    cases hO : O y with
    | some r => exact h1 y (inL_mem.1 (by rw [← hx, hO]; rfl))
    | none =>
      rcases h y (by simp) with h2 | h2
      · rw [← hx, hO] at h2; cases h2
      · cases hq : O (ρ y) with
        | none => rfl
        | some r => rw [← hx, hq] at h2; cases h2

theorem fitsR_ok {O : Nat → Option Res} {x : List Nat} (hx : ∀ j, (O j).isSome = inL x j) {live : List Nat} {sets : List (Nat × S)} {mids : List Nat} {blks : List (Nat × Res)} {owns : List Own} {rd : Option Nat} {st st' : St} (h : fitsR x live sets mids blks owns rd st st') : fitsP O live sets mids blks owns rd st st' := by
  unfold fitsR at h
  unfold fitsP
  cases hm : renL st' owns with
  | none => rw [hm] at h; exact h.elim
  | some m =>
    rw [hm] at h
    obtain ⟨hb, h1, h2, h3, h4, h5, h6⟩ := h
    rw [Bool.and_eq_true] at hb
    obtain ⟨hb, ho⟩ := hb
    unfold fitsB at hb
    simp only [Bool.and_eq_true] at hb
    obtain ⟨b1, b2, b3, b4, b5, b6, b7, b8, b9, b10⟩ := hb
    unfold outB at ho
    simp only [Bool.and_eq_true, List.all_eq_true, beq_iff_eq, Bool.or_eq_true, Bool.not_eq_true'] at ho
    obtain ⟨o1, o2⟩ := ho
    have hin : ∀ j, (O j).isSome = true → inL (idsC mids blks owns) j = true := fun j hj => (o1 j (inL_mem.1 (by rw [← hx]; exact hj))).1
    refine ⟨envSame_of h1, envSets_of h2, memSame_of b8 h3, memBlks_of b9 h4, memOwns_of b10 h5, allDiffB_ok b1, allDiffB_ok b2, allDiffB_ok b3, closedEB_ok b4, closedVB_ok b5, closedMB_ok b6, closedRB_ok b7, okO_of (ids := idsC mids blks owns) hx (fun j hj => (o1 j hj).2) _ o2, fun j hj hn => ?_, fun j f t xs hj hn => ?_, ?_⟩
    · rw [hin j hj] at hn; cases hn
    · rw [hin j (by rw [hj]; rfl)] at hn; cases hn
    cases h7 : st'.rd <;> cases rd <;> rw [h7] at h6
    · trivial
    · exact h6.elim
    · exact h6.elim
    · exact h6

/-- a memory with these numbers -/
def dom (x : List Nat) : Nat → Option Res := fun j => match inL x j with
  | true => some .dead
  | false => none

def vcLoopR (x : List Nat) (body : St → (XK → St → Prop) → Prop) (st : St) (Q : XK → St → Prop) : Option Ann → Prop
  | none => False
  | some ⟨α, ok, mu, i0, nx, live, sets, mids, blks, owns, rd, base⟩ => (ok (i0 st) ∧ fitsR x live (sets (i0 st)) mids (blks (i0 st)) (owns (i0 st)) (rd st.rd (i0 st)) st st) ∧
      ∀ a : α, ok a → body (headP (dom x) live (sets a) mids (blks a) (owns a) base (rd st.rd a) st) (seqK (fun st' => ok (nx a st') ∧ mu (nx a st') < mu a ∧ fitsR x live (sets (nx a st')) mids (blks (nx a st')) (owns (nx a st')) (rd st.rd (nx a st')) st st') Q)

def vcR (tab : TypeId → Option TI) (K : FuncId → Option Con) (pts : FuncId → Option PT) (hp : Nat → Bool) (anns : Nat → St → Option Ann) (perm : Nat → List (List Nat)) (x : List Nat) : Code → St → (XK → St → Prop) → Prop
  | .skip, st, Q => Q .normal st
  | .region id ops _, st, Q => vcRegP tab K pts ops st (Q .normal) (hp id) (perm id)
  | .seq a b, st, Q => vcR tab K pts hp anns perm x a st (seqK (fun st' => vcR tab K pts hp anns perm x b st' Q) Q)
  | .cond c a b, st, Q => condK (vcR tab K pts hp anns perm x a st Q) (vcR tab K pts hp anns perm x b st Q) (ev st c)
  | .block id c, st, Q => vcR tab K pts hp anns perm x c st (blockK id Q)
  | .loop c, st, Q => vcLoopR x (fun st' Q' => vcR tab K pts hp anns perm x c st' Q') st Q (anns (firstReg c) st)
  | .exit id, st, Q => Q (.exit id) st
  | .ret, st, Q => Q .ret st
  | _, _, _ => False

theorem dom_some {x : List Nat} (j : Nat) : (dom x j).isSome = inL x j := by
  unfold dom; cases inL x j <;> rfl

open Classical in
theorem codeR_sound (ht : TabOk P E tab) (hKA : KAll P E K) (hPA : PAll P E pts) (hmix : P.follows .mixedOrders = true) (hdr : DrawSound P E tab K w0 M n) {xo : List Nat} (hO : OOk (dom xo) M) : ∀ (c : Code) (st : St) (a : Act) (w : World) (Qs : XK → St → Prop) (Q : Exit → Act → World → Prop), codeOkP tab K hp perm n c = true → Rel E w0 M n st a w → vcR tab K pts hp anns perm xo c st Qs →
    (∀ x st' a' w', Rel E w0 M n st' a' w' → Qs x st' → Q x.exit' a' w') → c.wp P Q a w := by
  intro c
  induction c with
  | skip => intro st a w Qs Q _ h hv hQ; exact wp_skip (hQ .normal st a w h hv)
  | region id ops draw =>
    intro st a w Qs Q hok h hv hQ
    simp only [codeOkP, Bool.and_eq_true] at hok
    obtain ⟨hok1, hok2⟩ := hok
    simp only [vcR] at hv
    cases hh : hp id with
    | false =>
      rw [hh] at hv hok2
      cases hpm : perm id with
      | nil =>
        rw [hpm] at hv hok2
        simp only [vcRegP, vcReg] at hv
        simp only at hok2
        cases draw with
        | false => exact wp_region_list (seq_sound ht hKA (fun st' a' w' hr hk => hQ .normal st' a' w' hr hk) ops.toList st a w (opsOk_mem hok1) h hv)
        | true => exact hdr id ops st a w _ Q (by simpa using hok2) hok1 h hv fun st' a' w' hr hk => hQ .normal st' a' w' hr hk
      | cons l ls =>
        rw [hpm] at hv hok2
        simp only [vcRegP, vcReg] at hv
        simp only [Bool.and_eq_true, permOk, List.all_eq_true] at hok2
        obtain ⟨hd, hp1, hp2⟩ := hok2
        subst hd
        refine wp_region_any hmix (any_sound ht hKA hok1 (fun st' a' w' hr hk => hQ .normal st' a' w' hr hk) _ _ st a _ hp1 h.drawn fun x hx => vcEach_mem hv x ?_)
        have := hp2 x hx
        simpa using this
    | true =>
      rw [hh] at hv hok2
      cases hpm : perm id with
      | nil =>
        rw [hpm] at hv hok2
        simp only [vcRegP] at hv
        simp only [Bool.not_eq_true'] at hok2
        subst hok2
        exact wp_region_list (seqP_sound ht hKA hPA (fun st' a' w' hr hk => hQ .normal st' a' w' hr hk) ops.toList st a w (opsOk_mem hok1) h hv)
      | cons l ls =>
        rw [hpm] at hv hok2
        simp only [vcRegP] at hv
        cases ls with
        | cons l' ls => cases hok2
        | nil =>
          simp only [Bool.and_eq_true, permOk, List.all_eq_true] at hok2
          obtain ⟨hd, hp1, hp2⟩ := hok2
          subst hd
          refine wp_region_any hmix (one_sound ht hKA hPA hok1 (fun st' a' w' hr hk => hQ .normal st' a' w' hr hk) _ l _ st a _ hp1 (fun x hx => ?_) h.drawn hv)
          have := hp2 x hx
          simpa using this
  | seq x y ihx ihy =>
    intro st a w Qs Q hok h hv hQ
    simp only [codeOkP, Bool.and_eq_true] at hok
    refine wp_seq (ihx st a w _ _ hok.1 h hv fun k st' a' w' hr hk => ?_)
    cases k with
    | normal =>
      simp only [seqK] at hk
      exact ihy st' a' w' Qs Q hok.2 hr hk hQ
    | exit id => exact hQ (.exit id) st' a' w' hr hk
    | ret => exact hQ .ret st' a' w' hr hk
  | cond cnd x y ihx ihy =>
    intro st a w Qs Q hok h hv hQ
    simp only [codeOkP, Bool.and_eq_true] at hok
    simp only [vcR] at hv
    unfold condK at hv
    split at hv
    · rename_i t he
      have hval := (ev_val h he).1
      cases t with
      | true => exact wp_cond_true hval (ihx st a w Qs Q hok.1 h (vcIf_t hv) hQ)
      | false => exact wp_cond_false hval (ihy st a w Qs Q hok.2 h (vcIf_f hv) hQ)
    · exact hv.elim
  | block id x ih =>
    intro st a w Qs Q hok h hv hQ
    refine wp_block (ih st a w _ _ hok h hv fun k st' a' w' hr hk => ?_)
    cases k with
    | normal => exact hQ .normal st' a' w' hr hk
    | exit id' =>
      simp only [XK.exit', Exit.inBlock]
      simp only [blockK] at hk
      split
      · rename_i e; rw [if_pos e] at hk; exact hQ .normal st' a' w' hr hk
      · rename_i e; rw [if_neg e] at hk; exact hQ (.exit id') st' a' w' hr hk
    | ret => exact hQ .ret st' a' w' hr hk
  | loop x ih =>
    intro st a w Qs Q hok h hv hQ
    simp only [vcR] at hv
    unfold vcLoopR at hv
    split at hv
    · exact hv.elim
    · rename_i α ok mu i0 nx live sets mids blks owns rd base hA
      obtain ⟨⟨ho0, hf0⟩, hround⟩ := hv
      let α0 : α := i0 st
      let hd : α → St := fun α => SE.headP (dom xo) live (sets α) mids (blks α) (owns α) base (rd st.rd α) st
      have hex : ∀ (a : Act) (w : World), (∃ α, ok α ∧ Rel E w0 M n (hd α) a w) → ∃ m, ∃ α, ok α ∧ Rel E w0 M n (hd α) a w ∧ mu α = m :=
        fun a w ⟨α, h1, h2⟩ => ⟨_, α, h1, h2, rfl⟩
      let μ : Act → World → Nat := fun a w => if hh : ∃ m, ∃ α, ok α ∧ Rel E w0 M n (hd α) a w ∧ mu α = m then Classical.choose (least hh) else 0
      refine wp_loop (fun a w => ∃ α, ok α ∧ Rel E w0 M n (hd α) a w) μ ⟨α0, ho0, h.headP hO (fitsR_ok dom_some hf0)⟩ ?_
      intro a w hI
      have hh := hex a w hI
      obtain ⟨α, h1, h2, h3⟩ := (Classical.choose_spec (least hh)).1
      have hμ : μ a w = mu α := by simp only [μ, dif_pos hh]; exact h3.symm
      refine ih _ a w _ _ hok h2 (hround α h1) fun k st' a' w' hr hk => ?_
      cases k with
      | normal =>
        obtain ⟨g1, g2, g3⟩ := hk
        have hrel : Rel E w0 M n (hd (nx α st')) a' w' := hr.headP hO (fitsR_ok dom_some g3)
        refine ⟨⟨nx α st', g1, hrel⟩, ?_⟩
        have hh' : ∃ m, ∃ α, ok α ∧ Rel E w0 M n (hd α) a' w' ∧ mu α = m := ⟨_, nx α st', g1, hrel, rfl⟩
        have : μ a' w' ≤ mu (nx α st') := by simp only [μ, dif_pos hh']; exact (Classical.choose_spec (least hh')).2 _ ⟨nx α st', g1, hrel, rfl⟩
        omega
      | exit id => exact hQ (.exit id) st' a' w' hr hk
      | ret => exact hQ .ret st' a' w' hr hk
  | exit id => intro st a w Qs Q _ h hv hQ; exact wp_exit (hQ (.exit id) st a w h hv)
  | ret => intro st a w Qs Q _ h hv hQ; exact wp_ret (hQ .ret st a w h hv)
  | _ => intro st a w Qs Q _ h hv hQ; exact hv.elim



end
end Go.SE

namespace Go.SE
open Go.RowKit

/-- What a function does to a slice that it is handed between other arguments: its result (a plain value) and what the slice holds then. -/
structure MCon where
  k1 : List AK
  t : Ty
  k2 : List AK
  pre : Args k1 → List t.den → Args k2 → Prop
  val : Args k1 → List t.den → Args k2 → Value
  out : Args k1 → List t.den → Args k2 → List t.den

def ptMk {t : Ty} (pre : Prop) (v : Value) (ys : List t.den) (fam id : Nat) (ids : List Nat) (st : St) (k : S → St → Prop) : Prop :=
  st.sp id = false ∧ st.fr id = false ∧ notSpent st ids ∧ notIn id ids ∧ pre ∧ k (sv v) { st with mem := upd (kill fam id st.mem) id (some (.sl fam t ys)) }

def ptM4 (c : MCon) (st : St) (k : S → St → Prop) (x1 : Args c.k1) (x2 : Args c.k2) (id : Nat) (ids : List Nat) : Option Res → Prop
  | some (.sl fam t' xs) => match castL c.t t' xs with
    | some xs => ptMk (c.pre x1 xs x2) (c.val x1 xs x2) (c.out x1 xs x2) fam id ids st k
    | none => False
  | _ => False

def ptM3 (c : MCon) (st : St) (k : S → St → Prop) (x1 : Args c.k1) (id : Nat) (ids : Option (List Nat)) (x2 : Option (Args c.k2)) : Prop :=
  match ids, x2 with
  | some ids, some x2 => ptM4 c st k x1 x2 id ids (st.mem id)
  | _, _ => False

def ptM2 (c : MCon) (args : List S0) (st : St) (k : S → St → Prop) (x1 : Option (Args c.k1)) : Option S0 → Prop
  | some (.c (.own id)) => match x1 with
    | some x1 => ptM3 c st k x1 id (ownsC st.mem (refsAr (args.take c.k1.length ++ args.drop (c.k1.length + 1)))) (decs st.mem c.k2 (args.drop (c.k1.length + 1)))
    | none => False
  | _ => False

def ptM (c : MCon) : PT := fun args _ st k => ptM2 c args st k (decs st.mem c.k1 (args.take c.k1.length)) args[c.k1.length]?

section
variable {P : Program} {E : Ty → TypeId} {tab : TypeId → Option TI} {K : FuncId → Option Con} {pts : FuncId → Option PT} {hp : Nat → Bool} {perm : Nat → List (List Nat)} {w0 : World} {M : MM} {n : Nat} {st : St} {a : Act} {w : World}

/-- the state in which such a body begins -/
def isoSt (c : MCon) (x1 : Args c.k1) (xs : List c.t.den) (x2 : Args c.k2) : St :=
  { env := envOf (encs c.k1 x1 ++ .c (.own 7) :: encs c.k2 x2) 0, mem := upd (fun _ => none) 7 (some (.sl 7 c.t xs)), sp := fun _ => false, fr := fun _ => false, base := 16, rd := none }

def isoM (t : Ty) (ys : List t.den) : Option Res → Prop
  | some (.sl _ t' xs) => castL t t' xs = some ys
  | _ => False

def isoQ (tab : TypeId → Option TI) (c : MCon) (rvs : List ResultVar) (x1 : Args c.k1) (xs : List c.t.den) (x2 : Args c.k2) : XK → St → Prop
  | .exit _, _ => False
  | _, st => loadsS tab st rvs = some [.c (.d (.val (c.val x1 xs x2)))] ∧ isoM c.t (c.out x1 xs x2) (st.mem 7)

theorem encs_len : ∀ (ks : List AK) (x : Args ks), (encs ks x).length = ks.length := by
  intro ks
  induction ks with
  | nil => intro x; rfl
  | cons k ks ih => intro x; obtain ⟨x, xs⟩ := x; simp [encs, ih]

theorem iso_call (ht : TabOk P E tab) (hKA : KAll P E K) (hPA : PAll P E pts) (hmix : P.follows .mixedOrders = true) (hdr : ∀ w0 M n, DrawSound P E tab K w0 M n) {f : FuncId} {fn : Func} (hf : P.funcs[f]? = some fn) (hb : fn.body = some (bodyOf fn)) {c : MCon} (hn : c.k1.length + c.k2.length + 1 ≤ fn.ntmps)
    (hok : codeOkP tab K hp perm fn.ntmps (bodyOf fn) = true) {anns : Args c.k1 → List c.t.den → Args c.k2 → Nat → St → Option Ann}
    (hvc : ∀ x1 xs x2, c.pre x1 xs x2 → vcR tab K pts hp (anns x1 xs x2) perm [7] (bodyOf fn) (isoSt c x1 xs x2) (isoQ tab c fn.results.toList x1 xs x2))
    {w : World} {ro : Nat → Option (Array Value)} {ρ : Nat} {x1 : Args c.k1} {xs : List c.t.den} {x2 : Args c.k2} (hpre : c.pre x1 xs x2) {vs1 vs2 : List Value} {v : Value} (hin : ROin w ro) (h1 : ArgsR (argG ro ρ) (encs c.k1 x1) vs1) (h2 : ArgsR (argG ro ρ) (encs c.k2 x2) vs2)
    (hone : v.oneCell' = true) (hv : ResR E w { ro, κ := fun _ => v, ln := fun _ => xs.length, ρ } 7 (.sl 7 c.t xs)) (hvb : ∀ b, blkOf v = some b → ro b = none) :
    Calls P f (vs1 ++ v :: vs2).toArray w fun e w' => e = .returned (c.val x1 xs x2) ∧ (c.val x1 xs x2).oneCell' = true ∧ Ext (fun b => blkOf v = some b) w w' ∧ (c.out x1 xs x2).length = xs.length ∧ ∃ ro', ResR E w' { ro := ro', κ := fun _ => v, ln := fun _ => xs.length, ρ } 7 (.sl 7 c.t (c.out x1 xs x2)) := by
  let M : MM := ⟨fun b => blkOf v = some b, ro, ρ, fun id => if id = 7 then some v else none, fun id => if id = 7 then some xs.length else none, fun _ => none⟩
  let g : G := { ro, κ := fun id => if id = 7 then v else undef, ln := fun id => if id = 7 then xs.length else 0, ρ }
  have one : ∀ id r, (isoSt c x1 xs x2).mem id = some r → id = 7 ∧ r = .sl 7 c.t xs := by
    intro id r h
    simp only [isoSt, upd] at h
    split at h
    · rename_i e; injection h with h; exact ⟨e, h.symm⟩
    · cases h
  have hκ : ∀ b, blkOf (g.κ 7) = some b → blkOf v = some b := fun b h => h
  have hgood : Good E w M g (isoSt c x1 xs x2) w := by
    refine ⟨Ext.refl _ _, hin, ?_, ?_, ?_, ?_, (fun m hm => by cases hm), (fun h => (h rfl).elim), (fun b vs hb => .inl hb), rfl, ?_, ⟨?_, fun b vs hb => (by cases hb)⟩⟩
    · intro id r h
      obtain ⟨rfl, rfl⟩ := one id r h
      exact hv
    · intro i j r s hi hj hij
      exact (hij ((one i r hi).1.trans (one j s hj).1.symm)).elim
    · intro id r h _ b hb
      rw [(one id r h).1] at hb
      exact .inr (hκ b hb)
    · intro id r h _ b hb _ _
      rw [(one id r h).1] at hb
      exact hvb b (hκ b hb)
    · intro id u hu
      simp only [M] at hu
      split at hu
      · rename_i e; subst e; injection hu with hu; subst hu; exact ⟨rfl, rfl⟩
      · cases hu
    · intro id u hu
      simp only [M] at hu
      split at hu
      · rename_i e; subst e; injection hu with hu; subst hu; exact ⟨rfl, rfl⟩
      · cases hu
  have hOO : OOk (dom [7]) M := by
    have d7 : ∀ j, (dom [7] j).isSome = true ↔ j = 7 := fun j => by rw [dom_some]; simp [inL]
    refine ⟨fun j r hj id hid => ?_, fun id hid => ?_, fun id hid => ?_⟩
    · unfold dom at hj
      split at hj
      · injection hj with hj; subst hj; simp [Res.refs] at hid
      · cases hj
    · refine (d7 id).2 ?_
      rcases hid with hid | hid
      · have hid : (if id = 7 then some v else none).isSome = true := hid
        split at hid
        · assumption
        · cases hid
      · have hid : (if id = 7 then some xs.length else none).isSome = true := hid
        split at hid
        · assumption
        · cases hid
    · have := (d7 id).1 hid
      subst this
      rfl
  have hargs : ∀ (j : Nat) (s : S0), (encs c.k1 x1 ++ .c (.own 7) :: encs c.k2 x2)[j]? = some s → ∃ u, (vs1 ++ v :: vs2)[j]? = some u ∧ s.R g u ∧ ∀ id ∈ s.refs, id = 7 := by
    intro j s hj
    have l1 := h1.1
    by_cases hlt : j < (encs c.k1 x1).length
    · rw [List.getElem?_append_left hlt] at hj
      obtain ⟨u, hu, hr⟩ := h1.2 j s hj
      have hrf := encs_refs c.k1 x1 j s hj
      exact ⟨u, by rw [List.getElem?_append_left (by omega)]; exact hu, S0.R.mono (g := argG ro ρ) (g' := g) (fun _ _ h => h) rfl (fun id hid => by rw [hrf] at hid; cases hid) hr, fun id hid => by rw [hrf] at hid; cases hid⟩
    · rw [List.getElem?_append_right (by omega)] at hj
      rw [List.getElem?_append_right (by omega)]
      have hjj : j - vs1.length = j - (encs c.k1 x1).length := by rw [l1]
      rw [hjj]
      cases hm : j - (encs c.k1 x1).length with
      | zero =>
        rw [hm] at hj
        simp at hj
        subst hj
        exact ⟨v, rfl, ⟨rfl, hone⟩, fun id hid => by simpa [S0.refs, CV.refs] using hid⟩
      | succ i =>
        rw [hm] at hj
        have hj : (encs c.k2 x2)[i]? = some s := by simpa using hj
        obtain ⟨u, hu, hr⟩ := h2.2 i s hj
        have hrf := encs_refs c.k2 x2 i s hj
        exact ⟨u, by simpa using hu, S0.R.mono (g := argG ro ρ) (g' := g) (fun _ _ h => h) rfl (fun id hid => by rw [hrf] at hid; cases hid) hr, fun id hid => by rw [hrf] at hid; cases hid⟩
  have hvl : (vs1 ++ v :: vs2).length = (encs c.k1 x1 ++ S0.c (.own 7) :: encs c.k2 x2).length := by simp [h1.1, h2.1]
  have hel : (encs c.k1 x1 ++ S0.c (.own 7) :: encs c.k2 x2).length ≤ fn.ntmps := by simp [encs_len]; omega
  have hrel : Rel E w M fn.ntmps (isoSt c x1 xs x2) { tmps := (vs1 ++ v :: vs2).toArray ++ Array.replicate (fn.ntmps - (vs1 ++ v :: vs2).toArray.size) undef, defers := [] } w := by
    refine ⟨⟨?_, ?_⟩, by simp at hvl hel ⊢; omega, rfl, g, hgood, ?_⟩
    · intro j id hid
      have e : (isoSt c x1 xs x2).env j = envOf (encs c.k1 x1 ++ .c (.own 7) :: encs c.k2 x2) 0 j := rfl
      rw [e] at hid
      rcases envOf_cases (encs c.k1 x1 ++ .c (.own 7) :: encs c.k2 x2) 0 j with h3 | ⟨i, s, h3, _, h5⟩
      · rw [h3] at hid; simp [SE.junk, S.refs, S0.refs, CV.refs] at hid
      · rw [h5] at hid
        obtain ⟨_, _, _, h6⟩ := hargs i s h3
        have := h6 id hid
        subst this
        rfl
    · intro j r h id hid
      obtain ⟨rfl, rfl⟩ := one j r h
      simp [Res.refs] at hid
    · intro j
      have e : (isoSt c x1 xs x2).env j = envOf (encs c.k1 x1 ++ .c (.own 7) :: encs c.k2 x2) 0 j := rfl
      rw [e]
      rcases envOf_cases (encs c.k1 x1 ++ .c (.own 7) :: encs c.k2 x2) 0 j with h3 | ⟨i, s, h3, h4, h5⟩
      · rw [h3]; trivial
      · rw [h5]
        obtain ⟨u, hu, hr, _⟩ := hargs i s h3
        have hj : j = i := by omega
        subst hj
        have hlt : j < (vs1 ++ v :: vs2).length := (List.getElem?_eq_some_iff.1 hu).1
        have : ((vs1 ++ v :: vs2).toArray ++ Array.replicate (fn.ntmps - (vs1 ++ v :: vs2).toArray.size) undef).getD j undef = u := by
          rw [Array.getD_eq_getD_getElem?, Array.getElem?_append_left (by simpa using hlt), List.getElem?_toArray, hu]; rfl
        show S.R _ _ (((vs1 ++ v :: vs2).toArray ++ Array.replicate (fn.ntmps - (vs1 ++ v :: vs2).toArray.size) undef).getD j undef)
        rw [this]
        exact hr
  refine calls_of_wp hf hb ?_
  refine codeR_sound ht hKA hPA hmix (hdr _ _ _) hOO (bodyOf fn) _ _ _ _ _ hok hrel (hvc x1 xs x2 hpre) ?_
  intro xk st' a' w' hr hk
  have fin : isoQ tab c fn.results.toList x1 xs x2 .ret st' → a'.defers = [] ∧ ∃ u, (results fn a'.tmps).run P w' = .ok u w' ∧ (Ending.returned u = .returned (c.val x1 xs x2) ∧ (c.val x1 xs x2).oneCell' = true ∧ Ext (fun b => blkOf v = some b) w w' ∧ (c.out x1 xs x2).length = xs.length ∧ ∃ ro', ResR E w' { ro := ro', κ := fun _ => v, ln := fun _ => xs.length, ρ } 7 (.sl 7 c.t (c.out x1 xs x2))) := by
    intro hk
    obtain ⟨hload, hm7⟩ := hk
    obtain ⟨g', hg', henv⟩ := hr.good
    obtain ⟨us, hrun, hus, _⟩ := loads_run (P := P) ht hg' henv hr.cl hload
    obtain ⟨u, hu, hur⟩ := hus.2 0 _ rfl
    have hus1 : us = [u] := by
      have hl := hus.1
      match us, hl with
      | [q], _ => simp at hu; rw [hu]
    subst hus1
    have hres := results_run (fn := fn) hrun
    have hu2 : u = c.val x1 xs x2 ∧ (c.val x1 xs x2).oneCell' = true := by
      have hur : DR g'.ro (.val (c.val x1 xs x2)) u := hur
      generalize hq : u = q at hur
      cases hur with
      | val _ h => exact ⟨rfl, h⟩
    obtain ⟨rfl, hoc⟩ := hu2
    unfold isoM at hm7
    split at hm7
    · rename_i fam t' ys hm
      obtain ⟨rfl, hq⟩ := castL_eq hm7
      cases hq
      have hR := hg'.res 7 _ hm
      have hp := (hg'.pin 7 v rfl).2
      have hpl := (hg'.keep.1 7 xs.length rfl).2
      obtain ⟨hln, hR⟩ := hR
      refine ⟨hr.defers, _, hres, rfl, hoc, hg'.ext, by rw [← hln, hpl], g'.ro, by show xs.length = _; rw [← hln, hpl], ?_⟩
      rw [hp] at hR
      exact hR
    · exact hm7.elim
  cases xk with
  | normal => exact fin hk
  | ret => exact fin hk
  | exit id => exact hk.elim

/-- The call of such a function. -/
theorem ptM_ok (ht : TabOk P E tab) (hKA : KAll P E K) (hPA : PAll P E pts) (hmix : P.follows .mixedOrders = true) (hdr : ∀ w0 M n, DrawSound P E tab K w0 M n) {f : FuncId} {fn : Func} (hf : P.funcs[f]? = some fn) (hb : fn.body = some (bodyOf fn)) (hname : (fn.name == "runtime.NumGoroutine") = false) {c : MCon} (hflat : c.t.flat = true) (hn : c.k1.length + c.k2.length + 1 ≤ fn.ntmps)
    (hok : codeOkP tab K hp perm fn.ntmps (bodyOf fn) = true) {anns : Args c.k1 → List c.t.den → Args c.k2 → Nat → St → Option Ann}
    (hvc : ∀ x1 xs x2, c.pre x1 xs x2 → vcR tab K pts hp (anns x1 xs x2) perm [7] (bodyOf fn) (isoSt c x1 xs x2) (isoQ tab c fn.results.toList x1 xs x2)) : PTOk P E f (ptM c) := by
  refine ⟨⟨fn, _, hf, hname, hb⟩, ?_⟩
  intro w0 M g st w args vs base k hg hcl hrefs hargs hv
  unfold ptM ptM2 at hv
  split at hv
  · rename_i id hid
    split at hv
    · rename_i x1 hx1
      unfold ptM3 at hv
      split at hv
      · rename_i ids x2 hids hx2
        unfold ptM4 at hv
        split at hv
        · rename_i fam t' xs0 hm
          split at hv
          · rename_i xs hcast
            obtain ⟨ht', hq⟩ := castL_eq hcast
            subst ht'
            cases hq
            obtain ⟨hsp, hfr, hns, hni, hpre, hk⟩ := hv
            rw [refsAr_eq] at hids
            obtain ⟨rfl, hsl⟩ := ownsC_mem hids
            have hnotin : id ∉ refsT (args.take c.k1.length ++ args.drop (c.k1.length + 1)) := notIn_mem hni
            obtain ⟨ro', hro, hdr', hg1⟩ := hg.freeze (refsT (args.take c.k1.length ++ args.drop (c.k1.length + 1))) fun i hi => ⟨notSpent_mem hns i hi, hsl i hi⟩
            have hlent : ∀ i ∈ refsT (args.take c.k1.length ++ args.drop (c.k1.length + 1)), Lent st.mem g.κ ro' i := by
              intro i hi
              refine ⟨fun f t xs hmm => hdr' i hi f t xs hmm, fun t xs hmm => ?_⟩
              obtain ⟨f, t', xs', hm'⟩ := hsl i hi
              rw [hmm] at hm'; cases hm'
            have hlt : c.k1.length < args.length := (List.getElem?_eq_some_iff.1 hid).1
            have hvl := hargs.1
            obtain ⟨v, hv0, hvr⟩ := hargs.2 c.k1.length _ hid
            obtain ⟨hvκ, hvone⟩ : v = g.κ id ∧ v.oneCell' = true := hvr
            have happ : ∀ (l1 l2 : List S0), refsT (l1 ++ l2) = refsT l1 ++ refsT l2 := by
              intro l1 l2
              induction l1 with
              | nil => rfl
              | cons x l ih => simp [refsT, ih]
            have hA1 : ArgsR g (args.take c.k1.length) (vs.take c.k1.length) := by
              refine ⟨by simp [hvl], fun j s hj => ?_⟩
              have hj1 : j < c.k1.length := by
                have := (List.getElem?_eq_some_iff.1 hj).1
                simp at this; omega
              rw [List.getElem?_take_of_lt hj1] at hj ⊢
              exact hargs.2 j s hj
            have hA2 : ArgsR g (args.drop (c.k1.length + 1)) (vs.drop (c.k1.length + 1)) := by
              refine ⟨by simp [hvl], fun j s hj => ?_⟩
              rw [List.getElem?_drop] at hj ⊢
              exact hargs.2 _ s hj
            have hB1 := decs_R (ro' := ro') hro hx1 hA1 fun i hi => hlent i (by rw [happ]; exact List.mem_append_left _ hi)
            have hB2 := decs_R (ro' := ro') hro hx2 hA2 fun i hi => hlent i (by rw [happ]; exact List.mem_append_right _ hi)
            have hfr1 : ({ st with fr := sets st.fr (refsT (args.take c.k1.length ++ args.drop (c.k1.length + 1))) } : St).fr id = false := by
              show sets st.fr _ id = false
              rw [sets_get, hfr]
              simp [hnotin]
            have hvb : ∀ b, blkOf v = some b → ro' b = none := fun b hb' => hg1.wro id _ hm trivial b (by show blkOf (g.κ id) = some b; rw [← hvκ]; exact hb') hsp hfr1
            have hRes : ResR E w { ro := ro', κ := fun _ => v, ln := fun _ => xs.length, ρ := g.ρ } 7 (.sl 7 c.t xs) := by
              obtain ⟨hln, hR⟩ := hg1.res id _ hm
              have hR : ((g.κ id = .slice none 0 0 ∧ xs = []) ∨ ∃ b cap cur, g.κ id = .slice (some ⟨b, 0, none⟩) xs.length cap ∧ w.heap[b]? = some (.cells cur (E c.t) (0, 0)) ∧ xs.length ≤ cap ∧ cap ≤ maxLen ∧ cur.size = cap * c.t.sz ∧ RowR ro' (flat c.t xs) cur 0) := hR
              rw [← hvκ] at hR
              exact ⟨rfl, hR⟩
            have hvs : vs = vs.take c.k1.length ++ v :: vs.drop (c.k1.length + 1) := by
              have h1 : vs.drop c.k1.length = v :: vs.drop (c.k1.length + 1) := by
                rw [List.drop_eq_getElem_cons (by omega)]
                congr 1
                rw [List.getElem?_eq_getElem (by omega)] at hv0
                injection hv0
              rw [← h1, List.take_append_drop]
            rw [hvs]
            refine Calls.mono (iso_call ht hKA hPA hmix hdr hf hb hn hok hvc (ρ := g.ρ) hpre hg1.ro hB1 hB2 hvone hRes hvb) fun e w' he => ?_
            obtain ⟨rfl, hoc, hext, hlen, ro2, hR2⟩ := he
            refine ⟨_, _, _, g, rfl, hk, ?_, .val _ hoc, by simp [sv, S.refs, S0.refs, CV.refs], ?_, ?_, fun _ _ h => h, rfl⟩
            · -- the memory afterwards
              have hstay : ∀ b, b < w.heap.size → blkOf v ≠ some b → w'.heap[b]? = w.heap[b]? := fun b hb' hne => hext.block b hb' hne
              have hres : ResR E w' g id (.sl fam c.t (c.out x1 xs x2)) := by
                obtain ⟨h1, h2⟩ := hR2
                obtain ⟨hln, _⟩ := hg.res id _ hm
                refine ⟨by rw [hln, hlen], ?_⟩
                rw [← hvκ]
                rcases h2 with h2 | ⟨b, cap, cur, h3, h4, h5, h6, h7, h8⟩
                · exact .inl h2
                · exact .inr ⟨b, cap, cur, h3, h4, h5, h6, h7, RowR.flat_any hflat h8⟩
              cases hbv : blkOf v with
              | some b =>
                refine Good.write' hg (id := id) (b := b) (r := .sl fam c.t xs) (r' := .sl fam c.t (c.out x1 xs x2)) hm trivial (.inl (by rw [← hvκ]; exact hbv)) ?_ ?_ ?_ hext.os hext.tape hext.output hext.size (fun b' h1 h2 => hstay b' h1 fun e => h2 (by rw [hbv] at e; injection e with e; exact e.symm)) hres fun j hj => upd_dom (kill_dom hj)
                · intro j s hs
                  rcases upd_cases hs with h | ⟨h1, h2⟩
                  · exact .inl h
                  · exact .inr ⟨h1, kill_cases h2⟩
                · intro j s hj hs hl
                  rcases upd_cases hs with ⟨h, _⟩ | ⟨_, h2⟩
                  · exact (hj h).elim
                  · exact alone_sl hg hm (by rw [← hvκ]; exact hbv) j s hj h2 hl
                · exact hg.wro id _ hm trivial b (by rw [← hvκ]; exact hbv) hsp hfr
              | none =>
                refine Good.write' hg (id := id) (b := w.heap.size) (r := .sl fam c.t xs) (r' := .sl fam c.t (c.out x1 xs x2)) hm trivial (.inr ⟨by rw [← hvκ]; exact hbv, rfl⟩) ?_ ?_ ?_ hext.os hext.tape hext.output hext.size (fun b' h1 h2 => hstay b' h1 fun e => by rw [hbv] at e; cases e) hres fun j hj => upd_dom (kill_dom hj)
                · intro j s hs
                  rcases upd_cases hs with h | ⟨h1, h2⟩
                  · exact .inl h
                  · exact .inr ⟨h1, kill_cases h2⟩
                · intro j s hj hs hl e
                  rcases upd_cases hs with ⟨h, _⟩ | ⟨_, h2⟩
                  · exact (hj h).elim
                  · rcases kill_cases h2 with h3 | h3
                    · have := (hg.res j s h3).lt hl e; omega
                    · subst h3; exact hl.elim
                · cases hq : g.ro w.heap.size with
                  | none => rfl
                  | some vs =>
                    obtain ⟨ty, fz, hh⟩ := hg.ro _ _ hq
                    have := lt_of_some hh; omega
            · intro j r hj i hi
              have hj : upd (kill fam id st.mem) id (some (.sl fam c.t (c.out x1 xs x2))) j = some r := hj
              refine upd_dom (kill_dom ?_)
              rcases upd_cases hj with ⟨_, h⟩ | ⟨_, h⟩
              · subst h; simp [Res.refs] at hi
              · rcases kill_cases h with h | h
                · exact hcl j r h i hi
                · subst h; simp [Res.refs] at hi
            · intro i hi
              exact ⟨upd_dom (kill_dom hi), rfl, rfl⟩
          · exact hv.elim
        · exact hv.elim
      · exact hv.elim
    · exact hv.elim
  · exact hv.elim

theorem mut_ok {l : List (FuncId × Con)} {lp : List (FuncId × PT)} (ht : TabOk P E tab) (hmix : P.follows .mixedOrders = true) (hl : AllOk P E l) (hlp : AllPt P E lp) {f : FuncId} {fn : Func} (hf : P.funcs[f]? = some fn) (hb : fn.body = some (bodyOf fn)) (hname : (fn.name == "runtime.NumGoroutine") = false) {c : MCon} (hflat : c.t.flat = true) (hn : c.k1.length + c.k2.length + 1 ≤ fn.ntmps)
    (hok : codeOkP tab (lookF l) hp perm fn.ntmps (bodyOf fn) = true) {anns : Args c.k1 → List c.t.den → Args c.k2 → Nat → St → Option Ann}
    (hvc : ∀ x1 xs x2, c.pre x1 xs x2 → vcR tab (lookF l) (lookP lp) hp (anns x1 xs x2) perm [7] (bodyOf fn) (isoSt c x1 xs x2) (isoQ tab c fn.results.toList x1 xs x2)) : PTOk P E f (ptM c) :=
  ptM_ok ht (kall_of hl) (pall_of hlp) hmix (fun _ _ _ => draw_sound ht (tab_small ht) (kall_of hl) hmix _ _ _) hf hb hname hflat hn hok hvc
end
end Go.SE

namespace Go.SE
def rT (t x y : Int) : Int := if t = x then y else t
def sF (x y : Int) (f : GFact) : GFact := ⟨f.eq, rT f.a x y, rT f.b x y⟩
def sA (x y : Int) (f : GAtom) : GAtom := ⟨f.kind, rT f.a x y, rT f.b x y⟩
def subA (a : GAsn) (x y : Int) : GAsn := ⟨a.facts.map (sF x y), a.atoms.map (sA x y)⟩
def subOk (a : GAsn) (x t : Int) : Bool := asV a && isT x && isT t && !(x == 0)
def subL (a : GAsn) (x t : Int) : GAsn := cond (subOk a x t) (subA a x t) ⟨[], []⟩

/-- element by element, in place -/
theorem mapped_get {α : Type} {f : α → α} {l : List α} {i : Nat} {d : α} (h : i < l.length) : ((l.take i).map f ++ l.drop i).getD i d = l.getD i d := by
  rw [List.getD_eq_getElem?_getD, List.getD_eq_getElem?_getD, List.getElem?_append_right (by simp; omega)]
  simp [Nat.min_eq_left (Nat.le_of_lt h)]
theorem mapped_step {α : Type} {f : α → α} {l : List α} {i : Nat} {d : α} (h : i < l.length) : ((l.take i).map f ++ l.drop i).set i (f (l.getD i d)) = (l.take (i + 1)).map f ++ l.drop (i + 1) := by
  have e1 : (l.take (i + 1)) = l.take i ++ [l.getD i d] := by
    rw [List.take_add_one, List.getElem?_eq_getElem h, List.getD_eq_getElem?_getD, List.getElem?_eq_getElem h]; rfl
  have e2 : l.drop i = l.getD i d :: l.drop (i + 1) := by
    rw [List.drop_eq_getElem_cons h, List.getD_eq_getElem?_getD, List.getElem?_eq_getElem h]; rfl
  rw [e1, e2, List.set_append_right _ _ (by simp; omega)]
  simp [Nat.min_eq_left (Nat.le_of_lt h)]
theorem mapped_len {α : Type} {f : α → α} {l : List α} {i : Nat} (h : i ≤ l.length) : ((l.take i).map f ++ l.drop i).length = l.length := by simp; omega
theorem map_take_step {α β : Type} {f : α → β} {l : List α} {i : Nat} {d : α} (h : i < l.length) : (l.take (i + 1)).map f = (l.take i).map f ++ [f (l.getD i d)] := by
  rw [take_snoc d h, List.map_append]; rfl
theorem getD_set_self {α : Type} {l : List α} {i : Nat} {x d : α} (h : i < l.length) : (l.set i x).getD i d = x := by
  simp [List.getD_eq_getElem?_getD, h]
theorem set_twice {α : Type} {l : List α} {i : Nat} {x y : α} : (l.set i x).set i y = l.set i y := List.set_set ..

/-! ## terms that occur -/
def occF (l : List GFact) (t : Int) : Bool := l.any fun f => f.a == t || f.b == t
def occG (l : List GAtom) (t : Int) : Bool := l.any fun f => f.a == t || f.b == t
def occ (a : GAsn) (t : Int) : Bool := occF a.facts t || occG a.atoms t
theorem tsHas_with {s u t : Int} (h0 : 0 ≤ s) (hu : isT u = true) : tsHas (tsWith s u) t = (tsHas s t || (u == t)) := by
  unfold tsHas tsWith
  simp only [hu, cond_true, Int.toNat_natCast, Nat.testBit_or, Nat.one_shiftLeft, Nat.testBit_two_pow]
  have hu' := isT_iff.1 hu
  cases ht : isT t with
  | false =>
    have : ¬ u = t := fun e => by rw [e, ht] at hu; cases hu
    simp [this]
  | true =>
    have ht' := isT_iff.1 ht
    simp only [Bool.true_and]
    congr 1
    rw [Bool.eq_iff_iff]
    simp only [decide_eq_true_eq, beq_iff_eq]
    omega
theorem tsF_has : ∀ (l : List GFact) (z : Int), 0 ≤ z → z < 512 → l.all fV = true → ∀ t, tsHas (l.foldl (fun s f => tsWith (tsWith s f.a) f.b) z) t = (tsHas z t || occF l t) := by
  intro l
  induction l with
  | nil => intro z _ _ _ t; simp [occF]
  | cons f l ih =>
    intro z h0 h1 hl t
    simp only [List.all_cons, Bool.and_eq_true] at hl
    obtain ⟨hf, hl⟩ := hl
    have hf1 : isT f.a = true ∧ isT f.b = true := by simpa [fV] using hf
    have b1 := tsWith_bd (t := f.a) h0 h1
    have b2 := tsWith_bd (t := f.b) b1.1 b1.2
    rw [List.foldl_cons, ih _ b2.1 b2.2 hl, tsHas_with b1.1 hf1.2, tsHas_with h0 hf1.1]
    simp [occF, Bool.or_assoc]
theorem tsG_has : ∀ (l : List GAtom) (z : Int), 0 ≤ z → z < 512 → l.all atV = true → ∀ t, tsHas (tsG z l) t = (tsHas z t || occG l t) := by
  intro l
  induction l with
  | nil => intro z _ _ _ t; simp [occG, tsG]
  | cons f l ih =>
    intro z h0 h1 hl t
    simp only [List.all_cons, Bool.and_eq_true] at hl
    obtain ⟨hf, hl⟩ := hl
    have hf1 : isT f.a = true ∧ isT f.b = true := by
      unfold atV at hf; simp only [Bool.and_eq_true] at hf; exact ⟨hf.1.2, hf.2⟩
    have b1 := tsWith_bd (t := f.a) h0 h1
    have b2 := tsWith_bd (t := f.b) b1.1 b1.2
    have ih' := ih _ b2.1 b2.2 hl t
    unfold tsG at ih' ⊢
    rw [List.foldl_cons, ih', tsHas_with b1.1 hf1.2, tsHas_with h0 hf1.1]
    simp [occG, Bool.or_assoc]
theorem asV_facts {a : GAsn} (h : asV a = true) : a.facts.all fV = true ∧ a.facts.length ≤ 12 ∧ a.atoms.all atV = true ∧ a.atoms.length ≤ 6 := by
  unfold asV fsV at h
  simp only [Bool.and_eq_true, decide_eq_true_eq] at h
  exact ⟨h.1.1.2, h.1.1.1, h.2, h.1.2⟩
theorem tsHas_zero (t : Int) : tsHas 0 t = false := by simp [tsHas]
theorem tsA_has {a : GAsn} (h : asV a = true) (t : Int) : tsHas (tsA a) t = occ a t := by
  obtain ⟨h1, _, h2, _⟩ := asV_facts h
  have b := tsF_bd a.facts
  unfold tsA
  rw [tsG_has _ _ b.1 b.2 h2]
  unfold tsF
  rw [tsF_has _ _ (by omega) (by omega) h1, tsHas_zero]
  simp [occ]
theorem tsA_bd (a : GAsn) : 0 ≤ tsA a ∧ tsA a < 512 := tsG_bd _ _ (tsF_bd a.facts)
def terms9 : List Int := [0, 1, 2, 3, 4, 5, 6, 7, 8]
def terms (a : GAsn) : List Int := cond (asV a) (terms9.filter (occ a)) []
theorem tsLk_eq {s : Int} : tsLk s 9 = terms9.filter (tsHas s) := rfl
theorem terms_eq (a : GAsn) : cond (asV a) (tsLk (tsA a) 9) [] = terms a := by
  unfold terms
  cases h : asV a with
  | false => rfl
  | true =>
    simp only [cond_true, tsLk_eq]
    exact List.filter_congr fun t _ => tsA_has h t
theorem isT_mem {t : Int} : isT t = true ↔ t ∈ terms9 := by
  rw [isT_iff]
  simp only [terms9, List.mem_cons, List.mem_nil_iff, or_false]
  omega
theorem terms_has (a : GAsn) (t : Int) : (terms a).contains t = (asV a && isT t && occ a t) := by
  rw [Bool.eq_iff_iff]
  unfold terms
  cases h : asV a with
  | false => simp
  | true => simp [List.contains_iff_mem, ← isT_mem]
theorem occF_append (l m : List GFact) (t : Int) : occF (l ++ m) t = (occF l t || occF m t) := by simp [occF]
theorem occG_append (l m : List GAtom) (t : Int) : occG (l ++ m) t = (occG l t || occG m t) := by simp [occG]
theorem occ_star (a b : GAsn) (t : Int) : occ (starA a b) t = (occ a t || occ b t) := by
  simp only [occ, starA, occF_append, occG_append]
  cases occF a.facts t <;> cases occF b.facts t <;> cases occG a.atoms t <;> simp
theorem terms_star {a b : GAsn} (h : starOk a b = true) (t : Int) : (terms (starA a b)).contains t = ((terms a).contains t || (terms b).contains t) := by
  unfold starOk at h
  simp only [Bool.and_eq_true] at h
  rw [terms_has, terms_has, terms_has, occ_star, h.1.1, h.1.2, h.2]
  cases isT t <;> simp
theorem star_assoc {a b c : GAsn} : starA (starA a b) c = starA a (starA b c) := by simp [starA]
theorem starL_of {a b : GAsn} (h : starOk a b = true) : starL a b = starA a b := by simp [starL, h]
theorem terms_len (a : GAsn) : (terms a).length ≤ 9 := by
  unfold terms
  cases asV a with
  | false => simp
  | true => exact List.length_filter_le _ _
/-! substitution -/
theorem rT_isT {t x y : Int} (ht : isT t = true) (hy : isT y = true) : isT (rT t x y) = true := by
  unfold rT; split <;> assumption
theorem subA_val {a : GAsn} {x y : Int} (h : asV a = true) (hy : isT y = true) : asV (subA a x y) = true := by
  unfold asV fsV subA at *
  simp only [Bool.and_eq_true, decide_eq_true_eq, List.length_map, List.all_eq_true, List.mem_map] at h ⊢
  refine ⟨⟨⟨h.1.1.1, ?_⟩, h.1.2⟩, ?_⟩
  · rintro f ⟨f', hf, rfl⟩
    have := h.1.1.2 f' hf
    unfold fV at this ⊢
    simp only [Bool.and_eq_true] at this
    simp [sF, rT_isT this.1 hy, rT_isT this.2 hy]
  · rintro f ⟨f', hf, rfl⟩
    have := h.2 f' hf
    unfold atV at this ⊢
    simp only [Bool.and_eq_true] at this
    simp only [Bool.and_eq_true, sA]
    exact ⟨⟨this.1.1, rT_isT this.1.2 hy⟩, rT_isT this.2 hy⟩
theorem rT_eq {u x y t : Int} : (rT u x y == t) = (((u == x) && (y == t)) || (!(u == x) && (u == t))) := by
  unfold rT
  by_cases h : u = x
  · subst h; simp
  · have : (u == x) = false := by simpa using h
    simp [h, this]
theorem occ_sub (a : GAsn) (x y t : Int) : occ (subA a x y) t = ((occ a x && y == t) || (!(x == t) && occ a t)) := by
  have key : ∀ u : Int, (rT u x y == t) = ((u == x && y == t) || (!(x == t) && u == t)) := by
    intro u
    rw [Bool.eq_iff_iff]
    unfold rT
    by_cases h : u = x
    · subst h
      by_cases h2 : u = t
      · subst h2; simp
      · simp [h2]
    · simp only [if_neg h, Bool.or_eq_true, Bool.and_eq_true, beq_iff_eq, Bool.not_eq_true', beq_eq_false_iff_ne, ne_eq]
      constructor
      · intro e; exact .inr ⟨fun e' => h (e.trans e'.symm), e⟩
      · rintro (⟨e, _⟩ | ⟨_, e⟩)
        · exact (h e).elim
        · exact e
  have hF : ∀ l : List GFact, occF (l.map (sF x y)) t = ((occF l x && y == t) || (!(x == t) && occF l t)) := by
    intro l
    induction l with
    | nil => simp [occF]
    | cons f l ih =>
      unfold occF at ih ⊢
      simp only [List.map_cons, List.any_cons, ih, sF, key]
      cases (f.a == x) <;> cases (f.b == x) <;> cases (y == t) <;> cases (x == t) <;> cases (f.a == t) <;> cases (f.b == t) <;> simp
  have hG : ∀ l : List GAtom, occG (l.map (sA x y)) t = ((occG l x && y == t) || (!(x == t) && occG l t)) := by
    intro l
    induction l with
    | nil => simp [occG]
    | cons f l ih =>
      unfold occG at ih ⊢
      simp only [List.map_cons, List.any_cons, ih, sA, key]
      cases (f.a == x) <;> cases (f.b == x) <;> cases (y == t) <;> cases (x == t) <;> cases (f.a == t) <;> cases (f.b == t) <;> simp
  unfold occ
  simp only [subA, hF, hG]
  cases occF a.facts x <;> cases occG a.atoms x <;> cases (y == t) <;> cases (x == t) <;> cases occF a.facts t <;> cases occG a.atoms t <;> rfl
theorem sub_none {a : GAsn} {x y : Int} (h : occ a x = false) : subA a x y = a := by
  unfold occ occF occG at h
  simp only [Bool.or_eq_false_iff, List.any_eq_false] at h
  have h1 : a.facts.map (sF x y) = a.facts := by
    have : a.facts.map (sF x y) = a.facts.map id := List.map_congr_left fun f hf => by
      have := h.1 f hf
      simp only [Bool.or_eq_true, beq_iff_eq, not_or] at this
      simp [sF, rT, this.1, this.2]
    simpa using this
  have h2 : a.atoms.map (sA x y) = a.atoms := by
    have : a.atoms.map (sA x y) = a.atoms.map id := List.map_congr_left fun f hf => by
      have := h.2 f hf
      simp only [Bool.or_eq_true, beq_iff_eq, not_or] at this
      simp [sA, rT, this.1, this.2]
    simpa using this
  unfold subA
  rw [h1, h2]
theorem sub_back {a : GAsn} {x n : Int} (h : occ a n = false) : subA (subA a x n) n x = a := by
  unfold occ occF occG at h
  simp only [Bool.or_eq_false_iff, List.any_eq_false] at h
  have key : ∀ u : Int, u ≠ n → rT (rT u x n) n x = u := by
    intro u hu
    unfold rT
    by_cases h1 : u = x
    · subst h1; simp
    · simp [h1, hu]
  have h1 : (a.facts.map (sF x n)).map (sF n x) = a.facts := by
    rw [List.map_map]
    have : a.facts.map (sF n x ∘ sF x n) = a.facts.map id := List.map_congr_left fun f hf => by
      have := h.1 f hf
      simp only [Bool.or_eq_true, beq_iff_eq, not_or] at this
      simp [sF, key _ this.1, key _ this.2]
    simpa using this
  have h2 : (a.atoms.map (sA x n)).map (sA n x) = a.atoms := by
    rw [List.map_map]
    have : a.atoms.map (sA n x ∘ sA x n) = a.atoms.map id := List.map_congr_left fun f hf => by
      have := h.2 f hf
      simp only [Bool.or_eq_true, beq_iff_eq, not_or] at this
      simp [sA, key _ this.1, key _ this.2]
    simpa using this
  unfold subA
  simp only [h1, h2]
theorem subL_of {a : GAsn} {x t : Int} (h : subOk a x t = true) : subL a x t = subA a x t := by simp [subL, h]
theorem subOk_iff {a : GAsn} {x t : Int} : subOk a x t = true ↔ asV a = true ∧ isT x = true ∧ isT t = true ∧ x ≠ 0 := by
  unfold subOk; simp [and_assoc]
theorem subL_lenF (a : GAsn) (x t : Int) : (subL a x t).facts.length ≤ a.facts.length := by
  unfold subL subA; cases subOk a x t <;> simp
theorem subL_lenA (a : GAsn) (x t : Int) : (subL a x t).atoms.length ≤ a.atoms.length := by
  unfold subL subA; cases subOk a x t <;> simp
/-! the first logical variable that does not occur -/
def frT (p : Int → Bool) : Int := cond (p 5) (cond (p 6) (cond (p 7) (cond (p 8) 0 8) 7) 6) 5
def frOk (p : Int → Bool) : Bool := !(p 5 && p 6 && p 7 && p 8)
def frL (a : GAsn) : Int := cond (asV a) (frT (occ a)) 0
def frB (a : GAsn) : Bool := asV a && frOk (occ a)
theorem frT_not {p : Int → Bool} (h : frOk p = true) : p (frT p) = false ∧ 5 ≤ frT p ∧ frT p ≤ 8 := by
  unfold frOk at h
  unfold frT
  cases h5 : p 5 <;> cases h6 : p 6 <;> cases h7 : p 7 <;> cases h8 : p 8 <;> simp_all
theorem frT_congr {p q : Int → Bool} (h : ∀ t, p t = q t) : frT p = frT q ∧ frOk p = frOk q := by
  have : p = q := funext h
  rw [this]; exact ⟨rfl, rfl⟩
/-- the terms 5 .. 5 + i - 1 occur -/
structure frI (p : Int → Bool) (i : Nat) : Prop where
  h1 : 0 < i → p 5 = true
  h2 : 1 < i → p 6 = true
  h3 : 2 < i → p 7 = true
  h4 : 3 < i → p 8 = true
theorem frI_zero (p : Int → Bool) : frI p 0 := ⟨fun h => by omega, fun h => by omega, fun h => by omega, fun h => by omega⟩
theorem frI_step {p : Int → Bool} {i : Nat} (h : frI p i) (hp : p (5 + (i : Int)) = true) : frI p (i + 1) := by
  obtain ⟨h1, h2, h3, h4⟩ := h
  refine ⟨fun h => ?_, fun h => ?_, fun h => ?_, fun h => ?_⟩
  · by_cases e : i = 0
    · subst e; exact hp
    · exact h1 (by omega)
  · by_cases e : i = 1
    · subst e; exact hp
    · exact h2 (by omega)
  · by_cases e : i = 2
    · subst e; exact hp
    · exact h3 (by omega)
  · by_cases e : i = 3
    · subst e; exact hp
    · exact h4 (by omega)
theorem fr_found {p : Int → Bool} {i : Nat} (h : frI p i) (hi : i ≤ 3) (hp : p (5 + (i : Int)) = false) : frT p = 5 + (i : Int) ∧ frOk p = true := by
  obtain ⟨h1, h2, h3, h4⟩ := h
  unfold frT frOk
  match i, hi with
  | 0, _ => have hp : p 5 = false := hp; simp [hp]
  | 1, _ => have hp : p 6 = false := hp; simp [hp, h1]
  | 2, _ => have hp : p 7 = false := hp; simp [hp, h1, h2]
  | 3, _ => have hp : p 8 = false := hp; simp [hp, h1, h2, h3]
theorem fr_none {p : Int → Bool} (h : frI p 4) : frT p = 0 ∧ frOk p = false := by
  obtain ⟨h1, h2, h3, h4⟩ := h
  unfold frT frOk
  simp [h1, h2, h3, h4]
theorem fr_none' {p : Int → Bool} {i : Nat} (h : frI p i) (h8 : ¬ (5 + (i : Int) ≤ 8)) (h4 : i ≤ 4) : frT p = 0 ∧ frOk p = false := by
  have : i = 4 := by omega
  subst this; exact fr_none h
theorem fr_found' {p : Int → Bool} {i : Nat} (h : frI p i) (h8 : 5 + (i : Int) ≤ 8) (hp : p (5 + (i : Int)) = false) : frT p = 5 + (i : Int) ∧ frOk p = true := fr_found h (by omega) hp
theorem fr_tsA {a : GAsn} (h : asV a = true) : frT (tsHas (tsA a)) = frT (occ a) ∧ frOk (tsHas (tsA a)) = frOk (occ a) := frT_congr (tsA_has h)
/-! flags -/
def fl9 (p : Int → Bool) : List Bool := terms9.map p
theorem fl9_len (p : Int → Bool) : (fl9 p).length = 9 := rfl
theorem fl9_get {p : Int → Bool} {t : Int} (h : isT t = true) : (fl9 p).getD t.toNat false = p t := by
  obtain ⟨h0, h8⟩ := isT_iff.1 h
  obtain ⟨n, rfl⟩ := Int.eq_ofNat_of_zero_le h0
  have : n ≤ 8 := by omega
  match n, this with
  | 0, _ | 1, _ | 2, _ | 3, _ | 4, _ | 5, _ | 6, _ | 7, _ | 8, _ => rfl
theorem fl9_set {p : Int → Bool} {t : Int} (h : isT t = true) : (fl9 p).set t.toNat true = fl9 (fun u => p u || t == u) := by
  obtain ⟨h0, h8⟩ := isT_iff.1 h
  obtain ⟨n, rfl⟩ := Int.eq_ofNat_of_zero_le h0
  have : n ≤ 8 := by omega
  match n, this with
  | 0, _ | 1, _ | 2, _ | 3, _ | 4, _ | 5, _ | 6, _ | 7, _ | 8, _ => simp [fl9, terms9]
theorem fl9_congr {p q : Int → Bool} (h : ∀ t, p t = q t) : fl9 p = fl9 q := by rw [show p = q from funext h]
theorem fl9_zero : List.replicate 9 false = fl9 (fun _ => false) := rfl
theorem occF_step {l : List GFact} {i : Nat} {d : GFact} (h : i < l.length) (t : Int) : occF (l.take (i + 1)) t = (occF (l.take i) t || (l.getD i d).a == t || (l.getD i d).b == t) := by
  unfold occF; rw [take_snoc d h, List.any_append]; simp [Bool.or_assoc]
theorem occG_step {l : List GAtom} {i : Nat} {d : GAtom} (h : i < l.length) (t : Int) : occG (l.take (i + 1)) t = (occG (l.take i) t || (l.getD i d).a == t || (l.getD i d).b == t) := by
  unfold occG; rw [take_snoc d h, List.any_append]; simp [Bool.or_assoc]
theorem flF_step {l : List GFact} {i : Nat} {d : GFact} (h : i < l.length) (ha : isT (l.getD i d).a = true) (hb : isT (l.getD i d).b = true) :
    ((fl9 (occF (l.take i))).set (l.getD i d).a.toNat true).set (l.getD i d).b.toNat true = fl9 (occF (l.take (i + 1))) := by
  rw [fl9_set ha, fl9_set hb]
  exact fl9_congr fun t => (occF_step h t).symm
theorem flG_step {q : Int → Bool} {l : List GAtom} {i : Nat} {d : GAtom} (h : i < l.length) (ha : isT (l.getD i d).a = true) (hb : isT (l.getD i d).b = true) :
    ((fl9 (fun t => q t || occG (l.take i) t)).set (l.getD i d).a.toNat true).set (l.getD i d).b.toNat true = fl9 (fun t => q t || occG (l.take (i + 1)) t) := by
  rw [fl9_set ha, fl9_set hb]
  exact fl9_congr fun t => by rw [occG_step (d := d) h]; simp [Bool.or_assoc]
theorem fV_isT {f : GFact} (h : fV f = true) : isT f.a = true ∧ isT f.b = true := by simpa [fV] using h
theorem atV_isT {x : GAtom} (h : atV x = true) : isT x.a = true ∧ isT x.b = true := by
  unfold atV at h; simp only [Bool.and_eq_true] at h; exact ⟨h.1.2, h.2⟩
theorem asV_fact {a : GAsn} (h : asV a = true) {i : Nat} {d : GFact} (hi : i < a.facts.length) : isT (a.facts.getD i d).a = true ∧ isT (a.facts.getD i d).b = true := fV_isT (all_get (asV_facts h).1 hi)
theorem asV_atom {a : GAsn} (h : asV a = true) {i : Nat} {d : GAtom} (hi : i < a.atoms.length) : isT (a.atoms.getD i d).a = true ∧ isT (a.atoms.getD i d).b = true := atV_isT (all_get (asV_facts h).2.2.1 hi)
theorem starL_lenF (a b : GAsn) : (starL a b).facts.length ≤ a.facts.length + b.facts.length := by
  unfold starL starA; cases starOk a b <;> simp
theorem starL_lenA (a b : GAsn) : (starL a b).atoms.length ≤ a.atoms.length + b.atoms.length := by
  unfold starL starA; cases starOk a b <;> simp
end Go.SE

namespace Go.SE
def szA (a : GAsn) (left : Int) : Int := if sz1 left a.facts.length < 0 then -1 else sz1 (sz1 left a.facts.length) a.atoms.length

/-! ## marks -/
def fF (n : Int) (j : Nat) : GFact := ⟨Int.tmod (n + 3 * j) 3 == 0, n + 3 * j + 1, n + 3 * j + 2⟩
def fG (n : Int) (j : Nat) : GAtom := ⟨n + 3 * j, n + 3 * j + 1, n + 3 * j + 2⟩
def fI (n : Int) (j : Nat) : Int := n + j
def mkF (l : List GFact) (n : Int) : List GFact := (List.range l.length).map (fF n)
def mkG (l : List GAtom) (n : Int) : List GAtom := (List.range l.length).map (fG n)
def mkI (l : List Int) (n : Int) : List Int := (List.range l.length).map (fI n)
def mkU {α : Type} (g : Nat → α) (l : List α) (i : Nat) : List α := (List.range i).map g ++ l.drop i
theorem mkU_len {α : Type} {g : Nat → α} {l : List α} {i : Nat} (h : i ≤ l.length) : (mkU g l i).length = l.length := by simp [mkU]; omega
theorem mkU_get {α : Type} {g : Nat → α} {l : List α} {i : Nat} {d : α} (h : i < l.length) : (mkU g l i).getD i d = l.getD i d := by
  unfold mkU
  rw [List.getD_eq_getElem?_getD, List.getD_eq_getElem?_getD, List.getElem?_append_right (by simp)]
  simp
theorem mkU_set {α : Type} {g : Nat → α} {l : List α} {i : Nat} (h : i < l.length) : (mkU g l i).set i (g i) = mkU g l (i + 1) := by
  unfold mkU
  have e2 : l.drop i = l[i] :: l.drop (i + 1) := List.drop_eq_getElem_cons h
  rw [List.set_append_right _ _ (by simp), List.range_succ, List.length_map, List.length_range, Nat.sub_self, e2, List.set_cons_zero, List.map_append, List.append_assoc]
  rfl
theorem mkU_gs {α : Type} {g : Nat → α} {l : List α} {i : Nat} {y d : α} (h : i < l.length) : ((mkU g l i).set i y).getD i d = y := getD_set_self (by rw [mkU_len (Nat.le_of_lt h)]; exact h)
theorem mkU_sl {α : Type} {g : Nat → α} {l : List α} {i j : Nat} {y : α} (h : i ≤ l.length) : ((mkU g l i).set j y).length = l.length := by rw [List.length_set, mkU_len h]
theorem set3_len {α : Type} {l : List α} {i j : Nat} {x y : α} : ((l.set i x).set j y).length = l.length := by simp
theorem mkU_zero {α : Type} {g : Nat → α} {l : List α} : mkU g l 0 = l := by simp [mkU]
theorem mkU_full {α : Type} {g : Nat → α} {l : List α} {i : Nat} (h : i ≤ l.length) (h2 : ¬ i < l.length) : mkU g l i = (List.range l.length).map g := by
  have : i = l.length := by omega
  subst this; simp [mkU]
def hdF (l : List GFact) (n : Int) : Int := cond (decide (l = mkF l n)) (n + 3 * l.length) (-1)
def hdG (l : List GAtom) (n : Int) : Int := cond (decide (l = mkG l n)) (n + 3 * l.length) (-1)
def hdI (l : List Int) (n : Int) : Int := cond (decide (l = mkI l n)) (n + l.length) (-1)
def hdA (a : GAsn) (n : Int) : Int := if hdF a.facts n < 0 then -1 else if hdG a.atoms (hdF a.facts n) < 0 then -1 else hdG a.atoms (hdF a.facts n)
/-- the first i elements are as they were marked -/
def hdI' {α : Type} (g : Nat → α) (l : List α) (i : Nat) : Prop := l.take i = (List.range i).map g
theorem hd_zero {α : Type} (g : Nat → α) (l : List α) : hdI' g l 0 := by simp [hdI']
theorem hd_step {α : Type} {g : Nat → α} {l : List α} {i : Nat} {d : α} (h : hdI' g l i) (hi : i < l.length) (e : l.getD i d = g i) : hdI' g l (i + 1) := by
  unfold hdI' at *
  rw [take_snoc d hi, h, e, List.range_succ, List.map_append]; rfl
theorem hd_full {α : Type} {g : Nat → α} {l : List α} {i : Nat} (h : hdI' g l i) (hi : i ≤ l.length) (h2 : ¬ i < l.length) : l = (List.range l.length).map g := by
  have : i = l.length := by omega
  subst this
  unfold hdI' at h
  rw [List.take_length] at h
  exact h
theorem hd_not {α : Type} {g : Nat → α} {l : List α} {i : Nat} {d : α} (hi : i < l.length) (e : l.getD i d ≠ g i) : l ≠ (List.range l.length).map g := by
  intro h
  apply e
  have h2 : l.getD i d = ((List.range l.length).map g).getD i d := by rw [← h]
  rw [h2, List.getD_eq_getElem?_getD]
  simp [hi]
theorem hdF_mk (l : List GFact) (n : Int) : hdF (mkF l n) n = n + 3 * l.length := by
  have : (mkF l n).length = l.length := by simp [mkF]
  unfold hdF; rw [this]
  have e : mkF (mkF l n) n = mkF l n := by unfold mkF; simp
  rw [e]; simp
theorem hdG_mk (l : List GAtom) (n : Int) : hdG (mkG l n) n = n + 3 * l.length := by
  have : (mkG l n).length = l.length := by simp [mkG]
  unfold hdG; rw [this]
  have e : mkG (mkG l n) n = mkG l n := by unfold mkG; simp
  rw [e]; simp
theorem hdI_mk (l : List Int) (n : Int) : hdI (mkI l n) n = n + l.length := by
  have : (mkI l n).length = l.length := by simp [mkI]
  unfold hdI; rw [this]
  have e : mkI (mkI l n) n = mkI l n := by unfold mkI; simp
  rw [e]; simp
theorem hdA_mk (f : List GFact) (x : List GAtom) (n : Int) (hn : 0 ≤ n) : hdA ⟨mkF f n, mkG x (n + 3 * f.length)⟩ n = n + 3 * f.length + 3 * x.length := by
  unfold hdA
  simp only [hdF_mk, hdG_mk]
  rw [if_neg (by omega), if_neg (by omega)]
theorem mkF_len (l : List GFact) (n : Int) : (mkF l n).length = l.length := by simp [mkF]
theorem mkG_len (l : List GAtom) (n : Int) : (mkG l n).length = l.length := by simp [mkG]
theorem mkI_len (l : List Int) (n : Int) : (mkI l n).length = l.length := by simp [mkI]
theorem hdF_le (l : List GFact) (n : Int) (hn : 0 ≤ n) : -1 ≤ hdF l n ∧ hdF l n ≤ n + 3 * l.length := by unfold hdF; cases decide (l = mkF l n) <;> simp <;> omega
theorem hdG_le (l : List GAtom) (n : Int) (hn : 0 ≤ n) : -1 ≤ hdG l n ∧ hdG l n ≤ n + 3 * l.length := by unfold hdG; cases decide (l = mkG l n) <;> simp <;> omega

/-! ## choices of atoms -/
def mbit (mask : Int) (i : Nat) : Bool := bits .and .i64 (Int.fdiv mask (2 ^ (min i (IntKind.bits .i64)))) (1 : Int) == (1 : Int)
def pk (mask : Int) (l : List GAtom) (i : Nat) : List GAtom := ((List.range i).filter (mbit mask)).map fun j => l.getD j ⟨0, 0, 0⟩
def pkA (mask : Int) (l : List GAtom) : List GAtom := pk mask l l.length
theorem pk_step (mask : Int) (l : List GAtom) (i : Nat) : pk mask l (i + 1) = cond (mbit mask i) (pk mask l i ++ [l.getD i ⟨0, 0, 0⟩]) (pk mask l i) := by
  unfold pk
  rw [List.range_succ, List.filter_append, List.map_append]
  cases h : mbit mask i <;> simp [h]
theorem pk_len (mask : Int) (l : List GAtom) (i : Nat) : (pk mask l i).length ≤ i := by
  unfold pk
  rw [List.length_map]
  exact Nat.le_trans (List.length_filter_le _ _) (by simp)
def pkTop (a : GAsn) : Int := IntKind.wrap .i64 ((1 : Int) * 2 ^ (min a.atoms.length (IntKind.bits .i64)))
def pkOk (a : GAsn) (mask : Int) : Bool := asV a && !(decide (mask < 0)) && !(decide (pkTop a ≤ mask))
def pkL (a : GAsn) (mask : Int) : GAsn := cond (pkOk a mask) ⟨[], pkA mask a.atoms⟩ ⟨[], []⟩
theorem pkL_len (a : GAsn) (mask : Int) : (pkL a mask).facts.length = 0 ∧ (pkL a mask).atoms.length ≤ a.atoms.length := by
  unfold pkL pkA; cases pkOk a mask <;> simp [pk_len]

/-! ## lists of flags -/
def flU (l : List Bool) (i : Nat) : List Int := ((List.range i).filter fun j => l.getD j false).map Int.ofNat
def flL (l : List Bool) : List Int := flU l l.length
theorem flU_step (l : List Bool) (i : Nat) : flU l (i + 1) = cond (l.getD i false) (flU l i ++ [(i : Int)]) (flU l i) := by
  unfold flU
  rw [List.range_succ, List.filter_append, List.map_append]
  cases h : l.getD i false
  · simp only [List.filter_cons, h]; simp
  · simp only [List.filter_cons, h]; simp
theorem flU_len (l : List Bool) (i : Nat) : (flU l i).length ≤ i := by
  unfold flU
  rw [List.length_map]
  exact Nat.le_trans (List.length_filter_le _ _) (by simp)
theorem flL_fl9 (p : Int → Bool) : flL (fl9 p) = terms9.filter p := by
  have h1 : terms9 = (List.range 9).map Int.ofNat := rfl
  rw [h1, List.filter_map]
  unfold flL flU
  rw [fl9_len]
  refine congrArg (List.map Int.ofNat) (List.filter_congr fun j hj => ?_)
  have hj : j < 9 := List.mem_range.1 hj
  have := fl9_get (p := p) (t := (j : Int)) (isT_iff.2 ⟨by omega, by omega⟩)
  simpa using this
theorem terms_fl {a : GAsn} (h : asV a = true) : flL (fl9 (occ a)) = terms a := by rw [flL_fl9]; simp [terms, h]

/-! ## normal forms -/
def nsw (f : GFact) : GFact := cond (decide (f.b < f.a)) ⟨f.eq, f.b, f.a⟩ f
def nfS (acc : List GFact) (f : GFact) : List GFact := cond (f.eq && (f.a == f.b)) acc (cond (acc.contains (nsw f)) acc (acc ++ [nsw f]))
def nfF (l : List GFact) : List GFact := l.foldl nfS []
def nfA (l : List GAtom) : List GAtom := l.filter fun x => !(x.kind == 2) || !(x.a == x.b)
def nf (a : GAsn) : GAsn := ⟨nfF a.facts, nfA a.atoms⟩
def nfL (a : GAsn) : GAsn := cond (asV a) (nf a) ⟨[], []⟩
theorem nfF_step {l : List GFact} {i : Nat} {d : GFact} (h : i < l.length) : nfF (l.take (i + 1)) = nfS (nfF (l.take i)) (l.getD i d) := by
  unfold nfF; rw [take_snoc d h, List.foldl_append]; rfl
theorem nfA_step {l : List GAtom} {i : Nat} {d : GAtom} (h : i < l.length) : nfA (l.take (i + 1)) = cond (!((l.getD i d).kind == 2) || !((l.getD i d).a == (l.getD i d).b)) (nfA (l.take i) ++ [l.getD i d]) (nfA (l.take i)) := by
  unfold nfA; rw [take_snoc d h, List.filter_append]
  cases hh : (!((l.getD i d).kind == 2) || !((l.getD i d).a == (l.getD i d).b)) <;> simp only [List.filter_cons, hh] <;> simp
theorem nfS_len (acc : List GFact) (f : GFact) : (nfS acc f).length ≤ acc.length + 1 := by
  unfold nfS; cases (f.eq && (f.a == f.b)) <;> cases (acc.contains (nsw f)) <;> simp
theorem nfF_len (l : List GFact) : (nfF l).length ≤ l.length := by
  have key : ∀ (l : List GFact) (acc : List GFact), (l.foldl nfS acc).length ≤ acc.length + l.length := by
    intro l
    induction l with
    | nil => intro acc; simp
    | cons f l ih => intro acc; have := ih (nfS acc f); have := nfS_len acc f; simp only [List.foldl_cons, List.length_cons]; omega
  have := key l []
  simpa [nfF] using this
theorem nfA_len (l : List GAtom) : (nfA l).length ≤ l.length := List.length_filter_le _ _
theorem nfL_len (a : GAsn) : (nfL a).facts.length ≤ a.facts.length ∧ (nfL a).atoms.length ≤ a.atoms.length := by
  unfold nfL nf; cases asV a <;> simp [nfF_len, nfA_len]
theorem fact_has_step {l : List GFact} {i : Nat} {g d : GFact} (h : i < l.length) : (l.take (i + 1)).contains g = ((l.take i).contains g || ((l.getD i d).eq == g.eq && ((l.getD i d).a == g.a && ((l.getD i d).b == g.b && true)))) := by
  have e : ((l.getD i d).eq == g.eq && ((l.getD i d).a == g.a && ((l.getD i d).b == g.b && true))) = decide (l.getD i d = g) := by
    rw [Bool.and_true]; exact fact_beq _ _
  rw [e, take_snoc d h, Bool.eq_iff_iff]
  simp only [List.contains_iff_mem, List.mem_append, List.mem_singleton, Bool.or_eq_true, decide_eq_true_eq]
  exact or_congr Iff.rfl eq_comm
theorem asV_kind {a : GAsn} (h : asV a = true) {i : Nat} {d : GAtom} (hi : i < a.atoms.length) : (a.atoms.getD i d).kind = 1 ∨ (a.atoms.getD i d).kind = 2 := by
  have := all_get (d := d) (asV_facts h).2.2.1 hi
  unfold atV at this
  simp only [Bool.and_eq_true, Bool.or_eq_true, beq_iff_eq] at this
  exact this.1.1
/-- a fact that lies in a block -/
def factAt (st : St) (id : Nat) : GFact :=
  match st.mem id with
  | some (.blk [.d (.val (.bool e)), .d (.val (.int .i64 a)), .d (.val (.int .i64 b))]) => ⟨e, a, b⟩
  | _ => ⟨false, 0, 0⟩
end Go.SE
