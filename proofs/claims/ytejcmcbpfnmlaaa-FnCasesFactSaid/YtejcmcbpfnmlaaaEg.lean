/-
  Parts of a symbolic engine over the program's code: how operations, regions, loops and calls are shown to keep contracts. No conditions.
-/
import Derived.Test.YtejcmcbpfnmlaaaEe
import Derived.Test.YtejcmcbpfnmlaaaEf
set_option linter.unusedSimpArgs false
set_option linter.unusedVariables false
set_option linter.unusedSectionVars false

namespace Go.SE
open Go.RowKit

structure CCon where
  k1 : List AK
  t : Ty
  k2 : List AK
  pre : Args k1 → List t.den → Args k2 → Prop
  out : Args k1 → List t.den → Args k2 → List t.den

def ptCk {t : Ty} (pre : Prop) (ys : List t.den) (fam id base : Nat) (ids : List Nat) (st : St) (k : S → St → Prop) : Prop :=
  st.sp id = false ∧ st.fr id = false ∧ notSpent st ids ∧ notIn id ids ∧ st.rd = none ∧ st.mem base = none ∧ pre ∧
    k (.s (.c (.own base))) { st with mem := upd (upd (kill fam id st.mem) id (some .dead)) base (some (.sl base t ys)), fr := sets st.fr ids }

def ptC4 (c : CCon) (base : Nat) (st : St) (k : S → St → Prop) (x1 : Args c.k1) (x2 : Args c.k2) (id : Nat) (ids : List Nat) : Option Res → Prop
  | some (.sl fam t' xs) => match castL c.t t' xs with
    | some xs => ptCk (c.pre x1 xs x2) (c.out x1 xs x2) fam id base ids st k
    | none => False
  | _ => False

def ptC3 (c : CCon) (base : Nat) (st : St) (k : S → St → Prop) (x1 : Args c.k1) (id : Nat) (ids : Option (List Nat)) (x2 : Option (Args c.k2)) : Prop :=
  match ids, x2 with
  | some ids, some x2 => ptC4 c base st k x1 x2 id ids (st.mem id)
  | _, _ => False

def ptC2 (c : CCon) (args : List S0) (base : Nat) (st : St) (k : S → St → Prop) (x1 : Option (Args c.k1)) : Option S0 → Prop
  | some (.c (.own id)) => match x1 with
    | some x1 => ptC3 c base st k x1 id (ownsC st.mem (refsAr (args.take c.k1.length ++ args.drop (c.k1.length + 1)))) (decs st.mem c.k2 (args.drop (c.k1.length + 1)))
    | none => False
  | _ => False

def ptC (c : CCon) : PT := fun args base st k => ptC2 c args base st k (decs st.mem c.k1 (args.take c.k1.length)) args[c.k1.length]?

section
variable {P : Program} {E : Ty → TypeId} {tab : TypeId → Option TI} {K : FuncId → Option Con} {pts : FuncId → Option PT} {hp : Nat → Bool} {perm : Nat → List (List Nat)}

def isoStC (c : CCon) (x1 : Args c.k1) (xs : List c.t.den) (x2 : Args c.k2) : St :=
  { env := envOf (encs c.k1 x1 ++ .c (.own 7) :: encs c.k2 x2) 0, mem := upd (fun _ => none) 7 (some (.sl 7 c.t xs)), sp := fun _ => false, fr := fun _ => false, base := 16, rd := none }

def isoC (t : Ty) (ys : List t.den) (st : St) : List S0 → Prop
  | [.c (.own k)] => isoM t ys (st.mem k) ∧ st.sp k = false ∧ st.fr k = false
  | _ => False

def isoQC (tab : TypeId → Option TI) (c : CCon) (rvs : List ResultVar) (x1 : Args c.k1) (xs : List c.t.den) (x2 : Args c.k2) : XK → St → Prop
  | .exit _, _ => False
  | _, st => match loadsS tab st rvs with
    | some ss => isoC c.t (c.out x1 xs x2) st ss
    | none => False

theorem iso_callC (ht : TabOk P E tab) (hKA : KAll P E K) (hPA : PAll P E pts) (hmix : P.follows .mixedOrders = true) (hdr : ∀ w0 M n, DrawSound P E tab K w0 M n) {f : FuncId} {fn : Func} (hf : P.funcs[f]? = some fn) (hb : fn.body = some (bodyOf fn)) {c : CCon} (hn : c.k1.length + c.k2.length + 1 ≤ fn.ntmps)
    (hok : codeOkP tab K hp perm fn.ntmps (bodyOf fn) = true) {anns : Args c.k1 → List c.t.den → Args c.k2 → Nat → St → Option Ann}
    (hvc : ∀ x1 xs x2, c.pre x1 xs x2 → vcQ tab K pts hp (fun _ => none) (anns x1 xs x2) perm (bodyOf fn) (isoStC c x1 xs x2) (isoQC tab c fn.results.toList x1 xs x2))
    {w : World} {ro : Nat → Option (Array Value)} {ρ : Nat} {x1 : Args c.k1} {xs : List c.t.den} {x2 : Args c.k2} (hpre : c.pre x1 xs x2) {vs1 vs2 : List Value} {v : Value} (hin : ROin w ro) (h1 : ArgsR (argG ro ρ) (encs c.k1 x1) vs1) (h2 : ArgsR (argG ro ρ) (encs c.k2 x2) vs2)
    (hone : v.oneCell' = true) (hv : ResR E w { ro, κ := fun _ => v, ln := fun _ => xs.length, ρ } 7 (.sl 7 c.t xs)) (hvb : ∀ b, blkOf v = some b → ro b = none) :
    Calls P f (vs1 ++ v :: vs2).toArray w fun e w' => ∃ u ro', e = .returned u ∧ u.oneCell' = true ∧ Ext (fun b => blkOf v = some b) w w' ∧ ROin w' ro' ∧ (∀ b vs, ro b = some vs → ro' b = some vs) ∧ (∀ b vs, ro' b = some vs → ro b = some vs ∨ w.heap.size ≤ b ∨ blkOf v = some b) ∧
      ResR E w' { ro := ro', κ := fun _ => u, ln := fun _ => (c.out x1 xs x2).length, ρ } 7 (.sl 7 c.t (c.out x1 xs x2)) ∧ ∀ b, blkOf u = some b → (w.heap.size ≤ b ∨ blkOf v = some b) ∧ ro' b = none := by
  let M : MM := ⟨fun b => blkOf v = some b, ro, ρ, fun _ => none, fun _ => none, ro⟩
  let g : G := { ro, κ := fun id => if id = 7 then v else undef, ln := fun id => if id = 7 then xs.length else 0, ρ }
  have one : ∀ id r, (isoStC c x1 xs x2).mem id = some r → id = 7 ∧ r = .sl 7 c.t xs := by
    intro id r h
    simp only [isoStC, upd] at h
    split at h
    · rename_i e; injection h with h; exact ⟨e, h.symm⟩
    · cases h
  have hκ : ∀ b, blkOf (g.κ 7) = some b → blkOf v = some b := fun b h => h
  have hgood : Good E w M g (isoStC c x1 xs x2) w := by
    refine ⟨Ext.refl _ _, hin, ?_, ?_, ?_, ?_, (fun m hm => by cases hm), (fun h => (h rfl).elim), (fun b vs hb => .inl hb), rfl, (fun _ _ h => by cases h), ⟨(fun _ _ h => by cases h), fun b vs hb => hb⟩⟩
    · intro id r h
      obtain ⟨rfl, rfl⟩ := one id r h
      exact hv
    · intro i j r s hi hj hij
      exact (hij ((one i r hi).1.trans (one j s hj).1.symm)).elim
    · intro id r h _ b hb
      rw [(one id r h).1] at hb
      exact .inr (hκ b hb)
    · intro id r h _ b hb _ _
      rw [(one id r h).1] at hb
      exact hvb b (hκ b hb)
  have hOO : OOk (fun _ => none) M := ⟨fun _ _ h => (by cases h), fun _ h => (by rcases h with h | h <;> cases h), fun _ h => (by cases h)⟩
  have hargs : ∀ (j : Nat) (s : S0), (encs c.k1 x1 ++ .c (.own 7) :: encs c.k2 x2)[j]? = some s → ∃ u, (vs1 ++ v :: vs2)[j]? = some u ∧ s.R g u ∧ ∀ id ∈ s.refs, id = 7 := by
    intro j s hj
    have l1 := h1.1
    by_cases hlt : j < (encs c.k1 x1).length
    · rw [List.getElem?_append_left hlt] at hj
      obtain ⟨u, hu, hr⟩ := h1.2 j s hj
      have hrf := encs_refs c.k1 x1 j s hj
      exact ⟨u, by rw [List.getElem?_append_left (by omega)]; exact hu, S0.R.mono (g := argG ro ρ) (g' := g) (fun _ _ h => h) rfl (fun id hid => by rw [hrf] at hid; cases hid) hr, fun id hid => by rw [hrf] at hid; cases hid⟩
    · rw [List.getElem?_append_right (by omega)] at hj
      rw [List.getElem?_append_right (by omega)]
      have hjj : j - vs1.length = j - (encs c.k1 x1).length := by rw [l1]
      rw [hjj]
      cases hm : j - (encs c.k1 x1).length with
      | zero =>
        rw [hm] at hj
        simp at hj
        subst hj
        exact ⟨v, rfl, ⟨rfl, hone⟩, fun id hid => by simpa [S0.refs, CV.refs] using hid⟩
      | succ i =>
        rw [hm] at hj
        have hj : (encs c.k2 x2)[i]? = some s := by simpa using hj
        obtain ⟨u, hu, hr⟩ := h2.2 i s hj
        have hrf := encs_refs c.k2 x2 i s hj
        exact ⟨u, by simpa using hu, S0.R.mono (g := argG ro ρ) (g' := g) (fun _ _ h => h) rfl (fun id hid => by rw [hrf] at hid; cases hid) hr, fun id hid => by rw [hrf] at hid; cases hid⟩
  have hvl : (vs1 ++ v :: vs2).length = (encs c.k1 x1 ++ S0.c (.own 7) :: encs c.k2 x2).length := by simp [h1.1, h2.1]
  have hel : (encs c.k1 x1 ++ S0.c (.own 7) :: encs c.k2 x2).length ≤ fn.ntmps := by simp [encs_len]; omega
  have hrel : Rel E w M fn.ntmps (isoStC c x1 xs x2) { tmps := (vs1 ++ v :: vs2).toArray ++ Array.replicate (fn.ntmps - (vs1 ++ v :: vs2).toArray.size) undef, defers := [] } w := by
    refine ⟨⟨?_, ?_⟩, by simp at hvl hel ⊢; omega, rfl, g, hgood, ?_⟩
    · intro j id hid
      have e : (isoStC c x1 xs x2).env j = envOf (encs c.k1 x1 ++ .c (.own 7) :: encs c.k2 x2) 0 j := rfl
      rw [e] at hid
      rcases envOf_cases (encs c.k1 x1 ++ .c (.own 7) :: encs c.k2 x2) 0 j with h3 | ⟨i, s, h3, _, h5⟩
      · rw [h3] at hid; simp [SE.junk, S.refs, S0.refs, CV.refs] at hid
      · rw [h5] at hid
        obtain ⟨_, _, _, h6⟩ := hargs i s h3
        have := h6 id hid
        subst this
        rfl
    · intro j r h id hid
      obtain ⟨rfl, rfl⟩ := one j r h
      simp [Res.refs] at hid
    · intro j
      have e : (isoStC c x1 xs x2).env j = envOf (encs c.k1 x1 ++ .c (.own 7) :: encs c.k2 x2) 0 j := rfl
      rw [e]
      rcases envOf_cases (encs c.k1 x1 ++ .c (.own 7) :: encs c.k2 x2) 0 j with h3 | ⟨i, s, h3, h4, h5⟩
      · rw [h3]; trivial
      · rw [h5]
        obtain ⟨u, hu, hr, _⟩ := hargs i s h3
        have hj : j = i := by omega
        subst hj
        have hlt : j < (vs1 ++ v :: vs2).length := (List.getElem?_eq_some_iff.1 hu).1
        have : ((vs1 ++ v :: vs2).toArray ++ Array.replicate (fn.ntmps - (vs1 ++ v :: vs2).toArray.size) undef).getD j undef = u := by
          rw [Array.getD_eq_getD_getElem?, Array.getElem?_append_left (by simpa using hlt), List.getElem?_toArray, hu]; rfl
        show S.R _ _ (((vs1 ++ v :: vs2).toArray ++ Array.replicate (fn.ntmps - (vs1 ++ v :: vs2).toArray.size) undef).getD j undef)
        rw [this]
        exact hr
  refine calls_of_wp hf hb ?_
  refine codeQ_sound ht hKA hPA hmix (hdr _ _ _) hOO (bodyOf fn) _ _ _ _ _ hok hrel (hvc x1 xs x2 hpre) ?_
  intro xk st' a' w' hr hk
  have fin : isoQC tab c fn.results.toList x1 xs x2 .ret st' → a'.defers = [] ∧ ∃ u, (results fn a'.tmps).run P w' = .ok u w' ∧ ∃ u' ro', Ending.returned u = .returned u' ∧ u'.oneCell' = true ∧ Ext (fun b => blkOf v = some b) w w' ∧ ROin w' ro' ∧ (∀ b vs, ro b = some vs → ro' b = some vs) ∧ (∀ b vs, ro' b = some vs → ro b = some vs ∨ w.heap.size ≤ b ∨ blkOf v = some b) ∧
      ResR E w' { ro := ro', κ := fun _ => u', ln := fun _ => (c.out x1 xs x2).length, ρ } 7 (.sl 7 c.t (c.out x1 xs x2)) ∧ ∀ b, blkOf u' = some b → (w.heap.size ≤ b ∨ blkOf v = some b) ∧ ro' b = none := by
    intro hk
    unfold isoQC at hk
    simp only at hk
    split at hk
    · rename_i ss hload
      unfold isoC at hk
      split at hk
      · rename_i k'
        obtain ⟨hm7, hsp, hfr⟩ := hk
        obtain ⟨g', hg', henv⟩ := hr.good
        obtain ⟨us, hrun, hus, _⟩ := loads_run (P := P) ht hg' henv hr.cl hload
        obtain ⟨u, hu, hur⟩ := hus.2 0 _ rfl
        have hus1 : us = [u] := by
          have hl := hus.1
          match us, hl with
          | [q], _ => simp at hu; rw [hu]
        subst hus1
        have hres := results_run (fn := fn) hrun
        obtain ⟨huκ, hone'⟩ : u = g'.κ k' ∧ u.oneCell' = true := hur
        unfold isoM at hm7
        split at hm7
        · rename_i fam t' ys hm
          obtain ⟨ht', hq⟩ := castL_eq hm7
          subst ht'
          cases hq
          obtain ⟨hln, hR⟩ := hg'.res k' _ hm
          refine ⟨hr.defers, u, hres, u, g'.ro, rfl, hone', hg'.ext, hg'.ro, hg'.keep.2, fun b vs hb => ?_, ⟨rfl, ?_⟩, fun b hb => ⟨?_, ?_⟩⟩
          · rcases hg'.roo b vs hb with h | h | h
            · exact .inl h
            · exact .inr (.inl h)
            · exact .inr (.inr h)
          · rw [← huκ] at hR
            exact hR
          · exact hg'.fresh k' _ hm trivial b (by rw [← huκ]; exact hb)
          · exact hg'.wro k' _ hm trivial b (by rw [← huκ]; exact hb) hsp hfr
        · exact hm7.elim
      · exact hk.elim
    · exact hk.elim
  cases xk with
  | normal => exact fin hk
  | ret => exact fin hk
  | exit id => exact hk.elim

theorem ptC_ok (ht : TabOk P E tab) (hKA : KAll P E K) (hPA : PAll P E pts) (hmix : P.follows .mixedOrders = true) (hdr : ∀ w0 M n, DrawSound P E tab K w0 M n) {f : FuncId} {fn : Func} (hf : P.funcs[f]? = some fn) (hb : fn.body = some (bodyOf fn)) (hname : (fn.name == "runtime.NumGoroutine") = false) {c : CCon} (hn : c.k1.length + c.k2.length + 1 ≤ fn.ntmps)
    (hok : codeOkP tab K hp perm fn.ntmps (bodyOf fn) = true) {anns : Args c.k1 → List c.t.den → Args c.k2 → Nat → St → Option Ann}
    (hvc : ∀ x1 xs x2, c.pre x1 xs x2 → vcQ tab K pts hp (fun _ => none) (anns x1 xs x2) perm (bodyOf fn) (isoStC c x1 xs x2) (isoQC tab c fn.results.toList x1 xs x2)) : PTOk P E f (ptC c) := by
  refine ⟨⟨fn, _, hf, hname, hb⟩, ?_⟩
  intro w0 M g st w args vs base k hg hcl hrefs hargs hv
  unfold ptC ptC2 at hv
  split at hv
  · rename_i id hid
    split at hv
    · rename_i x1 hx1
      unfold ptC3 at hv
      split at hv
      · rename_i ids x2 hids hx2
        unfold ptC4 at hv
        split at hv
        · rename_i fam t' xs0 hm
          split at hv
          · rename_i xs hcast
            obtain ⟨ht', hq⟩ := castL_eq hcast
            subst ht'
            cases hq
            obtain ⟨hsp, hfr, hns, hni, hrd, hbase, hpre, hk⟩ := hv
            rw [refsAr_eq] at hids
            obtain ⟨rfl, hsl⟩ := ownsC_mem hids
            have hnotin : id ∉ refsT (args.take c.k1.length ++ args.drop (c.k1.length + 1)) := notIn_mem hni
            obtain ⟨ro', hro, hdr', hg1⟩ := hg.freeze (refsT (args.take c.k1.length ++ args.drop (c.k1.length + 1))) fun i hi => ⟨notSpent_mem hns i hi, hsl i hi⟩
            have hlent : ∀ i ∈ refsT (args.take c.k1.length ++ args.drop (c.k1.length + 1)), Lent st.mem g.κ ro' i := by
              intro i hi
              refine ⟨fun f t xs hmm => hdr' i hi f t xs hmm, fun t xs hmm => ?_⟩
              obtain ⟨f, t', xs', hm'⟩ := hsl i hi
              rw [hmm] at hm'; cases hm'
            have hlt : c.k1.length < args.length := (List.getElem?_eq_some_iff.1 hid).1
            have hvl := hargs.1
            obtain ⟨v, hv0, hvr⟩ := hargs.2 c.k1.length _ hid
            obtain ⟨hvκ, hvone⟩ : v = g.κ id ∧ v.oneCell' = true := hvr
            have happ : ∀ (l1 l2 : List S0), refsT (l1 ++ l2) = refsT l1 ++ refsT l2 := by
              intro l1 l2
              induction l1 with
              | nil => rfl
              | cons x l ih => simp [refsT, ih]
            have hA1 : ArgsR g (args.take c.k1.length) (vs.take c.k1.length) := by
              refine ⟨by simp [hvl], fun j s hj => ?_⟩
              have hj1 : j < c.k1.length := by
                have := (List.getElem?_eq_some_iff.1 hj).1
                simp at this; omega
              rw [List.getElem?_take_of_lt hj1] at hj ⊢
              exact hargs.2 j s hj
            have hA2 : ArgsR g (args.drop (c.k1.length + 1)) (vs.drop (c.k1.length + 1)) := by
              refine ⟨by simp [hvl], fun j s hj => ?_⟩
              rw [List.getElem?_drop] at hj ⊢
              exact hargs.2 _ s hj
            have hB1 := decs_R (ro' := ro') hro hx1 hA1 fun i hi => hlent i (by rw [happ]; exact List.mem_append_left _ hi)
            have hB2 := decs_R (ro' := ro') hro hx2 hA2 fun i hi => hlent i (by rw [happ]; exact List.mem_append_right _ hi)
            have hfr1 : ({ st with fr := sets st.fr (refsT (args.take c.k1.length ++ args.drop (c.k1.length + 1))) } : St).fr id = false := by
              show sets st.fr _ id = false
              rw [sets_get, hfr]
              simp [hnotin]
            have hvb : ∀ b, blkOf v = some b → ro' b = none := fun b hb' => hg1.wro id _ hm trivial b (by show blkOf (g.κ id) = some b; rw [← hvκ]; exact hb') hsp hfr1
            have hRes : ResR E w { ro := ro', κ := fun _ => v, ln := fun _ => xs.length, ρ := g.ρ } 7 (.sl 7 c.t xs) := by
              obtain ⟨hln, hR⟩ := hg1.res id _ hm
              have hR : ((g.κ id = .slice none 0 0 ∧ xs = []) ∨ ∃ b cap cur, g.κ id = .slice (some ⟨b, 0, none⟩) xs.length cap ∧ w.heap[b]? = some (.cells cur (E c.t) (0, 0)) ∧ xs.length ≤ cap ∧ cap ≤ maxLen ∧ cur.size = cap * c.t.sz ∧ RowR ro' (flat c.t xs) cur 0) := hR
              rw [← hvκ] at hR
              exact ⟨rfl, hR⟩
            have hvs : vs = vs.take c.k1.length ++ v :: vs.drop (c.k1.length + 1) := by
              have h1 : vs.drop c.k1.length = v :: vs.drop (c.k1.length + 1) := by
                rw [List.drop_eq_getElem_cons (by omega)]
                congr 1
                rw [List.getElem?_eq_getElem (by omega)] at hv0
                injection hv0
              rw [← h1, List.take_append_drop]
            rw [hvs]
            refine Calls.mono (iso_callC ht hKA hPA hmix hdr hf hb hn hok hvc (ρ := g.ρ) hpre hg1.ro hB1 hB2 hvone hRes hvb) fun e w' he => ?_
            obtain ⟨u, ro2, rfl, hone2, hext, hin2, hmono, hroo, hR2, hblk⟩ := he
            obtain ⟨g2, hg2⟩ : ∃ g2 : G, g2 = { ro := ro2, κ := fun i => if i = base then u else g.κ i, ln := fun i => if i = base then (c.out x1 xs x2).length else g.ln i, ρ := g.ρ } := ⟨_, rfl⟩
            obtain ⟨st2, hst2⟩ : ∃ st2 : St, st2 = { st with mem := upd (upd (kill fam id st.mem) id (some .dead)) base (some (.sl base c.t (c.out x1 xs x2))), fr := sets st.fr (refsT (args.take c.k1.length ++ args.drop (c.k1.length + 1))) } := ⟨_, rfl⟩
            rw [← hst2] at hk
            have hidb : id ≠ base := fun e => by rw [e, hbase] at hm; cases hm
            have κo : ∀ i, (st.mem i).isSome = true → g2.κ i = g.κ i ∧ g2.ln i = g.ln i := fun i hi => by
              have : i ≠ base := fun e => by rw [e, hbase] at hi; cases hi
              rw [hg2]; simp [this]
            have κb : g2.κ base = u ∧ g2.ln base = (c.out x1 xs x2).length := by rw [hg2]; simp
            have hro2 : g2.ro = ro2 := by rw [hg2]
            have hmono2 : ∀ b vs, g.ro b = some vs → ro2 b = some vs := fun b vs h => hmono b vs (hro b vs h)
            -- what lives afterwards
            have memc : ∀ i r, st2.mem i = some r → r.live → (i = base ∧ r = .sl base c.t (c.out x1 xs x2)) ∨ (i ≠ base ∧ i ≠ id ∧ st.mem i = some r ∧ ∀ t ys, r ≠ .sl fam t ys) := by
              intro i r hi hl
              rw [hst2] at hi
              rcases upd_cases hi with ⟨h1, h2⟩ | ⟨h1, h2⟩
              · exact .inl ⟨h1, h2⟩
              · rcases upd_cases h2 with ⟨_, h4⟩ | ⟨h3, h4⟩
                · subst h4; exact hl.elim
                · refine .inr ⟨h1, h3, ?_⟩
                  unfold kill at h4
                  split at h4
                  · rename_i f t xs' hmi
                    split at h4
                    · injection h4 with h4; subst h4; exact hl.elim
                    · rename_i hne
                      injection h4 with h4
                      subst h4
                      exact ⟨hmi, fun t' ys e => by injection e with e1; exact hne ⟨h3, e1⟩⟩
                  · rename_i hno
                    exact ⟨h4, fun t' ys e => by subst e; exact hno _ _ _ h4⟩
            have hother : ∀ i r, st.mem i = some r → r.live → i ≠ id → (∀ t ys, r ≠ .sl fam t ys) → ∀ b, blkOf (g.κ i) = some b → b < w.heap.size ∧ blkOf v ≠ some b := by
              intro i r hi hl hne hnf b hb
              refine ⟨(hg.res i r hi).lt hl hb, fun e => ?_⟩
              obtain ⟨f, t, xs1, ys1, e1, e2, _⟩ := hg.sep i id r _ hi hm hne hl trivial b hb (by rw [← hvκ]; exact e)
              injection e2 with e3
              subst e3
              exact hnf _ _ e1
            have hstay : ∀ b, b < w.heap.size → blkOf v ≠ some b → w'.heap[b]? = w.heap[b]? := fun b hb' hne => hext.block b hb' hne
            have hvfresh : ∀ b, blkOf v = some b → w0.heap.size ≤ b ∨ M.can b := fun b hb => hg.fresh id _ hm trivial b (by rw [← hvκ]; exact hb)
            have hub : ∀ b, blkOf u = some b → w0.heap.size ≤ b ∨ M.can b := fun b hb => by
              rcases (hblk b hb).1 with h | h
              · exact .inl (Nat.le_trans hg.ext.size h)
              · exact hvfresh b h
            refine ⟨u, _, st2, g2, rfl, hk, ?_, ⟨κb.1.symm, hone2⟩, ?_, ?_, fun i hi => ⟨?_, (κo i hi).1, (κo i hi).2⟩, fun b vs h => by rw [hro2]; exact hmono2 b vs h, by rw [hg2]⟩
            · refine ⟨⟨hext.os.trans hg.ext.os, hext.tape.trans hg.ext.tape, hext.output.trans hg.ext.output, Nat.le_trans hg.ext.size hext.size, fun b hb hc => ?_⟩, by rw [hro2]; exact hin2, ?_, ?_, ?_, ?_, ?_, ?_, ?_, by rw [hg2]; exact hg.rho, ?_, ?_, ?_⟩
              · rw [hstay b (Nat.lt_of_lt_of_le hb hg.ext.size) fun e => by
                  rcases hvfresh b e with h | h
                  · omega
                  · exact hc h]
                exact hg.ext.block b hb hc
              · intro i r hi
                by_cases hl : r.live
                · rcases memc i r hi hl with ⟨rfl, rfl⟩ | ⟨h1, h2, h3, h4⟩
                  · obtain ⟨_, q⟩ := hR2
                    refine ⟨κb.2, ?_⟩
                    rw [κb.1, hro2]
                    exact q
                  · have ho := hother i r h3 hl h2 h4
                    exact (hg.res i r h3).keep (fun b hb => hstay b (ho b hb).1 (ho b hb).2) (fun b vs h => by rw [hro2]; exact hmono2 b vs h) (by rw [hg2]) (κo i (by rw [h3]; rfl)) fun j hj => κo j (hcl i r h3 j hj)
                · cases r <;> first | exact (hl trivial).elim | trivial
              · intro i j r s hi hj hij hli hlj b hbi hbj
                rcases memc i r hi hli with ⟨rfl, rfl⟩ | ⟨h1, h2, h3, h4⟩ <;> rcases memc j s hj hlj with ⟨rfl, rfl⟩ | ⟨k1, k2, k3, k4⟩
                · exact (hij rfl).elim
                · exfalso
                  rw [κb.1] at hbi
                  rw [(κo j (by rw [k3]; rfl)).1] at hbj
                  have ho := hother j s k3 hlj k2 k4 b hbj
                  rcases (hblk b hbi).1 with h | h
                  · omega
                  · exact ho.2 h
                · exfalso
                  rw [κb.1] at hbj
                  rw [(κo i (by rw [h3]; rfl)).1] at hbi
                  have ho := hother i r h3 hli h2 h4 b hbi
                  rcases (hblk b hbj).1 with h | h
                  · omega
                  · exact ho.2 h
                · rw [(κo i (by rw [h3]; rfl)).1] at hbi
                  rw [(κo j (by rw [k3]; rfl)).1] at hbj
                  rw [hst2]
                  exact hg.sep i j r s h3 k3 hij hli hlj b hbi hbj
              · intro i r hi hl b hb
                rcases memc i r hi hl with ⟨rfl, rfl⟩ | ⟨h1, h2, h3, h4⟩
                · rw [κb.1] at hb; exact hub b hb
                · rw [(κo i (by rw [h3]; rfl)).1] at hb; exact hg.fresh i r h3 hl b hb
              · intro i r hi hl b hb hs1 hs2
                rw [hro2]
                rcases memc i r hi hl with ⟨rfl, rfl⟩ | ⟨h1, h2, h3, h4⟩
                · rw [κb.1] at hb; exact (hblk b hb).2
                · rw [(κo i (by rw [h3]; rfl)).1] at hb
                  have ho := hother i r h3 hl h2 h4 b hb
                  have hn := hg1.wro i r h3 hl b hb (by rw [hst2] at hs1; exact hs1) (by rw [hst2] at hs2; exact hs2)
                  cases hq : ro2 b with
                  | none => rfl
                  | some vs =>
                    rcases hroo b vs hq with h | h | h
                    · have h : ro' b = some vs := h
                      rw [show ro' b = none from hn] at h; cases h
                    · omega
                    · exact (ho.2 h).elim
              · intro m hm2; rw [hst2] at hm2; have hm2 : st.rd = some m := hm2; rw [hrd] at hm2; cases hm2
              · intro hm2; rw [hst2] at hm2; exact absurd hrd hm2
              · intro b vs hb
                rw [hro2] at hb
                rcases hroo b vs hb with h | h | h
                · exact hg1.roo b vs h
                · exact .inr (.inl (Nat.le_trans hg.ext.size h))
                · rcases hvfresh b h with h | h
                  · exact .inr (.inl h)
                  · exact .inr (.inr h)
              · intro i u' hu'
                obtain ⟨p1, p2⟩ := hg.pin i u' hu'
                exact ⟨by rw [hst2]; exact upd_dom (upd_dom (kill_dom p1)), (κo i p1).1.trans p2⟩
              · intro i u' hu'
                obtain ⟨p1, p2⟩ := hg.keep.1 i u' hu'
                exact ⟨by rw [hst2]; exact upd_dom (upd_dom (kill_dom p1)), (κo i p1).2.trans p2⟩
              · intro b vs hb
                rw [hro2]
                exact hmono2 b vs (hg.keep.2 b vs hb)
            · intro i hi
              simp only [S.refs, S0.refs, CV.refs, List.mem_singleton] at hi
              subst hi
              rw [hst2]
              simp [upd]
            · intro i r hi j hj
              rw [hst2]
              refine upd_dom (upd_dom (kill_dom ?_))
              rw [hst2] at hi
              rcases upd_cases hi with ⟨_, h⟩ | ⟨_, h⟩
              · subst h; simp [Res.refs] at hj
              · rcases upd_cases h with ⟨_, h⟩ | ⟨_, h⟩
                · subst h; simp [Res.refs] at hj
                · rcases kill_cases h with h | h
                  · exact hcl i r h j hj
                  · subst h; simp [Res.refs] at hj
            · rw [hst2]; exact upd_dom (upd_dom (kill_dom hi))
          · exact hv.elim
        · exact hv.elim
      · exact hv.elim
    · exact hv.elim
  · exact hv.elim

abbrev CCon.lim (c : CCon) (mu : Args c.k1 → List c.t.den → Args c.k2 → Nat) (m : Nat) : CCon := { c with pre := fun x l y => c.pre x l y ∧ mu x l y < m }

theorem ptC_lim {c : CCon} (mu : Args c.k1 → List c.t.den → Args c.k2 → Nat) {args : List S0} {base : Nat} {st : St} {k : S → St → Prop} (h : ptC c args base st k) : ∃ m, ptC (c.lim mu m) args base st k := by
  unfold ptC ptC2 at h
  split at h
  · rename_i id hid
    split at h
    · rename_i x1 hx1
      unfold ptC3 at h
      split at h
      · rename_i ids x2 hids hx2
        unfold ptC4 at h
        split at h
        · rename_i fam t' xs hm
          split at h
          · rename_i xs' hc
            obtain ⟨a1, a2, a3, a4, a5, a6, a7, a8⟩ := h
            refine ⟨mu x1 xs' x2 + 1, ?_⟩
            have e4 : ptC4 (c.lim mu (mu x1 xs' x2 + 1)) base st k x1 x2 id ids (st.mem id) := by
              rw [hm]
              unfold ptC4
              dsimp only
              split
              · rename_i ys hys
                have hy2 : castL c.t t' xs = some ys := hys
                rw [hc] at hy2
                cases hy2
                exact ⟨a1, a2, a3, a4, a5, a6, ⟨a7, Nat.lt_succ_self _⟩, a8⟩
              · rename_i hys
                have hy2 : castL c.t t' xs = none := hys
                rw [hc] at hy2
                cases hy2
            have e3 : ptC3 (c.lim mu (mu x1 xs' x2 + 1)) base st k x1 id (ownsC st.mem (refsAr (args.take c.k1.length ++ args.drop (c.k1.length + 1)))) (decs st.mem c.k2 (args.drop (c.k1.length + 1))) := by
              rw [hids, hx2]; exact e4
            show ptC2 (c.lim mu (mu x1 xs' x2 + 1)) args base st k (decs st.mem c.k1 (args.take c.k1.length)) args[c.k1.length]?
            rw [hid, hx1]
            exact e3
          · exact h.elim
        · exact h.elim
      · exact h.elim
    · exact h.elim
  · exact h.elim

theorem ptC_zero {c : CCon} {mu : Args c.k1 → List c.t.den → Args c.k2 → Nat} {args : List S0} {base : Nat} {st : St} {k : S → St → Prop} (h : ptC (c.lim mu 0) args base st k) : False := by
  unfold ptC ptC2 at h
  split at h
  · split at h
    · unfold ptC3 at h
      split at h
      · unfold ptC4 at h
        split at h
        · split at h
          · obtain ⟨_, _, _, _, _, _, a7, _⟩ := h
            exact absurd a7.2 (Nat.not_lt_zero _)
          · exact h
        · exact h
      · exact h
    · exact h
  · exact h

theorem ptC_rec {f : FuncId} {c : CCon} {mu : Args c.k1 → List c.t.den → Args c.k2 → Nat} (h : ∀ m, PTOk P E f (ptC (c.lim mu m)) → PTOk P E f (ptC (c.lim mu (m + 1)))) (h0 : ∃ fn b, P.funcs[f]? = some fn ∧ (fn.name == "runtime.NumGoroutine") = false ∧ fn.body = some b) : PTOk P E f (ptC c) := by
  have all : ∀ m, PTOk P E f (ptC (c.lim mu m)) := by
    intro m
    induction m with
    | zero => exact ⟨h0, fun _ _ _ _ _ _ _ _ _ _ _ _ _ hv => (ptC_zero hv).elim⟩
    | succ m ih => exact h m ih
  refine ⟨h0, fun w0 M g st w args vs base k h1 h2 h3 h4 hv => ?_⟩
  obtain ⟨m, hv'⟩ := ptC_lim mu hv
  exact (all m).call w0 M g st w args vs base k h1 h2 h3 h4 hv'

theorem cons_ok {l : List (FuncId × Con)} {lp : List (FuncId × PT)} (ht : TabOk P E tab) (hmix : P.follows .mixedOrders = true) (hl : AllOk P E l) (hlp : AllPt P E lp) {f : FuncId} {fn : Func} (hf : P.funcs[f]? = some fn) (hb : fn.body = some (bodyOf fn)) (hname : (fn.name == "runtime.NumGoroutine") = false) {c : CCon} (hn : c.k1.length + c.k2.length + 1 ≤ fn.ntmps)
    (hok : codeOkP tab (lookF l) hp perm fn.ntmps (bodyOf fn) = true) {anns : Args c.k1 → List c.t.den → Args c.k2 → Nat → St → Option Ann}
    (hvc : ∀ x1 xs x2, c.pre x1 xs x2 → vcQ tab (lookF l) (lookP lp) hp (fun _ => none) (anns x1 xs x2) perm (bodyOf fn) (isoStC c x1 xs x2) (isoQC tab c fn.results.toList x1 xs x2)) : PTOk P E f (ptC c) :=
  ptC_ok ht (kall_of hl) (pall_of hlp) hmix (fun _ _ _ => draw_sound ht (tab_small ht) (kall_of hl) hmix _ _ _) hf hb hname hn hok hvc
end
end Go.SE

namespace Go.SE
open Go.RowKit

section
variable {s : GState}
end

/-! ## the way -/
structure wkI (s : GState) (x y : Int) (w : List Int) (q : Int) : Prop where
  le : w.length ≤ 8
  bd : -1 ≤ q ∧ q ≤ 8
  eq : walk s y 8 x = (walk s y (8 - w.length) q).map (w ++ ·)
section
variable {s : GState} {x y q : Int} {w : List Int}
end
section
variable {s : GState} {x y q : Int} {w : List Int}
end

/-! ## the cells of an atom -/
def acS (s : GState) (x : GAtom) : Option (List Int) := cond (stV s && atV x) (acO s x) none
def acL (s : GState) (x : GAtom) : List Int := (acS s x).getD []
section
variable {s : GState} {x : GAtom}
end

/-! ## the cells of all atoms -/
/-- the cells of the first i atoms -/
def ptL (s : GState) (l : List GAtom) (i : Nat) : List Int := (l.take i).flatMap (acL s)
structure ptI (s : GState) (l : List GAtom) (i : Nat) : Prop where
  le : i ≤ l.length
  eq : ptO s [] l = ptO s (ptL s l i) (l.drop i)
  al : ∀ n ∈ ptL s l i, SE.al s n = true
section
variable {s : GState} {l : List GAtom} {i j : Nat}
end
section
variable {s : GState} {a : GAsn} {i : Nat}
end

section
variable {l : List GFact} {v : List Int} {i : Nat}
end

section
variable {s : GState} {a : GAsn} {i j : Nat}
end
end Go.SE

namespace Go.SE
open Go.RowKit

section
variable {s : GState} {a : GAsn} {i j : Nat}
end
end Go.SE

namespace Go.SE
open Go.RowKit

section
variable {a : GAsn} {l : List Int} {i : Nat}
end
end Go.SE

namespace Go.SE
open Go.RowKit

end Go.SE

namespace Go.SE
open Go.RowKit

section
variable {s : GState} {a : GAsn} {f : GFact} {x t : Int}
theorem st1_of (h : starOk a ⟨[f], []⟩ = true) : asV a = true ∧ fV f = true ∧ asV ⟨a.facts ++ [f], a.atoms⟩ = true ∧ starL a ⟨[f], []⟩ = ⟨a.facts ++ [f], a.atoms⟩ := by
  have e : starL a ⟨[f], []⟩ = starA a ⟨[f], []⟩ := by unfold starL; rw [h]; rfl
  unfold starOk at h
  simp only [Bool.and_eq_true] at h
  obtain ⟨⟨h1, h2⟩, h3⟩ := h
  have e2 : starA a ⟨[f], []⟩ = ⟨a.facts ++ [f], a.atoms⟩ := by unfold starA; rw [List.append_nil]
  rw [e2] at h3 e
  have h4 := (asV_facts h2).1
  simp only [List.all_cons, List.all_nil, Bool.and_true] at h4
  exact ⟨h1, h4, h3, e⟩
end
end Go.SE

namespace Go.SE
open Go.RowKit

section
variable {a : GAsn} {f : GFact} {i : Nat}
theorem occ_add {k : Int} : occ ⟨a.facts ++ [f], a.atoms⟩ k = (occ a k || (f.a == k || f.b == k)) := by
  have := occ_star a ⟨[f], []⟩ k
  unfold starA at this
  rw [List.append_nil] at this
  rw [this]
  simp only [occ, occF, occG, List.any_cons, List.any_nil, Bool.or_false]
theorem t8_len : 1 + (terms a).length ≤ 4294967296 ∧ ([0] ++ terms a).length ≤ 281474976710656 := by
  have := terms_len a
  rw [List.length_append, List.length_singleton]
  omega
theorem t8_has (ha : asV a = true) {t : Int} (h : ([0] ++ terms a).contains t = true) : t = 0 ∨ occ a t = true := by
  rw [List.contains_iff_mem, List.mem_append, List.mem_singleton] at h
  rcases h with h | h
  · exact .inl h
  · have := List.contains_iff_mem.2 h
    rw [terms_has] at this
    simp only [Bool.and_eq_true] at this
    exact .inr this.2
theorem hz_add (ha : asV a = true) (h1 : ([0] ++ terms a).contains f.a = true) (h2 : ([0] ++ terms a).contains f.b = true) : hz ⟨a.facts ++ [f], a.atoms⟩ (fun _ => false) = hz a fun _ => false := by
  funext k
  unfold hz
  rw [occ_add]
  have e1 := t8_has ha h1
  have e2 := t8_has ha h2
  cases ho : occ a (k : Int) with
  | true => simp
  | false =>
    have n1 : f.a = (k : Int) → ((k : Int) == 0) = true := fun e => by
      rcases e1 with e1 | e1
      · rw [← e, e1]; rfl
      · rw [e, ho] at e1; cases e1
    have n2 : f.b = (k : Int) → ((k : Int) == 0) = true := fun e => by
      rcases e2 with e2 | e2
      · rw [← e, e2]; rfl
      · rw [e, ho] at e2; cases e2
    cases hk : ((k : Int) == 0) with
    | true => simp
    | false =>
      have m1 : (f.a == (k : Int)) = false := beq_eq_false_iff_ne.2 fun e => by rw [n1 e] at hk; cases hk
      have m2 : (f.b == (k : Int)) = false := beq_eq_false_iff_ne.2 fun e => by rw [n2 e] at hk; cases hk
      rw [m1, m2]; rfl
theorem filter2 {α : Type} {p q r : α → Bool} : ∀ {l : List α}, (∀ x ∈ l, r x = (p x && q x)) → l.filter r = (l.filter p).filter q := by
  intro l h
  rw [List.filter_filter]
  refine List.filter_congr fun x hx => ?_
  rw [h x hx, Bool.and_comm]
theorem casesF_add (h : starOk a ⟨[f], []⟩ = true) (h1 : ([0] ++ terms a).contains f.a = true) (h2 : ([0] ++ terms a).contains f.b = true) : casesF (starL a ⟨[f], []⟩) = List.filter (fun c => fh c f) (casesF a) := by
  obtain ⟨ha, hf, hb, e⟩ := st1_of h
  rw [e]
  have hz' := hz_add ha h1 h2
  have hnb := hz_named hb fun _ => false
  have hna := hz_named ha fun _ => false
  unfold casesF
  rw [casesB_eq hnb, casesB_eq hna, hz']
  refine filter2 fun c hc => ?_
  rw [Bool.eq_iff_iff, Bool.and_eq_true]
  rw [hz'] at hnb
  rw [possI_iff hnb hc rfl, possI_iff hna hc rfl, possV_add]
  unfold fh
  rw [beq_iff_eq (a := (cl c f.a == cl c f.b))]
theorem cf_end (h : starOk a ⟨[f], []⟩ = true) (h1 : ([0] ++ terms a).contains f.a = true) (h2 : ([0] ++ terms a).contains f.b = true) (hi : ¬ i < List.length (cL a)) : cL (starL a ⟨[f], []⟩) = List.filter (fun c => fh c f) (List.take i (cL a)) := by
  obtain ⟨ha, hf, hb, e⟩ := st1_of h
  rw [List.take_of_length_le (by omega)]
  have := casesF_add h h1 h2
  unfold cL
  rw [e] at this ⊢
  rw [ha, hb]
  exact this
theorem cf_f (h : starOk a ⟨[f], []⟩ = true) (hi : i < List.length (cL a)) : (0 ≤ f.a ∧ f.a < ((List.getD (cL a) i []).length : Int)) ∧ 0 ≤ f.b ∧ f.b < ((List.getD (cL a) i []).length : Int) := by
  have h := fV_isT (st1_of h).2.1
  have h1 := isT_iff.1 h.1
  have h2 := isT_iff.1 h.2
  rw [cL_get hi]; omega
theorem cf_len {p : List Int → Bool} (hi : i < List.length (cL a)) : (List.filter p (List.take i (cL a))).length ≤ 4294967295 := by
  refine Nat.le_trans (List.length_filter_le _ _) ?_
  rw [List.length_take]
  refine Nat.le_trans (Nat.min_le_right _ _) ?_
  have ha := (cL_mem (cL_at hi)).1
  unfold cL
  rw [ha]
  exact cl_len ha
theorem cf_len2 {p : List Int → Bool} : (List.filter p (List.take i (cL a))).length ≤ 281474976710656 := by
  refine Nat.le_trans (List.length_filter_le _ _) ?_
  rw [List.length_take]
  exact Nat.le_trans (Nat.min_le_right _ _) cL_len
theorem cf_9 {p : List Int → Bool} {x : List Int} (h : x ∈ List.filter p (List.take i (cL a))) : x.length ≤ 9 := cL_9 (List.mem_of_mem_take (List.mem_filter.1 h).1)
theorem cf_tk (hi : i < List.length (cL a)) : List.take (i + 1) (cL a) = List.take i (cL a) ++ [List.getD (cL a) i []] := by
  rw [List.take_add_one, List.getElem?_eq_getElem hi, List.getD_eq_getElem?_getD, List.getElem?_eq_getElem hi]; rfl
theorem cf_yes (hi : i < List.length (cL a)) (h : ((List.getD (cL a) i []).getD f.a.toNat 0 == (List.getD (cL a) i []).getD f.b.toNat 0) = f.eq) : List.filter (fun c => fh c f) (List.take i (cL a)) ++ [List.getD (cL a) i []] = List.filter (fun c => fh c f) (List.take (i + 1) (cL a)) := by
  rw [cf_tk hi, List.filter_append]
  congr 1
  have : fh (List.getD (cL a) i []) f = true := by unfold fh cl; rw [h]; simp
  rw [List.filter_cons, this]; rfl
theorem cf_no (hi : i < List.length (cL a)) (h : ¬ ((List.getD (cL a) i []).getD f.a.toNat 0 == (List.getD (cL a) i []).getD f.b.toNat 0) = f.eq) : List.filter (fun c => fh c f) (List.take i (cL a)) = List.filter (fun c => fh c f) (List.take (i + 1) (cL a)) := by
  rw [cf_tk hi, List.filter_append]
  have : fh (List.getD (cL a) i []) f = false := by unfold fh cl; exact beq_eq_false_iff_ne.2 h
  rw [List.filter_cons, this]
  simp
end
end Go.SE
