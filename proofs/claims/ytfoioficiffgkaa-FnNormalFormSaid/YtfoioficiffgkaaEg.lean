/-
  Parts of a symbolic engine over the program's code: how operations, regions, loops and calls are shown to keep contracts. No conditions.
-/
import Derived.Test.YtfoioficiffgkaaEe
import Derived.Test.YtfoioficiffgkaaEf
set_option linter.unusedSimpArgs false
set_option linter.unusedVariables false
set_option linter.unusedSectionVars false

namespace Go.SE
open Go.RowKit

section
variable {P : Program} {E : Ty → TypeId} {tab : TypeId → Option TI} {w0 : World} {M : MM} {n : Nat} {o : Oper} {st : St} {a : Act} {w : World}

def opensX (fo : Nat) : List Oper → Option (Nat × Nat × List Oper)
  | ⟨some d1, .move (.tmp 0), _, _, _, none⟩ :: ⟨some d2, .call ⟨.value (.func f), args, _⟩, _, _, _, none⟩ :: l =>
    match args.toList with
    | [.tmp e1] => if e1 = d1 ∧ f = fo then some (d1, d2, l) else none
    | _ => none
  | _ => none
theorem opensX_some {fo : Nat} {l l2 : List Oper} {d1 d2 : Nat} (h : opensX fo l = some (d1, d2, l2)) : ∃ o1 o2 args tys, l = o1 :: o2 :: l2 ∧ o1.dst = some d1 ∧ o1.op = .move (.tmp 0) ∧ o1.guard = none ∧
    o2.dst = some d2 ∧ o2.op = .call ⟨.value (.func fo), args, tys⟩ ∧ args.toList = [.tmp d1] ∧ o2.guard = none := by
  unfold opensX at h
  split at h
  · split at h
    · rename_i ha
      split at h
      · rename_i e
        obtain ⟨rfl, rfl⟩ := e
        injection h with h
        injection h with h1 h
        injection h with h2 h3
        subst h1 h2 h3
        exact ⟨_, _, _, _, rfl, rfl, rfl, rfl, rfl, rfl, ha, rfl⟩
      · cases h
    · cases h
  · cases h
def openSX (d1 d2 : Nat) (st : St) : St :=
  { st with env := upd (upd st.env d1 (st.env 0)) d2 (.s (.c .rdr)), rd := some 0 }
def openKX (tab : TypeId → Option TI) (K : FuncId → Option Con) (pts : FuncId → Option PT) (hp : Nat → Bool) (anns : Nat → St → Option Ann) (perm : Nat → List (List Nat)) (gl : List Nat × List Nat) (n : Nat) (ops : Array Oper) (rest : Code) (Q : XK → St → Prop) (st1 : St) : Option (Nat × Nat × List Oper) → Prop
  | some (d1, d2, l) => (d1 < n ∧ d2 < n ∧ d1 ≠ 0) ∧ st1.rd = none ∧ gcB gl.1 gl.2 st1 = true ∧ (noREB st1.env gl.1 && noRMB st1.mem gl.2) = true ∧ openA ((gcSt (fun _ => none) gl.1 gl.2 st1).env 0) ∧
      vcOpsP tab K pts ops l (openSX d1 d2 (gcSt (fun _ => none) gl.1 gl.2 st1)) fun st' => vcQ tab K pts hp (fun _ => none) anns perm rest st' Q
  | none => False

def vcOpenX (tab : TypeId → Option TI) (K : FuncId → Option Con) (pts : FuncId → Option PT) (hp : Nat → Bool) (anns : Nat → St → Option Ann) (perm : Nat → List (List Nat)) (gl : List Nat × List Nat) (fo n : Nat) : Code → St → (XK → St → Prop) → Prop
  | .seq c0 (.seq (.region _ ops false) rest), st, Q => vcQ tab K pts hp (fun _ => none) anns perm c0 st (seqK (fun st1 => openKX tab K pts hp anns perm gl n ops rest Q st1 (opensX fo ops.toList)) Q)
  | _, _, _ => False

theorem draw_fnX {K : FuncId → Option Con} {pts : FuncId → Option PT} {hp : Nat → Bool} {gl : List Nat × List Nat} (ht : TabOk P E tab) (hmix : P.follows .mixedOrders = true) (hKA : KAll P E K) (hPA : PAll P E pts) {perm : Nat → List (List Nat)} {fo : FuncId} (hopen : OpenOk P fo)
    (hfo : ∃ fn c, P.funcs[fo]? = some fn ∧ (fn.name == "runtime.NumGoroutine") = false ∧ fn.body = some c) {f : FuncId} {fn : Func} {con : Con} (hf : P.funcs[f]? = some fn) (hb : fn.body = some (bodyOf fn))
    (hname : (fn.name == "runtime.NumGoroutine") = false) (hn : con.aks.length ≤ fn.ntmps) (hok : codeOkP tab K hp perm fn.ntmps (bodyOf fn) = true) (hrd : hasRdr con.aks = false) (hrk : noRk con.rks = true) {anns : Args con.aks → Nat → St → Option Ann}
    (hvc : ∀ x, con.pre x → vcOpenX tab K pts hp (anns x) perm gl fo fn.ntmps (bodyOf fn) (entry (encs con.aks x) none) (retOk tab con fn.results.toList x 0)) (htot : ∀ x, con.pre x → ∃ r, con.post x r) : FnOk P E f con := by
  refine ⟨⟨fn, _, hf, hname, hb⟩, ?_, htot⟩
  intro w0 ro0 ρ k x vs id0 hpre hin _ hargs
  have hlen : vs.length = con.aks.length := by
    rw [hargs.1]
    have : ∀ (ks : List AK) (x : Args ks), (encs ks x).length = ks.length := by
      intro ks
      induction ks with
      | nil => intro x; rfl
      | cons k ks ih => intro x; obtain ⟨x, xs⟩ := x; simp [encs, ih]
    exact this _ _
  refine calls_of_wp hf hb ?_
  -- the end
  have fin : ∀ (ρ' : Nat) (st' : St) (a' : Act) (w' : World), Rel E w0 (MOf false ρ' ro0) fn.ntmps st' a' w' → retOk tab con fn.results.toList x 0 .ret st' →
      a'.defers = [] ∧ ∃ v, (results fn a'.tmps).run P w' = .ok v w' ∧ ∃ v1 r g, Ending.returned v = .returned v1 ∧ con.post x r ∧ Ext (fun b => hasRdr con.aks = true ∧ b = ρ) w0 w' ∧ g.ρ = ρ ∧ ResOk E w0 w' ro0 con.rks id0 r v1 g ∧ (hasRdr con.aks = true → RdStep w0 w' ρ (k + con.cost x)) := by
    intro ρ' st' a' w' hr hv
    have hr' : Rel E w0 (MOf (hasRdr con.aks) ρ' ro0) fn.ntmps st' a' w' := by rw [hrd]; exact hr
    obtain ⟨v, h1, r, g, h2, h3, h4, h5, h6⟩ := exit_ok (k := 0) id0 ht hin (fun h => by rw [hrd] at h; cases h) hr' hv
    refine ⟨hr.defers, v, h1, v, r, { g with ρ := ρ }, rfl, h2, ⟨h3.os, h3.tape, h3.output, h3.size, fun c hc _ => h3.block c hc fun ⟨h, _⟩ => by rw [hrd] at h; cases h⟩, rfl, ⟨h5.ro, h5.ro', ?_, ?_, h5.new, h5.dist⟩, fun h => by rw [hrd] at h; cases h⟩
    · exact S.R.rho (pack1_noR (ress_noR _ _ _ hrk)) h5.val
    · intro id q hq
      have := h5.res id q hq
      obtain ⟨_, _, f', t, xs, e⟩ := ress_range _ _ _ _ _ hq
      subst e
      exact this
  have hv0 := hvc x hpre
  revert hok hv0
  generalize bodyOf fn = body
  intro hok hv0
  unfold vcOpenX at hv0
  split at hv0
  · rename_i c0 rid ops rest
    simp only [codeOkP, Bool.and_eq_true] at hok
    have hrel : Rel E w0 (MOf false ρ ro0) fn.ntmps (entry (encs con.aks x) (rdOf false 0)) { tmps := vs.toArray ++ Array.replicate (fn.ntmps - vs.toArray.size) undef, defers := [] } w0 := entry_rel hin (fun h => by cases h) hargs (by omega)
    refine wp_seq (codeQ_sound ht hKA hPA hmix (draw_sound ht (tab_small ht) hKA hmix _ _ _) OOk.none c0 _ _ _ _ _ hok.1 hrel hv0 ?_)
    intro xk st1 a1 w1 hr1 hk1
    cases xk with
    | exit id => exact hk1.elim
    | ret => exact fin ρ st1 a1 w1 hr1 hk1
    | normal =>
      have hk1 : openKX tab K pts hp (anns x) perm gl fn.ntmps ops rest (retOk tab con fn.results.toList x 0) st1 (opensX fo ops.toList) := hk1
      unfold openKX at hk1
      split at hk1
      · rename_i e1' e2' l2 hd
        obtain ⟨d, hde⟩ : ∃ d : Nat × Nat, d = (e1', e2') := ⟨_, rfl⟩
        have hd1' : e1' = d.1 := by rw [hde]
        have hd2' : e2' = d.2 := by rw [hde]
        subst hd1' hd2'
        clear hde
        obtain ⟨⟨hd1, hd2, hd0⟩, hrd1, hgc, hnr, hA, hvr⟩ := hk1
        simp only [Bool.and_eq_true] at hnr
        have hno := noR_gc hnr.1 hnr.2
        unfold gcB at hgc
        simp only [Bool.and_eq_true] at hgc
        replace hr1 := hr1.gc (OOk.none (ρ := ρ) (ro0 := ro0)) (live := gl.1) (ids := gl.2) ⟨closedEB_ok hgc.1, closedMB_ok hgc.2, fun j hj => (by cases hj)⟩
        replace hrd1 : (gcSt (fun _ => none) gl.1 gl.2 st1).rd = none := hrd1
        generalize gcSt (fun _ => none) gl.1 gl.2 st1 = st1 at hr1 hrd1 hno hA hvr
        obtain ⟨o1, o2, args, tys, hl, e1, e2, e3, e4, e5, e6, e7⟩ := opensX_some hd
        refine wp_seq (wp_region_list ?_)
        have hops := opsOk_mem (show opsOk fn.ntmps ops.toList = true from hok.2.1.1)
        rw [hl] at hops ⊢
        -- the text
        unfold wpList
        rw [if_pos (by simp [Region.wanted, e3])]
        refine .inl ?_
        unfold Oper.wp
        rw [show (execOp a1.eval o1).run P w1 = .ok (.value (a1.eval (.tmp 0))) w1 by simp [execOp, e2], Oper.upon_value, e1]
        have hS : ∃ code, st1.env 0 = .s (.c (.d (.arr .u8 code))) := by
          unfold openA at hA
          split at hA
          · rename_i c hc; exact ⟨c, hc⟩
          · exact hA.elim
        obtain ⟨code, henv0⟩ := hS
        have hev : a1.eval (.tmp 0) = a1.tmps.getD 0 undef := rfl
        have hr2 := hr1.put1 hd1 (s := st1.env 0) (v := a1.eval (.tmp 0)) (fun g _ henv => henv 0) (fun id hid => hr1.cl.1 0 id hid)
        have hno2 : NoR { st1 with env := upd st1.env d.1 (st1.env 0) } := ⟨fun y => by
          show noRS (upd st1.env d.1 (st1.env 0) y) = true
          by_cases e : y = d.1
          · subst e; rw [upd_same]; exact hno.1 0
          · rw [upd_ne _ _ e]; exact hno.1 y, hno.2⟩
        generalize ha2 : a1.put (some d.1) (a1.eval (.tmp 0)) = a2 at hr2 ⊢
        -- the call
        unfold wpList
        rw [if_pos (by simp [Region.wanted, e7])]
        refine .inl ?_
        obtain ⟨fn', c', hf', hname', hbody'⟩ := hfo
        unfold Oper.wp
        rw [run_call hf' hname' hbody' e5, Oper.upon_enter]
        obtain ⟨g, hg, henv⟩ := hr2.good
        have hargv : args.map a2.eval = #[a2.tmps.getD d.1 undef] := by
          apply Array.ext'
          rw [Array.toList_map, e6]
          rfl
        rw [hargv]
        have hdr : DR g.ro (.arr .u8 code) (a2.tmps.getD d.1 undef) := by
          have h1 := henv d.1
          have h2 : ({ st1 with env := upd st1.env d.1 (st1.env 0) } : St).env d.1 = .s (.c (.d (.arr .u8 code))) := by
            show upd st1.env d.1 (st1.env 0) d.1 = _
            rw [upd_same]; exact henv0
          rw [h2] at h1
          exact h1
        refine Calls.mono (hopen w1 g.ro code _ hg.ro hdr) fun e w2 he => ?_
        obtain ⟨b, ro', rfl, q1, q2, q3, q4, q5⟩ := he
        have hr3 := rel_open hr2 hg henv hrd1 hno2 q1 q2 q3 q4 q5
        rw [e4]
        have hr4 := hr3.put1 hd2 (s := .s (.c .rdr)) (v := .pointer (some ⟨b, 0, none⟩)) (fun g' hg' _ => by
          show _ = _
          rw [hg'.rho]; rfl) (fun id hid => by simp [S.refs, S0.refs, CV.refs] at hid)
        refine seqP_sound ht hKA hPA (k := fun st' => vcQ tab K pts hp (fun _ => none) (anns x) perm rest st' (retOk tab con fn.results.toList x 0)) (fun st' a' w' hr' hk' => ?_) l2 _ _ _ (fun o ho => hops o (by simp [ho])) hr4 hvr
        refine codeQ_sound ht hKA hPA hmix (draw_sound ht (tab_small ht) hKA hmix _ _ _) OOk.none rest _ _ _ (retOk tab con fn.results.toList x 0) _ hok.2.2 hr' hk' ?_
        intro xk st' a' w' hr hk
        cases xk with
        | normal => exact fin b st' a' w' hr hk
        | ret => exact fin b st' a' w' hr hk
        | exit id => exact hk.elim
      · exact hk1.elim
  · exact hv0.elim
end
end Go.SE

namespace Go.SE
open Go.RowKit

def mdV (c : List Int) : Nat → List Int × Int
  | 0 => (List.replicate 8 0, 0)
  | i + 1 => cond (cl c ((i + 1 : Nat) : Int) == ((i + 1 : Nat) : Int)) ((mdV c i).1.set i ((mdV c i).2 + 1), (mdV c i).2 + 1)
      (cond (decide (0 < cl c ((i + 1 : Nat) : Int))) ((mdV c i).1.set i ((mdV c i).1.getD (cl c ((i + 1 : Nat) : Int) - 1).toNat 0), (mdV c i).2) (mdV c i))
def mdS (vs : List Int) (h : List Int) (x : GAtom) : List Int := h.set (tv vs x.a - 1).toNat (tv vs x.b)
def mdH (vs : List Int) (l : List GAtom) : List Int := l.foldl (mdS vs) (List.replicate 8 (-1))
def md (a : GAsn) (c : List Int) : GState := ⟨(mdV c 8).1, mdH (mdV c 8).1 (fL c a.atoms)⟩
theorem mdV_len (c : List Int) : ∀ i, (mdV c i).1.length = 8 := by
  intro i
  induction i with
  | zero => rfl
  | succ i ih =>
    simp only [mdV]
    cases (cl c ((i + 1 : Nat) : Int) == ((i + 1 : Nat) : Int)) <;> cases decide (0 < cl c ((i + 1 : Nat) : Int)) <;> simp [ih]
theorem mdV_n (c : List Int) : ∀ i, 0 ≤ (mdV c i).2 ∧ (mdV c i).2 ≤ i := by
  intro i
  induction i with
  | zero => exact ⟨Int.le_refl _, Int.le_refl _⟩
  | succ i ih =>
    simp only [mdV]
    cases (cl c ((i + 1 : Nat) : Int) == ((i + 1 : Nat) : Int)) <;> cases decide (0 < cl c ((i + 1 : Nat) : Int)) <;> simp <;> omega
theorem mdH_len (vs : List Int) (l : List GAtom) : (mdH vs l).length = 8 := by
  have : ∀ (l : List GAtom) (h : List Int), (l.foldl (mdS vs) h).length = h.length := by
    intro l
    induction l with
    | nil => intro h; rfl
    | cons x l ih => intro h; rw [List.foldl_cons, ih]; simp [mdS]
  rw [mdH, this]; rfl
theorem mdH_step {vs : List Int} {l : List GAtom} {i : Nat} {d : GAtom} (h : i < l.length) : mdH vs (l.take (i + 1)) = mdS vs (mdH vs (l.take i)) (l.getD i d) := by
  have e : l.take (i + 1) = l.take i ++ [l.getD i d] := by
    rw [List.take_add_one, List.getD_eq_getElem?_getD, List.getElem?_eq_getElem h]; rfl
  unfold mdH
  rw [e, List.foldl_append]; rfl
theorem mdV_pos (c : List Int) : ∀ (i j : Nat), j < i → i ≤ 8 → cl c ((j + 1 : Nat) : Int) = ((j + 1 : Nat) : Int) → 1 ≤ (mdV c i).1.getD j 0 ∧ (mdV c i).1.getD j 0 ≤ i := by
  intro i
  induction i with
  | zero => intro j h; omega
  | succ i ih =>
    intro j hj hi he
    have hl := mdV_len c i
    have hn := mdV_n c i
    simp only [mdV]
    by_cases e : j = i
    · subst e
      rw [he, beq_self_eq_true, cond_true]
      simp only
      rw [getD_set_eq (by omega)]
      omega
    · have := ih j (by omega) (by omega) he
      cases (cl c ((i + 1 : Nat) : Int) == ((i + 1 : Nat) : Int)) with
      | true => simp only [cond_true]; rw [getD_set_ne e]; omega
      | false =>
        cases decide (0 < cl c ((i + 1 : Nat) : Int)) with
        | true => simp only [cond_true, cond_false]; rw [getD_set_ne e]; omega
        | false => simp only [cond_false]; omega

structure CaseOk (a : GAsn) (c : List Int) : Prop where
  len : c.length = 9
  le : ∀ t : Nat, t < 9 → cl c t ≤ t
  le8 : le8 c = true
  idx : ∀ x ∈ fL c a.atoms, isT x.a = true ∧ isT x.b = true ∧ 1 ≤ tv (mdV c 8).1 x.a ∧ tv (mdV c 8).1 x.a ≤ 8
theorem fEn_root (has : Nat → Bool) : ∀ (f t : Nat) (c d : List Int), f + t = c.length → d ∈ fEn has f t c → ∀ j, t ≤ j → j < c.length → has j = true → ∃ k : Nat, d.getD j 0 = (k : Int) ∧ k ≤ j ∧ d.getD k 0 = (k : Int) := by
  intro f
  induction f with
  | zero => intro t c d hl h j h1 h2; omega
  | succ f ih =>
    intro t c d hl h j h1 h2 hj
    have later : ∀ x : Int, d ∈ fEn has f (t + 1) (c.set t x) → j ≠ t → ∃ k : Nat, d.getD j 0 = (k : Int) ∧ k ≤ j ∧ d.getD k 0 = (k : Int) := fun x h e =>
      ih (t + 1) (c.set t x) d (by simp; omega) h j (by omega) (by simpa using h2) hj
    simp only [fEn] at h
    cases ht : has t with
    | false =>
      rw [ht] at h
      exact later _ h fun e => by rw [e, ht] at hj; cases hj
    | true =>
      rw [ht] at h
      simp only [cond_true, List.mem_flatMap, List.mem_range] at h
      obtain ⟨k, hk, h⟩ := h
      cases hg : (k == t || c.getD k 0 == (k : Int)) with
      | false => rw [hg] at h; cases h
      | true =>
        rw [hg] at h
        by_cases e : j = t
        · subst e
          have hag := fEn_agree has _ _ _ _ h
          have hjv : d.getD j 0 = (k : Int) := by rw [hag.2 j (by omega), getD_set_eq h2]
          refine ⟨k, hjv, by omega, ?_⟩
          by_cases ek : k = j
          · rw [ek] at hjv ⊢; exact hjv
          · rw [hag.2 k (by omega), getD_set_ne ek]
            have : (k == j) = false := by simpa using ek
            rw [this, Bool.false_or] at hg
            simpa using hg
        · exact later _ h e
theorem caseOk {a : GAsn} (ha : asV a = true) {c : List Int} (hc : c ∈ casesF a) : CaseOk a c := by
  have hn := hz_named ha fun _ => false
  unfold casesF at hc
  rw [casesB_eq hn] at hc
  obtain ⟨hm, hp⟩ := List.mem_filter.1 hc
  obtain ⟨hl, hv⟩ := fulls_mem hm
  have hle : ∀ t : Nat, t < 9 → c.getD t 0 ≤ (t : Int) := fun t ht => by
    have := hv t ht
    cases hh : hz a (fun _ => false) t with
    | true => rw [hh] at this; simp only [cond_true, Bool.and_eq_true, decide_eq_true_eq] at this; exact this.2
    | false => rw [hh] at this; simp only [cond_false, beq_iff_eq] at this; omega
  have hpv := (possI_iff hn hm rfl).1 hp
  have hz0 : cl c 0 = 0 := by
    have := hv 0 (by decide)
    rw [show hz a (fun _ => false) 0 = true from rfl] at this
    simp only [cond_true, Bool.and_eq_true, decide_eq_true_eq] at this
    unfold cl
    simp only [Int.toNat_zero]
    omega
  refine ⟨hl, fun t ht => by unfold cl; simpa using hle t ht, ?_, fun x hx => ?_⟩
  · unfold SE.le8
    rw [List.all_eq_true]
    intro y hy
    obtain ⟨i, hi, rfl⟩ := List.getElem_of_mem hy
    have := hle i (by omega)
    rw [List.getD_eq_getElem?_getD, List.getElem?_eq_getElem hi] at this
    simp only [Option.getD_some] at this
    simp; omega
  · unfold fL at hx
    rw [List.mem_filter, List.mem_map] at hx
    obtain ⟨⟨y, hy, rfl⟩, hk⟩ := hx
    obtain ⟨a1, a2, a3, a4, a5, a6⟩ := hn.2 y hy
    have root : ∀ t : Int, 0 ≤ t → t ≤ 8 → hz a (fun _ => false) t.toNat = true → ∃ k : Nat, cl c t = (k : Int) ∧ k ≤ 8 ∧ c.getD k 0 = (k : Int) := fun t t0 t8 th => by
      obtain ⟨k, k1, k2, k3⟩ := fEn_root _ 9 0 (List.replicate 9 0) c rfl hm t.toNat (Nat.zero_le _) (by simp; omega) th
      exact ⟨k, k1, by omega, k3⟩
    obtain ⟨k, k1, k2, k3⟩ := root y.a a1 a2 a5
    obtain ⟨m, m1, m2, _⟩ := root y.b a3 a4 a6
    have hne : cl c y.a ≠ 0 := by
      have := hpv.nil y (List.mem_filter.2 ⟨hy, hk⟩)
      rw [hz0] at this
      exact this
    simp only
    rw [k1, m1]
    have hk0 : k ≠ 0 := fun e => by rw [k1, e] at hne; exact hne rfl
    refine ⟨isT_iff.2 ⟨by omega, by omega⟩, isT_iff.2 ⟨by omega, by omega⟩, ?_⟩
    have hpos := mdV_pos c 8 (k - 1) (by omega) (Nat.le_refl _) (by
      unfold cl
      rw [show ((k - 1 + 1 : Nat) : Int) = (k : Int) by omega]
      simpa using k3)
    unfold tv
    rw [if_neg (by omega), show ((k : Int) - 1).toNat = k - 1 by omega]
    exact ⟨hpos.1, hpos.2⟩
def mdL (a : GAsn) : GState := cond (asV a && !(casesF a).isEmpty) (md a ((casesF a).headD (List.replicate 9 0))) ⟨[], []⟩
theorem casesF_head {a : GAsn} {d : List Int} (h : (casesF a).isEmpty = false) : (casesF a).headD d ∈ casesF a := by
  cases hc : casesF a with
  | nil => rw [hc] at h; cases h
  | cons c l => simp
theorem casesF_hd {a : GAsn} {d e : List Int} (h : (casesF a).isEmpty = false) : (casesF a).headD d = (casesF a).headD e := by
  cases hc : casesF a with
  | nil => rw [hc] at h; cases h
  | cons c l => rfl

/-! ## leaves -/
theorem tn1 (i : Nat) : ((i : Int) + 1).toNat = i + 1 := by omega
theorem tn2 (i : Nat) : ((i : Int) + 1 - 1).toNat = i := by omega
theorem len8 (c : List Int) (i : Nat) : (mdV c i).1.length = 8 := mdV_len c i
theorem mdV_eq {c : List Int} {i : Nat} (h : c.getD (i + 1) 0 = (i : Int) + 1) : mdV c (i + 1) = ((mdV c i).1.set i ((mdV c i).2 + 1), (mdV c i).2 + 1) := by
  have : (cl c ((i + 1 : Nat) : Int) == ((i + 1 : Nat) : Int)) = true := by
    unfold cl; rw [Int.toNat_natCast, h]; simp
  simp only [mdV, this, cond_true]
theorem mdV_lt {c : List Int} {i : Nat} (h : ¬ c.getD (i + 1) 0 = (i : Int) + 1) (h2 : 0 < c.getD (i + 1) 0) : mdV c (i + 1) = ((mdV c i).1.set i ((mdV c i).1.getD (c.getD (i + 1) 0 - 1).toNat 0), (mdV c i).2) := by
  have e1 : (cl c ((i + 1 : Nat) : Int) == ((i + 1 : Nat) : Int)) = false := by
    unfold cl; rw [Int.toNat_natCast]; exact beq_eq_false_iff_ne.2 h
  have e2 : decide (0 < cl c ((i + 1 : Nat) : Int)) = true := by
    unfold cl; rw [Int.toNat_natCast]; exact decide_eq_true h2
  have e3 : cl c ((i + 1 : Nat) : Int) = c.getD (i + 1) 0 := by unfold cl; rw [Int.toNat_natCast]
  simp only [mdV, e1, e2, cond_true, cond_false]
  rw [e3]
theorem mdV_no {c : List Int} {i : Nat} (h : ¬ c.getD (i + 1) 0 = (i : Int) + 1) (h2 : ¬ 0 < c.getD (i + 1) 0) : mdV c (i + 1) = mdV c i := by
  have e1 : (cl c ((i + 1 : Nat) : Int) == ((i + 1 : Nat) : Int)) = false := by
    unfold cl; rw [Int.toNat_natCast]; exact beq_eq_false_iff_ne.2 h
  have e2 : decide (0 < cl c ((i + 1 : Nat) : Int)) = false := by
    unfold cl; rw [Int.toNat_natCast]; exact decide_eq_false h2
  simp only [mdV, e1, e2, cond_false]
theorem rep_set {i : Nat} (h : i < 8) : (List.replicate i (-1 : Int) ++ List.replicate (8 - i) 0).set i (-1) = List.replicate (i + 1) (-1) ++ List.replicate (8 - (i + 1)) 0 := by
  match i, h with
  | 0, _ | 1, _ | 2, _ | 3, _ | 4, _ | 5, _ | 6, _ | 7, _ => rfl
theorem rep_end {i : Nat} (h : ¬ i < 8) (h2 : i ≤ 8) : List.replicate i (-1 : Int) ++ List.replicate (8 - i) 0 = List.replicate 8 (-1) := by
  have : i = 8 := by omega
  subst this; rfl
theorem md_idx {a : GAsn} {c : List Int} (h : CaseOk a c) {i : Nat} (hi : i < (fL c a.atoms).length) : isT ((fL c a.atoms).getD i ⟨0, 0, 0⟩).a = true ∧ isT ((fL c a.atoms).getD i ⟨0, 0, 0⟩).b = true ∧ 1 ≤ tv (mdV c 8).1 ((fL c a.atoms).getD i ⟨0, 0, 0⟩).a ∧ tv (mdV c 8).1 ((fL c a.atoms).getD i ⟨0, 0, 0⟩).a ≤ 8 := by
  refine h.idx _ ?_
  rw [List.getD_eq_getElem?_getD, List.getElem?_eq_getElem hi]
  exact List.getElem_mem hi
theorem le_get {a : GAsn} {c : List Int} (h : CaseOk a c) {t : Nat} (ht : t < 9) : c.getD t 0 ≤ (t : Int) := by
  have := h.le t ht
  unfold cl at this
  simpa using this

theorem md_n1 {c : List Int} {i : Nat} (h : i ≤ 8) : -9223372036854775808 ≤ (mdV c i).2 + 1 + 1 ∧ (mdV c i).2 + 1 + 1 ≤ 9223372036854775807 ∧ -9223372036854775808 ≤ (mdV c i).2 + 1 ∧ (mdV c i).2 + 1 ≤ 9223372036854775807 := by
  have := mdV_n c i
  omega
theorem md_le {a : GAsn} {c : List Int} (h : CaseOk a c) {i : Nat} (hi : (i : Int) + 1 ≤ 8) : c.getD (i + 1) 0 - 1 ≤ 9223372036854775807 ∧ c.getD (i + 1) 0 - 1 < ((8 : Nat) : Int) := by
  have := le_get h (t := i + 1) (by omega)
  omega
theorem md_end {c : List Int} {i : Nat} (h : i ≤ 8) (h2 : ¬ (i : Int) + 1 ≤ 8) : (mdV c i).1 = (mdV c 8).1 := by
  have : i = 8 := by omega
  rw [this]
theorem md_a {a : GAsn} {c : List Int} (h : CaseOk a c) {i : Nat} (hi : i < (fL c a.atoms).length) : (isT ((fL c a.atoms).getD i ⟨0, 0, 0⟩).a = true ∧ isT ((fL c a.atoms).getD i ⟨0, 0, 0⟩).b = true) ∧ (-9223372036854775808 ≤ tv (mdV c 8).1 ((fL c a.atoms).getD i ⟨0, 0, 0⟩).a - 1 ∧ tv (mdV c 8).1 ((fL c a.atoms).getD i ⟨0, 0, 0⟩).a - 1 ≤ 9223372036854775807) ∧
    0 ≤ tv (mdV c 8).1 ((fL c a.atoms).getD i ⟨0, 0, 0⟩).a - 1 ∧ tv (mdV c 8).1 ((fL c a.atoms).getD i ⟨0, 0, 0⟩).a - 1 < ((8 : Nat) : Int) := by
  have := md_idx h hi
  exact ⟨⟨this.1, this.2.1⟩, by omega, by omega, by omega⟩

theorem md_gt {a : GAsn} {c : List Int} (h : CaseOk a c) {i : Nat} (hi : (i : Int) + 1 ≤ 8) (h1 : ¬ c.getD (i + 1) 0 = (i : Int) + 1) (h2 : ¬ c.getD (i + 1) 0 < (i : Int) + 1) : False := by
  have := le_get h (t := i + 1) (by omega)
  omega
theorem mdL_no1 {a : GAsn} (h : asV a = false) : (⟨[], []⟩ : GState) = mdL a := by unfold mdL; rw [h]; rfl
theorem mdL_no2 {a : GAsn} (h : (casesF a).isEmpty = true) : (⟨[], []⟩ : GState) = mdL a := by unfold mdL; rw [h]; simp
theorem mdL_yes {a : GAsn} (ha : asV a = true) (h : (casesF a).isEmpty = false) (d : List Int) : md a ((casesF a).headD d) = mdL a := by
  unfold mdL; rw [ha, h, casesF_hd (d := d) (e := List.replicate 9 0) h]; rfl
theorem head_ok {a : GAsn} (ha : asV a = true) (h : (casesF a).isEmpty = false) (d : List Int) : CaseOk a ((casesF a).headD d) := caseOk ha (casesF_head h)
theorem mdL_len (a : GAsn) : (mdL a).vals.length ≤ 8 ∧ (mdL a).heap.length ≤ 8 := by
  unfold mdL
  cases asV a && !(casesF a).isEmpty with
  | false => exact ⟨Nat.zero_le _, Nat.zero_le _⟩
  | true => exact ⟨Nat.le_of_eq (mdV_len _ 8), Nat.le_of_eq (mdH_len _ _)⟩

end Go.SE

namespace Go.SE
open Go.RowKit

section
variable {fin : List Int → Bool} {a : GAsn} {tm : List Bool} {c : List Int} {t : Int} {i : Nat}
end
section
variable {a : GAsn} {t : Int}
end

end Go.SE

namespace Go.SE
open Go.RowKit

end Go.SE

namespace Go.SE
open Go.RowKit

section
variable {s : GState} {a : GAsn} {f : GFact} {x t : Int}
end
end Go.SE

namespace Go.SE
open Go.RowKit

section
variable {a : GAsn} {i : Nat}
end
end Go.SE

namespace Go.SE
open Go.RowKit

section
variable {a : GAsn} {i n : Nat}
abbrev cL (a : GAsn) : List (List Int) := cond (asV a) (casesF a) []
theorem cL_mem {c : List Int} (h : c ∈ cL a) : asV a = true ∧ c ∈ casesF a := by
  unfold cL at h
  cases ha : asV a with
  | false => rw [ha] at h; cases h
  | true => rw [ha] at h; exact ⟨rfl, h⟩
theorem case_r {c : List Int} (h : c ∈ cL a) {t : Nat} (ht : t < 9) (hh : hz a (fun _ => false) t = true) : ∃ k : Nat, c.getD t 0 = (k : Int) ∧ k ≤ t ∧ c.getD k 0 = (k : Int) := by
  obtain ⟨ha, hc⟩ := cL_mem h
  unfold casesF at hc
  rw [casesB_eq (hz_named ha _)] at hc
  exact fEn_root _ 9 0 (List.replicate 9 0) c (by simp) (List.mem_filter.1 hc).1 t (by omega) (by simpa using ht) hh
theorem case_p {c : List Int} (h : c ∈ cL a) : possV a (cl c) := by
  obtain ⟨ha, hc⟩ := cL_mem h
  unfold casesF at hc
  rw [casesB_eq (hz_named ha _)] at hc
  obtain ⟨h1, h2⟩ := List.mem_filter.1 hc
  exact (possI_iff (hz_named ha _) h1 rfl).1 h2
end
end Go.SE

namespace Go.SE
open Go.RowKit

/-! ## values -/
section
variable {c : List Int}
theorem mdV_bd : ∀ (i : Nat), i ≤ 8 → ∀ j, 0 ≤ (mdV c i).1.getD j 0 ∧ (mdV c i).1.getD j 0 ≤ i := by
  intro i
  induction i with
  | zero =>
    intro _ j
    show 0 ≤ (List.replicate 8 (0 : Int)).getD j 0 ∧ (List.replicate 8 (0 : Int)).getD j 0 ≤ 0
    rw [List.getD_eq_getElem?_getD, List.getElem?_replicate]
    split <;> simp
  | succ i ih =>
    intro hi j
    have hl := mdV_len c i
    have hn := mdV_n c i
    have h0 := ih (by omega) j
    simp only [mdV]
    cases (cl c ((i + 1 : Nat) : Int) == ((i + 1 : Nat) : Int)) with
    | true =>
      simp only [cond_true]
      by_cases e : j = i
      · subst e; rw [getD_set_eq (by omega)]; omega
      · rw [getD_set_ne e]; omega
    | false =>
      cases decide (0 < cl c ((i + 1 : Nat) : Int)) with
      | true =>
        simp only [cond_true, cond_false]
        by_cases e : j = i
        · subst e
          rw [getD_set_eq (by omega)]
          have := ih (by omega) (cl c ((j + 1 : Nat) : Int) - 1).toNat
          omega
        · rw [getD_set_ne e]; omega
      | false => simp only [cond_false]; omega
theorem mdV_at {i j : Nat} (h : j < i) (hi : i ≤ 8) : (mdV c i).1.getD j 0 = (mdV c (j + 1)).1.getD j 0 := by
  induction i with
  | zero => omega
  | succ i ih =>
    by_cases e : j = i
    · subst e; rfl
    · rw [← ih (by omega) (by omega)]
      simp only [mdV]
      cases (cl c ((i + 1 : Nat) : Int) == ((i + 1 : Nat) : Int)) with
      | true => simp only [cond_true]; rw [getD_set_ne e]
      | false =>
        cases decide (0 < cl c ((i + 1 : Nat) : Int)) with
        | true => simp only [cond_true, cond_false]; rw [getD_set_ne e]
        | false => rfl
theorem mdV_late : ∀ (i j : Nat), i ≤ j → (mdV c i).1.getD j 0 = 0 := by
  intro i
  induction i with
  | zero =>
    intro j _
    show (List.replicate 8 (0 : Int)).getD j 0 = 0
    rw [List.getD_eq_getElem?_getD, List.getElem?_replicate]
    split <;> rfl
  | succ i ih =>
    intro j hj
    have e : j ≠ i := by omega
    have h0 := ih j (by omega)
    simp only [mdV]
    cases (cl c ((i + 1 : Nat) : Int) == ((i + 1 : Nat) : Int)) with
    | true => simp only [cond_true]; rw [getD_set_ne e]; exact h0
    | false =>
      cases decide (0 < cl c ((i + 1 : Nat) : Int)) with
      | true => simp only [cond_true, cond_false]; rw [getD_set_ne e]; exact h0
      | false => exact h0
theorem mdV_up : ∀ (i d : Nat), (mdV c i).2 ≤ (mdV c (i + d)).2 := by
  intro i d
  induction d with
  | zero => exact Int.le_refl _
  | succ d ih =>
    refine Int.le_trans ih ?_
    rw [show i + (d + 1) = (i + d) + 1 by omega]
    simp only [mdV]
    cases (cl c ((i + d + 1 : Nat) : Int) == ((i + d + 1 : Nat) : Int)) with
    | true => simp only [cond_true]; omega
    | false => cases decide (0 < cl c ((i + d + 1 : Nat) : Int)) <;> simp
theorem mdV_root {j : Nat} (hj : j < 8) (h : c.getD (j + 1) 0 = (j : Int) + 1) : (mdV c 8).1.getD j 0 = (mdV c j).2 + 1 ∧ (mdV c (j + 1)).2 = (mdV c j).2 + 1 := by
  rw [mdV_at hj (by omega), mdV_eq h]
  exact ⟨getD_set_eq (by rw [mdV_len]; exact hj), rfl⟩
theorem mdV_inj {j k : Nat} (hj : j < k) (hk : k < 8) (h1 : c.getD (j + 1) 0 = (j : Int) + 1) (h2 : c.getD (k + 1) 0 = (k : Int) + 1) : (mdV c 8).1.getD j 0 < (mdV c 8).1.getD k 0 := by
  rw [(mdV_root (by omega) h1).1, (mdV_root hk h2).1]
  have := mdV_up (c := c) (j + 1) (k - (j + 1))
  rw [show j + 1 + (k - (j + 1)) = k by omega, (mdV_root (by omega) h1).2] at this
  omega
theorem mdV_cls {t : Nat} (ht : t < 9) (h0 : c.getD 0 0 = 0) (hr : ∃ k : Nat, c.getD t 0 = (k : Int) ∧ k ≤ t ∧ c.getD k 0 = (k : Int)) : tv (mdV c 8).1 (t : Int) = tv (mdV c 8).1 (c.getD t 0) := by
  obtain ⟨k, e1, e2, e3⟩ := hr
  rw [e1]
  by_cases e : k = t
  · rw [e]
  · obtain ⟨j, rfl⟩ : ∃ j, t = j + 1 := ⟨t - 1, by omega⟩
    have hne : ¬ c.getD (j + 1) 0 = (j : Int) + 1 := by rw [e1]; omega
    have l1 : tv (mdV c 8).1 ((j + 1 : Nat) : Int) = (mdV c 8).1.getD j 0 := by
      unfold tv; rw [if_neg (by omega), show (((j + 1 : Nat) : Int) - 1).toNat = j by omega]
    rw [l1, mdV_at (by omega) (by omega)]
    by_cases ek : k = 0
    · subst ek
      rw [mdV_no hne (by rw [e1]; omega), mdV_late j j (Nat.le_refl _)]; rfl
    · rw [mdV_lt hne (by rw [e1]; omega), getD_set_eq (by rw [mdV_len]; omega), e1]
      unfold tv
      rw [if_neg (by omega), show ((k : Int) - 1).toNat = k - 1 by omega, mdV_at (i := j) (by omega) (by omega), mdV_at (i := 8) (by omega) (by omega)]
theorem mdV_eq_iff {k m : Nat} (hk : k < 9) (hm : m < 9) (h1 : c.getD k 0 = (k : Int)) (h2 : c.getD m 0 = (m : Int)) : tv (mdV c 8).1 (k : Int) = tv (mdV c 8).1 (m : Int) ↔ k = m := by
  constructor
  · intro e
    have pos : ∀ q : Nat, q ≠ 0 → q < 9 → c.getD q 0 = (q : Int) → tv (mdV c 8).1 (q : Int) = (mdV c 8).1.getD (q - 1) 0 ∧ 1 ≤ (mdV c 8).1.getD (q - 1) 0 := fun q q0 q9 hq => by
      refine ⟨by unfold tv; rw [if_neg (by omega), show ((q : Int) - 1).toNat = q - 1 by omega], ?_⟩
      exact (mdV_pos c 8 (q - 1) (by omega) (Nat.le_refl _) (by unfold cl; rw [show ((q - 1 + 1 : Nat) : Int) = (q : Int) by omega]; simpa using hq)).1
    have z : tv (mdV c 8).1 ((0 : Nat) : Int) = 0 := rfl
    by_cases k0 : k = 0
    · by_cases m0 : m = 0
      · rw [k0, m0]
      · have := pos m m0 hm h2
        rw [k0, z] at e; omega
    · by_cases m0 : m = 0
      · have := pos k k0 hk h1
        rw [m0, z] at e; omega
      · have p1 := pos k k0 hk h1
        have p2 := pos m m0 hm h2
        rw [p1.1, p2.1] at e
        rcases Nat.lt_trichotomy k m with h | h | h
        · have := mdV_inj (c := c) (j := k - 1) (k := m - 1) (by omega) (by omega) (by rw [show k - 1 + 1 = k by omega]; omega) (by rw [show m - 1 + 1 = m by omega]; omega)
          omega
        · exact h
        · have := mdV_inj (c := c) (j := m - 1) (k := k - 1) (by omega) (by omega) (by rw [show m - 1 + 1 = m by omega]; omega) (by rw [show k - 1 + 1 = k by omega]; omega)
          omega
  · intro e; rw [e]
end

/-! ## cells -/
section
variable {V : List Int}
theorem mdS_other {n : Int} (h1 : 1 ≤ n) : ∀ (l : List GAtom) (h : List Int), (∀ x ∈ l, 1 ≤ tv V x.a ∧ tv V x.a ≠ n) → (l.foldl (mdS V) h).getD (n - 1).toNat 0 = h.getD (n - 1).toNat 0 := by
  intro l
  induction l with
  | nil => intro h _; rfl
  | cons x l ih =>
    intro h hx
    rw [List.foldl_cons, ih _ fun y hy => hx y (by simp [hy])]
    have := hx x (by simp)
    unfold mdS
    exact getD_set_ne (by omega)
theorem mdS_hit : ∀ (l : List GAtom) (h : List Int), h.length = 8 → (∀ x ∈ l, 1 ≤ tv V x.a ∧ tv V x.a ≤ 8) → (l.Pairwise fun x y => tv V x.a ≠ tv V y.a) → ∀ x ∈ l, (l.foldl (mdS V) h).getD (tv V x.a - 1).toNat 0 = tv V x.b := by
  intro l
  induction l with
  | nil => intro h _ _ _ x hx; cases hx
  | cons y l ih =>
    intro h hl hb hp x hx
    obtain ⟨p1, p2⟩ := List.pairwise_cons.1 hp
    rw [List.foldl_cons]
    rcases List.mem_cons.1 hx with rfl | hx
    · have hbx := hb x (by simp)
      rw [mdS_other hbx.1 l _ fun z hz => ⟨(hb z (by simp [hz])).1, fun e => p1 z hz e.symm⟩]
      unfold mdS
      exact getD_set_eq (by omega)
    · exact ih _ (by simp [mdS, hl]) (fun z hz => hb z (by simp [hz])) p2 x hx
end

section
variable {s : GState}
theorem walk_same (q : Int) : walk s q 8 q = some [] := by simp [walk]
theorem walk_one {p q : Int} (h : ¬ p = q) (hc : ct s p = q) (h0 : 0 ≤ q) : walk s q 8 p = some [p] := by
  have ha : al s p = true := by unfold al; rw [hc]; exact decide_eq_true h0
  show (if p = q then some [] else cond (al s p) ((walk s q 7 (ct s p)).map (p :: ·)) none) = some [p]
  rw [if_neg h, ha, hc]
  have : walk s q 7 q = some [] := by simp [walk]
  rw [this]; rfl
theorem pt_md : ∀ (l : List GAtom) (L : List Int), l.all atV = true → (∀ x ∈ filt (tv s.vals) l, ct s (tv s.vals x.a) = tv s.vals x.b ∧ 0 ≤ tv s.vals x.b ∧ tv s.vals x.a ∉ L) → ((filt (tv s.vals) l).Pairwise fun x y => tv s.vals x.a ≠ tv s.vals y.a) →
    ptO s L l = some (L ++ (filt (tv s.vals) l).map fun x => tv s.vals x.a) := by
  intro l
  induction l with
  | nil => intro L _ _ _; simp [ptO, filt]
  | cons x l ih =>
    intro L hv hx hp
    simp only [List.all_cons, Bool.and_eq_true] at hv
    cases hk : (x.kind == 1 || !(tv s.vals x.a == tv s.vals x.b)) with
    | false =>
      have hf : filt (tv s.vals) (x :: l) = filt (tv s.vals) l := by unfold filt; rw [List.filter_cons, hk]; rfl
      rw [hf] at hx hp ⊢
      simp only [Bool.or_eq_false_iff, Bool.not_eq_false'] at hk
      have e : acO s x = some [] := by
        unfold acO
        have k2 : x.kind = 2 := by
          have := hv.1
          unfold atV at this
          simp only [Bool.and_eq_true, Bool.or_eq_true] at this
          rcases this.1.1 with q | q
          · rw [q] at hk; cases hk.1
          · simpa using q
        rw [if_pos k2, beq_iff_eq.1 hk.2]
        exact walk_same _
      unfold ptO
      rw [e]
      simp only [List.all_nil, List.nodup_nil, decide_true, Bool.true_and, cond_true, List.append_nil]
      exact ih L hv.2 hx hp
    | true =>
      have hf : filt (tv s.vals) (x :: l) = x :: filt (tv s.vals) l := by unfold filt; rw [List.filter_cons, hk]; rfl
      rw [hf] at hx hp ⊢
      obtain ⟨p1, p2⟩ := List.pairwise_cons.1 hp
      obtain ⟨c1, c2, c3⟩ := hx x (by simp)
      have e : acO s x = some [tv s.vals x.a] := by
        unfold acO
        by_cases k2 : x.kind = 2
        · rw [if_pos k2]
          refine walk_one (fun e => ?_) c1 c2
          rw [k2, e] at hk
          simp at hk
        · rw [if_neg k2, if_pos c1]
      unfold ptO
      rw [e]
      have h1 : ([tv s.vals x.a].all (fun n => !L.contains n) && decide [tv s.vals x.a].Nodup) = true := by
        have : L.contains (tv s.vals x.a) = false := con_no.2 c3
        simp [this, c3]
      simp only [h1, cond_true]
      rw [ih (L ++ [tv s.vals x.a]) hv.2 (fun y hy => ?_) p2]
      · simp
      · obtain ⟨d1, d2, d3⟩ := hx y (by simp [hy])
        refine ⟨d1, d2, fun hm => ?_⟩
        rcases List.mem_append.1 hm with hm | hm
        · exact d3 hm
        · exact p1 y hy (List.mem_singleton.1 hm).symm
end

/-! ## the model -/
section
variable {a : GAsn} {c : List Int}
theorem md_named (h : c ∈ cL a) {t : Int} (ht : 0 ≤ t ∧ t ≤ 8 ∧ hz a (fun _ => false) t.toNat = true) : tv (mdV c 8).1 t = tv (mdV c 8).1 (cl c t) ∧ ∃ k : Nat, k < 9 ∧ cl c t = (k : Int) ∧ c.getD k 0 = (k : Int) := by
  obtain ⟨h1, h2, h3⟩ := ht
  obtain ⟨k, e1, e2, e3⟩ := case_r h (t := t.toNat) (by omega) h3
  obtain ⟨k', f1, f2, f3⟩ := case_r h (t := 0) (by omega) rfl
  have z : c.getD 0 0 = 0 := by rw [f1]; omega
  refine ⟨?_, k, by omega, e1, e3⟩
  have := mdV_cls (c := c) (t := t.toNat) (by omega) z ⟨k, e1, e2, e3⟩
  rw [show ((t.toNat : Nat) : Int) = t by omega] at this
  exact this
theorem md_iff (h : c ∈ cL a) {s t : Int} (hs : 0 ≤ s ∧ s ≤ 8 ∧ hz a (fun _ => false) s.toNat = true) (ht : 0 ≤ t ∧ t ≤ 8 ∧ hz a (fun _ => false) t.toNat = true) : (cl c s == cl c t) = (tv (mdV c 8).1 s == tv (mdV c 8).1 t) := by
  obtain ⟨e1, k, k9, k1, k2⟩ := md_named h hs
  obtain ⟨e2, m, m9, m1, m2⟩ := md_named h ht
  rw [e1, e2, k1, m1, Bool.eq_iff_iff, beq_iff_eq, beq_iff_eq, mdV_eq_iff k9 m9 k2 m2]
  omega
theorem md_poss (h : c ∈ cL a) : possV a (tv (mdV c 8).1) := by
  have hn := hz_named (cL_mem h).1 fun _ => false
  exact possV_congr (fun t => 0 ≤ t ∧ t ≤ 8 ∧ hz a (fun _ => false) t.toNat = true) (fun s t hs ht => md_iff h hs ht) ⟨by decide, by decide, rfl⟩
    (fun f hf => by obtain ⟨a1, a2, a3, a4, a5, a6⟩ := hn.1 f hf; exact ⟨⟨a1, a2, a5⟩, a3, a4, a6⟩) (fun x hx => by obtain ⟨a1, a2, a3, a4, a5, a6⟩ := hn.2 x hx; exact ⟨⟨a1, a2, a5⟩, a3, a4, a6⟩) (case_p h)
theorem tv_bd {V : List Int} (h : ∀ j, 0 ≤ V.getD j 0 ∧ V.getD j 0 ≤ 8) (t : Int) : 0 ≤ tv V t ∧ tv V t ≤ 8 := by
  unfold tv
  split
  · omega
  · exact h _
theorem md_bd (t : Int) : 0 ≤ tv (mdV c 8).1 t ∧ tv (mdV c 8).1 t ≤ 8 := tv_bd (fun j => mdV_bd 8 (Nat.le_refl _) j) t
theorem md_heap (h : c ∈ cL a) : mdH (mdV c 8).1 (fL c a.atoms) = (filt (tv (mdV c 8).1) a.atoms).foldl (mdS (mdV c 8).1) (List.replicate 8 (-1)) := by
  have hn := hz_named (cL_mem h).1 fun _ => false
  have nm : ∀ x ∈ a.atoms, (0 ≤ x.a ∧ x.a ≤ 8 ∧ hz a (fun _ => false) x.a.toNat = true) ∧ (0 ≤ x.b ∧ x.b ≤ 8 ∧ hz a (fun _ => false) x.b.toNat = true) := fun x hx => by
    obtain ⟨a1, a2, a3, a4, a5, a6⟩ := hn.2 x hx; exact ⟨⟨a1, a2, a5⟩, a3, a4, a6⟩
  have e1 : fL c a.atoms = (filt (tv (mdV c 8).1) a.atoms).map fun x => (⟨x.kind, cl c x.a, cl c x.b⟩ : GAtom) := by
    unfold fL filt
    rw [List.filter_map]
    congr 1
    refine List.filter_congr fun x hx => ?_
    simp only [Function.comp]
    rw [md_iff h (nm x hx).1 (nm x hx).2]
  unfold mdH
  rw [e1, List.foldl_map]
  have key : ∀ (l : List GAtom) (h0 : List Int), (∀ x ∈ l, x ∈ a.atoms) → l.foldl (fun h x => mdS (mdV c 8).1 h ⟨x.kind, cl c x.a, cl c x.b⟩) h0 = l.foldl (mdS (mdV c 8).1) h0 := by
    intro l
    induction l with
    | nil => intro h0 _; rfl
    | cons x l ih =>
      intro h0 hl
      have e : mdS (mdV c 8).1 h0 ⟨x.kind, cl c x.a, cl c x.b⟩ = mdS (mdV c 8).1 h0 x := by
        unfold mdS
        simp only
        rw [← (md_named h (nm x (hl x (by simp))).1).1, ← (md_named h (nm x (hl x (by simp))).2).1]
      rw [List.foldl_cons, List.foldl_cons, e]
      exact ih _ fun y hy => hl y (by simp [hy])
  exact key _ _ fun x hx => (List.mem_filter.1 hx).1
theorem md_stV (h : c ∈ cL a) : stV (md a c) = true := by
  have hp := md_poss h
  have hl : (mdH (mdV c 8).1 (fL c a.atoms)).length = 8 := mdH_len _ _
  have e1 : ((md a c).vals.length == 8) = true := by show ((mdV c 8).1.length == 8) = true; rw [mdV_len]; rfl
  have e2 : ((md a c).heap.length == 8) = true := by show ((mdH (mdV c 8).1 (fL c a.atoms)).length == 8) = true; rw [hl]; rfl
  have e3 : (md a c).vals.all isT = true := by
    show (mdV c 8).1.all isT = true
    rw [List.all_eq_true]
    intro x hx
    obtain ⟨j, hj, rfl⟩ := List.getElem_of_mem hx
    have := mdV_bd (c := c) 8 (Nat.le_refl _) j
    rw [List.getD_eq_getElem?_getD, List.getElem?_eq_getElem hj] at this
    exact isT_iff.2 this
  have e4 : (md a c).heap.all hv = true := by
    show (mdH (mdV c 8).1 (fL c a.atoms)).all hv = true
    rw [md_heap h]
    have key : ∀ (l : List GAtom) (h0 : List Int), h0.all hv = true → (l.foldl (mdS (mdV c 8).1) h0).all hv = true := by
      intro l
      induction l with
      | nil => intro h0 hh; exact hh
      | cons x l ih =>
        intro h0 hh
        rw [List.foldl_cons]
        refine ih _ ?_
        unfold mdS
        rw [List.all_eq_true] at hh ⊢
        intro y hy
        rcases List.mem_or_eq_of_mem_set hy with hy | hy
        · exact hh y hy
        · rw [hy]; unfold hv; rw [isT_iff.2 (md_bd x.b)]; simp
    exact key _ _ (by decide)
  unfold stV
  rw [e1, e2, e3, e4]; rfl
theorem md_ct (h : c ∈ cL a) {n : Int} (h1 : 1 ≤ n) (h8 : n ≤ 8) : ct (md a c) n = ((filt (tv (mdV c 8).1) a.atoms).foldl (mdS (mdV c 8).1) (List.replicate 8 (-1))).getD (n - 1).toNat 0 := by
  unfold ct
  rw [if_pos ⟨h1, h8⟩]
  show (mdH (mdV c 8).1 (fL c a.atoms)).getD (n - 1).toNat 0 = _
  rw [md_heap h]
theorem hol_md (h : c ∈ cL a) : HOL (md a c) a = true := by
  have ha := (cL_mem h).1
  have hp := md_poss h
  have hs := md_stV h
  have hb : ∀ x ∈ filt (tv (mdV c 8).1) a.atoms, 1 ≤ tv (mdV c 8).1 x.a ∧ tv (mdV c 8).1 x.a ≤ 8 := fun x hx => by
    have h1 := hp.nil x hx
    have h2 := md_bd (c := c) x.a
    have z : tv (mdV c 8).1 0 = 0 := rfl
    rw [z] at h1
    omega
  have hc : ∀ x ∈ filt (tv (mdV c 8).1) a.atoms, ct (md a c) (tv (mdV c 8).1 x.a) = tv (mdV c 8).1 x.b := fun x hx => by
    rw [md_ct h (hb x hx).1 (hb x hx).2]
    exact mdS_hit _ _ (by simp) hb hp.apart x hx
  have hpt : ptO (md a c) [] a.atoms = some ([] ++ (filt (tv (mdV c 8).1) a.atoms).map fun x => tv (mdV c 8).1 x.a) :=
    pt_md (s := md a c) a.atoms [] (asV_facts ha).2.2.1 (fun x hx => ⟨hc x hx, (md_bd x.b).1, by simp⟩) hp.apart
  have hf : fctB (md a c) a.facts = true := by
    unfold fctB
    rw [List.all_eq_true]
    intro f hf
    have := hp.facts f hf
    show ((tv (mdV c 8).1 f.a == tv (mdV c 8).1 f.b) == f.eq) = true
    rw [this]; simp
  unfold HOL
  rw [hs, ha, hf, hpt]
  simp only [Bool.true_and, List.nil_append, List.all_eq_true]
  intro n hn
  have hn8 : 1 ≤ n ∧ n ≤ 8 := by unfold addrs at hn; simp only [List.mem_cons, List.not_mem_nil, or_false] at hn; omega
  rw [beq_iff_eq, Bool.eq_iff_iff, List.contains_iff_mem, List.mem_map]
  unfold al
  rw [decide_eq_true_eq]
  constructor
  · rintro ⟨x, hx, rfl⟩
    rw [hc x hx]; exact (md_bd x.b).1
  · intro h0
    by_cases hex : ∃ x ∈ filt (tv (mdV c 8).1) a.atoms, tv (mdV c 8).1 x.a = n
    · exact hex
    · exfalso
      rw [md_ct h hn8.1 hn8.2, mdS_other hn8.1 _ _ fun x hx => ⟨(hb x hx).1, fun e => hex ⟨x, hx, e⟩⟩] at h0
      rw [List.getD_eq_getElem?_getD, List.getElem?_replicate, if_pos (by omega)] at h0
      simp at h0
theorem hol_mdL (h : (asV a && !(casesF a).isEmpty) = true) : HOL (mdL a) a = true := by
  simp only [Bool.and_eq_true, Bool.not_eq_true'] at h
  rw [← mdL_yes h.1 h.2 []]
  refine hol_md ?_
  unfold cL
  rw [h.1]
  exact casesF_head h.2
end
end Go.SE

namespace Go.SE
open Go.RowKit

section
variable {a : GAsn} {s : GState}
theorem nfS_all {P : GFact → Bool} (hsw : ∀ f, P (nsw f) = P f) (ht : ∀ f : GFact, (f.eq && (f.a == f.b)) = true → P f = true) (acc : List GFact) (f : GFact) : (nfS acc f).all P = (acc.all P && P f) := by
  unfold nfS
  cases h1 : (f.eq && (f.a == f.b)) with
  | true => simp only [cond_true]; rw [ht f h1, Bool.and_true]
  | false =>
    cases h2 : acc.contains (nsw f) with
    | true =>
      simp only [cond_false, cond_true]
      cases h3 : acc.all P with
      | false => rfl
      | true =>
        have := List.all_eq_true.1 h3 _ (List.contains_iff_mem.1 h2)
        rw [hsw] at this
        rw [this]; rfl
    | false => simp only [cond_false]; rw [List.all_append]; simp [hsw]
theorem nfF_all {P : GFact → Bool} (hsw : ∀ f, P (nsw f) = P f) (ht : ∀ f : GFact, (f.eq && (f.a == f.b)) = true → P f = true) (l : List GFact) : (nfF l).all P = l.all P := by
  have key : ∀ (l acc : List GFact), (l.foldl nfS acc).all P = (acc.all P && l.all P) := by
    intro l
    induction l with
    | nil => intro acc; simp
    | cons f l ih => intro acc; rw [List.foldl_cons, ih, nfS_all hsw ht, List.all_cons, Bool.and_assoc]
  have := key l []
  unfold nfF; rw [this]; rfl
theorem nsw_eqv {v : Int → Int} (f : GFact) : ((v (nsw f).a == v (nsw f).b) == (nsw f).eq) = ((v f.a == v f.b) == f.eq) := by
  unfold nsw
  cases decide (f.b < f.a) with
  | true => simp only [cond_true]; congr 1; rw [Bool.eq_iff_iff, beq_iff_eq, beq_iff_eq]; exact eq_comm
  | false => rfl
theorem triv_eqv {v : Int → Int} (f : GFact) (h : (f.eq && (f.a == f.b)) = true) : ((v f.a == v f.b) == f.eq) = true := by
  simp only [Bool.and_eq_true, beq_iff_eq] at h
  rw [h.1, h.2]; simp
theorem nfF_v {v : Int → Int} (l : List GFact) : ((nfF l).all fun f => (v f.a == v f.b) == f.eq) = l.all fun f => (v f.a == v f.b) == f.eq := nfF_all nsw_eqv triv_eqv l
theorem nfF_fct : fctB s (nfF a.facts) = fctB s a.facts := nfF_v _
theorem nfA_filt {v : Int → Int} (l : List GAtom) : filt v (nfA l) = filt v l := by
  unfold filt nfA
  rw [List.filter_filter]
  refine List.filter_congr fun x _ => ?_
  cases h : (x.kind == 2) with
  | false => simp
  | true =>
    have : (x.kind == 1) = false := by rw [beq_eq_false_iff_ne]; rw [beq_iff_eq] at h; omega
    cases h2 : (x.a == x.b) with
    | false => simp
    | true => rw [beq_iff_eq] at h2; simp [this, h2]
theorem nfA_pt : ∀ (l : List GAtom) (L : List Int), ptO s L (nfA l) = ptO s L l := by
  intro l
  induction l with
  | nil => intro L; rfl
  | cons x l ih =>
    intro L
    cases h : (!(x.kind == 2) || !(x.a == x.b)) with
    | true =>
      have e : nfA (x :: l) = x :: nfA l := by unfold nfA; rw [List.filter_cons, h]; rfl
      rw [e]; simp only [ptO, ih]
    | false =>
      have e : nfA (x :: l) = nfA l := by unfold nfA; rw [List.filter_cons, h]; rfl
      rw [e, ih]
      simp only [Bool.or_eq_false_iff, Bool.not_eq_false', beq_iff_eq] at h
      have ea : acO s x = some [] := by unfold acO; rw [if_pos h.1, h.2]; exact walk_same _
      conv => rhs; unfold ptO
      rw [ea]
      simp
theorem nfF_pres {P : GFact → Prop} (hsw : ∀ f, P f → P (nsw f)) : ∀ (l acc : List GFact), (∀ f ∈ acc, P f) → (∀ f ∈ l, P f) → ∀ f ∈ l.foldl nfS acc, P f := by
  intro l
  induction l with
  | nil => intro acc h _; exact h
  | cons g l ih =>
    intro acc h hl
    rw [List.foldl_cons]
    refine ih _ ?_ fun f hf => hl f (by simp [hf])
    unfold nfS
    cases (g.eq && (g.a == g.b)) with
    | true => exact h
    | false =>
      cases acc.contains (nsw g) with
      | true => exact h
      | false =>
        intro f hf
        simp only [cond_false] at hf
        rcases List.mem_append.1 hf with hf | hf
        · exact h f hf
        · rw [List.mem_singleton.1 hf]; exact hsw g (hl g (by simp))
theorem nsw_fV (f : GFact) (h : fV f = true) : fV (nsw f) = true := by
  unfold nsw
  cases decide (f.b < f.a) with
  | true => unfold fV at h ⊢; simp only [cond_true]; rw [Bool.and_comm]; exact h
  | false => exact h
theorem nf_val (h : asV a = true) : asV (nf a) = true := by
  obtain ⟨h1, h2, h3, h4⟩ := asV_facts h
  have e1 : (nfF a.facts).all fV = true := by
    rw [List.all_eq_true] at h1 ⊢
    exact nfF_pres (P := fun f => fV f = true) nsw_fV _ _ (fun f hf => by cases hf) h1
  have e2 : (nfA a.atoms).all atV = true := by
    rw [List.all_eq_true] at h3 ⊢
    intro x hx
    exact h3 x (List.mem_filter.1 hx).1
  have l1 := nfF_len a.facts
  have l2 := nfA_len a.atoms
  unfold asV fsV nf
  simp only [Bool.and_eq_true, decide_eq_true_eq]
  exact ⟨⟨⟨by omega, e1⟩, by omega⟩, e2⟩
theorem hol_nf (h : asV a = true) : HOL s (nf a) = HOL s a := by
  unfold HOL
  rw [nf_val h, h]
  have e1 : fctB s (nf a).facts = fctB s a.facts := nfF_fct
  have e2 : ptO s [] (nf a).atoms = ptO s [] a.atoms := nfA_pt _ _
  rw [e1, e2]
theorem nf_poss {v : Int → Int} : possV (nf a) v ↔ possV a v := by
  have e1 := nfF_v (v := v) a.facts
  have e2 := nfA_filt (v := v) a.atoms
  have f1 : (∀ f ∈ (nf a).facts, (v f.a == v f.b) = f.eq) ↔ ∀ f ∈ a.facts, (v f.a == v f.b) = f.eq := by
    have : ∀ l : List GFact, (∀ f ∈ l, (v f.a == v f.b) = f.eq) ↔ (l.all fun f => (v f.a == v f.b) == f.eq) = true := fun l => by
      rw [List.all_eq_true]
      exact forall_congr' fun f => forall_congr' fun _ => by rw [beq_iff_eq (a := (v f.a == v f.b))]
    rw [this, this]
    show ((nfF a.facts).all fun f => (v f.a == v f.b) == f.eq) = true ↔ _
    rw [e1]
  have f2 : filt v (nf a).atoms = filt v a.atoms := e2
  constructor
  · intro h; exact ⟨f1.1 h.facts, by rw [← f2]; exact h.nil, by rw [← f2]; exact h.apart⟩
  · intro h; exact ⟨f1.2 h.facts, by rw [f2]; exact h.nil, by rw [f2]; exact h.apart⟩
theorem cons_nf (h : asV a = true) : (casesF (nf a)).isEmpty = (casesF a).isEmpty := by
  rw [Bool.eq_iff_iff, cons_iff (nf_val h), cons_iff h]
  exact forall_congr' fun v => not_congr nf_poss
/-! ## twice is once -/
theorem nsw_nsw (f : GFact) : nsw (nsw f) = nsw f := by
  unfold nsw
  by_cases h : f.b < f.a
  · have : decide (f.b < f.a) = true := decide_eq_true h
    rw [this]
    simp only [cond_true]
    rw [show decide (f.a < f.b) = false from decide_eq_false (by omega)]; rfl
  · have : decide (f.b < f.a) = false := decide_eq_false h
    rw [this]
    simp only [cond_false]
    rw [this]; rfl
theorem nsw_triv (f : GFact) : ((nsw f).eq && ((nsw f).a == (nsw f).b)) = (f.eq && (f.a == f.b)) := by
  unfold nsw
  cases decide (f.b < f.a) with
  | true => simp only [cond_true]; congr 1; rw [Bool.eq_iff_iff, beq_iff_eq, beq_iff_eq]; exact eq_comm
  | false => rfl
structure Nrm (l : List GFact) : Prop where
  sw : ∀ f ∈ l, nsw f = f
  tr : ∀ f ∈ l, (f.eq && (f.a == f.b)) = false
  nd : l.Nodup
theorem nfF_nrm : ∀ (l acc : List GFact), Nrm acc → Nrm (l.foldl nfS acc) := by
  intro l
  induction l with
  | nil => intro acc h; exact h
  | cons g l ih =>
    intro acc h
    rw [List.foldl_cons]
    refine ih _ ?_
    unfold nfS
    cases h1 : (g.eq && (g.a == g.b)) with
    | true => exact h
    | false =>
      cases h2 : acc.contains (nsw g) with
      | true => exact h
      | false =>
        simp only [cond_false]
        have hn : nsw g ∉ acc := fun hm => by rw [List.contains_iff_mem.2 hm] at h2; cases h2
        refine ⟨fun f hf => ?_, fun f hf => ?_, ?_⟩
        · rcases List.mem_append.1 hf with hf | hf
          · exact h.sw f hf
          · rw [List.mem_singleton.1 hf]; exact nsw_nsw g
        · rcases List.mem_append.1 hf with hf | hf
          · exact h.tr f hf
          · rw [List.mem_singleton.1 hf, nsw_triv]; exact h1
        · rw [List.nodup_append]
          refine ⟨h.nd, by simp, fun x hx y hy e => ?_⟩
          rw [List.mem_singleton.1 hy] at e
          exact hn (by rw [← e]; exact hx)
theorem nfF_same : ∀ (l acc : List GFact), (∀ f ∈ l, nsw f = f) → (∀ f ∈ l, (f.eq && (f.a == f.b)) = false) → l.Nodup → (∀ f ∈ l, f ∉ acc) → l.foldl nfS acc = acc ++ l := by
  intro l
  induction l with
  | nil => intro acc _ _ _ _; simp
  | cons g l ih =>
    intro acc h1 h2 h3 h4
    obtain ⟨n1, n2⟩ := List.nodup_cons.1 h3
    have e : nfS acc g = acc ++ [g] := by
      unfold nfS
      rw [h2 g (by simp), h1 g (by simp)]
      have : acc.contains g = false := by
        cases hc : acc.contains g with
        | false => rfl
        | true => exact (h4 g (by simp) (List.contains_iff_mem.1 hc)).elim
      rw [this]; rfl
    rw [List.foldl_cons, e, ih _ (fun f hf => h1 f (by simp [hf])) (fun f hf => h2 f (by simp [hf])) n2 fun f hf hm => ?_]
    · simp
    · rcases List.mem_append.1 hm with hm | hm
      · exact h4 f (by simp [hf]) hm
      · rw [List.mem_singleton.1 hm] at hf; exact n1 hf
theorem nf_nf : nf (nf a) = nf a := by
  have h := nfF_nrm a.facts [] ⟨fun f hf => (by cases hf), fun f hf => (by cases hf), .nil⟩
  have e1 : nfF (nfF a.facts) = nfF a.facts := by
    have := nfF_same (nfF a.facts) [] h.sw h.tr h.nd (fun f _ hf => by cases hf)
    exact this
  have e2 : nfA (nfA a.atoms) = nfA a.atoms := by unfold nfA; rw [List.filter_filter]; simp
  show (⟨nfF (nfF a.facts), nfA (nfA a.atoms)⟩ : GAsn) = ⟨nfF a.facts, nfA a.atoms⟩
  rw [e1, e2]
/-! ## in the form of the law -/
theorem nfL_y (h : asV a = true) : nfL a = nf a := by unfold nfL; rw [h]; rfl
theorem nfl_F (h : a.facts.length ≤ 40) : (nfL a).facts.length ≤ 281474976710656 := by have := (nfL_len a).1; omega
theorem nfl_A (h : a.atoms.length ≤ 40) : (nfL a).atoms.length ≤ 281474976710656 := by have := (nfL_len a).2; omega
theorem nfl2_F (h : a.facts.length ≤ 40) : (nfL (nfL a)).facts.length ≤ 281474976710656 := by have := (nfL_len a).1; have := (nfL_len (nfL a)).1; omega
theorem nfl2_A (h : a.atoms.length ≤ 40) : (nfL (nfL a)).atoms.length ≤ 281474976710656 := by have := (nfL_len a).2; have := (nfL_len (nfL a)).2; omega
theorem nfl_val (h : asV a = true) : asV (nfL a) = true := by rw [nfL_y h]; exact nf_val h
theorem nfl_valN (hn : asV (nfL a) = false) (h : asV a = true) : False := by rw [nfl_val h] at hn; cases hn
theorem nfl_idem (h : asV a = true) : nfL (nfL a) = nfL a := by rw [nfL_y (nfl_val h), nfL_y h, nf_nf]
theorem nfl_idemN (hn : ¬ nfL (nfL a) = nfL a) (h : asV a = true) : False := hn (nfl_idem h)
theorem nfl_hol (h : asV a = true) : HOL s a = HOL s (nfL a) := by rw [nfL_y h, hol_nf h]
theorem nfl_holN (hn : ¬ HOL s a = HOL s (nfL a)) (h : asV a = true) : False := hn (nfl_hol h)
theorem nfl_cons (h : asV a = true) : (asV a && !(casesF a).isEmpty) = (asV (nfL a) && !(casesF (nfL a)).isEmpty) := by rw [nfl_val h, h, nfL_y h, cons_nf h]
theorem nfl_consN (hn : ¬ (asV a && !(casesF a).isEmpty) = (asV (nfL a) && !(casesF (nfL a)).isEmpty)) (h : asV a = true) : False := hn (nfl_cons h)
theorem nfl_md (h : asV a = true) (hc : (asV a && !(casesF a).isEmpty) = true) : HOL (mdL a) (nfL a) = true := by rw [← nfl_hol h]; exact hol_mdL hc
end
end Go.SE
