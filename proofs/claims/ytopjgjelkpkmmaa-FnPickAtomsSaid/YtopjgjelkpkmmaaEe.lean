/-
  Parts of a symbolic engine over the program's code: how operations, regions, loops and calls are shown to keep contracts. No conditions.
-/
import Derived.RangeFuncLeaves
import Derived.Test.YtopjgjelkpkmmaaEd
set_option linter.unusedSimpArgs false
set_option linter.unusedVariables false
set_option linter.unusedSectionVars false

namespace Go.SE
open Go.RowKit
section
variable {P : Program} {E : Ty -> TypeId} {tab : TypeId -> Option TI} {K : FuncId -> Option Con} {pts : FuncId -> Option PT} {hp : Nat -> Bool} {gcs : Nat -> Option (List Nat × List Nat)} {perm : Nat -> List (List Nat)}
abbrev noSpB : SpOp Bool := fun _ _ _ => none
def retR (tab : TypeId -> Option TI) (con : Con) (rvs : List ResultVar) (x : Args con.aks) : XK -> St -> Bool -> Prop := fun xk st _ => st.rd = none /\ retOk tab con rvs x 0 xk st
theorem fnR_sound (ht : TabOk P E tab) (hKA : KAll P E K) (hPA : PAll P E pts) (hmix : P.follows .mixedOrders = true) (hdr : ∀ w0 M n, DrawSound P E tab K w0 M n) {f : FuncId} {fn : Func} {c : Code} {con : Con} (hcr : hasRdr con.aks = false) (hf : P.funcs[f]? = some fn) (hb : fn.body = some c) (hn : con.aks.length <= fn.ntmps) (hok : codeOkY tab K hp perm true fn.ntmps c = true)
  {spc : Args con.aks -> SpCode Bool} {anns : Args con.aks -> Nat -> St -> Bool -> Option (AnnY Bool)} (hspc : ∀ x, con.pre x -> ∀ wE ro0 ρ, SpcOk Fence.wide 0 P E (AC wE ro0 ρ) fn.ntmps (spc x))
  (hvc : ∀ x, con.pre x -> vcY tab K pts noSpB (spc x) (fun b => !b) hp gcs (anns x) perm c (entry (encs con.aks x) none) false (retR tab con fn.results.toList x)) : CallOk P E f con := by
 intro w0 ro0 ρ k x vs id0 hpre hin hrd hargs
 have hlen : vs.length = con.aks.length := by
  rw [hargs.1]
  have : ∀ (ks : List AK) (x : Args ks), (encs ks x).length = ks.length := by
   intro ks
   induction ks with
   | nil => intro x; rfl
   | cons k ks ih => intro x; obtain ⟨x, xs⟩ := x; simp [encs, ih]
  exact this _ _
 have hent : Rel E w0 (MOf false ρ ro0) fn.ntmps (entry (encs con.aks x) none) { tmps := vs.toArray ++ Array.replicate (fn.ntmps - vs.toArray.size) undef, defers := [] } w0 :=
  entry_rel (h := false) (k := 0) hin (fun h => by cases h) hargs (by omega)
 refine callsIn_wide.1 (callsIn_of_wp_marks (n := 0) hf hb trivial ?_)
 refine codeY_sound (A := AC w0 ro0 ρ) (drg := fun b => !b) (.inl rfl) ht hKA hPA hmix (fun _ _ _ _ h => by cases h) (hspc x hpre w0 ro0 ρ) (dr := true) (fun _ => ⟨rfl, fun γ ds w0 M hγ hA => hA.1 (by simpa using hγ), fun _ _ => hdr _ _ _⟩) c _ false _ _
  (retR tab con fn.results.toList x) _ (.inl fun γ ds w0 M h => h.oo) hok
  ⟨w0, MOf false ρ ro0, ⟨fun _ => rfl, fun h => (by cases h), fun _ => ⟨rfl, rfl⟩, Ext.refl _ _, fun b h => (by cases h.1), fun b vs h => .inl h, rfl⟩, hent⟩ (hvc x hpre) ?_
 intro xk st' γ' a' w' hr hk
 obtain ⟨hrd', hk⟩ := hk
 obtain ⟨wA, M, hA, hr⟩ := hr
 obtain ⟨g, hg, henv⟩ := hr.good
 -- the results, in a world in which what the state speaks of is as it was
 have fin : ∀ w5 : World, Good E w0 (MOf false ρ ro0) g st' w5 -> retOk tab con fn.results.toList x 0 .ret st' -> ∃ v, (results fn a'.tmps).run P w5 = .ok v w5 /\ ∃ v1 r g, Ending.returned v = .returned v1 /\ con.post x r /\ Ext (fun b => hasRdr con.aks = true /\ b = ρ) w0 w5 /\ g.ρ = ρ /\ ResOk E w0 w5 ro0 con.rks id0 r v1 g /\ (hasRdr con.aks = true -> RdStep w0 w5 ρ (k + con.cost x)) := by
  intro w5 hg5 hret
  have hrel : Rel E w0 (MOf (hasRdr con.aks) ρ ro0) fn.ntmps st' (bareA a') w5 := by rw [hcr]; exact ⟨hr.cl, hr.size, rfl, g, hg5, henv⟩
  obtain ⟨v, h1, r, g1, h2, h3, h4, h5, _⟩ := exit_ok (k := 0) id0 ht hin (fun h => by rw [hcr] at h; cases h) hrel hret
  exact ⟨v, h1, v, r, g1, rfl, h2, h3, h4, h5, fun h => by rw [hcr] at h; cases h⟩
 have leave : retOk tab con fn.results.toList x 0 .ret st' -> LeavesInM Fence.wide 0 P fn a'.tmps (fun e w => ∃ v r g, e = .returned v /\ con.post x r /\ Ext (fun b => hasRdr con.aks = true /\ b = ρ) w0 w /\ g.ρ = ρ /\ ResOk E w0 w ro0 con.rks id0 r v g /\ (hasRdr con.aks = true -> RdStep w0 w ρ (k + con.cost x))) a'.defers .returning w' := by
  intro hret
  cases γ' with
  | false =>
   rw [hA.1 rfl]
   exact fin w' (hA.good hg hrd') hret
  | true =>
   obtain ⟨dB, hds, hge, hdB, hnc⟩ := hA.2.1 rfl
   rw [hds]
   have hdB' : w'.heap[dB]? = some (.deferred (some [])) := (hg.ext.block _ (lt_of_some hdB) hnc).trans hdB
   refine ⟨by simp, .inl ⟨dB, _, rfl, run_takeDeferred hdB', ?_⟩⟩
   refine fin _ ?_ hret
   have hlv : ∀ b, liveB g st' b -> b ≠ dB := fun b hb e => by subst e; obtain ⟨_, _, h3⟩ := liveB_cells hg hb; rw [hdB'] at h3; cases h3
   have hrv : ∀ b vs, g.ro b = some vs -> b ≠ dB := fun b vs hb e => by subst e; obtain ⟨_, _, h3⟩ := ro_cells hg hb; rw [hdB'] at h3; cases h3
   have hgE := hA.good hg hrd'
   have h5 : Good E (w'.putObj dB (.deferred none)) (reM g st') g st' (w'.putObj dB (.deferred none)) := hg.re hrd' (reM_fit g st') (fun b hb => World.putObj_heap_other (hlv b hb)) fun b vs hb => World.putObj_heap_other (hrv b vs hb)
   refine ⟨⟨hgE.ext.os, hgE.ext.tape, hgE.ext.output, ?_, fun b hb hc => ?_⟩, h5.ro, h5.res, hgE.sep, hgE.fresh, hgE.wro, (fun m hm => by rw [hrd'] at hm; cases hm), (fun h => absurd hrd' h), hgE.roo, hgE.rho, hgE.pin, hgE.keep⟩
   ·have : (w'.putObj dB (.deferred none)).heap.size = w'.heap.size := by simp
    rw [this]; exact hgE.ext.size
   ·rw [World.putObj_heap_other (by omega)]
    exact hgE.ext.block b hb hc
 cases xk with
 | normal => exact leave hk
 | ret => exact leave hk
 | exit id => exact hk.elim
end
end Go.SE

namespace Go.SE
open Go.RowKit
section
variable (tab : TypeId -> Option TI) (K : FuncId -> Option Con) (pts : FuncId -> Option PT) (hp : Nat -> Bool) (gcs : Nat -> Option (List Nat × List Nat)) (anns : Nat -> St -> Unit -> Option (AnnY Unit)) (perm : Nat -> List (List Nat)) (n : Nat)
def roundVC (A : RAnn) (T : CG) (st : St) (p : Nat) (assign body : Code) (Qs : XK -> St -> Bool -> Prop) : Prop :=
 ∀ i c0 c1 c2 c3 c4 c5 c6 c7 c8, T[i]? = some [c0, c1, c2, c3, c4, c5, c6, c7, c8] -> (T.take i).all A.go = true -> vcY tab K pts noSp noSpU (fun _ => false) hp gcs anns perm assign (St.put (rH A st i) (some p) (.s (.vec .int [c0, c1, c2, c3, c4, c5, c6, c7, c8]))) ()
  (seqY (fun st1 _ => st1.rd = none /\ vcY tab K pts noSp noSpU (fun _ => false) hp gcs anns perm body st1 () (bodyQ A.go (rH A st) (ftR A st) (fun _ st' => Qs .ret st' true) i [c0, c1, c2, c3, c4, c5, c6, c7, c8])) fun _ _ _ => False)
theorem nine {c : List Int} (h : c.length = 9) : ∃ c0 c1 c2 c3 c4 c5 c6 c7 c8, c = [c0, c1, c2, c3, c4, c5, c6, c7, c8] := by
 match c, h with
 | [c0, c1, c2, c3, c4, c5, c6, c7, c8], _ => exact ⟨c0, c1, c2, c3, c4, c5, c6, c7, c8, rfl⟩
def roundOk (p : Nat) (assign body : Code) : Bool :=
 decide (p < n) && (codeOkY tab K hp perm false n assign && (noOO gcs assign && (codeOkY tab K hp perm false n body && noOO gcs body)))
def boxOk (A : RAnn) (st : St) (i1 i2 : Nat) : Bool :=
 gcB A.live A.ids st && (!inL A.ids i1 && (!inL A.ids i2 && (!(i1 == i2) && (A.ids.all (fun j => !st.sp j && !st.fr j) && ((!st.sp i1 && !st.fr i1) && (!st.sp i2 && !st.fr i2))))))
def spR3 (f1 : FuncId) (pre : GAsn -> Int -> Prop) (en : GAsn -> Int -> CG) (p : Nat) (assign body : Code) (st : St) (g i1 i2 : Nat) : Option Res -> Option Res -> Option RAnn -> Option ((XK -> St -> Bool -> Prop) -> Prop)
 | some (.blk [.d (.arr .fact fs), .d (.arr .atom xs)]), some (.blk [.d (.val (.int .u16 tm))]), some A =>
  some fun Qs => ((g = f1 /\ st.rd = none /\ pre ⟨fs, xs⟩ tm) /\ (boxOk A st i1 i2 && roundOk tab K hp gcs perm n p assign body) = true /\ ftR A st 0 (dropR A st)) /\
   roundVC tab K pts hp gcs anns perm A (en ⟨fs, xs⟩ tm) st p assign body Qs /\ ((en ⟨fs, xs⟩ tm).all A.go = true -> Qs .normal (rH A st (en ⟨fs, xs⟩ tm).length) true)
 | _, _, _ => none
def spR2 (f1 : FuncId) (pre : GAsn -> Int -> Prop) (en : GAsn -> Int -> CG) (ann : St -> Option RAnn) (p : Nat) (assign body : Code) (st : St) : S -> Option ((XK -> St -> Bool -> Prop) -> Prop)
 | .s (.c (.fn g [i1, i2])) => spR3 tab K pts hp gcs anns perm n f1 pre en p assign body st g i1 i2 (st.mem i1) (st.mem i2) (ann st)
 | _ => none
def spR (f1 : FuncId) (pre : GAsn -> Int -> Prop) (en : GAsn -> Int -> CG) (ann : St -> Option RAnn) : SpCode Bool := fun f ps x c st γ =>
 match γ, f, ps with
 | false, .tmp t, ⟨[p]⟩ => spR2 tab K pts hp gcs anns perm n f1 pre en ann p x c st (st.env t)
 | _, _, _ => none
end
section
variable {P : Program} {E : Ty -> TypeId} {n m : Nat} {tab : TypeId -> Option TI} {K : FuncId -> Option Con} {pts : FuncId -> Option PT} {hp : Nat -> Bool} {gcs : Nat -> Option (List Nat × List Nat)} {anns : Nat -> St -> Unit -> Option (AnnY Unit)} {perm : Nat -> List (List Nat)}
theorem spR_ok (ht : TabOk P E tab) (hKA : KAll P E K) (hPA : PAll P E pts) (hmix : P.follows .mixedOrders = true) {f1 : FuncId} {pre : GAsn -> Int -> Prop} {en : GAsn -> Int -> CG} (hit : ItOk P f1 pre en) (hlen : ∀ a tm, pre a tm -> ∀ c ∈ en a tm, c.length = 9) (eg : ∀ args w, (callFunc f1 args).run P w = .ok (.enter f1 args) w)
  {wE : World} {ro0 : Nat -> Option (Array Value)} {ρ : Nat} {ann : St -> Option RAnn} : SpcOk Fence.wide m P E (AC wE ro0 ρ) n (spR tab K pts hp gcs anns perm n f1 pre en ann) := by
 intro f ps x c st γ g hs Qs a w Q h hg hQ
 unfold spR at hs
 split at hs
 ·rename_i t p
  unfold spR2 at hs
  split at hs
  ·rename_i g1 i1 i2 he
   unfold spR3 at hs
   split at hs
   ·rename_i fs xs tm A hm1 hm2 hann
    injection hs with hs
    subst hs
    obtain ⟨⟨⟨rfl, hrd, hpre⟩, hb, hft⟩, hv, hend⟩ := hg
    simp only [boxOk, roundOk, Bool.and_eq_true, Bool.not_eq_true', decide_eq_true_eq, beq_eq_false_iff_ne] at hb
    obtain ⟨⟨b1, b2, b3, b4, b5, b6, b7⟩, c1, c2, c3, c4, c5⟩ := hb
    exact range_sound ht hKA hPA hmix hit eg h he hm1 hm2 hrd hpre b1 b2 b3 b4 (by simpa using b5) (by simpa using b6) (by simpa using b7) hft c1 c2 c3 c4 c5 (fun i c hi => by
     obtain ⟨c0, c1, c2, c3, c4, c5, c6, c7, c8, rfl⟩ := nine (hlen _ _ hpre c (List.mem_of_getElem? hi))
     exact hv i c0 c1 c2 c3 c4 c5 c6 c7 c8 hi) hend hQ
   ·cases hs
  ·cases hs
 ·cases hs
theorem run_callFunc {f : FuncId} {fn : Func} {c : Code} (hf : P.funcs[f]? = some fn) (hname : (fn.name == "runtime.NumGoroutine") = false) (hb : fn.body = some c) : ∀ args w, (callFunc f args).run P w = .ok (.enter f args) w := by
 intro args w
 have hn : ¬ fn.name = "runtime.NumGoroutine" := by simpa using hname
 simp [callFunc, hf, hn, hb]
end
end Go.SE

namespace Go.SE
open Go.RowKit
def vecAt (st : St) (id : Nat) : List Int :=
 match st.mem id with
 | some (.vec .int xs) => xs
 | _ => []
section
variable {P : Program} {E : Ty -> TypeId} {tab : TypeId -> Option TI} {hp : Nat -> Bool} {gcs : Nat -> Option (List Nat × List Nat)} {perm : Nat -> List (List Nat)}
theorem fnR_ok {l : List (FuncId × Con)} {lp : List (FuncId × PT)} (ht : TabOk P E tab) (hmix : P.follows .mixedOrders = true) (hl : AllOk P E l) (hlp : AllPt P E lp) {f : FuncId} {fn : Func} {con : Con} (hcr : hasRdr con.aks = false) (hf : P.funcs[f]? = some fn)
  (hb : fn.body = some (bodyOf fn)) (hname : (fn.name == "runtime.NumGoroutine") = false) (hn : con.aks.length <= fn.ntmps) (hok : codeOkY tab (lookF l) hp perm true fn.ntmps (bodyOf fn) = true) {spc : Args con.aks -> SpCode Bool} {anns : Args con.aks -> Nat -> St -> Bool -> Option (AnnY Bool)}
  (hspc : ∀ x, con.pre x -> ∀ wE ro0 ρ, SpcOk Fence.wide 0 P E (AC wE ro0 ρ) fn.ntmps (spc x))
  (hvc : ∀ x, con.pre x -> vcY tab (lookF l) (lookP lp) noSpB (spc x) (fun b => !b) hp gcs (anns x) perm (bodyOf fn) (entry (encs con.aks x) none) false (retR tab con fn.results.toList x))
  (htot : ∀ x, con.pre x -> ∃ r, con.post x r) : FnOk P E f con :=
 ⟨⟨fn, _, hf, hname, hb⟩, fnR_sound ht (kall_of hl) (pall_of hlp) hmix (fun _ _ _ => draw_sound ht (tab_small ht) (kall_of hl) hmix _ _ _) hcr hf hb hn hok hspc hvc, htot⟩
theorem ext_none {P : Program} {J : JJ CG} {fid l : Nat} {go : List Int -> Bool} {T : CG} {a : GAsn} {tm t : Int} : ExtOk P J fid l go T a tm t (fun c => List.replicate (T.length + 1) c) := by
 intro c w γ D ro0 ρ vs _ _ _ _ _ _ hT
 have := hT.length_le
 simp at this
 omega
end
section
variable {a : GAsn} {en : List Int -> CG} {n : Nat} {c : List Int} {p : Nat × List Int} {go : List Int -> Bool} {γ T L : CG}
abbrev flC (a : GAsn) (en : List Int -> CG) (n : Nat) (c : List Int) (k : Nat) : CG := (List.range k).flatMap (brC (poss a) en n c)
theorem fl_succ (k : Nat) : flC a en n c (k + 1) = flC a en n c k ++ brC (poss a) en n c k := by
 unfold flC
 rw [List.range_succ, List.flatMap_append]
 simp
theorem fl_get (hset : ∀ x : Int, p.2.set n x = c.set n x) {k : Nat} (hk : k ≠ n) : p.2.getD k 0 = c.getD k 0 := by
 have := congrArg (fun l => l.getD k 0) (hset 0)
 simpa only [getD_set_ne hk] using this
theorem fl_skip (hset : ∀ x : Int, p.2.set n x = c.set n x) (hlt : (p.1 : Int) < n) (hne : ¬ p.2.getD p.1 0 = (p.1 : Int)) : flC a en n c (p.1 + 1) = flC a en n c p.1 := by
 rw [fl_succ]
 unfold brC
 rw [← fl_get hset (by omega)]
 have h1 : (p.1 == n) = false := by simp; omega
 have h2 : (p.2.getD p.1 0 == (p.1 : Int)) = false := by simpa using hne
 rw [h1, h2]
 simp
theorem fl_no (hset : ∀ x : Int, p.2.set n x = c.set n x) (hp : possI a (p.2.set n (p.1 : Int)) (n : Int) = false) : flC a en n c (p.1 + 1) = flC a en n c p.1 := by
 rw [fl_succ]
 unfold brC poss
 rw [hset] at hp
 rw [hp]
 simp
theorem fl_yes (hset : ∀ x : Int, p.2.set n x = c.set n x) (h1 : ¬ (p.1 : Int) < n ∨ p.2.getD p.1 0 = (p.1 : Int)) (hle : (p.1 : Int) <= n) (hp : possI a (p.2.set n (p.1 : Int)) (n : Int) = true) : flC a en n c (p.1 + 1) = flC a en n c p.1 ++ en (p.2.set n (p.1 : Int)) := by
 rw [fl_succ]
 unfold brC poss
 rw [hset] at hp ⊢
 rw [hp]
 have : (p.1 == n || c.getD p.1 0 == (p.1 : Int)) = true := by
  by_cases e : p.1 = n
  ·simp [e]
  ·rcases h1 with h1 | h1
   ·omega
   ·rw [← fl_get hset e, h1]; simp
 rw [this]
 rfl
theorem fl_part {k m : Nat} (h : k <= m) : ∃ r, flC a en n c m = flC a en n c k ++ r := by
 induction m with
 | zero => have : k = 0 := by omega
           subst this; exact ⟨[], by simp⟩
 | succ m ih =>
  by_cases e : k = m + 1
  ·subst e; exact ⟨[], by simp⟩
  ·obtain ⟨r, hr⟩ := ih (by omega)
   exact ⟨r ++ brC (poss a) en n c m, by rw [fl_succ, hr, List.append_assoc]⟩
theorem fl_key (hL : L = flC a en n c (n + 1)) (hset : ∀ x : Int, p.2.set n x = c.set n x) (h1 : ¬ (p.1 : Int) < n ∨ p.2.getD p.1 0 = (p.1 : Int)) (hle : (p.1 : Int) <= n) (hp : possI a (p.2.set n (p.1 : Int)) (n : Int) = true) : ∃ r, L = flC a en n c p.1 ++ (en (p.2.set n (p.1 : Int)) ++ r) := by
 obtain ⟨r, hr⟩ := fl_part (a := a) (en := en) (n := n) (c := c) (k := p.1 + 1) (m := n + 1) (by omega)
 exact ⟨r, by rw [hL, hr, fl_yes hset h1 hle hp, List.append_assoc]⟩
theorem fl_pre (hL : L = flC a en n c (n + 1)) (hset : ∀ x : Int, p.2.set n x = c.set n x) (h1 : ¬ (p.1 : Int) < n ∨ p.2.getD p.1 0 = (p.1 : Int)) (hle : (p.1 : Int) <= n) (hp : possI a (p.2.set n (p.1 : Int)) (n : Int) = true) (hT : γ ++ L <+: T) : γ ++ flC a en n c p.1 ++ en (p.2.set n (p.1 : Int)) <+: T := by
 obtain ⟨r, hr⟩ := fl_key hL hset h1 hle hp
 refine List.IsPrefix.trans ?_ hT
 rw [hr]
 exact ⟨r, by simp⟩
theorem fl_all (hL : L = flC a en n c (n + 1)) (hset : ∀ x : Int, p.2.set n x = c.set n x) (h1 : ¬ (p.1 : Int) < n ∨ p.2.getD p.1 0 = (p.1 : Int)) (hle : (p.1 : Int) <= n) (hp : possI a (p.2.set n (p.1 : Int)) (n : Int) = true) (hg : (en (p.2.set n (p.1 : Int))).all go = false) (hf : (flC a en n c p.1).all go = true) : false = L.all go /\ γ ++ flC a en n c p.1 ++ upTo go (en (p.2.set n (p.1 : Int))) = γ ++ upTo go L := by
 obtain ⟨r, hr⟩ := fl_key hL hset h1 hle hp
 rw [hr]
 refine ⟨by rw [List.all_append, List.all_append, hg]; simp, ?_⟩
 rw [upTo_append, hf, cond_true, upTo_append, hg, cond_false, List.append_assoc]
theorem fl_end (hL : L = flC a en n c (n + 1)) (hp : p.1 <= n + 1) (hle : ¬ (p.1 : Int) <= n) (hf : (flC a en n c p.1).all go = true) : true = L.all go /\ γ ++ flC a en n c p.1 = γ ++ upTo go L := by
 have : p.1 = n + 1 := by omega
 rw [this] at hf ⊢
 rw [hL, hf, upTo_all hf]
 exact ⟨rfl, rfl⟩
end
end Go.SE

namespace Go.SE
open Go.RowKit
def hz (a : GAsn) (q : Int -> Bool) : Nat -> Bool := fun k => isT (k : Int) && (((k : Int) == 0) || (occ a k || q k))
theorem tsOr {x y : Int} (hx0 : 0 <= x) (hx : x < 512) (hy0 : 0 <= y) (hy : y < 512) : 0 <= bits .or .u16 x y /\ bits .or .u16 x y < 512 /\ ∀ t, tsHas (bits .or .u16 x y) t = (tsHas x t || tsHas y t) := by
 rw [u16_or _ _ hx0 (by omega) hy0 (by omega)]
 refine ⟨by omega, ?_, fun t => ?_⟩
 ·have h1 : x.toNat < 2 ^ 9 := by omega
  have h2 : y.toNat < 2 ^ 9 := by omega
  have := Nat.or_lt_two_pow h1 h2
  omega
 ·simp only [tsHas, Int.toNat_natCast, Nat.testBit_or]
  cases isT t <;> simp
theorem itEn_or {a : GAsn} (ha : asV a = true) {s : Int} (h0 : 0 <= s) (h1 : s < 512) : itEn a (bits .or .u16 (tsWith (tsA a) 0) s) = casesB a (hz a (tsHas s)) /\ itPre a (bits .or .u16 (tsWith (tsA a) 0) s) := by
 have hb := tsA_bd a
 have hw := tsWith_bd (t := 0) hb.1 hb.2
 obtain ⟨o1, o2, o3⟩ := tsOr hw.1 hw.2 h0 h1
 refine ⟨?_, ha, o1, o2⟩
 unfold itEn
 have : hasN (bits .or .u16 (tsWith (tsA a) 0) s) = hz a (tsHas s) := by
  funext k
  unfold hasN hz
  rw [o3, tsHas_with hb.1 rfl, tsA_has ha]
  cases hk : isT (k : Int) with
  | true =>
   rw [Bool.true_and, BEq.comm]
   cases occ a (k : Int) <;> cases ((k : Int) == 0) <;> cases tsHas s (k : Int) <;> rfl
  | false =>
   have e1 : occ a (k : Int) = false := by rw [← tsA_has ha]; simp [tsHas, hk]
   have e2 : ((0 : Int) == (k : Int)) = false := by
    cases h : ((0 : Int) == (k : Int)) with
    | false => rfl
    | true => have : (0 : Int) = (k : Int) := by simpa using h
              rw [← this] at hk; cases hk
   have e3 : tsHas s (k : Int) = false := by simp [tsHas, hk]
   rw [e1, e2, e3]; rfl
 rw [this]
theorem hz_congr {a : GAsn} {q r : Int -> Bool} (h : ∀ k : Int, isT k = true -> q k = r k) : hz a q = hz a r := by
 funext k
 unfold hz
 cases hk : isT (k : Int) with
 | false => rfl
 | true => rw [h _ hk]
theorem hz_named {a : GAsn} (ha : asV a = true) (q : Int -> Bool) : Named a (hz a q) := by
 obtain ⟨h1, _, h2, _⟩ := asV_facts ha
 have key : ∀ t : Int, isT t = true -> occ a t = true -> 0 <= t /\ t <= 8 /\ hz a q t.toNat = true := fun t ht ho => by
  obtain ⟨h3, h4⟩ := isT_iff.1 ht
  refine ⟨h3, h4, ?_⟩
  unfold hz
  have : ((t.toNat : Nat) : Int) = t := by omega
  rw [this, ht, ho]
  simp
 refine ⟨fun f hf => ?_, fun x hx => ?_⟩
 ·have hv := fV_isT (List.all_eq_true.1 h1 f hf)
  obtain ⟨a1, a2, a3⟩ := key f.a hv.1 (by unfold occ occF; rw [List.any_eq_true.2 ⟨f, hf, by simp⟩]; rfl)
  obtain ⟨b1, b2, b3⟩ := key f.b hv.2 (by unfold occ occF; rw [List.any_eq_true.2 ⟨f, hf, by simp⟩]; rfl)
  exact ⟨a1, a2, b1, b2, a3, b3⟩
 ·have hv := atV_isT (List.all_eq_true.1 h2 x hx)
  have ho : ∀ t, (x.a == t || x.b == t) = true -> occ a t = true := fun t ht => by
   unfold occ occG
   rw [List.any_eq_true.2 ⟨x, hx, ht⟩, Bool.or_true]
  obtain ⟨a1, a2, a3⟩ := key x.a hv.1 (ho _ (by simp))
  obtain ⟨b1, b2, b3⟩ := key x.b hv.2 (ho _ (by simp))
  exact ⟨a1, a2, b1, b2, a3, b3⟩
section
variable {α : Type} {L : List α} {q : α -> Bool} {i : Nat} {c d : α}
theorem first_hit (h : L[i]? = some c) (ht : (L.take i).all q = true) (hq : q c = false) : (L.filter fun x => !q x).headD d = c /\ (L.filter fun x => !q x).isEmpty = false /\ L.all q = false := by
 have hi := (List.getElem?_eq_some_iff.1 h).1
 have e : L = L.take i ++ (c :: L.drop (i + 1)) := by
  have h2 : L.drop i = c :: L.drop (i + 1) := by
   rw [List.drop_eq_getElem_cons hi]
   rw [List.getElem?_eq_getElem hi] at h
   injection h with h
   rw [h]
  rw [← h2, List.take_append_drop]
 have hf : (L.take i).filter (fun x => !q x) = [] := by
  rw [List.filter_eq_nil_iff]
  intro x hx
  rw [List.all_eq_true.1 ht x hx]
  simp
 have e2 : L.filter (fun x => !q x) = c :: (L.drop (i + 1)).filter fun x => !q x := by
  conv => lhs; rw [e]
  rw [List.filter_append, hf, List.nil_append, List.filter_cons, hq]
  simp
 refine ⟨by rw [e2]; rfl, by rw [e2]; rfl, ?_⟩
 rw [List.all_eq_false]
 exact ⟨c, List.mem_of_getElem? h, by rw [hq]; simp⟩
theorem first_none (h : L.all q = true) : (L.filter fun x => !q x) = [] := by
 rw [List.filter_eq_nil_iff]
 intro x hx
 rw [List.all_eq_true.1 h x hx]
 simp
end
theorem fL_step {c : List Int} {l : List GAtom} {i : Nat} {d : GAtom} (h : i < l.length) :
  fL c (l.take (i + 1)) = cond (filB c (l.getD i d)) (fL c (l.take i) ++ [⟨(l.getD i d).kind, cl c (l.getD i d).a, cl c (l.getD i d).b⟩]) (fL c (l.take i)) := by
 have e : l.take (i + 1) = l.take i ++ [l.getD i d] := by
  rw [List.take_add_one, List.getD_eq_getElem?_getD, List.getElem?_eq_getElem h]; rfl
 unfold fL
 rw [e, List.map_append, List.filter_append]
 generalize l.getD i d = y
 have : filB c y = (y.kind == 1 || !(cl c y.a == cl c y.b)) := rfl
 cases hb : filB c y <;> rw [this] at hb <;> simp [List.filter, hb]
theorem fL_len (c : List Int) (l : List GAtom) : (fL c l).length <= l.length := by
 unfold fL
 exact Nat.le_trans (List.length_filter_le _ _) (by simp)
theorem atom_idx {l : List GAtom} (h : l.all atV = true) {i : Nat} (hi : i < l.length) : 0 <= (l.getD i ⟨0, 0, 0⟩).a /\ (l.getD i ⟨0, 0, 0⟩).a <= 8 /\ 0 <= (l.getD i ⟨0, 0, 0⟩).b /\ (l.getD i ⟨0, 0, 0⟩).b <= 8 := by
 have h1 := atV_isT (all_get (d := ⟨0, 0, 0⟩) h hi)
 have h2 := isT_iff.1 h1.1
 have h3 := isT_iff.1 h1.2
 omega
section
variable {fin : List Int -> Bool} {a : GAsn} {tm : List Bool} {c : List Int} {t : Int} {i : Nat}
end
end Go.SE

namespace Go.SE
open Go.RowKit
end Go.SE

namespace Go.SE
open Go.RowKit
def filt (v : Int -> Int) (l : List GAtom) : List GAtom := l.filter fun x => x.kind == 1 || !(v x.a == v x.b)
structure possV (a : GAsn) (v : Int -> Int) : Prop where
 facts : ∀ f ∈ a.facts, (v f.a == v f.b) = f.eq
 nil : ∀ x ∈ filt v a.atoms, v x.a ≠ v 0
 apart : (filt v a.atoms).Pairwise fun x y => v x.a ≠ v y.a
theorem okS_iff : ∀ (l s : List Int), (∀ x ∈ l, isT x = true) -> (okS s l = true ↔ (∀ x ∈ l, x ≠ 0) /\ (∀ x ∈ l, s.contains x = false) /\ l.Pairwise (· ≠ ·)) := by
 intro l
 induction l with
 | nil => intro s _; simp [okS]
 | cons x l ih =>
  intro s h
  have ih := ih (x :: s) fun y hy => h y (by simp [hy])
  simp only [okS, h x (by simp), Bool.true_and, Bool.and_eq_true, ih, Bool.not_eq_true', beq_eq_false_iff_ne, List.pairwise_cons, List.mem_cons, forall_eq_or_imp, List.contains_cons, Bool.or_eq_false_iff]
  constructor
  ·rintro ⟨h1, h2, h3, h4, h5⟩
   exact ⟨⟨h1, h3⟩, ⟨h2, fun y hy => (h4 y hy).2⟩, fun y hy e => (h4 y hy).1 e.symm, h5⟩
  ·rintro ⟨⟨h1, h3⟩, ⟨h2, h4⟩, h5, h6⟩
   exact ⟨h1, h2, h3, fun y hy => ⟨fun e => h5 y hy e.symm, h4 y hy⟩, h6⟩
theorem possI_iff {a : GAsn} {has : Nat -> Bool} (hn : Named a has) {d : List Int} (hd : d ∈ fulls has) (h0 : has 0 = true) : possI a d 8 = true ↔ possV a (cl d) := by
 obtain ⟨hl, hv⟩ := fulls_mem hd
 have hcl : ∀ y : Int, 0 <= y -> y <= 8 -> has y.toNat = true -> 0 <= cl d y /\ cl d y <= 8 := fun y h0 h8 hy => by
  have := hv y.toNat (by omega)
  rw [hy] at this
  simp only [cond_true, Bool.and_eq_true, decide_eq_true_eq] at this
  unfold cl
  omega
 have hz0 : cl d 0 = 0 := by
  have := hv 0 (by decide)
  rw [h0] at this
  simp only [cond_true, Bool.and_eq_true, decide_eq_true_eq] at this
  unfold cl
  simp only [Int.toNat_zero]
  omega
 have es : sts d 8 a.atoms = (filt (cl d) a.atoms).map fun x => cl d x.a := by
  unfold sts filt
  congr 1
  refine List.filter_congr fun x hx => ?_
  obtain ⟨h3, h4, h5, h6, _⟩ := hn.2 x hx
  unfold stB filB
  rw [decide_eq_true h4, decide_eq_true h6]; rfl
 have hT : ∀ x ∈ sts d 8 a.atoms, isT x = true := fun x hx => by
  simp only [sts, List.mem_map, List.mem_filter] at hx
  obtain ⟨y, ⟨hy, _⟩, rfl⟩ := hx
  obtain ⟨h3, h4, h5, h6, h7, h8⟩ := hn.2 y hy
  exact isT_iff.2 (hcl _ h3 h4 h7)
 unfold possI
 rw [Bool.and_eq_true, okS_iff _ _ hT, es, List.pairwise_map]
 have ef : possF d 8 a.facts = true ↔ ∀ f ∈ a.facts, (cl d f.a == cl d f.b) = f.eq := by
  unfold possF
  rw [List.all_eq_true]
  refine ⟨fun h f hf => ?_, fun h f hf => ?_⟩
  ·have := h f hf
   obtain ⟨h3, h4, h5, h6, _⟩ := hn.1 f hf
   rw [decide_eq_true h4, decide_eq_true h6] at this
   unfold fh at this
   simpa using this
  ·unfold fh
   rw [h f hf]; simp
 rw [ef]
 constructor
 ·rintro ⟨h1, h2, _, h3⟩
  exact ⟨h1, fun x hx => by rw [hz0]; exact h2 _ (List.mem_map.2 ⟨x, hx, rfl⟩), h3⟩
 ·rintro ⟨h1, h2, h3⟩
  refine ⟨h1, fun x hx => ?_, fun _ _ => rfl, h3⟩
  obtain ⟨y, hy, rfl⟩ := List.mem_map.1 hx
  have := h2 y hy
  rw [hz0] at this
  exact this
def goodAt (has : Nat -> Bool) (d : List Int) (j : Nat) : Prop := (has j = true /\ ∃ k : Nat, k <= j /\ d.getD j 0 = (k : Int) /\ (k = j ∨ d.getD k 0 = (k : Int))) ∨ (has j = false /\ d.getD j 0 = -1)
theorem fEn_of {has : Nat -> Bool} {d : List Int} (hd : d.length = 9) : ∀ (f t : Nat) (c : List Int), f + t = 9 -> c.length = 9 -> (∀ j, j < t -> d.getD j 0 = c.getD j 0) -> (∀ j, t <= j -> j < 9 -> goodAt has d j) -> d ∈ fEn has f t c := by
 intro f
 induction f with
 | zero =>
  intro t c ht hc hag _
  simp only [fEn, List.mem_singleton]
  apply List.ext_getElem (by omega)
  intro j h1 h2
  have := hag j (by omega)
  rw [List.getD_eq_getElem?_getD, List.getD_eq_getElem?_getD, List.getElem?_eq_getElem h1, List.getElem?_eq_getElem h2] at this
  exact this
 | succ f ih =>
  intro t c ht hc hag hg
  have key : ∀ x : Int, d.getD t 0 = x -> d ∈ fEn has f (t + 1) (c.set t x) := fun x hx => by
   refine ih (t + 1) _ (by omega) (by simp [hc]) (fun j hj => ?_) fun j h1 h2 => hg j (by omega) h2
   by_cases e : j = t
   ·subst e; rw [getD_set_eq (by omega), hx]
   ·rw [getD_set_ne e]; exact hag j (by omega)
  simp only [fEn]
  rcases hg t (Nat.le_refl _) (by omega) with ⟨hh, k, hk, hv, hk2⟩ | ⟨hh, hv⟩
  ·rw [hh, cond_true, List.mem_flatMap]
   refine ⟨k, List.mem_range.2 (by omega), ?_⟩
   have : (k == t || c.getD k 0 == (k : Int)) = true := by
    rcases hk2 with rfl | hk2
    ·simp
    ·by_cases e : k = t
     ·simp [e]
     ·rw [← hag k (by omega), hk2]; simp
   rw [this, cond_true]
   exact key _ hv
  ·rw [hh, cond_false]
   exact key _ hv
theorem fulls_of {has : Nat -> Bool} {d : List Int} (hd : d.length = 9) (hg : ∀ j, j < 9 -> goodAt has d j) : d ∈ fulls has :=
 fEn_of hd 9 0 _ rfl rfl (fun j hj => by omega) fun j _ h => hg j h
def repV (has : Nat -> Bool) (v : Int -> Int) (x : Int) : Option Nat := (List.range 9).find? fun k => has k && v k == x
def canon (has : Nat -> Bool) (v : Int -> Int) : List Int := (List.range 9).map fun t => cond (has t) (((repV has v (v t)).getD 0 : Nat) : Int) (-1)
theorem canon_get {has : Nat -> Bool} {v : Int -> Int} {t : Nat} (ht : t < 9) : (canon has v).getD t 0 = cond (has t) (((repV has v (v t)).getD 0 : Nat) : Int) (-1) := by
 unfold canon
 rw [List.getD_eq_getElem?_getD, List.getElem?_eq_getElem (by simpa using ht)]
 simp
theorem repV_spec {has : Nat -> Bool} {v : Int -> Int} {t : Nat} (ht : t < 9) (hh : has t = true) : ∃ k, repV has v (v t) = some k /\ k <= t /\ has k = true /\ v k = v t := by
 cases hr : repV has v (v t) with
 | none =>
  exfalso
  have := List.find?_eq_none.1 hr t (List.mem_range.2 ht)
  simp [hh] at this
 | some k =>
  obtain ⟨h1, h2, h3⟩ := List.find?_range_eq_some.1 hr
  simp only [Bool.and_eq_true, beq_iff_eq] at h1
  refine ⟨k, rfl, ?_, h1.1, h1.2⟩
  by_cases e : k <= t
  ·exact e
  ·have := h3 t (by omega)
   simp [hh] at this
theorem canon_mem (has : Nat -> Bool) (v : Int -> Int) : canon has v ∈ fulls has := by
 refine fulls_of (by simp [canon]) fun j hj => ?_
 unfold goodAt
 cases hh : has j with
 | false => right; refine ⟨rfl, ?_⟩; rw [canon_get hj, hh]; rfl
 | true =>
  left
  obtain ⟨k, h1, h2, h3, h4⟩ := repV_spec (v := v) hj hh
  refine ⟨rfl, k, h2, by rw [canon_get hj, hh, h1]; rfl, .inr ?_⟩
  rw [canon_get (by omega), h3, h4, h1]; rfl
theorem canon_eq {has : Nat -> Bool} {v : Int -> Int} {s t : Int} (hs0 : 0 <= s) (hs : s <= 8) (ht0 : 0 <= t) (ht : t <= 8) (h1 : has s.toNat = true) (h2 : has t.toNat = true) : (cl (canon has v) s == cl (canon has v) t) = (v s == v t) := by
 unfold cl
 rw [canon_get (by omega), canon_get (by omega), h1, h2]
 obtain ⟨k1, a1, a2, a3, a4⟩ := repV_spec (v := v) (t := s.toNat) (by omega) h1
 obtain ⟨k2, b1, b2, b3, b4⟩ := repV_spec (v := v) (t := t.toNat) (by omega) h2
 have es : ((s.toNat : Nat) : Int) = s := by omega
 have et : ((t.toNat : Nat) : Int) = t := by omega
 rw [es] at a1 a4 ⊢
 rw [et] at b1 b4 ⊢
 rw [a1, b1]
 simp only [cond_true, Option.getD_some]
 rw [Bool.eq_iff_iff, beq_iff_eq, beq_iff_eq]
 constructor
 ·intro h
  have : k1 = k2 := by omega
  subst this
  rw [← a4, ← b4]
 ·intro h
  rw [h, b1] at a1
  injection a1 with a1
  rw [a1]
theorem possV_congr {a : GAsn} {v w : Int -> Int} (p : Int -> Prop) (h : ∀ s t, p s -> p t -> (v s == v t) = (w s == w t)) (h0 : p 0) (hf : ∀ f ∈ a.facts, p f.a /\ p f.b) (hx : ∀ x ∈ a.atoms, p x.a /\ p x.b) (hv : possV a v) : possV a w := by
 have ef : filt v a.atoms = filt w a.atoms := List.filter_congr fun x hm => by rw [h _ _ (hx x hm).1 (hx x hm).2]
 have hne : ∀ s t, p s -> p t -> v s ≠ v t -> w s ≠ w t := fun s t hs ht hn => by
  have := h s t hs ht
  rw [beq_eq_false_iff_ne.2 hn] at this
  exact beq_eq_false_iff_ne.1 this.symm
 have hm : ∀ x ∈ filt w a.atoms, p x.a := fun x hx' => (hx x (List.mem_filter.1 hx').1).1
 obtain ⟨h1, h2, h3⟩ := hv
 rw [ef] at h2 h3
 refine ⟨fun f hf' => by rw [← h _ _ (hf f hf').1 (hf f hf').2]; exact h1 f hf', fun x hx' => hne _ _ (hm x hx') h0 (h2 x hx'), ?_⟩
 exact h3.imp_of_mem fun hx' hy' hn => hne _ _ (hm _ hx') (hm _ hy') hn
theorem cases_all {a : GAsn} {has : Nat -> Bool} (hn : Named a has) (h0 : has 0 = true) (Q : (Int -> Int) -> Bool) (hQ : ∀ v w : Int -> Int, (∀ s t : Int, 0 <= s -> s <= 8 -> has s.toNat = true -> 0 <= t -> t <= 8 -> has t.toNat = true -> (v s == v t) = (w s == w t)) -> Q v = Q w) :
  ((casesB a has).all fun d => Q (cl d)) = true ↔ ∀ v, possV a v -> Q v = true := by
 rw [casesB_eq hn, List.all_eq_true]
 constructor
 ·intro h v hv
  have hm := canon_mem has v
  have hp : possV a (cl (canon has v)) := possV_congr (fun t => 0 <= t /\ t <= 8 /\ has t.toNat = true) (fun s t hs ht => (canon_eq hs.1 hs.2.1 ht.1 ht.2.1 hs.2.2 ht.2.2).symm) ⟨by decide, by decide, h0⟩
   (fun f hf => by obtain ⟨a1, a2, a3, a4, a5, a6⟩ := hn.1 f hf; exact ⟨⟨a1, a2, a5⟩, a3, a4, a6⟩) (fun x hx => by obtain ⟨a1, a2, a3, a4, a5, a6⟩ := hn.2 x hx; exact ⟨⟨a1, a2, a5⟩, a3, a4, a6⟩) hv
  have := h _ (List.mem_filter.2 ⟨hm, (possI_iff hn hm h0).2 hp⟩)
  rw [hQ v (cl (canon has v)) fun s t s0 s8 hs t0 t8 ht => (canon_eq s0 s8 t0 t8 hs ht).symm]
  exact this
 ·intro h d hd
  obtain ⟨h1, h2⟩ := List.mem_filter.1 hd
  exact h _ ((possI_iff hn h1 h0).1 h2)
theorem hz_has {a : GAsn} {q : Int -> Bool} {t : Int} (h : isT t = true) (hq : q t = true) : hz a q t.toNat = true := by
 have := isT_iff.1 h
 unfold hz
 rw [show ((t.toNat : Nat) : Int) = t by omega, h, hq]
 simp
end Go.SE

namespace Go.SE
open Go.RowKit
end Go.SE

namespace Go.SE
open Go.RowKit
section
variable {fin : List Int -> Bool} {a : GAsn} {tm : List Bool} {c : List Int} {t : Int} {i : Nat}
end
def bgn (l : List GAtom) (c : Int) : Bool := l.any fun x => x.a == c
theorem bgn_yes {l : List GAtom} {c : Int} {i : Nat} {d : GAtom} (hi : i < l.length) (h : (l.getD i d).a = c) : bgn l c = true := by
 unfold bgn
 rw [List.any_eq_true]
 refine ⟨l.getD i d, ?_, by simpa using h⟩
 rw [List.getD_eq_getElem?_getD, List.getElem?_eq_getElem hi]; exact List.getElem_mem hi
theorem bgn_step {l : List GAtom} {c : Int} {i : Nat} {d : GAtom} (hi : i < l.length) (h : bgn (l.take i) c = false) (hn : ¬ (l.getD i d).a = c) : bgn (l.take (i + 1)) c = false := by
 have e : l.take (i + 1) = l.take i ++ [l.getD i d] := by
  rw [List.take_add_one, List.getD_eq_getElem?_getD, List.getElem?_eq_getElem hi]; rfl
 unfold bgn at h ⊢
 rw [e, List.any_append, h]
 simpa using hn
theorem bgn_end {l : List GAtom} {c : Int} {i : Nat} (hi : ¬ i < l.length) (h : bgn (l.take i) c = false) : bgn l c = false := by
 rw [List.take_of_length_le (by omega)] at h; exact h
section
variable {a : GAsn} {t : Int}
end
end Go.SE

namespace Go.SE
open Go.RowKit
structure CCon where
 k1 : List AK
 t : Ty
 k2 : List AK
 pre : Args k1 -> List t.den -> Args k2 -> Prop
 out : Args k1 -> List t.den -> Args k2 -> List t.den
section
variable {P : Program} {E : Ty -> TypeId} {tab : TypeId -> Option TI} {K : FuncId -> Option Con} {pts : FuncId -> Option PT} {hp : Nat -> Bool} {perm : Nat -> List (List Nat)}
abbrev CCon.lim (c : CCon) (mu : Args c.k1 -> List c.t.den -> Args c.k2 -> Nat) (m : Nat) : CCon := { c with pre := fun x l y => c.pre x l y /\ mu x l y < m }
end
end Go.SE

namespace Go.SE
open Go.RowKit
def six (a b c d e f : Bool) : List Bool := [a, b, c, d, e, f]
theorem six_eta {u : List Bool} (h : u.length = 6) : six (u.getD 0 false) (u.getD 1 false) (u.getD 2 false) (u.getD 3 false) (u.getD 4 false) (u.getD 5 false) = u := by
 match u, h with
 | [_, _, _, _, _, _], _ => rfl
def sx6 (u : List Bool) : List Bool := six (u.getD 0 false) (u.getD 1 false) (u.getD 2 false) (u.getD 3 false) (u.getD 4 false) (u.getD 5 false)
theorem sx6_eta {u : List Bool} (h : u.length = 6) : sx6 u = u := six_eta h
def usedAt (st : St) (id : Nat) : List Bool :=
 match st.mem id with
 | some (.blk [_, .d (.val (.bool b0)), .d (.val (.bool b1)), .d (.val (.bool b2)), .d (.val (.bool b3)), .d (.val (.bool b4)), .d (.val (.bool b5)), _]) => six b0 b1 b2 b3 b4 b5
 | _ => []
def numAt (st : St) (id : Nat) : Int :=
 match st.mem id with
 | some (.blk [_, _, _, _, _, _, _, .d (.val (.int .i64 n))]) => n
 | _ => 0
structure BCon where
 k2 : List AK
 rks : List AK
 pre : List GAtom -> List Bool -> Int -> Args k2 -> Prop
 used : List GAtom -> List Bool -> Int -> Args k2 -> List Bool
 num : List GAtom -> List Bool -> Int -> Args k2 -> Int
 val : List GAtom -> List Bool -> Int -> Args k2 -> Args rks
def bmCells (c0 : CV) (u : List Bool) (n : Int) : List CV :=
 [c0, .d (.val (.bool (u.getD 0 false))), .d (.val (.bool (u.getD 1 false))), .d (.val (.bool (u.getD 2 false))), .d (.val (.bool (u.getD 3 false))), .d (.val (.bool (u.getD 4 false))), .d (.val (.bool (u.getD 5 false))), .d (.val (.int .i64 n))]
def ptBk (c : BCon) (id base : Nat) (st : St) (k : S -> St -> Prop) (c0 : CV) (l : List GAtom) (u : List Bool) (n : Int) (ids : List Nat) (x2 : Args c.k2) : Prop :=
 st.sp id = false /\ st.fr id = false /\ notSpent st ids /\ freeL st (rids c.rks base) /\ c.pre l u n x2 /\
  k (pack1 (ress c.rks base (c.val l u n x2)).1) { st with mem := upd (adds st.mem (ress c.rks base (c.val l u n x2)).2) id (some (.blk (bmCells c0 (c.used l u n x2) (c.num l u n x2)))) }
def ptB3 (c : BCon) (id base : Nat) (st : St) (k : S -> St -> Prop) (c0 : CV) (u : List Bool) (n : Int) : Option (List GAtom) -> Option (List Nat) -> Option (Args c.k2) -> Prop
 | some l, some ids, some x2 => ptBk c id base st k c0 l u n ids x2
 | _, _, _ => False
def ptB2 (c : BCon) (id base : Nat) (st : St) (k : S -> St -> Prop) (rest : List S0) : Option Res -> Prop
 | some (.blk [c0, .d (.val (.bool b0)), .d (.val (.bool b1)), .d (.val (.bool b2)), .d (.val (.bool b3)), .d (.val (.bool b4)), .d (.val (.bool b5)), .d (.val (.int .i64 n))]) =>
  ptB3 c id base st k c0 (six b0 b1 b2 b3 b4 b5) n (rdl st.mem .atom (weak c0)) (ownsC st.mem (refsC c0 ++ refsAr rest)) (decs st.mem c.k2 rest)
 | _ => False
def ptB (c : BCon) : PT := fun args base st k => match args with
 | .c (.ptr id 0) :: rest => ptB2 c id base st k rest (st.mem id)
 | _ => False
section
variable {P : Program} {E : Ty -> TypeId} {tab : TypeId -> Option TI} {K : FuncId -> Option Con} {pts : FuncId -> Option PT} {hp : Nat -> Bool} {perm : Nat -> List (List Nat)}
def isoStB (c : BCon) (l : List GAtom) (u : List Bool) (n : Int) (x2 : Args c.k2) (v : Value) : St :=
 { env := envOf (.c (.ptr 7 0) :: encs c.k2 x2) 0, mem := upd (fun _ => none) 7 (some (.blk (bmCells (.d (.fix .atom l v)) u n))), sp := fun _ => false, fr := fun _ => false, base := 16, rd := none }
def isBm (v : Value) (u : List Bool) (n : Int) : Option Res -> Prop
 | some (.blk [.d (.fix _ _ v'), .d (.val (.bool b0)), .d (.val (.bool b1)), .d (.val (.bool b2)), .d (.val (.bool b3)), .d (.val (.bool b4)), .d (.val (.bool b5)), .d (.val (.int .i64 n'))]) =>
  v' = v /\ six b0 b1 b2 b3 b4 b5 = u /\ n' = n
 | _ => False
def noneL : List Nat -> Prop
 | [] => True
 | _ => False
def retB (tab : TypeId -> Option TI) (c : BCon) (rvs : List ResultVar) (l : List GAtom) (u : List Bool) (n : Int) (x2 : Args c.k2) (v : Value) : XK -> St -> Prop
 | .exit _, _ => False
 | _, st => match loadsS tab st rvs with
  | none => False
  | some ss => match decRs st.mem c.rks ss with
   | none => False
   | some (r, out, fz) => r = c.val l u n x2 /\ allDiff out /\ notFrozen st out /\ noneL fz /\ (st.sp 7 = false /\ st.fr 7 = false) /\ isBm v (c.used l u n x2) (c.num l u n x2) (st.mem 7)
theorem dr_val' {ro : Nat -> Option (Array Value)} {x v : Value} (h : DR ro (.val x) v) : v = x /\ x.oneCell' = true := by
 generalize hc : DC.val x = c at h
 cases h with
 | val y hy => injection hc with hc; subst hc; exact ⟨rfl, hy⟩
 | nil => cases hc
 | arr => cases hc
 | fix => cases hc
theorem dr_fix {ro : Nat -> Option (Array Value)} {t : Ty} {xs : List t.den} {u v : Value} (h : DR ro (.fix t xs u) v) : v = u := by
 generalize hc : DC.fix t xs u = c at h
 cases h with
 | val y hy => cases hc
 | nil => cases hc
 | arr => cases hc
 | fix t' xs' v' h' => injection hc with h1 h2 h3; exact h3.symm
theorem iso_callB (ht : TabOk P E tab) (hKA : KAll P E K) (hPA : PAll P E pts) (hmix : P.follows .mixedOrders = true) (hdr : ∀ w0 M n, DrawSound P E tab K w0 M n) {f : FuncId} {fn : Func} (hf : P.funcs[f]? = some fn) (hb : fn.body = some (bodyOf fn)) {c : BCon} (hn : c.k2.length + 1 <= fn.ntmps)
  (hok : codeOkP tab K hp perm fn.ntmps (bodyOf fn) = true) {anns : List GAtom -> List Bool -> Int -> Args c.k2 -> Value -> Nat -> St -> Option Ann}
  (hvc : ∀ l u n x2 v, c.pre l u n x2 -> vcR tab K pts hp (anns l u n x2 v) perm [7] (bodyOf fn) (isoStB c l u n x2 v) (retB tab c fn.results.toList l u n x2 v))
  {w : World} {ro : Nat -> Option (Array Value)} {ρ : Nat} {l : List GAtom} {u : List Bool} {n : Int} {x2 : Args c.k2} (id0 : Nat) (hpre : c.pre l u n x2) {b : Nat} {vs : Array Value} {ty : TypeId} {v0 : Value} {vs2 : List Value} (hin : ROin w ro) (h2 : ArgsR (argG ro ρ) (encs c.k2 x2) vs2)
  (hbk : w.heap[b]? = some (.cells vs ty (0, 0))) (hvs : Cells (argG ro ρ) (bmCells (.d (.fix .atom l v0)) u n) vs) (hrob : ro b = none) :
  Calls P f (.pointer (some ⟨b, 0, none⟩) :: vs2).toArray w fun e w' => ∃ v gc vs' ty', e = .returned v /\ Ext (fun b' => b' = b) w w' /\ gc.ρ = ρ /\ ResOk E w w' ro c.rks id0 (c.val l u n x2) v gc /\ w'.heap[b]? = some (.cells vs' ty' (0, 0)) /\
   vs' = #[v0, .bool ((c.used l u n x2).getD 0 false), .bool ((c.used l u n x2).getD 1 false), .bool ((c.used l u n x2).getD 2 false), .bool ((c.used l u n x2).getD 3 false), .bool ((c.used l u n x2).getD 4 false), .bool ((c.used l u n x2).getD 5 false), .int .i64 (c.num l u n x2)] /\
   (∀ id q, (id, q) ∈ (ress c.rks id0 (c.val l u n x2)).2 -> blkOf (gc.κ id) ≠ some b) := by
 let M : MM := ⟨fun b' => b' = b, ro, ρ, fun id => if id = 7 then some (.pointer (some ⟨b, 0, none⟩)) else none, fun _ => none, ro⟩
 let g : G := { ro, κ := fun id => if id = 7 then .pointer (some ⟨b, 0, none⟩) else undef, ln := fun _ => 0, ρ }
 have one : ∀ id r, (isoStB c l u n x2 v0).mem id = some r -> id = 7 /\ r = .blk (bmCells (.d (.fix .atom l v0)) u n) := by
  intro id r h
  simp only [isoStB, upd] at h
  split at h
  ·rename_i e; injection h with h; exact ⟨e, h.symm⟩
  ·cases h
 have hκ : ∀ b', blkOf (g.κ 7) = some b' -> b' = b := fun b' h => by
  have h : some b = some b' := h
  injection h with h; exact h.symm
 have norefs : refsL (bmCells (.d (.fix .atom l v0)) u n) = [] := rfl
 have hgood : Good E w M g (isoStB c l u n x2 v0) w := by
  refine ⟨Ext.refl _ _, hin, ?_, ?_, ?_, ?_, (fun m hm => by cases hm), (fun h => (h rfl).elim), (fun b vs hb => .inl hb), rfl, ?_, ⟨(fun _ _ h => by cases h), fun b vs hb => hb⟩⟩
  ·intro id r h
   obtain ⟨rfl, rfl⟩ := one id r h
   exact ⟨b, vs, ty, rfl, hbk, hvs.mono (g := argG ro ρ) (g' := g) (fun _ _ h => h) rfl fun id hid => by rw [norefs] at hid; cases hid⟩
  ·intro i j r s hi hj hij
   exact (hij ((one i r hi).1.trans (one j s hj).1.symm)).elim
  ·intro id r h _ b' hb'
   rw [(one id r h).1] at hb'
   exact .inr (hκ b' hb')
  ·intro id r h _ b' hb' _ _
   rw [(one id r h).1] at hb'
   rw [hκ b' hb']
   exact hrob
  ·intro id q hq
   simp only [M] at hq
   split at hq
   ·rename_i e; subst e; injection hq with hq; subst hq; exact ⟨rfl, rfl⟩
   ·cases hq
 have hOO : OOk (dom [7]) M := by
  have d7 : ∀ j, (dom [7] j).isSome = true ↔ j = 7 := fun j => by rw [dom_some]; simp [inL]
  refine ⟨fun j r hj id hid => ?_, fun id hid => ?_, fun id hid => ?_⟩
  ·unfold dom at hj
   split at hj
   ·injection hj with hj; subst hj; simp [Res.refs] at hid
   ·cases hj
  ·refine (d7 id).2 ?_
   rcases hid with hid | hid
   ·have hid : (if id = 7 then some (Value.pointer (some ⟨b, 0, none⟩)) else none).isSome = true := hid
    split at hid
    ·assumption
    ·cases hid
   ·cases hid
  ·have := (d7 id).1 hid
   subst this
   rfl
 have hargs : ∀ (j : Nat) (s : S0), (S0.c (.ptr 7 0) :: encs c.k2 x2)[j]? = some s -> ∃ u', (.pointer (some ⟨b, 0, none⟩) :: vs2)[j]? = some u' /\ s.R g u' /\ ∀ id ∈ s.refs, id = 7 := by
  intro j s hj
  cases j with
  | zero =>
   simp at hj
   subst hj
   exact ⟨_, rfl, ⟨b, rfl, rfl⟩, fun id hid => by simpa [S0.refs, CV.refs] using hid⟩
  | succ i =>
   have hj : (encs c.k2 x2)[i]? = some s := by simpa using hj
   obtain ⟨u', hu, hr⟩ := h2.2 i s hj
   have hrf := encs_refs c.k2 x2 i s hj
   exact ⟨u', by simpa using hu, S0.R.mono (g := argG ro ρ) (g' := g) (fun _ _ h => h) rfl (fun id hid => by rw [hrf] at hid; cases hid) hr, fun id hid => by rw [hrf] at hid; cases hid⟩
 have hvl : (Value.pointer (some ⟨b, 0, none⟩) :: vs2).length = (S0.c (.ptr 7 0) :: encs c.k2 x2).length := by simp [h2.1]
 have hel : (S0.c (.ptr 7 0) :: encs c.k2 x2).length <= fn.ntmps := by simp [encs_len]; omega
 have hrel : Rel E w M fn.ntmps (isoStB c l u n x2 v0) { tmps := (Value.pointer (some ⟨b, 0, none⟩) :: vs2).toArray ++ Array.replicate (fn.ntmps - (Value.pointer (some ⟨b, 0, none⟩) :: vs2).toArray.size) undef, defers := [] } w := by
  refine ⟨⟨?_, ?_⟩, by simp at hvl hel ⊢; omega, rfl, g, hgood, ?_⟩
  ·intro j id hid
   have e : (isoStB c l u n x2 v0).env j = envOf (.c (.ptr 7 0) :: encs c.k2 x2) 0 j := rfl
   rw [e] at hid
   rcases envOf_cases (.c (.ptr 7 0) :: encs c.k2 x2) 0 j with h3 | ⟨i, s, h3, _, h5⟩
   ·rw [h3] at hid; simp [SE.junk, S.refs, S0.refs, CV.refs] at hid
   ·rw [h5] at hid
    obtain ⟨_, _, _, h6⟩ := hargs i s h3
    have := h6 id hid
    subst this
    rfl
  ·intro j r h id hid
   obtain ⟨rfl, rfl⟩ := one j r h
   simp only [Res.refs, norefs] at hid
   cases hid
  ·intro j
   have e : (isoStB c l u n x2 v0).env j = envOf (.c (.ptr 7 0) :: encs c.k2 x2) 0 j := rfl
   rw [e]
   rcases envOf_cases (.c (.ptr 7 0) :: encs c.k2 x2) 0 j with h3 | ⟨i, s, h3, h4, h5⟩
   ·rw [h3]; trivial
   ·rw [h5]
    obtain ⟨u', hu, hr, _⟩ := hargs i s h3
    have hj : j = i := by omega
    subst hj
    have hlt : j < (Value.pointer (some ⟨b, 0, none⟩) :: vs2).length := (List.getElem?_eq_some_iff.1 hu).1
    have : ((Value.pointer (some ⟨b, 0, none⟩) :: vs2).toArray ++ Array.replicate (fn.ntmps - (Value.pointer (some ⟨b, 0, none⟩) :: vs2).toArray.size) undef).getD j undef = u' := by
     rw [Array.getD_eq_getD_getElem?, Array.getElem?_append_left (by simpa using hlt), List.getElem?_toArray, hu]; rfl
    show S.R _ _ (((Value.pointer (some ⟨b, 0, none⟩) :: vs2).toArray ++ Array.replicate (fn.ntmps - (Value.pointer (some ⟨b, 0, none⟩) :: vs2).toArray.size) undef).getD j undef)
    rw [this]
    exact hr
 refine calls_of_wp hf hb ?_
 refine codeR_sound ht hKA hPA hmix (hdr _ _ _) hOO (bodyOf fn) _ _ _ _ _ hok hrel (hvc l u n x2 v0 hpre) ?_
 intro xk st' a' w' hr hk
 have fin : retB tab c fn.results.toList l u n x2 v0 .ret st' -> a'.defers = [] /\ ∃ q, (results fn a'.tmps).run P w' = .ok q w' /\ ∃ v gc vs' ty', Ending.returned q = .returned v /\ Ext (fun b' => b' = b) w w' /\ gc.ρ = ρ /\ ResOk E w w' ro c.rks id0 (c.val l u n x2) v gc /\ w'.heap[b]? = some (.cells vs' ty' (0, 0)) /\
   vs' = #[v0, .bool ((c.used l u n x2).getD 0 false), .bool ((c.used l u n x2).getD 1 false), .bool ((c.used l u n x2).getD 2 false), .bool ((c.used l u n x2).getD 3 false), .bool ((c.used l u n x2).getD 4 false), .bool ((c.used l u n x2).getD 5 false), .int .i64 (c.num l u n x2)] /\
   (∀ id q, (id, q) ∈ (ress c.rks id0 (c.val l u n x2)).2 -> blkOf (gc.κ id) ≠ some b) := by
  intro hk
  unfold retB at hk
  simp only at hk
  split at hk
  ·exact hk.elim
  ·rename_i ss hss
   split at hk
   ·exact hk.elim
   ·rename_i r out fz hdec
    obtain ⟨hval, hdiff, hnf, hfz, ⟨hs7, hf7⟩, hbm⟩ := hk
    subst hval
    obtain ⟨ge, hge, henv⟩ := hr.good
    obtain ⟨us, hrun, hargs', _⟩ := loads_run (P := P) ht hge henv hr.cl hss
    have hfz0 : fz = [] := by cases fz with | nil => rfl | cons _ _ => exact hfz.elim
    subst hfz0
    have hρ : ge.ρ = ρ := hge.rho
    -- the block
    unfold isBm at hbm
    split at hbm
    ·rename_i t7 l7 v7 b0 b1 b2 b3 b4 b5 n7 hm7
     obtain ⟨rfl, hu7, rfl⟩ := hbm
     have hp7 : ge.κ 7 = .pointer (some ⟨b, 0, none⟩) := (hge.pin 7 _ rfl).2
     obtain ⟨bb, vs', ty', hκ7, hheap, hcells⟩ := hge.res 7 _ hm7
     rw [hp7] at hκ7
     injection hκ7 with hκ7
     injection hκ7 with hκ7
     injection hκ7 with hbb
     subst hbb
     have hblk7 : blkOf (ge.κ 7) = some b := by rw [hp7]; rfl
     have hro7 : ge.ro b = none := hge.wro 7 _ hm7 trivial b hblk7 hs7 hf7
     let mp := resMap c.rks id0 ss
     let gc : G := { ro := ge.ro, κ := fun i => match lookM mp i with | some old => ge.κ old | none => .slice none 0 0, ln := fun i => match lookM mp i with | some old => ge.ln old | none => 0, ρ := ge.ρ }
     have hlook : ∀ i src, (i, src) ∈ mp -> lookM mp i = src := fun i src hi => lookM_of (resMap_nodup _ _ _) hi
     obtain ⟨a1, a2, a3, _⟩ := decRs_R (g := ge) (g' := gc) (id0 := id0) (fun b vs hb => hb) rfl hdec hargs' (fun id hid => by cases hid)
      (fun i src hi => ⟨fun old ho => by simp [gc, hlook i src hi, ho], fun ho => by simp [gc, hlook i src hi, ho]⟩)
     have hnd : (mp.filterMap (·.2)).Nodup := by rw [← a2]; exact allDiff_nodup hdiff
     have hout : ∀ i old, (i, some old) ∈ mp -> old ∈ out := fun i old hi => by rw [a2]; exact List.mem_filterMap.2 ⟨(i, some old), hi, rfl⟩
     have key : ∀ (l : List S0) (vs : List Value), ArgsR gc l vs -> (pack1 l).R gc (match vs with | [v] => v | vs => .tuple vs.toArray) := by
      intro l vs h
      have := pack1_R h
      rcases vs with _ | ⟨v, _ | ⟨u, l⟩⟩ <;> exact this
     have key2 : ∀ (vs : List Value), (fn.results.toList.mapM (rvRead a'.tmps)).run P w' = .ok vs w' -> (results fn a'.tmps).run P w' = .ok (match vs with | [v] => v | vs => .tuple vs.toArray) w' := by
      intro vs h
      have := results_run h
      rcases vs with _ | ⟨v, _ | ⟨u, l⟩⟩ <;> exact this
     have hnot7 : ∀ old f t xs, st'.mem old = some (.sl f t xs) -> blkOf (ge.κ old) ≠ some b := by
      intro old f t xs hm hb'
      have hne : old ≠ 7 := fun e => by subst e; rw [hm7] at hm; cases hm
      obtain ⟨_, _, _, _, _, h, _⟩ := hge.sep old 7 _ _ hm hm7 hne trivial trivial b hb' hblk7
      cases h
     refine ⟨hr.defers, _, key2 _ hrun, _, gc, vs', ty', rfl, hge.ext, hρ, ?_, hheap, ?_, ?_⟩
     ·refine ⟨hge.keep.2, ?_, key _ _ a1, ?_, ?_, ?_⟩
      ·intro b' vs hb'
       rcases hge.roo b' vs hb' with h1 | h1 | h1
       ·exact .inl h1
       ·exact .inr ⟨h1, hge.ro b' vs hb'⟩
       ·have h1 : b' = b := h1
        subst h1
        have hb' : ge.ro b' = some vs := hb'
        rw [hro7] at hb'; cases hb'
      ·intro id q hq
       obtain ⟨src, t, xs, h1, h2, h3, h4⟩ := a3 id q hq
       subst h2
       cases src with
       | none =>
        have := h4 rfl
        subst this
        exact ⟨by simp [gc, hlook id none h1], .inl ⟨by simp [gc, hlook id none h1], rfl⟩⟩
       | some old =>
        obtain ⟨f, hm⟩ := h3 old rfl
        obtain ⟨hl, hres⟩ := hge.res _ _ hm
        have e1 : gc.κ id = ge.κ old := by simp [gc, hlook id _ h1]
        have e2 : gc.ln id = ge.ln old := by simp [gc, hlook id _ h1]
        refine ⟨by rw [e2]; exact hl, ?_⟩
        rw [e1]
        exact hres
      ·intro id q hq b' hb'
       obtain ⟨src, t, xs, h1, h2, h3, h4⟩ := a3 id q hq
       cases src with
       | none =>
        have e : gc.κ id = .slice none 0 0 := by simp [gc, hlook id none h1]
        rw [e] at hb'; simp [blkOf] at hb'
       | some old =>
        obtain ⟨f, hm⟩ := h3 old rfl
        have e1 : gc.κ id = ge.κ old := by simp [gc, hlook id _ h1]
        rw [e1] at hb'
        obtain ⟨s1, s2⟩ := notFrozen_mem hnf old (hout id old h1)
        refine ⟨?_, hge.wro old _ hm trivial b' hb' s1 s2⟩
        rcases hge.fresh old _ hm trivial b' hb' with h5 | h5
        ·exact h5
        ·have h5 : b' = b := h5
         subst h5
         exact (hnot7 old _ _ _ hm hb').elim
      ·intro i q j s hi hj hij b' hbi hbj
       obtain ⟨src, t, xs, h1, h2, h3, h4⟩ := a3 i q hi
       obtain ⟨src', t', xs', k1, k2, k3, k4⟩ := a3 j s hj
       cases src with
       | none =>
        have e : gc.κ i = .slice none 0 0 := by simp [gc, hlook i none h1]
        rw [e] at hbi; simp [blkOf] at hbi
       | some oi =>
        cases src' with
        | none =>
         have e : gc.κ j = .slice none 0 0 := by simp [gc, hlook j none k1]
         rw [e] at hbj; simp [blkOf] at hbj
        | some oj =>
         obtain ⟨f, hm⟩ := h3 oi rfl
         obtain ⟨f', hm'⟩ := k3 oj rfl
         have e1 : gc.κ i = ge.κ oi := by simp [gc, hlook i _ h1]
         have e2 : gc.κ j = ge.κ oj := by simp [gc, hlook j _ k1]
         rw [e1] at hbi
         rw [e2] at hbj
         have hne : oi ≠ oj := fun e => by
          subst e
          exact hij (resMap_diff hnd h1 k1)
         obtain ⟨_, _, _, _, _, _, h7⟩ := hge.sep oi oj _ _ hm hm' hne trivial trivial b' hbi hbj
         have h8 := (h7 (notFrozen_mem hnf oi (hout i oi h1)).1).1
         rw [(notFrozen_mem hnf oj (hout j oj k1)).1] at h8
         cases h8
     ·obtain ⟨hsz, hc⟩ := hcells
      have get : ∀ (j : Nat) (x : Value), ([CV.d (.fix t7 l7 v7), .d (.val (.bool b0)), .d (.val (.bool b1)), .d (.val (.bool b2)), .d (.val (.bool b3)), .d (.val (.bool b4)), .d (.val (.bool b5)), .d (.val (.int .i64 (c.num l u n x2)))] : List CV)[j]? = some (.d (.val x)) -> vs'[j]? = some x := by
       intro j x hj
       obtain ⟨y, hy, hR⟩ := hc j _ hj
       rw [hy, (dr_val' hR).1]
      have e0 : vs'[0]? = some v7 := by
       obtain ⟨y, hy, hR⟩ := hc 0 _ rfl
       rw [hy, dr_fix hR]
      have e1 := get 1 _ rfl
      have e2 := get 2 _ rfl
      have e3 := get 3 _ rfl
      have e4 := get 4 _ rfl
      have e5 := get 5 _ rfl
      have e6 := get 6 _ rfl
      have e7 := get 7 _ rfl
      rw [← hu7]
      have hsz8 : vs'.size = 8 := hsz
      apply Array.ext
      ·rw [hsz8]; rfl
      ·intro i h1 h2
       have : vs'[i]? = some vs'[i] := Array.getElem?_eq_getElem h1
       match i, h1, this with
       | 0, _, h => rw [e0] at h; injection h with h; rw [← h]; rfl
       | 1, _, h => rw [e1] at h; injection h with h; rw [← h]; rfl
       | 2, _, h => rw [e2] at h; injection h with h; rw [← h]; rfl
       | 3, _, h => rw [e3] at h; injection h with h; rw [← h]; rfl
       | 4, _, h => rw [e4] at h; injection h with h; rw [← h]; rfl
       | 5, _, h => rw [e5] at h; injection h with h; rw [← h]; rfl
       | 6, _, h => rw [e6] at h; injection h with h; rw [← h]; rfl
       | 7, _, h => rw [e7] at h; injection h with h; rw [← h]; rfl
       | i + 8, h, _ => omega
     ·intro id q hq hb'
      obtain ⟨src, t, xs, h1, h2, h3, h4⟩ := a3 id q hq
      cases src with
      | none =>
       have e : gc.κ id = .slice none 0 0 := by simp [gc, hlook id none h1]
       rw [e] at hb'; simp [blkOf] at hb'
      | some old =>
       obtain ⟨f, hm⟩ := h3 old rfl
       have e1 : gc.κ id = ge.κ old := by simp [gc, hlook id _ h1]
       rw [e1] at hb'
       exact hnot7 old _ _ _ hm hb'
    ·exact hbm.elim
 cases xk with
 | normal => exact fin hk
 | ret => exact fin hk
 | exit id => exact hk.elim
theorem cells8 {g : G} {c0 : CV} {b0 b1 b2 b3 b4 b5 : Bool} {n : Int} {vs : Array Value} (h : Cells g [c0, .d (.val (.bool b0)), .d (.val (.bool b1)), .d (.val (.bool b2)), .d (.val (.bool b3)), .d (.val (.bool b4)), .d (.val (.bool b5)), .d (.val (.int .i64 n))] vs) {g' : G} {c0' : CV} (h0 : ∀ v, vs[0]? = some v -> c0.R g v -> c0'.R g' v) :
  Cells g' (bmCells c0' (six b0 b1 b2 b3 b4 b5) n) vs := by
 obtain ⟨hsz, hc⟩ := h
 refine ⟨hsz, fun j c hj => ?_⟩
 have sc : ∀ x : Value, ([c0, .d (.val (.bool b0)), .d (.val (.bool b1)), .d (.val (.bool b2)), .d (.val (.bool b3)), .d (.val (.bool b4)), .d (.val (.bool b5)), .d (.val (.int .i64 n))] : List CV)[j]? = some (.d (.val x)) -> ∃ u, vs[j]? = some u /\ (CV.d (.val x)).R g' u := by
  intro x hx
  obtain ⟨u, hu, hR⟩ := hc j _ hx
  obtain ⟨rfl, ho⟩ := dr_val' hR
  exact ⟨_, hu, .val _ ho⟩
 match j, hj with
 | 0, hj =>
  obtain ⟨u, hu, hR⟩ := hc 0 _ rfl
  injection hj with hj
  subst hj
  exact ⟨u, hu, h0 u hu hR⟩
 | 1, hj => injection hj with hj; subst hj; exact sc _ rfl
 | 2, hj => injection hj with hj; subst hj; exact sc _ rfl
 | 3, hj => injection hj with hj; subst hj; exact sc _ rfl
 | 4, hj => injection hj with hj; subst hj; exact sc _ rfl
 | 5, hj => injection hj with hj; subst hj; exact sc _ rfl
 | 6, hj => injection hj with hj; subst hj; exact sc _ rfl
 | 7, hj => injection hj with hj; subst hj; exact sc _ rfl
 | j + 8, hj => simp [bmCells] at hj
theorem weak_refs' {c : CV} {i : Nat} (h : i ∈ (weak c).refs) : i ∈ c.refs := by
 unfold weak at h
 split at h
 ·cases h
 ·exact h
theorem ptB_ok (ht : TabOk P E tab) (hKA : KAll P E K) (hPA : PAll P E pts) (hmix : P.follows .mixedOrders = true) (hdr : ∀ w0 M n, DrawSound P E tab K w0 M n) {f : FuncId} {fn : Func} (hf : P.funcs[f]? = some fn) (hb : fn.body = some (bodyOf fn)) (hname : (fn.name == "runtime.NumGoroutine") = false) {c : BCon} (hflat : nested c.rks = false) (hn : c.k2.length + 1 <= fn.ntmps)
  (hok : codeOkP tab K hp perm fn.ntmps (bodyOf fn) = true) {anns : List GAtom -> List Bool -> Int -> Args c.k2 -> Value -> Nat -> St -> Option Ann}
  (hvc : ∀ l u n x2 v, c.pre l u n x2 -> vcR tab K pts hp (anns l u n x2 v) perm [7] (bodyOf fn) (isoStB c l u n x2 v) (retB tab c fn.results.toList l u n x2 v)) : PTOk P E f (ptB c) := by
 refine ⟨⟨fn, _, hf, hname, hb⟩, ?_⟩
 intro w0 M g st w args vs base k hg hcl hrefs hargs hv
 unfold ptB at hv
 split at hv
 ·rename_i id rest
  unfold ptB2 at hv
  split at hv
  ·rename_i c0 b0 b1 b2 b3 b4 b5 n hm
   unfold ptB3 at hv
   split at hv
   ·rename_i l ids x2 hl hids hx2
    obtain ⟨hsp, hfr, hns, hfree, hpre, hk⟩ := hv
    rw [refsC_eq, refsAr_eq] at hids
    obtain ⟨rfl, hsl⟩ := ownsC_mem hids
    obtain ⟨ro', hro, hdr', hg1⟩ := hg.freeze (c0.refs ++ refsT rest) fun i hi => ⟨notSpent_mem hns i hi, hsl i hi⟩
    have hlent : ∀ i ∈ c0.refs ++ refsT rest, Lent st.mem g.κ ro' i := by
     intro i hi
     refine ⟨fun f t xs hmm => hdr' i hi f t xs hmm, fun t xs hmm => ?_⟩
     obtain ⟨f, t', xs', hm'⟩ := hsl i hi
     rw [hmm] at hm'; cases hm'
    have hidn : id ∉ c0.refs ++ refsT rest := fun hi => by
     obtain ⟨f, t', xs', hm'⟩ := hsl id hi
     rw [hm] at hm'; cases hm'
    obtain ⟨b, cur, ty, hκ, hheap, hcells⟩ := hg.res id _ hm
    have hblk : blkOf (g.κ id) = some b := by rw [hκ]; rfl
    have hblt : b < w.heap.size := lt_of_some hheap
    have hrob : ro' b = none := hg1.wro id _ hm trivial b hblk hsp (by
     show sets st.fr _ id = false
     rw [sets_get, hfr]
     simp [hidn])
    have hgrob : g.ro b = none := hg.wro id _ hm trivial b hblk hsp hfr
    -- the arguments
    obtain ⟨p0, hp0, hp0R⟩ := hargs.2 0 _ rfl
    have hvl := hargs.1
    obtain ⟨vs2, rfl⟩ : ∃ vs2, vs = .pointer (some ⟨b, 0, none⟩) :: vs2 := by
     cases vs with
     | nil => simp at hp0
     | cons q vs2 =>
      simp at hp0
      subst hp0
      obtain ⟨b', h1, h2⟩ := hp0R
      rw [hκ] at h1
      injection h1 with h1; injection h1 with h1; injection h1 with h1
      subst h1
      exact ⟨vs2, by rw [h2]⟩
    have hA2 : ArgsR g rest vs2 := ⟨by simpa using hvl, fun j s hj => by simpa using hargs.2 (j + 1) s (by simpa using hj)⟩
    have hB2 := decs_R (ro' := ro') hro hx2 hA2 fun i hi => hlent i (List.mem_append_right _ hi)
    obtain ⟨v0, hv0, hv0R⟩ := hcells.2 0 _ rfl
    have hd0 : DR ro' (.arr .atom l) v0 := by
     refine rdl_DR hro hl (c := weak c0) (v := v0) ?_ fun i hi => hlent i (List.mem_append_left _ ?_)
     ·exact weak_R hv0R
     ·exact weak_refs' hi
    have hCe : Cells (argG ro' g.ρ) (bmCells (.d (.fix .atom l v0)) (six b0 b1 b2 b3 b4 b5) n) cur :=
     cells8 hcells fun v hv _ => by
      rw [hv0] at hv
      injection hv with hv
      subst hv
      exact .fix .atom l v0 hd0
    refine Calls.mono (iso_callB ht hKA hPA hmix hdr hf hb hn hok hvc (ρ := g.ρ) base hpre hg1.ro hB2 hheap hCe hrob) fun e w' he => ?_
    obtain ⟨v, gc, vs', ty', rfl, hext, hρc, hres, hheap', hvs', hnb⟩ := he
    obtain ⟨R, hR⟩ : ∃ R, R = (ress c.rks base (c.val l (six b0 b1 b2 b3 b4 b5) n x2)).2 := ⟨_, rfl⟩
    rw [← hR] at hk
    have hfr0 : ∀ id q, (id, q) ∈ R -> st.mem id = none := fun i q hq => by rw [hR] at hq; exact allFree_mem (freeL_ress _ _ _ hfree) (i, q) hq
    have hRres : ∀ id q, (id, q) ∈ R -> ResR E w' gc id q := fun i q hq => hres.res i q (by rw [← hR]; exact hq)
    have hRnew : ∀ id q, (id, q) ∈ R -> ∀ b', blkOf (gc.κ id) = some b' -> w.heap.size <= b' /\ gc.ro b' = none := fun i q hq => hres.new i q (by rw [← hR]; exact hq)
    have hRdist : ∀ i q j s, (i, q) ∈ R -> (j, s) ∈ R -> i ≠ j -> ∀ b', blkOf (gc.κ i) = some b' -> blkOf (gc.κ j) = some b' -> False := fun i q j s hi hj => hres.dist i q j s (by rw [← hR]; exact hi) (by rw [← hR]; exact hj)
    have hRsl : ∀ id q, (id, q) ∈ R -> ∃ f t xs, q = .sl f t xs /\ t.flat = true := fun i q hq => by rw [hR] at hq; exact ress_flat _ _ _ hflat i q hq
    have hidR : ∀ p ∈ R, p.1 ≠ id := fun p hp e => by
     have := hfr0 p.1 p.2 hp
     rw [e, hm] at this; cases this
    -- the world before the block was changed
    obtain ⟨w1, hw1⟩ : ∃ w1 : World, w1 = { w' with heap := w'.heap.setIfInBounds b (.cells cur ty (0, 0)) } := ⟨_, rfl⟩
    have hlt' : b < w'.heap.size := lt_of_some hheap'
    have hw1s : w1.heap.size = w'.heap.size := by rw [hw1]; simp
    have hw1b : w1.heap[b]? = some (.cells cur ty (0, 0)) := by rw [hw1]; simp [hlt']
    have hw1o : ∀ b', b' ≠ b -> w1.heap[b']? = w'.heap[b']? := fun b' h => by rw [hw1]; exact Array.getElem?_setIfInBounds_ne (Ne.symm h)
    have hold : ∀ b', b' < w.heap.size -> w1.heap[b']? = w.heap[b']? := fun b' hb' => by
     by_cases e : b' = b
     ·subst e; rw [hw1b, hheap]
     ·rw [hw1o b' e]; exact hext.block b' hb' e
    obtain ⟨g2, hg2⟩ : ∃ g2 : G, g2 = { ro := g.ro, κ := fun j => if (st.mem j).isSome then g.κ j else gc.κ j, ln := fun j => if (st.mem j).isSome then g.ln j else gc.ln j, ρ := g.ρ } := ⟨_, rfl⟩
    have κn : ∀ id q, (id, q) ∈ R -> g2.κ id = gc.κ id /\ g2.ln id = gc.ln id := fun i q hq => by rw [hg2]; simp [hfr0 i q hq]
    have κo : ∀ id, (st.mem id).isSome = true -> g2.κ id = g.κ id /\ g2.ln id = g.ln id := fun i hi => by rw [hg2]; simp [hi]
    have hro2 : g2.ro = g.ro := by rw [hg2]
    have hρ2 : g2.ρ = g.ρ := by rw [hg2]
    have hresW : ∀ (w2 : World) id q, (∀ b', w.heap.size <= b' -> w2.heap[b']? = w'.heap[b']?) -> (id, q) ∈ R -> ResR E w2 g2 id q := by
     intro w2 i q hw2 hq
     obtain ⟨f, t, xs, rfl, hflat'⟩ := hRsl i q hq
     obtain ⟨h1, h2⟩ := hRres _ _ hq
     refine ⟨by rw [(κn _ _ hq).2]; exact h1, ?_⟩
     rw [(κn _ _ hq).1]
     rcases h2 with h2 | ⟨b', cap, cur', h3, h4, h5, h6, h7, h8⟩
     ·exact .inl h2
     ·refine .inr ⟨b', cap, cur', h3, ?_, h5, h6, h7, RowR.flat_any hflat' h8⟩
      rw [hw2 b' (hRnew _ _ hq b' (by rw [h3]; rfl)).1]
      exact h4
    have hge : ∀ b', w.heap.size <= b' -> w1.heap[b']? = w'.heap[b']? := fun b' hb' => hw1o b' (by omega)
    have hGood1 : Good E w0 M g2 { st with mem := adds st.mem R } w1 := by
     have hgj : Good E w0 M g { st with env := fun _ => SE.junk } w := hg.env rfl rfl rfl rfl
     refine Good.env (st := { st with env := fun _ => SE.junk, mem := adds st.mem R }) ?_ rfl rfl rfl rfl
     refine hgj.extend ⟨fun x id hid => (by simp [SE.junk, S.refs, S0.refs, CV.refs] at hid), hcl⟩ R ?_ hold (fun b' vs hb' => by rw [hro2]; exact hb') (fun b' vs hb' => .inl (by rw [hro2] at hb'; exact hb')) κo hρ2 (fun p hp => hfr0 p.1 p.2 hp) (fun i q hq => hresW w1 i q hge hq) ?_ ?_
     ·refine ⟨?_, ?_, ?_, by rw [hw1s]; exact Nat.le_trans hg.ext.size hext.size, fun b' hb' hM => ?_⟩
      ·rw [hw1]; exact hext.os.trans hg.ext.os
      ·rw [hw1]; exact hext.tape.trans hg.ext.tape
      ·rw [hw1]; exact hext.output.trans hg.ext.output
      ·rw [hold b' (Nat.lt_of_lt_of_le hb' hg.ext.size)]
       exact hg.ext.block b' hb' hM
     ·intro i q hq _ b' hb'
      rw [(κn i q hq).1] at hb'
      refine ⟨(hRnew i q hq b' hb').1, ?_⟩
      rw [hro2]
      cases hr : g.ro b' with
      | none => rfl
      | some vs =>
       obtain ⟨_, _, hh⟩ := hg.ro b' vs hr
       have := lt_of_some hh
       have := (hRnew i q hq b' hb').1
       omega
     ·intro i q j s hi hj hij b' hbi hbj
      rw [(κn i q hi).1] at hbi
      rw [(κn j s hj).1] at hbj
      exact hRdist i q j s hi hj hij b' hbi hbj
    have hm1 : adds st.mem R id = some (.blk [c0, .d (.val (.bool b0)), .d (.val (.bool b1)), .d (.val (.bool b2)), .d (.val (.bool b3)), .d (.val (.bool b4)), .d (.val (.bool b5)), .d (.val (.int .i64 n))]) := by
     rw [adds_old hidR]; exact hm
    have hblk2 : blkOf (g2.κ id) = some b := by rw [(κo id (by rw [hm]; rfl)).1]; exact hblk
    have hGood2 : Good E w0 M g2 { st with mem := upd (adds st.mem R) id (some (.blk (bmCells c0 (c.used l (six b0 b1 b2 b3 b4 b5) n x2) (c.num l (six b0 b1 b2 b3 b4 b5) n x2)))) } w' := by
     refine Good.write' hGood1 (id := id) (b := b) (r' := .blk (bmCells c0 (c.used l (six b0 b1 b2 b3 b4 b5) n x2) (c.num l (six b0 b1 b2 b3 b4 b5) n x2))) hm1 trivial (.inl hblk2) ?_ ?_ (by rw [hro2]; exact hgrob) (by rw [hw1]) (by rw [hw1]) (by rw [hw1]) (by rw [hw1s]; exact Nat.le_refl _) (fun b' _ hne => (hw1o b' hne).symm) ?_ fun j hj => upd_dom hj
     ·intro j s hs
      rcases upd_cases hs with h | ⟨h1, h2⟩
      ·exact .inl h
      ·exact .inr ⟨h1, .inl h2⟩
     ·intro j s hj hs hl'
      rcases upd_cases hs with ⟨h, _⟩ | ⟨_, h2⟩
      ·exact (hj h).elim
      ·exact alone hGood1 hm1 trivial (fun _ _ _ h => by cases h) hblk2 j s hj h2 hl'
     ·refine ⟨b, vs', ty', by rw [(κo id (by rw [hm]; rfl)).1]; exact hκ, hheap', ?_⟩
      rw [hvs']
      refine ⟨rfl, fun j c' hj => ?_⟩
      match j, hj with
      | 0, hj =>
       injection hj with hj
       subst hj
       refine ⟨v0, rfl, CV.R.mono (g := g) (g' := g2) (fun b' vs hb' => by rw [hro2]; exact hb') hρ2 (fun i hi => κo i (hcl id _ hm i ?_)) hv0R⟩
       simp [Res.refs, refsL, hi]
      | 1, hj => injection hj with hj; subst hj; exact ⟨_, rfl, .val _ rfl⟩
      | 2, hj => injection hj with hj; subst hj; exact ⟨_, rfl, .val _ rfl⟩
      | 3, hj => injection hj with hj; subst hj; exact ⟨_, rfl, .val _ rfl⟩
      | 4, hj => injection hj with hj; subst hj; exact ⟨_, rfl, .val _ rfl⟩
      | 5, hj => injection hj with hj; subst hj; exact ⟨_, rfl, .val _ rfl⟩
      | 6, hj => injection hj with hj; subst hj; exact ⟨_, rfl, .val _ rfl⟩
      | 7, hj => injection hj with hj; subst hj; exact ⟨_, rfl, .val _ rfl⟩
      | j + 8, hj => simp [bmCells] at hj
    refine ⟨v, _, _, g2, rfl, hk, hGood2, ?_, ?_, ?_, fun i hi => ⟨upd_dom (adds_isSome hi), κo i hi⟩, fun b' vs hb' => by rw [hro2]; exact hb', hρ2⟩
    ·refine pack1_any (ress_any (g := gc) (g' := g2) (by rw [hρ2, hρc]) c.rks base _ hflat fun i hi => ?_) hres.val
     obtain ⟨q, hq⟩ := ress_refs _ _ _ i hi
     exact κn i q (by rw [hR]; exact hq)
    ·intro i hi
     obtain ⟨q, hq⟩ := ress_refs _ _ _ i (pack1_refs _ i hi)
     exact upd_dom (adds_new (r := q) (by rw [hR]; exact hq))
    ·intro j r hj i hi
     refine upd_dom ?_
     rcases upd_cases hj with ⟨_, h⟩ | ⟨_, h⟩
     ·subst h
      have hi : i ∈ c0.refs := by simpa [Res.refs, bmCells, refsL, CV.refs] using hi
      exact adds_isSome (hcl id _ hm i (by simp [Res.refs, refsL, hi]))
     ·rcases adds_cases h with h | h
      ·obtain ⟨f, t, xs, rfl, _⟩ := hRsl j r h
       simp [Res.refs] at hi
      ·exact adds_isSome (hcl j r h i hi)
   ·exact hv.elim
  ·exact hv.elim
 ·exact hv.elim
theorem blk_ok {l : List (FuncId × Con)} {lp : List (FuncId × PT)} (ht : TabOk P E tab) (hmix : P.follows .mixedOrders = true) (hl : AllOk P E l) (hlp : AllPt P E lp) {f : FuncId} {fn : Func} (hf : P.funcs[f]? = some fn) (hb : fn.body = some (bodyOf fn)) (hname : (fn.name == "runtime.NumGoroutine") = false) {c : BCon} (hflat : nested c.rks = false) (hn : c.k2.length + 1 <= fn.ntmps)
  (hok : codeOkP tab (lookF l) hp perm fn.ntmps (bodyOf fn) = true) {anns : List GAtom -> List Bool -> Int -> Args c.k2 -> Value -> Nat -> St -> Option Ann}
  (hvc : ∀ l' u n x2 v, c.pre l' u n x2 -> vcR tab (lookF l) (lookP lp) hp (anns l' u n x2 v) perm [7] (bodyOf fn) (isoStB c l' u n x2 v) (retB tab c fn.results.toList l' u n x2 v)) : PTOk P E f (ptB c) :=
 ptB_ok ht (kall_of hl) (pall_of hlp) hmix (fun _ _ _ => draw_sound ht (tab_small ht) (kall_of hl) hmix _ _ _) hf hb hname hflat hn hok hvc
end
end Go.SE

namespace Go.SE
open Go.RowKit
abbrev nA : GAtom := ⟨0, 0, 0⟩
def cnt (u : List Bool) : Int := ((u.filter id).length : Nat)
def uaP (l : List GAtom) (u : List Bool) (k : Int) (i : Nat) : Bool := (l.getD i nA).a == k && !u.getD i false
def uaO (l : List GAtom) (u : List Bool) (k : Int) : Option Nat := (List.range l.length).find? (uaP l u k)
def uaI (l : List GAtom) (u : List Bool) (k : Int) : Int := (((uaO l u k).getD 0 : Nat) : Int)
def uaB (l : List GAtom) (u : List Bool) (k : Int) : Bool := (uaO l u k).isSome
def uaN (l : List GAtom) (u : List Bool) (k : Int) (i : Nat) : Bool := (List.range i).all fun j => !uaP l u k j
theorem sx {u : List Bool} (h : u.length = 6) : six true (u.getD 1 false) (u.getD 2 false) (u.getD 3 false) (u.getD 4 false) (u.getD 5 false) = u.set 0 true /\ six (u.getD 0 false) true (u.getD 2 false) (u.getD 3 false) (u.getD 4 false) (u.getD 5 false) = u.set 1 true /\ six (u.getD 0 false) (u.getD 1 false) true (u.getD 3 false) (u.getD 4 false) (u.getD 5 false) = u.set 2 true /\ six (u.getD 0 false) (u.getD 1 false) (u.getD 2 false) true (u.getD 4 false) (u.getD 5 false) = u.set 3 true /\ six (u.getD 0 false) (u.getD 1 false) (u.getD 2 false) (u.getD 3 false) true (u.getD 5 false) = u.set 4 true /\ six (u.getD 0 false) (u.getD 1 false) (u.getD 2 false) (u.getD 3 false) (u.getD 4 false) true = u.set 5 true := by
 match u, h with
 | [_, _, _, _, _, _], _ => exact ⟨rfl, rfl, rfl, rfl, rfl, rfl⟩
theorem cnt_bd (u : List Bool) : 0 <= cnt u /\ cnt u <= u.length := by
 unfold cnt
 have := List.length_filter_le id u
 omega
theorem cnt_set : ∀ {u : List Bool} {i : Nat}, i < u.length -> u.getD i false = false -> cnt (u.set i true) = cnt u + 1 := by
 intro u
 induction u with
 | nil => intro i h; simp at h
 | cons x u ih =>
  intro i h h2
  cases i with
  | zero =>
   have : x = false := h2
   subst this
   simp [cnt]
  | succ i =>
   have := ih (i := i) (by simpa using h) (by simpa using h2)
   unfold cnt at this ⊢
   cases x <;> simp_all <;> omega
theorem uaN_step {l : List GAtom} {u : List Bool} {k : Int} {i : Nat} (h : uaN l u k i = true) (h2 : uaP l u k i = false) : uaN l u k (i + 1) = true := by
 unfold uaN at h ⊢
 rw [List.range_succ, List.all_append, h]
 simp [h2]
theorem uaN_s1 {l : List GAtom} {u : List Bool} {k : Int} {i : Nat} (h : uaN l u k i = true) (h2 : ¬ (l.getD i ⟨0, 0, 0⟩).a = k) : uaN l u k (i + 1) = true :=
 uaN_step h (by unfold uaP; rw [beq_eq_false_iff_ne.2 h2]; rfl)
theorem uaN_s2 {l : List GAtom} {u : List Bool} {k : Int} {i j : Nat} (h : uaN l u k i = true) (hj : (i : Int) = (j : Int)) (h2 : u.getD j false = true) : uaN l u k (i + 1) = true := by
 have : i = j := by omega
 subst this
 exact uaN_step h (by unfold uaP; rw [h2]; simp)
theorem uaO_some {l : List GAtom} {u : List Bool} {k : Int} {i : Nat} (hi : i < l.length) (h : uaN l u k i = true) (h2 : uaP l u k i = true) : uaO l u k = some i := by
 unfold uaO
 rw [List.find?_range_eq_some]
 refine ⟨h2, List.mem_range.2 hi, fun j hj => ?_⟩
 have := List.all_eq_true.1 h j (List.mem_range.2 hj)
 simpa using this
theorem uaO_none {l : List GAtom} {u : List Bool} {k : Int} {i : Nat} (hi : ¬ i < l.length) (hi2 : i <= l.length) (h : uaN l u k i = true) : uaO l u k = none := by
 have : i = l.length := by omega
 subst this
 unfold uaO
 rw [List.find?_range_eq_none]
 intro j hj
 have := List.all_eq_true.1 h j (List.mem_range.2 hj)
 simpa using this
theorem ua_hit {l : List GAtom} {u : List Bool} {k : Int} {i j : Nat} (hi : i < l.length) (h : uaN l u k i = true) (ha : (l.getD i ⟨0, 0, 0⟩).a = k) (hj : (i : Int) = (j : Int)) (hu : u.getD j false = false) : (i : Int) = uaI l u k /\ true = uaB l u k := by
 have : i = j := by omega
 subst this
 have := uaO_some hi h (by unfold uaP; rw [hu]; simpa using ha)
 unfold uaI uaB
 rw [this]
 exact ⟨rfl, rfl⟩
theorem ua_miss {l : List GAtom} {u : List Bool} {k : Int} {i : Nat} (hi : ¬ i < l.length) (hi2 : i <= l.length) (h : uaN l u k i = true) : (0 : Int) = uaI l u k /\ false = uaB l u k := by
 unfold uaI uaB
 rw [uaO_none hi hi2 h]
 exact ⟨rfl, rfl⟩
theorem uaO_spec {l : List GAtom} {u : List Bool} {k : Int} {i : Nat} (h : uaO l u k = some i) : i < l.length /\ (l.getD i nA).a = k /\ u.getD i false = false := by
 unfold uaO at h
 obtain ⟨h1, h2, _⟩ := List.find?_range_eq_some.1 h
 unfold uaP at h1
 simp only [Bool.and_eq_true, beq_iff_eq, Bool.not_eq_true'] at h1
 exact ⟨List.mem_range.1 h2, h1.1, h1.2⟩
theorem uaB_spec {l : List GAtom} {u : List Bool} {k : Int} (h : uaB l u k = true) : ∃ i : Nat, uaO l u k = some i /\ uaI l u k = (i : Int) /\ i < l.length /\ (l.getD i nA).a = k /\ u.getD i false = false := by
 unfold uaB at h
 cases hq : uaO l u k with
 | none => rw [hq] at h; cases h
 | some i => exact ⟨i, rfl, by unfold uaI; rw [hq]; rfl, uaO_spec hq⟩
theorem uaB_bd {l : List GAtom} {u : List Bool} {k : Int} (hl : l.length <= 6) (h : uaB l u k = true) : 0 <= uaI l u k /\ uaI l u k < 6 /\ uaI l u k < (l.length : Nat) /\ u.getD (uaI l u k).toNat false = false := by
 obtain ⟨i, _, h2, h3, _, h5⟩ := uaB_spec h
 rw [h2]
 exact ⟨by omega, by omega, by omega, by rw [Int.toNat_natCast]; exact h5⟩
def ucO (l : List GAtom) (u : List Bool) (x : GAtom) : Option Nat := (uaO l u x.a).bind fun i => cond (decide (l.getD i nA = x)) (some i) none
def ucL (l : List GAtom) (u : List Bool) (x : GAtom) : List Int := match ucO l u x with
 | some i => [(i : Int)]
 | none => []
def ucB (l : List GAtom) (u : List Bool) (x : GAtom) : Bool := (ucO l u x).isSome
def ucU (l : List GAtom) (u : List Bool) (x : GAtom) : List Bool := match ucO l u x with
 | some i => u.set i true
 | none => u
section
variable {l : List GAtom} {u : List Bool} {x : GAtom}
theorem uc_no (h : ucO l u x = none) : ucL l u x = [] /\ ucB l u x = false /\ ucU l u x = u := by unfold ucL ucB ucU; rw [h]; exact ⟨rfl, rfl, rfl⟩
theorem uc_no1 (h : uaB l u x.a = false) : ucO l u x = none := by
 unfold uaB at h
 unfold ucO
 cases hq : uaO l u x.a with
 | none => rfl
 | some i => rw [hq] at h; cases h
theorem uc_no2 (h : uaB l u x.a = true) (h2 : ¬ l.getD (uaI l u x.a).toNat ⟨0, 0, 0⟩ = x) : ucO l u x = none := by
 obtain ⟨i, h3, h4, _⟩ := uaB_spec h
 rw [h4, Int.toNat_natCast] at h2
 unfold ucO
 rw [h3]
 show cond (decide _) _ _ = _
 rw [decide_eq_false h2]
 rfl
theorem uc_yes (h : uaB l u x.a = true) (h2 : l.getD (uaI l u x.a).toNat ⟨0, 0, 0⟩ = x) : ucL l u x = [uaI l u x.a] /\ ucB l u x = true /\ ucU l u x = u.set (uaI l u x.a).toNat true := by
 obtain ⟨i, h3, h4, _⟩ := uaB_spec h
 have : ucO l u x = some i := by
  rw [h4, Int.toNat_natCast] at h2
  unfold ucO
  rw [h3]
  show cond (decide _) _ _ = _
  rw [decide_eq_true h2]
  rfl
 unfold ucL ucB ucU
 rw [this, h4]
 exact ⟨rfl, rfl, rfl⟩
end
def clB (l : List GAtom) (y : Int) : Bool := y == 0 || bgn l y
theorem cl1 {l : List GAtom} {y : Int} (h : y = 0) : clB l y = true := by unfold clB; rw [h]; rfl
theorem cl2 {l : List GAtom} {y : Int} (h : bgn l y = true) : clB l y = true := by unfold clB; rw [h, Bool.or_true]
theorem cl3 {l : List GAtom} {y : Int} (h : ¬ y = 0) (h2 : bgn l y = false) : clB l y = false := by unfold clB; rw [h2, beq_eq_false_iff_ne.2 h]; rfl
def chn (l : List GAtom) (y : Int) : Nat -> List Bool -> Int -> List Int -> List Bool × Option (List Int)
 | 0, u, _, _ => (u, none)
 | f + 1, u, q, us => match uaO l u q with
  | none => (u, none)
  | some i => if (l.getD i nA).b = y then (u.set i true, some (us ++ [(i : Int)]))
   else if (l.getD i nA).kind = 2 /\ clB l y = false then (u.set i true, none)
   else chn l y f (u.set i true) (l.getD i nA).b (us ++ [(i : Int)])
def chU (l : List GAtom) (u : List Bool) (x : GAtom) : List Bool := (chn l x.b 7 u x.a []).1
def chL (l : List GAtom) (u : List Bool) (x : GAtom) : List Int := (chn l x.b 7 u x.a []).2.getD []
def chB (l : List GAtom) (u : List Bool) (x : GAtom) : Bool := (chn l x.b 7 u x.a []).2.isSome
structure chI (l : List GAtom) (u : List Bool) (x : GAtom) (u' : List Bool) (q : Int) (us : List Int) : Prop where
 len : u'.length = 6
 le : us.length <= 6
 cn : cnt u' = cnt u + us.length
 eq : chn l x.b (7 - us.length) u' q us = chn l x.b 7 u x.a []
section
variable {l : List GAtom} {u u' : List Bool} {x : GAtom} {q : Int} {us : List Int}
theorem chI_zero (h : u.length = 6) : chI l u x u x.a [] := ⟨h, by simp, by simp, rfl⟩
theorem chI_lt (h : chI l u x u' q us) (hb : uaB l u' q = true) (hl : l.length <= 6) : us.length < 6 := by
 obtain ⟨i, _, _, h3, _, h5⟩ := uaB_spec hb
 have h1 := cnt_set (u := u') (i := i) (by rw [h.len]; omega) h5
 have h2 := cnt_bd (u'.set i true)
 have h4 := cnt_bd u
 have h6 := h.cn
 have h7 := h.len
 simp only [List.length_set] at h2
 omega
theorem ch_fuel (h : us.length < 6) : 7 - us.length = (7 - (us ++ [q]).length) + 1 := by simp; omega
theorem ch_no (h : chI l u x u' q us) (hb : uaB l u' q = false) : chU l u x = u' /\ chL l u x = [] /\ chB l u x = false := by
 have hq : uaO l u' q = none := by
  unfold uaB at hb
  cases hq : uaO l u' q with
  | none => rfl
  | some i => rw [hq] at hb; cases hb
 obtain ⟨f, hf⟩ : ∃ f, 7 - us.length = f + 1 := ⟨6 - us.length, by have := h.le; omega⟩
 have h1 := h.eq
 rw [hf, chn, hq] at h1
 unfold chU chL chB
 rw [← h1]
 exact ⟨rfl, rfl, rfl⟩
theorem ch_end (h : chI l u x u' q us) (hb : uaB l u' q = true) (hl : l.length <= 6) (hy : (l.getD (uaI l u' q).toNat ⟨0, 0, 0⟩).b = x.b) : chU l u x = u'.set (uaI l u' q).toNat true /\ chL l u x = us ++ [uaI l u' q] /\ chB l u x = true := by
 have hlt := chI_lt h hb hl
 obtain ⟨i, h3, h4, _⟩ := uaB_spec hb
 rw [h4, Int.toNat_natCast] at hy ⊢
 have h1 := h.eq
 rw [ch_fuel (q := 0) hlt, chn, h3] at h1
 simp only [if_pos hy] at h1
 unfold chU chL chB
 rw [← h1]
 exact ⟨rfl, rfl, rfl⟩
theorem ch_open (h : chI l u x u' q us) (hb : uaB l u' q = true) (hl : l.length <= 6) (hy : ¬ (l.getD (uaI l u' q).toNat ⟨0, 0, 0⟩).b = x.b) (hk : (l.getD (uaI l u' q).toNat ⟨0, 0, 0⟩).kind = 2) (hc : clB l x.b = false) : chU l u x = u'.set (uaI l u' q).toNat true /\ chL l u x = [] /\ chB l u x = false := by
 have hlt := chI_lt h hb hl
 obtain ⟨i, h3, h4, _⟩ := uaB_spec hb
 rw [h4, Int.toNat_natCast] at hy hk ⊢
 have h1 := h.eq
 rw [ch_fuel (q := 0) hlt, chn, h3] at h1
 simp only [if_neg hy, if_pos (And.intro hk hc)] at h1
 unfold chU chL chB
 rw [← h1]
 exact ⟨rfl, rfl, rfl⟩
theorem ch_go (h : chI l u x u' q us) (hb : uaB l u' q = true) (hl : l.length <= 6) (hy : ¬ (l.getD (uaI l u' q).toNat ⟨0, 0, 0⟩).b = x.b) (hk : ¬ (l.getD (uaI l u' q).toNat ⟨0, 0, 0⟩).kind = 2 ∨ clB l x.b = true) : chI l u x (u'.set (uaI l u' q).toNat true) (l.getD (uaI l u' q).toNat ⟨0, 0, 0⟩).b (us ++ [uaI l u' q]) := by
 have hlt := chI_lt h hb hl
 obtain ⟨i, h3, h4, h5, _, h6⟩ := uaB_spec hb
 rw [h4, Int.toNat_natCast] at hy hk ⊢
 refine ⟨by rw [List.length_set]; exact h.len, by simp; omega, ?_, ?_⟩
 ·rw [cnt_set (by rw [h.len]; omega) h6, h.cn]; simp; omega
 ·have h1 := h.eq
  have hn : ¬ ((l.getD i nA).kind = 2 /\ clB l x.b = false) := by
   rintro ⟨e1, e2⟩
   rcases hk with hk | hk
   ·exact hk e1
   ·rw [e2] at hk; cases hk
  rw [ch_fuel (q := (i : Int)) hlt, chn, h3] at h1
  simp only [if_neg hy, if_neg hn] at h1
  exact h1
theorem ch_kit (h : chI l u x u' q us) (hb : uaB l u' q = true) (hl : l.length <= 6) : 0 <= uaI l u' q /\ uaI l u' q < 6 /\ uaI l u' q < (l.length : Nat) /\ u'.getD (uaI l u' q).toNat false = false /\ us.length < 6 /\
  sx6 (u'.set (uaI l u' q).toNat true) = u'.set (uaI l u' q).toNat true /\
  cnt (u'.set (uaI l u' q).toNat true) = cnt u' + 1 := by
 have h9 := uaB_bd hl hb
 exact ⟨h9.1, h9.2.1, h9.2.2.1, h9.2.2.2, chI_lt h hb hl, sx6_eta (by rw [List.length_set]; exact h.len), cnt_set (by rw [h.len]; omega) h9.2.2.2⟩
end
def useU (l : List GAtom) (u : List Bool) (x : GAtom) : List Bool := cond (x.kind == 1) (ucU l u x) (chU l u x)
def useB (l : List GAtom) (u : List Bool) (x : GAtom) : Bool := cond (x.kind == 1) (ucB l u x) (chB l u x)
def mcF (l : List GAtom) : List GAtom -> List Bool -> Option (List Bool)
 | [], u => some u
 | x :: g, u => cond (useB l u x) (mcF l g (useU l u x)) none
def u0 : List Bool := six false false false false false false
def mcM (l g : List GAtom) : Bool := match mcF l g u0 with
 | some u => cnt u == (l.length : Nat)
 | none => false
def MC (a b : GAsn) (c : List Int) : Bool := b.facts.all (fh c) && mcM (fL c a.atoms) (fL c b.atoms)
theorem chn_len {l : List GAtom} {y : Int} : ∀ (f : Nat) (u : List Bool) (q : Int) (us : List Int), (chn l y f u q us).1.length = u.length := by
 intro f
 induction f with
 | zero => intros; rfl
 | succ f ih =>
  intro u q us
  rw [chn]
  split
  ·rfl
  ·split
   ·simp
   ·split
    ·simp
    ·rw [ih]; simp
theorem useU_len {l : List GAtom} {u : List Bool} {x : GAtom} : (useU l u x).length = u.length := by
 unfold useU
 cases x.kind == 1
 ·exact chn_len _ _ _ _
 ·show (ucU l u x).length = _
  unfold ucU
  split <;> simp
structure mcI (l g : List GAtom) (i : Nat) (u : List Bool) : Prop where
 len : u.length = 6
 eq : mcF l (g.drop i) u = mcF l g u0
section
variable {l g : List GAtom} {i : Nat} {u : List Bool}
theorem mcI_zero : mcI l g 0 (six false false false false false false) := ⟨rfl, rfl⟩
theorem mcF_at (hi : i < g.length) : mcF l (g.drop i) u = cond (useB l u (g.getD i ⟨0, 0, 0⟩)) (mcF l (g.drop (i + 1)) (useU l u (g.getD i ⟨0, 0, 0⟩))) none := by
 rw [List.drop_eq_getElem_cons hi, mcF, List.getD_eq_getElem?_getD, List.getElem?_eq_getElem hi]
 rfl
theorem mcI_bad (h : mcI l g i u) (hi : i < g.length) (hb : useB l u (g.getD i ⟨0, 0, 0⟩) = false) : mcM l g = false := by
 have := h.eq
 rw [mcF_at hi, hb] at this
 unfold mcM
 rw [← this]
 rfl
theorem mcI_go (h : mcI l g i u) (hi : i < g.length) (hb : useB l u (g.getD i ⟨0, 0, 0⟩) = true) : mcI l g (i + 1) (useU l u (g.getD i ⟨0, 0, 0⟩)) := by
 refine ⟨useU_len.trans h.len, ?_⟩
 have := h.eq
 rw [mcF_at hi, hb] at this
 exact this
theorem mcI_end (h : mcI l g i u) (hi : ¬ i < g.length) : mcM l g = (cnt u == (l.length : Nat)) := by
 have := h.eq
 rw [List.drop_of_length_le (by omega), mcF] at this
 unfold mcM
 rw [← this]
theorem use_cell {x : GAtom} (hk : x.kind = 1) : useB l u x = ucB l u x /\ useU l u x = ucU l u x := by unfold useB useU; rw [hk]; exact ⟨rfl, rfl⟩
theorem use_chain {x : GAtom} (hk : ¬ x.kind = 1) : useB l u x = chB l u x /\ useU l u x = chU l u x := by unfold useB useU; rw [beq_eq_false_iff_ne.2 hk]; exact ⟨rfl, rfl⟩
end
section
variable {a b : GAsn} {c : List Int} {l g : List GAtom} {i : Nat} {u : List Bool} {x : GAtom}
theorem ucU_len : (ucU l u x).length = u.length := by unfold ucU; split <;> simp
theorem chU_len : (chU l u x).length = u.length := chn_len _ _ _ _
theorem six_uc (h : u.length = 6) : sx6 (ucU l u x) = ucU l u x := sx6_eta (ucU_len.trans h)
theorem six_ch (h : u.length = 6) : sx6 (chU l u x) = chU l u x := sx6_eta (chU_len.trans h)
theorem mc_no (h : b.facts.all (fh c) = false) : false = MC a b c := by unfold MC; rw [h]; rfl
theorem mc_bad (hf : b.facts.all (fh c) = true) (h : mcI (fL c a.atoms) (fL c b.atoms) i u) (hi : i < (fL c b.atoms).length) (hb : useB (fL c a.atoms) u ((fL c b.atoms).getD i ⟨0, 0, 0⟩) = false) : false = MC a b c := by
 unfold MC
 rw [hf, mcI_bad h hi hb]; rfl
theorem mc_bad1 (hf : b.facts.all (fh c) = true) (h : mcI (fL c a.atoms) (fL c b.atoms) i u) (hi : i < (fL c b.atoms).length) (hk : ((fL c b.atoms).getD i ⟨0, 0, 0⟩).kind = 1) (hb : ucB (fL c a.atoms) u ((fL c b.atoms).getD i ⟨0, 0, 0⟩) = false) : false = MC a b c :=
 mc_bad hf h hi (by rw [(use_cell hk).1]; exact hb)
theorem mc_bad2 (hf : b.facts.all (fh c) = true) (h : mcI (fL c a.atoms) (fL c b.atoms) i u) (hi : i < (fL c b.atoms).length) (hk : ¬ ((fL c b.atoms).getD i ⟨0, 0, 0⟩).kind = 1) (hb : chB (fL c a.atoms) u ((fL c b.atoms).getD i ⟨0, 0, 0⟩) = false) : false = MC a b c :=
 mc_bad hf h hi (by rw [(use_chain hk).1]; exact hb)
theorem mc_go1 (h : mcI l g i u) (hi : i < g.length) (hk : (g.getD i ⟨0, 0, 0⟩).kind = 1) (hb : ucB l u (g.getD i ⟨0, 0, 0⟩) = true) : mcI l g (i + 1) (ucU l u (g.getD i ⟨0, 0, 0⟩)) := by
 have := mcI_go h hi (by rw [(use_cell hk).1]; exact hb)
 rw [(use_cell hk).2] at this
 exact this
theorem mc_go2 (h : mcI l g i u) (hi : i < g.length) (hk : ¬ (g.getD i ⟨0, 0, 0⟩).kind = 1) (hb : chB l u (g.getD i ⟨0, 0, 0⟩) = true) : mcI l g (i + 1) (chU l u (g.getD i ⟨0, 0, 0⟩)) := by
 have := mcI_go h hi (by rw [(use_chain hk).1]; exact hb)
 rw [(use_chain hk).2] at this
 exact this
theorem mc_end1 (hf : b.facts.all (fh c) = true) (h : mcI (fL c a.atoms) (fL c b.atoms) i u) (hi : ¬ i < (fL c b.atoms).length) (hc : ¬ cnt u = ((fL c a.atoms).length : Nat)) : false = MC a b c := by
 unfold MC
 rw [hf, mcI_end h hi, beq_eq_false_iff_ne.2 hc]; rfl
theorem mc_end2 (hf : b.facts.all (fh c) = true) (h : mcI (fL c a.atoms) (fL c b.atoms) i u) (hi : ¬ i < (fL c b.atoms).length) (hc : cnt u = ((fL c a.atoms).length : Nat)) : true = MC a b c := by
 unfold MC
 rw [hf, mcI_end h hi, beq_iff_eq.2 hc]; rfl
end
end Go.SE

namespace Go.SE
open Go.RowKit
section
variable {l : List GAtom} {u : List Bool} {k : Int} {i : Nat}
end
section
variable {l : List GAtom} {u u' : List Bool} {q q' y : Int} {k : Nat}
end
section
variable {l g : List GAtom} {i : Nat} {u : List Bool} {x : GAtom}
end
section
variable {l : List GAtom} {r : List Bool}
end
end Go.SE

namespace Go.SE
open Go.RowKit
def occB (b : GAsn) : Int -> Bool := fun k => occ b k
def FC (a b : GAsn) : CG := (casesB a (hz a (occB b))).filter fun c => !MC a b c
def ENT (a b : GAsn) : Bool := asV a && (asV b && (casesB a (hz a (occB b))).all fun c => MC a b c)
section
variable {a b : GAsn} {c : List Int}
theorem occ_isT (hb : asV b = true) {k : Int} (h : occ b k = true) : isT k = true := by
 rw [← tsA_has hb] at h
 unfold tsHas at h
 rw [Bool.and_eq_true] at h
 exact h.1
theorem hzB_has (hb : asV b = true) {k : Int} (h : occ b k = true) : 0 <= k /\ k <= 8 /\ hz a (occB b) k.toNat = true := by
 have ht := occ_isT hb h
 have := isT_iff.1 ht
 exact ⟨this.1, this.2, hz_has ht h⟩
theorem occ_fact (hb : asV b = true) {f : GFact} (hf : f ∈ b.facts) : occ b f.a = true /\ occ b f.b = true := by
 unfold occ occF
 constructor
 ·rw [Bool.or_eq_true, List.any_eq_true]; exact .inl ⟨f, hf, by simp⟩
 ·rw [Bool.or_eq_true, List.any_eq_true]; exact .inl ⟨f, hf, by simp⟩
theorem occ_atom (hb : asV b = true) {x : GAtom} (hx : x ∈ b.atoms) : occ b x.a = true /\ occ b x.b = true := by
 unfold occ occG
 constructor
 ·rw [Bool.or_eq_true, List.any_eq_true]; exact .inr ⟨x, hx, by simp⟩
 ·rw [Bool.or_eq_true, List.any_eq_true]; exact .inr ⟨x, hx, by simp⟩
theorem full_val {has : Nat -> Bool} (hc : c ∈ fulls has) {k : Int} (h0 : 0 <= k) (h8 : k <= 8) (hk : has k.toNat = true) : 0 <= cl c k /\ cl c k <= k := by
 obtain ⟨_, hv⟩ := fulls_mem hc
 have := hv k.toNat (by omega)
 rw [hk] at this
 simp only [cond_true, Bool.and_eq_true, decide_eq_true_eq] at this
 unfold cl
 omega
theorem fc_mem (hc : c ∈ casesB a (hz a (occB b))) (ha : asV a = true) : c ∈ fulls (hz a (occB b)) := by
 rw [casesB_eq (hz_named ha _)] at hc
 exact (List.mem_filter.1 hc).1
theorem ENT_FC (ha : asV a = true) (hb : asV b = true) : ENT a b = (FC a b).isEmpty := by
 unfold ENT FC
 rw [ha, hb, Bool.true_and, Bool.true_and, Bool.eq_iff_iff, List.isEmpty_iff, List.filter_eq_nil_iff, List.all_eq_true]
 exact ⟨fun h c hc => by rw [h c hc]; simp, fun h c hc => by have := h c hc; simpa using this⟩
theorem ent_no1 (h : asV a = false) : ENT a b = false := by unfold ENT; rw [h]; rfl
theorem ent_no2 (h : asV b = false) : ENT a b = false := by unfold ENT; rw [h, Bool.false_and, Bool.and_false]
theorem itEn_ent (ha : asV a = true) (hb : asV b = true) : itEn a (bits .or .u16 (tsWith (tsA a) 0) (tsA b)) = casesB a (hz a (occB b)) /\ itPre a (bits .or .u16 (tsWith (tsA a) 0) (tsA b)) := by
 obtain ⟨h1, h2⟩ := tsA_bd b
 obtain ⟨e1, e2⟩ := itEn_or ha h1 h2
 refine ⟨?_, e2⟩
 rw [e1, hz_congr fun k _ => tsA_has hb k]
 rfl
theorem fc_hit (ha : asV a = true) (hb : asV b = true) {i : Nat} {d : List Int} (h : (itEn a (bits .or .u16 (tsWith (tsA a) 0) (tsA b)))[i]? = some c) (ht : ((itEn a (bits .or .u16 (tsWith (tsA a) 0) (tsA b))).take i).all (fun c => MC a b c) = true) (hm : MC a b c = false) : (FC a b).headD d = c /\ (FC a b).isEmpty = false := by
 rw [(itEn_ent ha hb).1] at h ht
 have := first_hit (d := d) h ht hm
 exact ⟨this.1, this.2.1⟩
theorem fc_none (ha : asV a = true) (hb : asV b = true) (h : (itEn a (bits .or .u16 (tsWith (tsA a) 0) (tsA b))).all (fun c => MC a b c) = true) : FC a b = [] := by
 rw [(itEn_ent ha hb).1] at h
 exact first_none h
theorem fc_len (ha : asV a = true) (hb : asV b = true) : (List.headD (FC a b) (List.replicate 9 0)).length = 9 := by
 cases h : FC a b with
 | nil => rfl
 | cons c l =>
  have hc : c ∈ FC a b := by rw [h]; simp
  unfold FC at hc
  exact (fulls_mem (fc_mem (List.mem_filter.1 hc).1 ha)).1
variable {fin : List Int -> Bool} {tm : List Bool} {t : Int}
end
section
variable {a : GAsn} {tm : Int} {c p : List Int} {i : Nat}
end
end Go.SE

namespace Go.SE
open Go.RowKit
inductive Pth (L : List GAtom) (y : Int) : Int -> List GAtom -> Prop
 | last {x : GAtom} : x ∈ L -> x.b = y -> Pth L y x.a [x]
 | step {x : GAtom} {p : List GAtom} : x ∈ L -> x.b ≠ y -> Pth L y x.b p -> Pth L y x.a (x :: p)
def Opn (z : Int) (L : List GAtom) (y : Int) (p : List GAtom) : Prop := y = z ∨ (∃ x ∈ L, x.a = y) ∨ ∀ x ∈ p.dropLast, x.kind ≠ 2
def OkA (z : Int) (L : List GAtom) (g : GAtom) (p : List GAtom) : Prop := (g.kind = 1 /\ g ∈ L /\ p = [g]) ∨ (g.kind ≠ 1 /\ Pth L g.b g.a p /\ Opn z L g.b p)
structure MtF (z : Int) (L G : List GAtom) (f : GAtom -> List GAtom) : Prop where
 ok : ∀ g ∈ G, OkA z L g (f g)
 all : (G.flatMap f).Perm L
def MtS (z : Int) (L G : List GAtom) : Prop := ∃ f, MtF z L G f
structure Pos (z : Int) (L : List GAtom) : Prop where
 nz : ∀ x ∈ L, x.a ≠ z
 ap : L.Pairwise fun x y => x.a ≠ y.a
 kd : ∀ x ∈ L, x.kind ≠ 1 -> x.kind = 2
section
variable {z y q : Int} {L M G H : List GAtom} {p : List GAtom} {f : GAtom -> List GAtom} {g : GAtom}
theorem Pth.head (h : Pth L y q p) : ∃ x p', p = x :: p' /\ x.a = q /\ x ∈ L := by
 cases h with
 | last h1 h2 => exact ⟨_, _, rfl, rfl, h1⟩
 | step h1 h2 h3 => exact ⟨_, _, rfl, rfl, h1⟩
theorem Pth.ne (h : Pth L y q p) : p ≠ [] := by obtain ⟨x, p', rfl, _⟩ := h.head; simp
theorem Pth.sub (h : Pth L y q p) : ∀ x ∈ p, x ∈ L := by
 induction h with
 | last h1 h2 => intro x hx; rw [List.mem_singleton] at hx; rw [hx]; exact h1
 | step h1 h2 h3 ih =>
  intro x hx
  rcases List.mem_cons.1 hx with e | hx
  ·rw [e]; exact h1
  ·exact ih x hx
theorem Pth.mono (h : Pth L y q p) (hs : ∀ x ∈ L, x ∈ M) : Pth M y q p := by
 induction h with
 | last h1 h2 => exact .last (hs _ h1) h2
 | step h1 h2 h3 ih => exact .step (hs _ h1) h2 ih
theorem Pth.fin (h : Pth L y q p) : ∃ i x, p = i ++ [x] /\ x.b = y /\ i = p.dropLast := by
 induction h with
 | @last x h1 h2 => exact ⟨[], x, rfl, h2, rfl⟩
 | @step x p h1 h2 h3 ih =>
  obtain ⟨i, x', e, h, e2⟩ := ih
  refine ⟨x :: i, x', by rw [e]; rfl, h, ?_⟩
  rw [List.dropLast_cons_of_ne_nil h3.ne, e2]
theorem Pth.inner (h : Pth L y q p) {x : GAtom} (hx : x ∈ p) (hb : x.b ≠ y) : x ∈ p.dropLast := by
 obtain ⟨i, x', e, h1, e2⟩ := h.fin
 rw [← e2]
 rw [e] at hx
 rcases List.mem_append.1 hx with h | h
 ·exact h
 ·rw [List.mem_singleton] at h; rw [h] at hb; exact (hb h1).elim
theorem Pth.next (h : Pth L y q p) {x : GAtom} (hx : x ∈ p) (hb : x.b ≠ y) : ∃ x' ∈ p.tail, x'.a = x.b := by
 induction h with
 | last h1 h2 => rw [List.mem_singleton] at hx; rw [hx] at hb; exact (hb h2).elim
 | @step x0 p h1 h2 h3 ih =>
  rcases List.mem_cons.1 hx with rfl | hx
  ·obtain ⟨x', p', rfl, e, _⟩ := h3.head
   exact ⟨x', by simp, e⟩
  ·obtain ⟨x', h5, h6⟩ := ih hx
   exact ⟨x', List.mem_of_mem_tail h5, h6⟩
theorem Pth.cat {p2 : List GAtom} {y2 : Int} (h : Pth L y2 q p) (hn : ∀ x ∈ p, x.b ≠ y) (h2 : Pth L y y2 p2) : Pth L y q (p ++ p2) := by
 induction h with
 | last h1 e => subst e; exact .step h1 (hn _ (by simp)) h2
 | step h1 e h3 ih => exact .step h1 (hn _ (by simp)) (ih fun x hx => hn x (by simp [hx]))
theorem OkA.pth (h : OkA z L g p) : Pth L g.b g.a p := by
 rcases h with ⟨_, h1, rfl⟩ | ⟨_, h1, _⟩
 ·exact .last h1 rfl
 ·exact h1
theorem OkA.mono (h : OkA z L g p) (hs : ∀ x ∈ L, x ∈ M) : OkA z M g p := by
 rcases h with ⟨h0, h1, h2⟩ | ⟨h0, h1, h2⟩
 ·exact .inl ⟨h0, hs _ h1, h2⟩
 ·refine .inr ⟨h0, h1.mono hs, ?_⟩
  rcases h2 with h | ⟨x, hx, e⟩ | h
  ·exact .inl h
  ·exact .inr (.inl ⟨x, hs _ hx, e⟩)
  ·exact .inr (.inr h)
theorem pw_perm {l l' : List GAtom} (h : l.Perm l') : (l.Pairwise fun x y => x.a ≠ y.a) ↔ l'.Pairwise fun x y => x.a ≠ y.a := h.pairwise_iff fun h e => h e.symm
theorem mts_self (h : G.Perm L) : MtS z L G := by
 refine ⟨fun x => [x], fun g hg => ?_, ?_⟩
 ·by_cases hk : g.kind = 1
  ·exact .inl ⟨hk, h.mem_iff.1 hg, rfl⟩
  ·exact .inr ⟨hk, .last (h.mem_iff.1 hg) rfl, .inr (.inr fun x hx => by cases hx)⟩
 ·have : G.flatMap (fun x => [x]) = G := by induction G <;> simp_all
  rw [this]
  exact h
theorem MtF.used (h : MtF z L G f) (hL : Pos z L) : (G.flatMap f).Pairwise fun x y => x.a ≠ y.a := (pw_perm h.all).2 hL.ap
theorem MtF.parts (h : MtF z L G f) (hL : Pos z L) : (∀ g ∈ G, (f g).Pairwise fun x y => x.a ≠ y.a) /\ G.Pairwise fun g g' => ∀ x ∈ f g, ∀ x' ∈ f g', x.a ≠ x'.a := by
 have := h.used hL
 rw [List.pairwise_flatMap] at this
 exact this
theorem MtF.pos (h : MtF z L G f) (hL : Pos z L) (hk : ∀ x ∈ G, x.kind ≠ 1 -> x.kind = 2) : Pos z G := by
 obtain ⟨_, h2⟩ := h.parts hL
 refine ⟨fun g hg => ?_, h2.imp_of_mem fun {g g'} hg hg' h3 => ?_, hk⟩
 ·obtain ⟨x, p', _, e, hx⟩ := (h.ok g hg).pth.head
  rw [← e]; exact hL.nz x hx
 ·obtain ⟨x, p1, e1, a1, _⟩ := (h.ok g hg).pth.head
  obtain ⟨x', p2, e2, a2, _⟩ := (h.ok g' hg').pth.head
  rw [← a1, ← a2]
  exact h3 x (by rw [e1]; simp) x' (by rw [e2]; simp)
theorem MtF.own (h : MtF z L G f) (hL : Pos z L) {g' : GAtom} (hg : g ∈ G) (hg' : g' ∈ G) {x x' : GAtom} (hx : x ∈ f g) (hx' : x' ∈ f g') (e : x.a = x'.a) : g = g' := by
 obtain ⟨_, h2⟩ := h.parts hL
 have key : ∀ {l : List GAtom}, (l.Pairwise fun g g' => ∀ x ∈ f g, ∀ x' ∈ f g', x.a ≠ x'.a) -> g ∈ l -> g' ∈ l -> g = g' := by
  intro l hl h1 h2
  induction l with
  | nil => cases h1
  | cons a l ih =>
   rw [List.pairwise_cons] at hl
   rcases List.mem_cons.1 h1 with e1 | h3 <;> rcases List.mem_cons.1 h2 with e2 | h4
   ·rw [e1, e2]
   ·rw [e1] at hx; exact (hl.1 _ h4 x hx x' hx' e).elim
   ·rw [e2] at hx'; exact (hl.1 _ h3 x' hx' x hx e.symm).elim
   ·exact ih hl.2 h3 h4
 exact key h2 hg hg'
theorem mts_frame (hp : Pos z (L ++ M)) (h1 : MtS z L G) (h2 : MtS z M H) : MtS z (L ++ M) (G ++ H) := by
 obtain ⟨f, hf⟩ := h1
 obtain ⟨k, hk⟩ := h2
 classical
 have hap := List.pairwise_append.1 hp.ap
 have hd : ∀ g, g ∈ G -> g ∈ H -> False := fun g hg hh => by
  obtain ⟨x, _, _, a1, m1⟩ := (hf.ok g hg).pth.head
  obtain ⟨x', _, _, a2, m2⟩ := (hk.ok g hh).pth.head
  exact hap.2.2 x m1 x' m2 (a1.trans a2.symm)
 let m : GAtom -> List GAtom := fun g => if g ∈ G then f g else k g
 have e1 : ∀ g ∈ G, m g = f g := fun g hg => if_pos hg
 have e2 : ∀ g ∈ H, m g = k g := fun g hg => if_neg fun h => hd g h hg
 refine ⟨m, fun g hg => ?_, ?_⟩
 ·rcases List.mem_append.1 hg with h | h
  ·rw [e1 g h]; exact (hf.ok g h).mono fun x hx => by simp [hx]
  ·rw [e2 g h]; exact (hk.ok g h).mono fun x hx => by simp [hx]
 ·rw [List.flatMap_append]
  have c1 : G.flatMap m = G.flatMap f := by
   rw [List.flatMap_def, List.flatMap_def, List.map_congr_left e1]
  have c2 : H.flatMap m = H.flatMap k := by
   rw [List.flatMap_def, List.flatMap_def, List.map_congr_left e2]
  rw [c1, c2]
  exact hf.all.append hk.all
/-- no atom on a way inside ends at y, when y is where a way in G ends -/
theorem inner_ne (h : MtF z L G f) (hL : Pos z L) (hG : ∀ x ∈ G, x.kind ≠ 1 -> x.kind = 2) {p2 : List GAtom} (h2 : Pth G y q p2) (ho : Opn z G y p2) (hg : g ∈ p2) (hb : g.b ≠ y) : ∀ x ∈ f g, x.b ≠ y := by
 intro x hx e
 have hgG := h2.sub g hg
 have hok := h.ok g hgG
 have hpth := hok.pth
 obtain ⟨x', h3, h4⟩ := hpth.next hx (by rw [e]; exact hb.symm)
 have hx' : x' ∈ f g := List.mem_of_mem_tail h3
 have hL' : x' ∈ L := hpth.sub x' hx'
 rcases ho with ho | ⟨g', hg', ea⟩ | ho
 ·exact hL.nz x' hL' (by rw [h4, e, ho])
 ·obtain ⟨x2, p', e2, a2, m2⟩ := (h.ok g' hg').pth.head
  have hx2 : x2 ∈ f g' := by rw [e2]; simp
  have ee : x'.a = x2.a := by rw [h4, e, a2, ea]
  have := h.own hL hgG hg' hx' hx2 ee
  subst this
  have hpw := (h.parts hL).1 g hgG
  rw [e2, List.pairwise_cons] at hpw
  rw [e2] at h3
  exact hpw.1 x' h3 ee.symm
 ·have hk := ho g (h2.inner hg hb)
  rcases hok with ⟨_, _, e1⟩ | ⟨hk1, _, _⟩
  ·rw [e1, List.mem_singleton] at hx
   rw [hx] at e
   exact hb e
  ·exact hk (hG g hgG hk1)
theorem pth_cat (h : MtF z L G f) {p2 : List GAtom} (h2 : Pth G y q p2) (hn : ∀ g ∈ p2, g.b ≠ y -> ∀ x ∈ f g, x.b ≠ y) : Pth L y q (p2.flatMap f) := by
 induction h2 with
 | @last x h1 e =>
  have := (h.ok x h1).pth
  rw [e] at this
  simpa using this
 | @step x p h1 e h3 ih =>
  rw [List.flatMap_cons]
  exact (h.ok x h1).pth.cat (hn x (by simp) e) (ih fun g hg => hn g (by simp [hg]))
theorem opn_cat (h : MtF z L G f) (hL : Pos z L) (hG : ∀ x ∈ G, x.kind ≠ 1 -> x.kind = 2) {p2 : List GAtom} (h2 : Pth G y q p2) (ho : Opn z G y p2) : Opn z L y (p2.flatMap f) := by
 rcases ho with ho | ⟨g', hg', ea⟩ | ho
 ·exact .inl ho
 ·obtain ⟨x2, p', e2, a2, m2⟩ := (h.ok g' hg').pth.head
  exact .inr (.inl ⟨x2, m2, a2.trans ea⟩)
 ·obtain ⟨i, gl, e, eb, ei⟩ := h2.fin
  have hi : ∀ g ∈ i, f g = [g] /\ g.kind = 1 := fun g hg => by
   have hgG : g ∈ G := h2.sub g (by rw [e]; simp [hg])
   rcases h.ok g hgG with ⟨k1, _, e1⟩ | ⟨k1, _, _⟩
   ·exact ⟨e1, k1⟩
   ·exact (ho g (by rw [← ei]; exact hg) (hG g hgG k1)).elim
  have hflat : i.flatMap f = i := by
   have : ∀ l : List GAtom, (∀ g ∈ l, f g = [g]) -> l.flatMap f = l := by
    intro l hl
    induction l with
    | nil => rfl
    | cons a l ih => rw [List.flatMap_cons, hl a (by simp), ih fun g hg => hl g (by simp [hg])]; rfl
   exact this i fun g hg => (hi g hg).1
  have hglG : gl ∈ G := h2.sub gl (by rw [e]; simp)
  have hgl := h.ok gl hglG
  have hne : f gl ≠ [] := hgl.pth.ne
  have hdl : (p2.flatMap f).dropLast = i ++ (f gl).dropLast := by
   rw [e, List.flatMap_append, hflat]
   simp only [List.flatMap_cons, List.flatMap_nil, List.append_nil]
   rw [List.dropLast_append_of_ne_nil hne]
  rcases hgl with ⟨_, _, e1⟩ | ⟨_, _, ho2⟩
  ·refine .inr (.inr fun x hx => ?_)
   rw [hdl, e1] at hx
   simp only [List.dropLast_singleton, List.append_nil] at hx
   rw [(hi x hx).2]; decide
  ·rw [eb] at ho2
   rcases ho2 with h | h | h
   ·exact .inl h
   ·exact .inr (.inl h)
   ·refine .inr (.inr fun x hx => ?_)
    rw [hdl] at hx
    rcases List.mem_append.1 hx with hx | hx
    ·rw [(hi x hx).2]; decide
    ·exact h x hx
theorem mts_trans (hL : Pos z L) (hG : ∀ x ∈ G, x.kind ≠ 1 -> x.kind = 2) (h1 : MtS z L G) (h2 : MtS z G H) : MtS z L H := by
 obtain ⟨f, hf⟩ := h1
 obtain ⟨k, hk⟩ := h2
 refine ⟨fun h => (k h).flatMap f, fun h hh => ?_, ?_⟩
 ·rcases hk.ok h hh with ⟨k1, m1, e1⟩ | ⟨k1, p1, o1⟩
  ·show OkA z L h ((k h).flatMap f)
   rw [e1]
   simp only [List.flatMap_cons, List.flatMap_nil, List.append_nil]
   exact hf.ok h m1
  ·exact .inr ⟨k1, pth_cat hf p1 fun g hg hb => inner_ne hf hL hG p1 o1 hg hb, opn_cat hf hL hG p1 o1⟩
 ·show (H.flatMap fun h => (k h).flatMap f).Perm L
  rw [← List.flatMap_assoc]
  exact (hk.all.flatMap_right f).trans hf.all
theorem Pth.map {φ : GAtom -> GAtom} {n : Int -> Int} (ha : ∀ x ∈ L, (φ x).a = n x.a /\ (φ x).b = n x.b) (hy : ∀ x ∈ L, x.b ≠ y -> n x.b ≠ n y) (h : Pth L y q p) : Pth (L.map φ) (n y) (n q) (p.map φ) := by
 induction h with
 | @last x h1 e =>
  rw [← (ha x h1).1]
  exact .last (List.mem_map_of_mem h1) (by rw [(ha x h1).2, e])
 | @step x p h1 e h3 ih =>
  rw [← (ha x h1).1]
  rw [← (ha x h1).2] at ih
  exact .step (List.mem_map_of_mem h1) (by rw [(ha x h1).2]; exact hy x h1 e) ih
theorem mts_map {φ : GAtom -> GAtom} {n : Int -> Int} (hφ : ∀ x, φ x = ⟨x.kind, n x.a, n x.b⟩) (V : Int -> Prop) (hn : ∀ s t, V s -> V t -> n s = n t -> s = t) (hL : ∀ x ∈ L, V x.a /\ V x.b) (hG : ∀ x ∈ G, V x.a /\ V x.b) (hz : V z) (h : MtS z L G) : MtS (n z) (L.map φ) (G.map φ) := by
 obtain ⟨f, hf⟩ := h
 classical
 have inj : ∀ x ∈ G, ∀ x' ∈ G, φ x = φ x' -> x = x' := fun x hx x' hx' e => by
  rw [hφ, hφ] at e
  injection e with e1 e2 e3
  have h1 := hn _ _ (hG x hx).1 (hG x' hx').1 e2
  have h2 := hn _ _ (hG x hx).2 (hG x' hx').2 e3
  cases x; cases x'; simp_all
 let k : GAtom -> List GAtom := fun g => if h : ∃ x ∈ G, φ x = g then (f h.choose).map φ else []
 have hk : ∀ x ∈ G, k (φ x) = (f x).map φ := fun x hx => by
  have he : ∃ x' ∈ G, φ x' = φ x := ⟨x, hx, rfl⟩
  show (if h : ∃ x' ∈ G, φ x' = φ x then (f h.choose).map φ else []) = _
  rw [dif_pos he, inj _ he.choose_spec.1 _ hx he.choose_spec.2]
 refine ⟨k, fun g hg => ?_, ?_⟩
 ·obtain ⟨x, hx, rfl⟩ := List.mem_map.1 hg
  rw [hk x hx]
  rcases hf.ok x hx with ⟨k1, m1, e1⟩ | ⟨k1, p1, o1⟩
  ·exact .inl ⟨by rw [hφ]; exact k1, List.mem_map_of_mem m1, by rw [e1]; rfl⟩
  ·refine .inr ⟨by rw [hφ]; exact k1, ?_, ?_⟩
   ·have := p1.map (φ := φ) (n := n) (fun x _ => by rw [hφ]; exact ⟨rfl, rfl⟩) fun x' hx' hb e => hb (hn _ _ (hL x' hx').2 (hG x hx).2 e)
    rw [hφ x]
    exact this
   ·rw [hφ x]
    rcases o1 with o | ⟨x', hx', e⟩ | o
    ·exact .inl (congrArg n o)
    ·exact .inr (.inl ⟨φ x', List.mem_map_of_mem hx', by rw [hφ]; exact congrArg n e⟩)
    ·refine .inr (.inr fun x' hx' => ?_)
     rw [← List.map_dropLast] at hx'
     obtain ⟨x2, hx2, rfl⟩ := List.mem_map.1 hx'
     rw [hφ]; exact o x2 hx2
 ·have e : (G.map φ).flatMap k = (G.flatMap f).map φ := by
   rw [List.flatMap_map, List.map_flatMap, List.flatMap_def, List.flatMap_def, List.map_congr_left hk]
  rw [e]
  exact hf.all.map φ
end
end Go.SE

namespace Go.SE
open Go.RowKit
def sel : List GAtom -> List Bool -> List GAtom
 | x :: l, b :: u => cond b (x :: sel l u) (sel l u)
 | _, _ => []
def noHi (l : List GAtom) (u : List Bool) : Prop := ∀ i, l.length <= i -> u.getD i false = false
theorem noHi_tail {x : GAtom} {b : Bool} {l : List GAtom} {u : List Bool} (h : noHi (x :: l) (b :: u)) : noHi l u := fun i hi => by
 have := h (i + 1) (by simp; omega)
 simpa using this
theorem noHi_set {l : List GAtom} {u : List Bool} {i : Nat} (h : noHi l u) (hi : i < l.length) : noHi l (u.set i true) := fun j hj => by
 rw [List.getD_eq_getElem?_getD, List.getElem?_set_ne (by omega), ← List.getD_eq_getElem?_getD]
 exact h j hj
theorem sel_set : ∀ {l : List GAtom} {u : List Bool} {i : Nat}, i < l.length -> i < u.length -> u.getD i false = false -> (sel l (u.set i true)).Perm (l.getD i nA :: sel l u) := by
 intro l
 induction l with
 | nil => intro u i h; simp at h
 | cons x l ih =>
  intro u i h1 h2 h3
  cases u with
  | nil => simp at h2
  | cons b u =>
   cases i with
   | zero =>
    have : b = false := h3
    subst this
    exact .refl _
   | succ i =>
    have := ih (u := u) (i := i) (by simpa using h1) (by simpa using h2) (by simpa using h3)
    cases b
    ·exact this
    ·show (x :: sel l (u.set i true)).Perm (l.getD i nA :: x :: sel l u)
     exact (this.cons x).trans (.swap _ _ _)
theorem sel_cnt : ∀ {l : List GAtom} {u : List Bool}, noHi l u -> cnt u = ((sel l u).length : Nat) := by
 intro l
 induction l with
 | nil =>
  intro u h
  have : u.filter id = [] := by
   rw [List.filter_eq_nil_iff]
   intro b hb
   obtain ⟨i, hi, e⟩ := List.getElem_of_mem hb
   have := h i (by simp)
   rw [List.getD_eq_getElem?_getD, List.getElem?_eq_getElem hi, Option.getD_some, e] at this
   simp [this]
  unfold cnt
  rw [this]
  cases u <;> rfl
 | cons x l ih =>
  intro u h
  cases u with
  | nil => rfl
  | cons b u =>
   have := ih (noHi_tail h)
   unfold cnt at this ⊢
   cases b
   ·exact this
   ·simp only [sel, cond_true, List.filter_cons, id, if_true, List.length_cons]
    omega
theorem sel_sub : ∀ {l : List GAtom} {u : List Bool}, (sel l u).Sublist l := by
 intro l
 induction l with
 | nil => intro u; cases u <;> exact .slnil
 | cons x l ih =>
  intro u
  cases u with
  | nil => exact List.nil_sublist _
  | cons b u => cases b
                ·exact (ih (u := u)).cons x
                ·exact (ih (u := u)).cons_cons x
theorem sel_zero : ∀ {l : List GAtom} {u : List Bool}, (∀ b ∈ u, b = false) -> sel l u = [] := by
 intro l
 induction l with
 | nil => intro u _; cases u <;> rfl
 | cons x l ih =>
  intro u h
  cases u with
  | nil => rfl
  | cons b u =>
   rw [h b (by simp)] at *
   exact ih fun b' hb => h b' (by simp [hb])
theorem sel_get : ∀ {l : List GAtom} {u : List Bool} {i : Nat}, i < l.length -> u.getD i false = true -> l.getD i nA ∈ sel l u := by
 intro l
 induction l with
 | nil => intro u i h; simp at h
 | cons x l ih =>
  intro u i h1 h2
  cases u with
  | nil => simp at h2
  | cons b u =>
   cases i with
   | zero =>
    have : b = true := h2
    subst this
    simp [sel]
   | succ i =>
    have := ih (u := u) (i := i) (by simpa using h1) (by simpa using h2)
    cases b
    ·exact this
    ·exact List.mem_cons_of_mem _ this
section
variable {l g : List GAtom} {u : List Bool} {q y : Int} {x : GAtom}
theorem getD_memA {i : Nat} (h : i < l.length) : l.getD i nA ∈ l := by
 rw [List.getD_eq_getElem?_getD, List.getElem?_eq_getElem h]; exact List.getElem_mem h
theorem clB_iff : clB l y = true ↔ y = 0 ∨ ∃ x ∈ l, x.a = y := by
 unfold clB bgn
 rw [Bool.or_eq_true, beq_iff_eq, List.any_eq_true]
 exact or_congr_right ⟨fun ⟨x, h1, h2⟩ => ⟨x, h1, by simpa using h2⟩, fun ⟨x, h1, h2⟩ => ⟨x, h1, by simpa using h2⟩⟩
theorem opn_iff {p : List GAtom} : Opn 0 l y p ↔ clB l y = true ∨ ∀ x ∈ p.dropLast, x.kind ≠ 2 := by
 rw [clB_iff]; unfold Opn; rw [or_assoc]
theorem chn_fwd : ∀ (f : Nat) (u : List Bool) (q : Int) (us us' : List Int), u.length = 6 -> l.length <= 6 -> noHi l u -> (chn l y f u q us).2 = some us' ->
  ∃ p, Pth l y q p /\ Opn 0 l y p /\ (sel l (chn l y f u q us).1).Perm (p ++ sel l u) /\ noHi l (chn l y f u q us).1 := by
 intro f
 induction f with
 | zero => intro u q us us' _ _ _ h; cases h
 | succ f ih =>
  intro u q us us' hu hl hh h
  simp only [chn] at h ⊢
  cases hq : uaO l u q with
  | none => rw [hq] at h; cases h
  | some i =>
   rw [hq] at h
   obtain ⟨h1, h2, h3⟩ := uaO_spec hq
   have hm := getD_memA h1
   have hs := sel_set (u := u) h1 (by omega) h3
   simp only at h ⊢
   by_cases e1 : (l.getD i nA).b = y
   ·rw [if_pos e1] at h ⊢
    exact ⟨[l.getD i nA], h2 ▸ .last hm e1, opn_iff.2 (.inr fun x hx => by cases hx), hs, noHi_set hh h1⟩
   ·rw [if_neg e1] at h ⊢
    by_cases e2 : (l.getD i nA).kind = 2 /\ clB l y = false
    ·rw [if_pos e2] at h; cases h
    ·rw [if_neg e2] at h ⊢
     obtain ⟨p, h5, h6, h7, h8⟩ := ih (u.set i true) _ _ us' (by simpa using hu) hl (noHi_set hh h1) h
     refine ⟨l.getD i nA :: p, h2 ▸ .step hm e1 h5, ?_, ?_, h8⟩
     ·rw [opn_iff] at h6 ⊢
      rcases h6 with h6 | h6
      ·exact .inl h6
      ·by_cases hc : clB l y = true
       ·exact .inl hc
       ·refine .inr fun x hx => ?_
        rw [List.dropLast_cons_of_ne_nil h5.ne] at hx
        rcases List.mem_cons.1 hx with rfl | hx
        ·intro hk; exact e2 ⟨hk, by simpa using hc⟩
        ·exact h6 x hx
     ·refine h7.trans ?_
      rw [List.cons_append]
      exact (hs.append_left p).trans List.perm_middle
theorem mcF_fwd : ∀ (g : List GAtom) (u u' : List Bool), u.length = 6 -> l.length <= 6 -> noHi l u -> mcF l g u = some u' ->
  ∃ ps : List (List GAtom), ps.length = g.length /\ (∀ t ∈ g.zip ps, OkA 0 l t.1 t.2) /\ (sel l u').Perm (ps.flatten ++ sel l u) /\ noHi l u' := by
 intro g
 induction g with
 | nil =>
  intro u u' _ _ hh h
  injection h with h
  subst h
  exact ⟨[], rfl, (fun t ht => by cases ht), .refl _, hh⟩
 | cons x g ih =>
  intro u u' hu hl hh h
  simp only [mcF] at h
  cases hb : useB l u x with
  | false => rw [hb] at h; cases h
  | true =>
   rw [hb, cond_true] at h
   have key : ∃ p, OkA 0 l x p /\ (sel l (useU l u x)).Perm (p ++ sel l u) /\ noHi l (useU l u x) := by
    by_cases hk : x.kind = 1
    ·rw [(use_cell hk).1] at hb
     rw [(use_cell hk).2]
     unfold ucB at hb
     unfold ucU
     cases hq : ucO l u x with
     | none => rw [hq] at hb; cases hb
     | some i =>
      unfold ucO at hq
      cases hw : uaO l u x.a with
      | none => rw [hw] at hq; cases hq
      | some j =>
       rw [hw] at hq
       have hq : cond (decide (l.getD j nA = x)) (some j) none = some i := hq
       obtain ⟨h1, h2, h3⟩ := uaO_spec hw
       by_cases e : l.getD j nA = x
       ·rw [decide_eq_true e] at hq
        injection hq with hq
        subst hq
        have hm := getD_memA h1
        rw [e] at hm
        refine ⟨[x], .inl ⟨hk, hm, rfl⟩, ?_, noHi_set hh h1⟩
        have := sel_set (u := u) h1 (by omega) h3
        rw [e] at this
        exact this
       ·rw [decide_eq_false e] at hq; cases hq
    ·rw [(use_chain hk).1] at hb
     rw [(use_chain hk).2]
     unfold chB at hb
     unfold chU
     obtain ⟨us', hs⟩ := Option.isSome_iff_exists.1 hb
     obtain ⟨p, h1, h2, h3, h4⟩ := chn_fwd 7 u x.a [] us' hu hl hh hs
     exact ⟨p, .inr ⟨hk, h1, h2⟩, h3, h4⟩
   obtain ⟨p, h1, h2, h3⟩ := key
   obtain ⟨ps, h4, h5, h6, h7⟩ := ih (useU l u x) u' (useU_len.trans hu) hl h3 h
   refine ⟨p :: ps, by simp [h4], fun t ht => ?_, ?_, h7⟩
   ·rw [List.zip_cons_cons] at ht
    rcases List.mem_cons.1 ht with e | ht
    ·rw [e]; exact h1
    ·exact h5 t ht
   ·refine h6.trans ?_
    rw [List.flatten_cons]
    refine (h2.append_left _).trans ?_
    rw [← List.append_assoc]
    exact (List.perm_append_comm).append_right _
theorem zip_fun (hL : Pos 0 l) : ∀ {g : List GAtom} {ps : List (List GAtom)}, ps.length = g.length -> (∀ t ∈ g.zip ps, OkA 0 l t.1 t.2) -> (ps.flatten.Pairwise fun x y => x.a ≠ y.a) -> ∃ f : GAtom -> List GAtom, (∀ x ∈ g, OkA 0 l x (f x)) /\ g.flatMap f = ps.flatten /\ ∀ x ∈ g, ∃ y ∈ ps.flatten, y.a = x.a := by
 intro g
 induction g with
 | nil =>
  intro ps h _ _
  have : ps = [] := List.length_eq_zero_iff.1 h
  subst this
  exact ⟨fun _ => [], (fun x hx => by cases hx), rfl, (fun x hx => by cases hx)⟩
 | cons x g ih =>
  intro ps h1 h2 h3
  cases ps with
  | nil => cases h1
  | cons p ps =>
   rw [List.flatten_cons, List.pairwise_append] at h3
   rw [List.zip_cons_cons] at h2
   obtain ⟨f, hf, he, hs⟩ := ih (by simpa using h1) (fun t ht => h2 t (List.mem_cons_of_mem _ ht)) h3.2.1
   have hp : OkA 0 l x p := h2 (x, p) (by simp)
   obtain ⟨y, p', e, ea, _⟩ := hp.pth.head
   have hy : y ∈ p := by rw [e]; simp
   have hx : x ∉ g := fun hx => by
    obtain ⟨y', h4, h5⟩ := hs x hx
    exact h3.2.2 y hy y' h4 (ea.trans h5.symm)
   classical
   have e1 : ∀ x' ∈ g, (if x' = x then p else f x') = f x' := fun x' hx' => if_neg fun e => hx (by rw [← e]; exact hx')
   refine ⟨fun x' => if x' = x then p else f x', fun x' hx' => ?_, ?_, fun x' hx' => ?_⟩
   ·rcases List.mem_cons.1 hx' with rfl | hx'
    ·show OkA 0 l x' (if x' = x' then p else f x')
     rw [if_pos rfl]; exact hp
    ·show OkA 0 l x' (if x' = x then p else f x')
     rw [e1 x' hx']; exact hf x' hx'
   ·rw [List.flatMap_cons, List.flatten_cons, if_pos rfl, ← he, List.flatMap_def, List.flatMap_def, List.map_congr_left e1]
   ·rcases List.mem_cons.1 hx' with rfl | hx'
    ·exact ⟨y, by simp [hy], ea⟩
    ·obtain ⟨y', h4, h5⟩ := hs x' hx'
     exact ⟨y', by rw [List.flatten_cons]; simp [h4], h5⟩
theorem u0_noHi : noHi l u0 := fun i _ => by
 match i with
 | 0 => rfl
 | 1 => rfl
 | 2 => rfl
 | 3 => rfl
 | 4 => rfl
 | 5 => rfl
 | i + 6 => rfl
theorem u0_sel : sel l u0 = [] := sel_zero fun b hb => by
 unfold u0 six at hb
 simp only [List.mem_cons, List.not_mem_nil, or_false, or_self] at hb
 exact hb
theorem mcM_fwd (hL : Pos 0 l) (hl : l.length <= 6) (h : mcM l g = true) : MtS 0 l g := by
 unfold mcM at h
 cases hm : mcF l g u0 with
 | none => rw [hm] at h; cases h
 | some u =>
  rw [hm] at h
  obtain ⟨ps, h1, h2, h3, h4⟩ := mcF_fwd g u0 u rfl hl u0_noHi hm
  rw [u0_sel, List.append_nil] at h3
  have hc : cnt u = (l.length : Nat) := by simpa using h
  rw [sel_cnt h4] at hc
  have he : sel l u = l := sel_sub.eq_of_length (by omega)
  rw [he] at h3
  obtain ⟨f, hf, e, _⟩ := zip_fun hL h1 h2 ((pw_perm h3).1 hL.ap)
  exact ⟨f, hf, by rw [e]; exact h3.symm⟩
theorem find_at (hL : Pos 0 l) {R : List GAtom} (hp : (sel l u ++ x :: R).Perm l) : ∃ i, uaO l u x.a = some i /\ i < l.length /\ l.getD i nA = x /\ u.getD i false = false := by
 have hx : x ∈ l := hp.mem_iff.1 (by simp)
 obtain ⟨i, hi, e⟩ := List.getElem_of_mem hx
 have eD : l.getD i nA = x := by rw [List.getD_eq_getElem?_getD, List.getElem?_eq_getElem hi, Option.getD_some, e]
 have hu : u.getD i false = false := by
  cases hb : u.getD i false with
  | false => rfl
  | true =>
   have hm := sel_get hi hb
   rw [eD] at hm
   have := (pw_perm hp).2 hL.ap
   rw [List.pairwise_append] at this
   exact (this.2.2 x hm x (by simp) rfl).elim
 refine ⟨i, ?_, hi, eD, hu⟩
 unfold uaO
 rw [List.find?_range_eq_some]
 refine ⟨by unfold uaP; rw [eD, hu]; simp, List.mem_range.2 hi, fun j hj => ?_⟩
 have hjl : j < l.length := by omega
 have hne := List.pairwise_iff_getElem.1 hL.ap j i hjl hi hj
 rw [e] at hne
 unfold uaP
 have : l.getD j nA = l[j] := by rw [List.getD_eq_getElem?_getD, List.getElem?_eq_getElem hjl, Option.getD_some]
 rw [this, beq_eq_false_iff_ne.2 hne]
 rfl
theorem chn_bwd (hL : Pos 0 l) {p : List GAtom} (hp : Pth l y q p) : ∀ (f : Nat) (u : List Bool) (us : List Int) (R : List GAtom), u.length = 6 -> l.length <= 6 -> noHi l u -> p.length <= f -> Opn 0 l y p -> (sel l u ++ (p ++ R)).Perm l ->
  (chn l y f u q us).2.isSome = true /\ (sel l (chn l y f u q us).1).Perm (sel l u ++ p) /\ noHi l (chn l y f u q us).1 := by
 induction hp with
 | @last x h1 e =>
  intro f u us R hu hl hh hf _ hr
  obtain ⟨i, h2, h3, h4, h5⟩ := find_at (x := x) (R := R) hL hr
  have hs := sel_set (u := u) h3 (by omega) h5
  cases f with
  | zero => simp at hf
  | succ f =>
   simp only [chn]
   rw [h2]
   simp only
   rw [if_pos (by rw [h4]; exact e)]
   rw [h4] at hs
   exact ⟨rfl, hs.trans (List.perm_append_singleton _ _).symm, noHi_set hh h3⟩
 | @step x p h1 e h3 ih =>
  intro f u us R hu hl hh hf ho hr
  obtain ⟨i, h2, h3', h4, h5⟩ := find_at (x := x) (R := p ++ R) hL (by simpa using hr)
  have hs := sel_set (u := u) h3' (by omega) h5
  cases f with
  | zero => simp at hf
  | succ f =>
   simp only [chn]
   rw [h2]
   simp only
   rw [if_neg (by rw [h4]; exact e)]
   rw [h4] at hs ⊢
   have ho' := opn_iff.1 ho
   rw [List.dropLast_cons_of_ne_nil h3.ne] at ho'
   rw [if_neg (fun ⟨k1, k2⟩ => ho'.elim (fun h => by rw [k2] at h; cases h) fun h => h x (by simp) k1)]
   have ho2 : Opn 0 l y p := opn_iff.2 (ho'.imp id fun h x' hx' => h x' (by simp [hx']))
   have hr2 : (sel l (u.set i true) ++ (p ++ R)).Perm l := by
    refine .trans ?_ hr
    refine (hs.append_right _).trans ?_
    simp only [List.cons_append]
    exact List.perm_middle.symm
   obtain ⟨a1, a2, a3⟩ := ih f (u.set i true) (us ++ [(i : Int)]) R (by simpa using hu) hl (noHi_set hh h3') (by simpa using hf) ho2 hr2
   refine ⟨a1, a2.trans ?_, a3⟩
   refine (hs.append_right _).trans ?_
   simp only [List.cons_append]
   exact List.perm_middle.symm
theorem mcF_bwd (hL : Pos 0 l) {f : GAtom -> List GAtom} : ∀ (g : List GAtom) (u : List Bool), u.length = 6 -> l.length <= 6 -> noHi l u -> (∀ x ∈ g, OkA 0 l x (f x)) -> (sel l u ++ g.flatMap f).Perm l ->
  ∃ u', mcF l g u = some u' /\ (sel l u').Perm l /\ noHi l u' := by
 intro g
 induction g with
 | nil =>
  intro u _ _ hh _ hp
  exact ⟨u, rfl, by simpa using hp, hh⟩
 | cons x g ih =>
  intro u hu hl hh hf hp
  rw [List.flatMap_cons] at hp
  have key : useB l u x = true /\ (sel l (useU l u x)).Perm (sel l u ++ f x) /\ noHi l (useU l u x) := by
   rcases hf x (by simp) with ⟨k1, m1, e1⟩ | ⟨k1, p1, o1⟩
   ·rw [(use_cell k1).1, (use_cell k1).2]
    rw [e1] at hp ⊢
    obtain ⟨i, h2, h3, h4, h5⟩ := find_at (x := x) (R := g.flatMap f) hL hp
    have hq : ucO l u x = some i := by
     unfold ucO
     rw [h2]
     show cond (decide (l.getD i nA = x)) (some i) none = some i
     rw [decide_eq_true h4]; rfl
    unfold ucB ucU
    rw [hq]
    have hs := sel_set (u := u) h3 (by omega) h5
    rw [h4] at hs
    exact ⟨rfl, hs.trans (List.perm_append_singleton _ _).symm, noHi_set hh h3⟩
   ·rw [(use_chain k1).1, (use_chain k1).2]
    have hlen : (f x).length <= 7 := by
     have := hp.length_eq
     simp only [List.length_append] at this
     omega
    exact chn_bwd hL p1 7 u [] (g.flatMap f) hu hl hh hlen o1 hp
  obtain ⟨h1, h2, h3⟩ := key
  obtain ⟨u', h4, h5, h6⟩ := ih (useU l u x) (useU_len.trans hu) hl h3 (fun x' hx' => hf x' (by simp [hx'])) ((h2.append_right _).trans (by rw [List.append_assoc]; exact hp))
  refine ⟨u', ?_, h5, h6⟩
  simp only [mcF]
  rw [h1, cond_true, h4]
theorem mcM_bwd (hL : Pos 0 l) (hl : l.length <= 6) (h : MtS 0 l g) : mcM l g = true := by
 obtain ⟨f, hf⟩ := h
 obtain ⟨u', h1, h2, h3⟩ := mcF_bwd hL g u0 rfl hl u0_noHi hf.ok (by rw [u0_sel]; exact hf.all)
 unfold mcM
 rw [h1]
 have := sel_cnt h3
 have e := h2.length_eq
 simp only [beq_iff_eq]
 omega
theorem mcM_iff (hL : Pos 0 l) (hl : l.length <= 6) : mcM l g = true ↔ MtS 0 l g := ⟨mcM_fwd hL hl, mcM_bwd hL hl⟩
end
end Go.SE

namespace Go.SE
open Go.RowKit
def ct (s : GState) (n : Int) : Int := if 1 <= n /\ n <= 8 then s.heap.getD (n - 1).toNat 0 else -1
def al (s : GState) (n : Int) : Bool := decide (0 <= ct s n)
def walk (s : GState) (to : Int) : Nat -> Int -> Option (List Int)
 | 0, at' => if at' = to then some [] else none
 | f + 1, at' => if at' = to then some [] else cond (al s at') ((walk s to f (ct s at')).map (at' :: ·)) none
end Go.SE

namespace Go.SE
open Go.RowKit
section
variable {a : GAsn} {i : Nat}
end
end Go.SE

namespace Go.SE
open Go.RowKit
section
variable {a : GAsn} {i n : Nat}
end
end Go.SE

namespace Go.SE
open Go.RowKit
section
variable {s : GState}
end
section
variable {s : GState} {x y q : Int} {w : List Int}
end
section
variable {s : GState} {x y q : Int} {w : List Int}
end
section
variable {s : GState} {x : GAtom}
end
section
variable {s : GState} {l : List GAtom} {i j : Nat}
end
section
variable {s : GState} {a : GAsn} {i : Nat}
end
section
variable {l : List GFact} {v : List Int} {i : Nat}
end
section
variable {s : GState} {a : GAsn} {i j : Nat}
end
end Go.SE

namespace Go.SE
open Go.RowKit
section
variable {s : GState} {a : GAsn} {i j : Nat}
end
end Go.SE

namespace Go.SE
open Go.RowKit
section
variable {a : GAsn} {l : List Int} {i : Nat}
end
end Go.SE

namespace Go.SE
open Go.RowKit
end Go.SE

namespace Go.SE
open Go.RowKit
section
variable {s : GState} {a : GAsn} {f : GFact} {x t : Int}
end
end Go.SE

namespace Go.SE
open Go.RowKit
section
variable {c : List Int}
end
section
variable {V : List Int}
end
section
variable {s : GState}
end
section
variable {a : GAsn} {c : List Int}
end
end Go.SE

namespace Go.SE
open Go.RowKit
section
variable {a : GAsn} {s : GState}
end
end Go.SE

namespace Go.SE
open Go.RowKit
def imA (v : Int -> Int) (x : GAtom) : GAtom := ⟨x.kind, v x.a, v x.b⟩
def fv (v : Int -> Int) (l : List GAtom) : List GAtom := (filt v l).map (imA v)
structure Qv (a b : GAsn) (v : Int -> Int) : Prop where
 facts : ∀ f ∈ b.facts, (v f.a == v f.b) = f.eq
 mt : MtS (v 0) (fv v a.atoms) (fv v b.atoms)
section
variable {a b c : GAsn} {v w : Int -> Int} {l m : List GAtom}
theorem fL_fv {c : List Int} : fL c l = fv (cl c) l := by
 unfold fL fv filt
 rw [List.filter_map]
 rfl
theorem fv_app : fv v (l ++ m) = fv v l ++ fv v m := by unfold fv filt; rw [List.filter_append, List.map_append]
theorem fv_perm (h : l.Perm m) : (fv v l).Perm (fv v m) := (h.filter _).map _
theorem fv_len : (fv v l).length <= l.length := by unfold fv filt; rw [List.length_map]; exact List.length_filter_le _ _
theorem atV_kind {x : GAtom} (h : atV x = true) : x.kind ≠ 1 -> x.kind = 2 := by
 unfold atV at h
 simp only [Bool.and_eq_true, Bool.or_eq_true, beq_iff_eq] at h
 intro h1
 rcases h.1.1 with h2 | h2
 ·exact (h1 h2).elim
 ·exact h2
theorem fv_kind (h : l.all atV = true) : ∀ x ∈ fv v l, x.kind ≠ 1 -> x.kind = 2 := fun x hx => by
 obtain ⟨y, hy, rfl⟩ := List.mem_map.1 hx
 exact atV_kind (x := y) (List.all_eq_true.1 h y (List.mem_filter.1 hy).1)
theorem fv_pos (ha : a.atoms.all atV = true) (hv : possV a v) : Pos (v 0) (fv v a.atoms) := by
 refine ⟨fun x hx => ?_, ?_, fv_kind ha⟩
 ·obtain ⟨y, hy, rfl⟩ := List.mem_map.1 hx
  exact hv.nil y hy
 ·unfold fv
  rw [List.pairwise_map]
  exact hv.apart
theorem pos_poss (hf : ∀ f ∈ b.facts, (v f.a == v f.b) = f.eq) (h : Pos (v 0) (fv v b.atoms)) : possV b v := by
 refine ⟨hf, fun x hx => h.nz _ (List.mem_map_of_mem hx), ?_⟩
 have := h.ap
 unfold fv at this
 rw [List.pairwise_map] at this
 exact this
theorem Qv.poss (ha : a.atoms.all atV = true) (hb : b.atoms.all atV = true) (hv : possV a v) (h : Qv a b v) : possV b v := by
 obtain ⟨f, hf⟩ := h.mt
 exact pos_poss h.facts (hf.pos (fv_pos ha hv) (fv_kind hb))
theorem Qv.trans (ha : a.atoms.all atV = true) (hb : b.atoms.all atV = true) (hv : possV a v) (h1 : Qv a b v) (h2 : Qv b c v) : Qv a c v :=
 ⟨h2.facts, mts_trans (fv_pos ha hv) (fv_kind hb) h1.mt h2.mt⟩
theorem Qv.congr (P : Int -> Prop) (h : ∀ s t, P s -> P t -> (v s == v t) = (w s == w t)) (h0 : P 0) (hf : ∀ f ∈ b.facts, P f.a /\ P f.b) (ha : ∀ x ∈ a.atoms, P x.a /\ P x.b) (hb : ∀ x ∈ b.atoms, P x.a /\ P x.b) (hq : Qv a b v) : Qv a b w := by
 classical
 have heq : ∀ s t, P s -> P t -> (v s = v t ↔ w s = w t) := fun s t hs ht => by
  have := h s t hs ht
  rw [Bool.eq_iff_iff, beq_iff_eq, beq_iff_eq] at this
  exact this
 let n : Int -> Int := fun x => if h : ∃ t, P t /\ v t = x then w h.choose else 0
 have hn : ∀ t, P t -> n (v t) = w t := fun t ht => by
  have he : ∃ t', P t' /\ v t' = v t := ⟨t, ht, rfl⟩
  show (if h : ∃ t', P t' /\ v t' = v t then w h.choose else 0) = _
  rw [dif_pos he]
  exact (heq _ _ he.choose_spec.1 ht).1 he.choose_spec.2
 have hfv : ∀ l : List GAtom, (∀ x ∈ l, P x.a /\ P x.b) -> fv w l = (fv v l).map fun x => ⟨x.kind, n x.a, n x.b⟩ := fun l hl => by
  have ef : filt v l = filt w l := List.filter_congr fun x hm => by rw [h _ _ (hl x hm).1 (hl x hm).2]
  unfold fv
  rw [List.map_map, ef]
  refine List.map_congr_left fun x hx => ?_
  have hx' := hl x (List.mem_filter.1 hx).1
  show (⟨x.kind, w x.a, w x.b⟩ : GAtom) = ⟨x.kind, n (v x.a), n (v x.b)⟩
  rw [hn _ hx'.1, hn _ hx'.2]
 have hV : ∀ l : List GAtom, (∀ x ∈ l, P x.a /\ P x.b) -> ∀ x ∈ fv v l, (∃ t, P t /\ v t = x.a) /\ ∃ t, P t /\ v t = x.b := fun l hl x hx => by
  obtain ⟨y, hy, rfl⟩ := List.mem_map.1 hx
  have hy' := hl y (List.mem_filter.1 hy).1
  exact ⟨⟨y.a, hy'.1, rfl⟩, ⟨y.b, hy'.2, rfl⟩⟩
 refine ⟨fun f hf' => by rw [← h _ _ (hf f hf').1 (hf f hf').2]; exact hq.facts f hf', ?_⟩
 rw [hfv _ ha, hfv _ hb, ← hn 0 h0]
 refine mts_map (φ := fun x => ⟨x.kind, n x.a, n x.b⟩) (fun _ => rfl) (fun x => ∃ t, P t /\ v t = x) ?_ (hV _ ha) (hV _ hb) ⟨0, h0, rfl⟩ hq.mt
 rintro s t ⟨s', hs, rfl⟩ ⟨t', ht, rfl⟩ e
 rw [hn _ hs, hn _ ht] at e
 exact (heq _ _ hs ht).2 e
theorem hz00 {q : Int -> Bool} : hz a q 0 = true := rfl
theorem hzA_fact (ha : asV a = true) {q : Int -> Bool} {k : Int} (h : occ a k = true) : 0 <= k /\ k <= 8 /\ hz a q k.toNat = true := by
 have ht := occ_isT ha h
 have := isT_iff.1 ht
 refine ⟨this.1, this.2, ?_⟩
 unfold hz
 rw [show ((k.toNat : Nat) : Int) = k by omega, ht, h]
 simp
theorem mc_iff (ha : asV a = true) {q : Int -> Bool} {c : List Int} (hc : c ∈ casesB a (hz a q)) : MC a b c = true ↔ Qv a b (cl c) := by
 have hn := hz_named ha q
 rw [casesB_eq hn] at hc
 obtain ⟨h1, h2⟩ := List.mem_filter.1 hc
 have hp := (possI_iff hn h1 hz00).1 h2
 have hA := asV_facts ha
 have h0 := full_val h1 (k := 0) (by decide) (by decide) hz00
 have hz0 : cl c 0 = 0 := by omega
 have hpos := fv_pos hA.2.2.1 hp
 rw [hz0] at hpos
 unfold MC
 rw [Bool.and_eq_true, fL_fv, fL_fv, mcM_iff hpos (Nat.le_trans fv_len hA.2.2.2), List.all_eq_true]
 constructor
 ·rintro ⟨h3, h4⟩
  exact ⟨fun f hf => by have := h3 f hf; unfold fh at this; simpa using this, by rw [hz0]; exact h4⟩
 ·rintro ⟨h3, h4⟩
  rw [hz0] at h4
  exact ⟨fun f hf => by unfold fh; rw [h3 f hf]; simp, h4⟩
theorem ent_iff : ENT a b = true ↔ asV a = true /\ asV b = true /\ ∀ v, possV a v -> Qv a b v := by
 classical
 unfold ENT
 rw [Bool.and_eq_true, Bool.and_eq_true]
 refine and_congr_right fun ha => and_congr_right fun hb => ?_
 have hP : ∀ k, occ a k = true ∨ occ b k = true -> 0 <= k /\ k <= 8 /\ hz a (occB b) k.toNat = true := fun k hk => hk.elim (fun h => hzA_fact ha h) fun h => hzB_has hb h
 have key := cases_all (hz_named ha (occB b)) hz00 (fun v => decide (Qv a b v)) fun v w h => by
  have h' : ∀ s t : Int, (0 <= s /\ s <= 8 /\ hz a (occB b) s.toNat = true) -> (0 <= t /\ t <= 8 /\ hz a (occB b) t.toNat = true) -> (v s == v t) = (w s == w t) := fun s t hs ht => h s t hs.1 hs.2.1 hs.2.2 ht.1 ht.2.1 ht.2.2
  have f1 : ∀ f ∈ b.facts, (0 <= f.a /\ f.a <= 8 /\ hz a (occB b) f.a.toNat = true) /\ (0 <= f.b /\ f.b <= 8 /\ hz a (occB b) f.b.toNat = true) := fun f hf => ⟨hP _ (.inr (occ_fact hb hf).1), hP _ (.inr (occ_fact hb hf).2)⟩
  have f2 : ∀ x ∈ a.atoms, (0 <= x.a /\ x.a <= 8 /\ hz a (occB b) x.a.toNat = true) /\ (0 <= x.b /\ x.b <= 8 /\ hz a (occB b) x.b.toNat = true) := fun f hf => ⟨hP _ (.inl (occ_atom ha hf).1), hP _ (.inl (occ_atom ha hf).2)⟩
  have f3 : ∀ x ∈ b.atoms, (0 <= x.a /\ x.a <= 8 /\ hz a (occB b) x.a.toNat = true) /\ (0 <= x.b /\ x.b <= 8 /\ hz a (occB b) x.b.toNat = true) := fun f hf => ⟨hP _ (.inr (occ_atom hb hf).1), hP _ (.inr (occ_atom hb hf).2)⟩
  rw [decide_eq_decide]
  exact ⟨fun hq => hq.congr _ h' ⟨by decide, by decide, hz00⟩ f1 f2 f3, fun hq => hq.congr _ (fun s t hs ht => (h' s t hs ht).symm) ⟨by decide, by decide, hz00⟩ f1 f2 f3⟩
 have e : ((casesB a (hz a (occB b))).all fun c => MC a b c) = ((casesB a (hz a (occB b))).all fun d => decide (Qv a b (cl d))) := by
  rw [Bool.eq_iff_iff, List.all_eq_true, List.all_eq_true]
  exact ⟨fun h c hc => decide_eq_true ((mc_iff ha hc).1 (h c hc)), fun h c hc => (mc_iff ha hc).2 (of_decide_eq_true (h c hc))⟩
 rw [e, key]
 exact ⟨fun h v hv => of_decide_eq_true (h v hv), fun h v hv => decide_eq_true (h v hv)⟩
theorem asV_at (h : asV a = true) : a.atoms.all atV = true := (asV_facts h).2.2.1
theorem ent_v1 (h : ENT a b = true) : asV a = true := (ent_iff.1 h).1
theorem ent_v2 (h : ENT a b = true) : asV b = true := (ent_iff.1 h).2.1
theorem qv_self (hf : ∀ f ∈ b.facts, (v f.a == v f.b) = f.eq) (h : (fv v b.atoms).Perm (fv v a.atoms)) : Qv a b v := ⟨hf, mts_self h⟩
theorem ent_same (ha : asV a = true) (hb : asV b = true) (hf : ∀ v, possV a v -> ∀ f ∈ b.facts, (v f.a == v f.b) = f.eq) (hp : ∀ v, possV a v -> (fv v b.atoms).Perm (fv v a.atoms)) : ENT a b = true :=
 ent_iff.2 ⟨ha, hb, fun v hv => qv_self (hf v hv) (hp v hv)⟩
theorem ent_sub (ha : asV a = true) (hb : asV b = true) (hf : ∀ f ∈ b.facts, f ∈ a.facts) (hp : b.atoms.Perm a.atoms) : ENT a b = true :=
 ent_same ha hb (fun _ hv f h => hv.facts f (hf f h)) fun _ _ => fv_perm hp
theorem ent_refl (ha : asV a = true) : ENT a a = true := ent_sub ha ha (fun _ h => h) (.refl _)
theorem ent_trans (h1 : ENT a b = true) (h2 : ENT b c = true) : ENT a c = true := by
 obtain ⟨ha, hb, h1⟩ := ent_iff.1 h1
 obtain ⟨_, hc, h2⟩ := ent_iff.1 h2
 refine ent_iff.2 ⟨ha, hc, fun v hv => ?_⟩
 have hq := h1 v hv
 exact hq.trans (asV_at ha) (asV_at hb) hv (h2 v (hq.poss (asV_at ha) (asV_at hb) hv))
theorem possV_star1 (h : possV (starA a c) v) : possV a v := by
 obtain ⟨h1, h2, h3⟩ := h
 unfold starA at h1 h2 h3
 simp only at h1 h2 h3
 have e : filt v (a.atoms ++ c.atoms) = filt v a.atoms ++ filt v c.atoms := List.filter_append ..
 rw [e] at h2 h3
 exact ⟨fun f hf => h1 f (by simp [hf]), fun x hx => h2 x (by simp [hx]), (List.pairwise_append.1 h3).1⟩
theorem ent_frame (h : ENT a b = true) (h1 : asV (starA a c) = true) (h2 : asV (starA b c) = true) : ENT (starA a c) (starA b c) = true := by
 obtain ⟨ha, hb, h⟩ := ent_iff.1 h
 refine ent_iff.2 ⟨h1, h2, fun v hv => ?_⟩
 have hq := h v (possV_star1 hv)
 have hp := fv_pos (asV_at h1) hv
 have e1 : (starA a c).atoms = a.atoms ++ c.atoms := rfl
 have e2 : (starA b c).atoms = b.atoms ++ c.atoms := rfl
 refine ⟨fun f hf => ?_, ?_⟩
 ·rcases List.mem_append.1 hf with hf | hf
  ·exact hq.facts f hf
  ·exact hv.facts f (List.mem_append.2 (.inr hf))
 ·rw [e1, fv_app] at hp ⊢
  rw [e2, fv_app]
  exact mts_frame hp hq.mt (mts_self (.refl _))
end
end Go.SE

namespace Go.SE
open Go.RowKit
inductive Sg (s : GState) (e : Int) : Int -> List Int -> Prop
 | nil : Sg s e e []
 | step {q : Int} {ns : List Int} : al s q = true -> Sg s e (ct s q) ns -> Sg s e q (q :: ns)
def acV (s : GState) (x : GAtom) : Option (List Int) := if x.kind = 2 then walk s x.b 8 x.a else if ct s x.a = x.b then some [x.a] else none
def ftp (s : GState) (x : GAtom) : List Int := (acV s x).getD []
section
variable {s : GState} {q e m : Int} {ns ms : List Int} {a b : GAsn} {L G : List GAtom} {p : List GAtom} {f : GAtom -> List GAtom} {g : GAtom}
theorem Sg.cat (h : Sg s m q ns) (h2 : Sg s e m ms) : Sg s e q (ns ++ ms) := by
 induction h with
 | nil => exact h2
 | step h1 _ ih => exact .step h1 ih
theorem Sg.al (h : Sg s e q ns) : ∀ n ∈ ns, al s n = true := by
 induction h with
 | nil => intro n hn; cases hn
 | step h1 _ ih =>
  intro n hn
  rcases List.mem_cons.1 hn with e | hn
  ·rw [e]; exact h1
  ·exact ih n hn
theorem Pth.first {L : List GAtom} {y q : Int} {p : List GAtom} (h : Pth L y q p) {x : GAtom} (hx : x ∈ p) (e : x.a = y) : q = y := by
 induction h with
 | last h1 h2 => rw [List.mem_singleton] at hx; rw [hx] at e; exact e
 | @step x0 p h1 h2 h3 ih =>
  rcases List.mem_cons.1 hx with e2 | hx
  ·rw [e2] at e; exact e
  ·exact (h2 (ih hx)).elim
structure Hp (s : GState) (L : List GAtom) : Prop where
 pos : Pos 0 L
 ne : ∀ x ∈ L, x.kind = 2 -> x.a ≠ x.b
 vb : ∀ x ∈ L, 0 <= x.b
 ac : ∀ x ∈ L, (acV s x).isSome = true
 nd : (L.flatMap (ftp s)).Nodup
theorem Hp.own (h : Hp s L) {x x' : GAtom} (hx : x ∈ L) (hx' : x' ∈ L) {n : Int} (h1 : n ∈ ftp s x) (h2 : n ∈ ftp s x') : x = x' := by
 have hd := h.nd
 unfold List.Nodup at hd
 rw [List.pairwise_flatMap] at hd
 have key : ∀ {l : List GAtom}, (l.Pairwise fun x x' => ∀ n ∈ ftp s x, ∀ n' ∈ ftp s x', n ≠ n') -> x ∈ l -> x' ∈ l -> x = x' := by
  intro l hl a1 a2
  induction l with
  | nil => cases a1
  | cons a l ih =>
   rw [List.pairwise_cons] at hl
   rcases List.mem_cons.1 a1 with e1 | a3 <;> rcases List.mem_cons.1 a2 with e2 | a4
   ·rw [e1, e2]
   ·rw [e1] at h1; exact (hl.1 _ a4 n h1 n h2 rfl).elim
   ·rw [e2] at h2; exact (hl.1 _ a3 n h2 n h1 rfl).elim
   ·exact ih hl.2 a3 a4
 exact key hd.2 hx hx'
end
end Go.SE

namespace Go.SE
open Go.RowKit
def woF (l : List GAtom) (i k : Int) (n : Nat) : List GAtom := ((List.range n).filter fun (j : Nat) => !((j : Int) == i) && !((j : Int) == k)).map fun j => l.getD j nA
def foldA (a : GAsn) (i k : Nat) : GAsn := ⟨a.facts, ⟨2, (a.atoms.getD i nA).a, (a.atoms.getD k nA).b⟩ :: woF a.atoms i k a.atoms.length⟩
def fcOk (a : GAsn) (i k : Nat) : Bool := !(i == k) && (((a.atoms.getD i nA).b == (a.atoms.getD k nA).a) && ENT a (foldA a i k))
def fcR (a : GAsn) (i : Nat) : Option Nat := (List.range a.atoms.length).find? (fcOk a i)
def fcI (a : GAsn) : Option Nat := (List.range a.atoms.length).find? fun i => (fcR a i).isSome
def fcO (a : GAsn) : Option GAsn := cond (asV a) ((fcI a).bind fun i => (fcR a i).map fun k => foldA a i k) none
def fcL (a : GAsn) : GAsn := (fcO a).getD ⟨[], []⟩
def fcB (a : GAsn) : Bool := (fcO a).isSome
section
variable {a : GAsn} {l : List GAtom} {i k : Int} {n : Nat}
theorem fo_len6 (ha : asV a = true) : a.facts.length <= 12 /\ a.atoms.length <= 6 := ⟨(asV_facts ha).2.1, (asV_facts ha).2.2.2⟩
theorem fo_spec (h : fcB a = true) : ∃ i k : Nat, i < a.atoms.length /\ k < a.atoms.length /\ i ≠ k /\ fcL a = foldA a i k /\ ENT a (foldA a i k) = true := by
 unfold fcB at h
 obtain ⟨b, hb⟩ := Option.isSome_iff_exists.1 h
 have hb' := hb
 unfold fcO at hb
 cases ha : asV a with
 | false => rw [ha] at hb; cases hb
 | true =>
  rw [ha, cond_true] at hb
  cases hI : fcI a with
  | none => rw [hI] at hb; cases hb
  | some i =>
   rw [hI] at hb
   have hb : (fcR a i).map (fun k => foldA a i k) = some b := hb
   cases hR : fcR a i with
   | none => rw [hR] at hb; cases hb
   | some k =>
    rw [hR] at hb
    injection hb with hb
    unfold fcR at hR
    obtain ⟨h1, h2, _⟩ := List.find?_range_eq_some.1 hR
    unfold fcI at hI
    obtain ⟨_, h4, _⟩ := List.find?_range_eq_some.1 hI
    unfold fcOk at h1
    simp only [Bool.and_eq_true, Bool.not_eq_true', beq_eq_false_iff_ne, ne_eq] at h1
    refine ⟨i, k, List.mem_range.1 h4, List.mem_range.1 h2, h1.1, ?_, h1.2.2⟩
    unfold fcL
    rw [hb', ← hb]
    rfl
theorem filter_two : ∀ (n i k : Nat), i < n -> k < n -> i ≠ k -> ((List.range n).filter fun (j : Nat) => !((j : Int) == (i : Int)) && !((j : Int) == (k : Int))).length = n - 2 := by
 intro n i k hi hk hne
 have h1 : ∀ (n i : Nat), ((List.range n).filter fun (j : Nat) => !((j : Int) == (i : Int))).length = if i < n then n - 1 else n := by
  intro n i
  induction n with
  | zero => rfl
  | succ n ih =>
   rw [List.range_succ, List.filter_append, List.length_append, ih]
   by_cases e : n = i
   ·subst e; simp
   ·have : ¬ (n : Int) = (i : Int) := by omega
    simp only [List.filter_cons, beq_eq_false_iff_ne.2 this, Bool.not_false, if_true, List.filter_nil, List.length_cons, List.length_nil]
    split <;> split <;> omega
 have h2 : ∀ n : Nat, ((List.range n).filter fun (j : Nat) => !((j : Int) == (i : Int)) && !((j : Int) == (k : Int))).length = if i < n then (if k < n then n - 2 else n - 1) else (if k < n then n - 1 else n) := by
  intro n
  induction n with
  | zero => rfl
  | succ n ih =>
   rw [List.range_succ, List.filter_append, List.length_append, ih]
   by_cases e : n = i
   ·subst e
    have : (k < n + 1) ↔ k < n := by omega
    simp only [this]
    simp
    all_goals (split <;> omega)
   ·have e' : ¬ (n : Int) = (i : Int) := by omega
    by_cases e2 : n = k
    ·subst e2
     have : (i < n + 1) ↔ i < n := by omega
     simp only [this]
     simp
     all_goals (split <;> omega)
    ·have e2' : ¬ (n : Int) = (k : Int) := by omega
     simp only [List.filter_cons, beq_eq_false_iff_ne.2 e', beq_eq_false_iff_ne.2 e2', Bool.not_false, Bool.and_self, if_true, List.filter_nil, List.length_cons, List.length_nil]
     split <;> split <;> split <;> split <;> omega
 rw [h2, if_pos hi, if_pos hk]
theorem fo_len (h : fcB a = true) : (fcL a).atoms.length = a.atoms.length - 1 := by
 obtain ⟨i, k, h1, h2, h3, h4, _⟩ := fo_spec h
 rw [h4]
 unfold foldA woF
 simp only [List.length_cons, List.length_map]
 rw [filter_two _ _ _ h1 h2 h3]
 omega
theorem fcL_len : (fcL a).facts.length <= a.facts.length /\ (fcL a).atoms.length <= a.atoms.length := by
 cases h : fcB a with
 | true =>
  obtain ⟨i, k, h1, h2, h3, h4, _⟩ := fo_spec h
  have := fo_len h
  have e : (fcL a).facts = a.facts := by rw [h4]; rfl
  exact ⟨by rw [e]; exact Nat.le_refl _, by omega⟩
 | false =>
  unfold fcB at h
  have : fcO a = none := by simpa using h
  unfold fcL
  rw [this]
  exact ⟨Nat.zero_le _, Nat.zero_le _⟩
end
end Go.SE

namespace Go.SE
open Go.RowKit
section
variable {a b c : GAsn} {s : GState} {f : GFact} {x y : Int}
theorem stL_of (h : starOk a b = true) : starL a b = starA a b /\ asV (starA a b) = true /\ asV a = true /\ asV b = true := by
 have h' := h
 unfold starOk at h'
 simp only [Bool.and_eq_true] at h'
 unfold starL
 rw [h]
 exact ⟨rfl, h'.2, h'.1.1, h'.1.2⟩
theorem starL_bdF (h1 : a.facts.length <= 100) (h2 : b.facts.length <= 100) : (starL a b).facts.length <= 200 := Nat.le_trans (starL_lenF _ _) (by omega)
theorem starL_bdA (h1 : a.atoms.length <= 100) (h2 : b.atoms.length <= 100) : (starL a b).atoms.length <= 200 := Nat.le_trans (starL_lenA _ _) (by omega)
end
end Go.SE

namespace Go.SE
open Go.RowKit
abbrev hn (a : GAsn) : Nat -> Bool := hz a fun _ => false
def cn (a : GAsn) (vs : List Int) : List Int := canon (hn a) (tv vs)
section
variable {a : GAsn} {vs : List Int} {i j : Nat} {x : Int}
end
end Go.SE

namespace Go.SE
open Go.RowKit
section
variable {a : GAsn} {i : Int}
end
end Go.SE

namespace Go.SE
open Go.RowKit
section
variable {a : GAsn} {s : GState} {i : Int}
end
end Go.SE
namespace Go.SE
section
variable {a b c : GAsn}
end
end Go.SE
namespace Go.SE
section
variable {a : GAsn} {i : Int}
end
end Go.SE
namespace Go.SE
section
variable {s : GState} {t v : Int}
end
end Go.SE
namespace Go.SE
section
variable {a : GAsn} {i : Int} {p : Nat × Bool}
end
end Go.SE

namespace Go.SE
open Go.RowKit
structure ClC where
 pre : Int -> GAsn -> GAsn -> Prop
 acc : Int -> GAsn -> GAsn -> Bool
def ClC.con (c : ClC) : Con := ⟨[.int, .pasn, .pasn], [.bool], fun (m, a, b, _) => c.pre m a b, .inl fun (m, a, b, _) => (c.acc m a b, ()), fun _ => 0⟩
section
variable {P : Program} {E : Ty -> TypeId} {w0 : World} {M : MM} {n : Nat} {st : St} {w : World} {g : G}
theorem Good.same (hg : Good E w0 M g st w) (hcl : MCl st) {w' : World} (hx : Ext (fun _ => False) w w') : Good E w0 M g st w' := by
 have hg0 : Good E w0 M g { st with env := fun _ => junk } w := hg.env rfl rfl rfl rfl
 have hcl0 : Cl { st with env := fun _ => junk } := ⟨(fun x id hid => by cases hid), hcl⟩
 have hm : ∀ b, b < w.heap.size -> w'.heap[b]? = w.heap[b]? := fun b hb => hx.block b hb fun h => h
 have := hg0.extend hcl0 (w' := w') (g' := g) [] (hg.ext.trans ⟨hx.os, hx.tape, hx.output, hx.size, fun b hb _ => hm b hb⟩) hm (fun _ _ h => h) (fun _ _ h => .inl h) (fun _ _ => ⟨rfl, rfl⟩) rfl (fun p hp => by cases hp) (fun _ _ hp => by cases hp) (fun _ _ hp => by cases hp) (fun _ _ _ _ hp => by cases hp)
 exact this.env rfl rfl rfl rfl
end
end Go.SE
namespace Go.SE
open Go.RowKit
def lmO (acc : Int -> Bool) (n : Int) : Option Nat := (List.range (2 ^ n.toNat)).find? fun m => acc (m : Int)
def lmI (acc : Int -> Bool) (n : Int) : Int := (((lmO acc n).getD 0 : Nat) : Int)
def lmB (acc : Int -> Bool) (n : Int) : Bool := (lmO acc n).isSome
section
variable {P : Program} {E : Ty -> TypeId} {w0 : World} {M : MM} {st : St} {w : World} {g : G}
theorem lm_found {acc : Int -> Bool} {n : Int} {m : Nat} (hm : (m : Int) < 2 ^ n.toNat) (h : ∀ j : Nat, j < m -> acc j = false) (ha : acc m = true) : (m : Int) = lmI acc n /\ true = lmB acc n := by
 have : lmO acc n = some m := by
  unfold lmO
  rw [List.find?_range_eq_some]
  refine ⟨ha, List.mem_range.2 ?_, fun j hj => by rw [h j hj]; rfl⟩
  have e : ((2 ^ n.toNat : Nat) : Int) = 2 ^ n.toNat := by push_cast; rfl
  omega
 unfold lmI lmB
 rw [this]
 exact ⟨rfl, rfl⟩
end
end Go.SE

namespace Go.SE
open Go.RowKit
def pkS (a : GAsn) (m : Int) : GAsn := ⟨[], pkA m a.atoms⟩
def FRA (m : Int) (b a : GAsn) : Bool := starOk b (pkS a m) && ENT a (starL b (pkS a m))
def frmI (a b : GAsn) : Int := lmI (fun m => FRA m b a) (a.atoms.length : Int)
def frmB (a b : GAsn) : Bool := asV a && (asV b && lmB (fun m => FRA m b a) (a.atoms.length : Int))
def frmL (a b : GAsn) : GAsn := cond (frmB a b) (pkS a (frmI a b)) ⟨[], []⟩
section
variable {a b : GAsn} {m : Int}
theorem pkA_mem {l : List GAtom} : ∀ x ∈ pkA m l, x ∈ l := by
 intro x hx
 unfold pkA pk at hx
 obtain ⟨i, hi, rfl⟩ := List.mem_map.1 hx
 have := List.mem_range.1 (List.mem_filter.1 hi).1
 rw [List.getD_eq_getElem?_getD, List.getElem?_eq_getElem this]
 exact List.getElem_mem _
theorem pkA_le {l : List GAtom} : (pkA m l).length <= l.length := pk_len m l _
theorem pkS_val (ha : asV a = true) : asV (pkS a m) = true := by
 have hA := asV_facts ha
 unfold asV fsV pkS
 have h1 : (pkA m a.atoms).length <= 6 := Nat.le_trans pkA_le hA.2.2.2
 have h2 : (pkA m a.atoms).all atV = true := List.all_eq_true.2 fun x hx => List.all_eq_true.1 hA.2.2.1 x (pkA_mem x hx)
 simp only [List.length_nil, List.all_nil, h1, h2, decide_true]
 rfl
theorem fra_ok (h : FRA m b a = true) : starOk b (pkS a m) = true /\ ENT a (starL b (pkS a m)) = true := by
 unfold FRA at h
 rwa [Bool.and_eq_true] at h
end
end Go.SE
namespace Go.SE
section
variable {a b : GAsn}
theorem pkTop_eq (ha : asV a = true) : pkTop a = 2 ^ a.atoms.length /\ pkTop a <= 64 /\ 1 <= pkTop a := by
 have h := (asV_facts ha).2.2.2
 unfold pkTop
 have : ∀ k : Nat, k <= 6 -> IntKind.wrap .i64 ((1 : Int) * 2 ^ (min k (IntKind.bits .i64))) = 2 ^ k /\ IntKind.wrap .i64 ((1 : Int) * 2 ^ (min k (IntKind.bits .i64))) <= 64 /\ 1 <= IntKind.wrap .i64 ((1 : Int) * 2 ^ (min k (IntKind.bits .i64))) := by decide
 exact this _ h
end
end Go.SE
namespace Go.SE
section
variable {a b : GAsn} {m : Int}
theorem pkTop_w : IntKind.wrap .i64 (1 * 2 ^ min a.atoms.length (IntKind.bits .i64)) = pkTop a := rfl
end
end Go.SE

namespace Go.SE
open Go.RowKit
section
variable {P : Program} {E : Ty -> TypeId} {tab : TypeId -> Option TI} {w0 : World} {M : MM} {n : Nat} {o : Oper} {st : St} {a : Act} {w : World}
end
end Go.SE

namespace Go.SE
open Go.RowKit
def ufrR (a p q : GAsn) : GAsn := ⟨a.facts ++ q.facts, q.atoms ++ (frmL a p).atoms⟩
def ufrB (a p q : GAsn) : Bool := frmB a p && (asV q && asV (ufrR a p q))
def ufrL (a p q : GAsn) : GAsn := cond (ufrB a p q) (ufrR a p q) ⟨[], []⟩
section
variable {a b p q : GAsn} {m : Int}
theorem frmL_facts : (frmL a b).facts = [] := by unfold frmL; cases frmB a b <;> rfl
theorem frmL_len : (frmL a b).facts.length = 0 /\ (frmL a b).atoms.length <= a.atoms.length := by
 rw [frmL_facts]
 refine ⟨rfl, ?_⟩
 unfold frmL
 cases frmB a b with
 | true => exact pkA_le
 | false => exact Nat.zero_le _
theorem lm_spec {acc : Int -> Bool} {n : Int} (h : lmB acc n = true) : ∃ i : Nat, lmI acc n = (i : Int) /\ i < 2 ^ n.toNat /\ acc i = true /\ ∀ j : Nat, j < i -> acc j = false := by
 unfold lmB at h
 obtain ⟨i, hi⟩ := Option.isSome_iff_exists.1 h
 have hi' := hi
 unfold lmO at hi
 obtain ⟨h1, h2, h3⟩ := List.find?_range_eq_some.1 hi
 refine ⟨i, by unfold lmI; rw [hi']; rfl, List.mem_range.1 h2, h1, fun j hj => ?_⟩
 have := h3 j hj
 simpa using this
theorem frm_spec (h : frmB a b = true) : asV a = true /\ asV b = true /\ asV (frmL a b) = true /\ asV (starA b (frmL a b)) = true /\ ENT a (starA b (frmL a b)) = true := by
 have h' := h
 unfold frmB at h'
 simp only [Bool.and_eq_true] at h'
 obtain ⟨ha, hb, hl⟩ := h'
 obtain ⟨i, hi, _, hacc, _⟩ := lm_spec hl
 have e : frmL a b = pkS a i := by unfold frmL frmI; rw [h, cond_true, hi]
 obtain ⟨h1, h2⟩ := fra_ok hacc
 rw [e]
 have h3 := stL_of h1
 rw [h3.1] at h2
 exact ⟨ha, hb, pkS_val ha, h3.2.1, h2⟩
theorem mbit0 : ∀ i : Nat, mbit 0 i = false := fun i => by
 unfold mbit
 rw [Int.zero_fdiv]
 decide
theorem pkA0 {l : List GAtom} : pkA 0 l = [] := by
 unfold pkA pk
 rw [List.filter_eq_nil_iff.2 fun i _ => by rw [mbit0]; simp]
 rfl
theorem fra0 (h : ENT a b = true) : FRA 0 b a = true := by
 have hb := ent_v2 h
 have e : pkS a 0 = ⟨[], []⟩ := by unfold pkS; rw [pkA0]
 have e2 : starA b ⟨[], []⟩ = b := by unfold starA; simp
 have ho : starOk b ⟨[], []⟩ = true := by unfold starOk; rw [e2, hb]; rfl
 unfold FRA
 rw [e, ho, (stL_of ho).1, e2, h]; rfl
theorem frm_ent (h : ENT a b = true) : frmB a b = true /\ frmL a b = ⟨[], []⟩ := by
 have ha := ent_v1 h
 have hb := ent_v2 h
 have hf := fra0 h
 obtain ⟨h1, h2⟩ := lm_found (acc := fun m => FRA m b a) (n := (a.atoms.length : Int)) (m := 0) (by have := (pkTop_eq ha).2.2; rw [(pkTop_eq ha).1] at this; rw [Int.toNat_natCast]; omega) (fun j hj => absurd hj (Nat.not_lt_zero _)) hf
 have hB : frmB a b = true := by unfold frmB; rw [ha, hb, ← h2]; rfl
 refine ⟨hB, ?_⟩
 unfold frmL frmI
 rw [hB, cond_true, ← h1]
 show pkS a 0 = _
 unfold pkS; rw [pkA0]
theorem frm_self (ha : asV a = true) : frmB a a = true /\ (frmL a a).atoms.length = 0 := by
 obtain ⟨h1, h2⟩ := frm_ent (ent_refl ha)
 exact ⟨h1, by rw [h2]; rfl⟩
theorem frm_entA (h : ENT a b = true) : (frmL a b).atoms.length = 0 := by rw [(frm_ent h).2]; rfl
theorem ufr_all (h : ufrB a p q = true) : frmB a p = true /\ asV q = true /\ asV (ufrR a p q) = true /\ ufrL a p q = ufrR a p q := by
 have h' := h
 unfold ufrB at h'
 simp only [Bool.and_eq_true] at h'
 exact ⟨h'.1, h'.2.1, h'.2.2, by unfold ufrL; rw [h]; rfl⟩
theorem ent_facts {c : GAsn} (h : ENT a c = true) (hv : asV ⟨a.facts ++ c.facts, c.atoms⟩ = true) : ENT a ⟨a.facts ++ c.facts, c.atoms⟩ = true := by
 obtain ⟨ha, hc, h⟩ := ent_iff.1 h
 refine ent_iff.2 ⟨ha, hv, fun v hp => ⟨fun f hf => ?_, (h v hp).mt⟩⟩
 rcases List.mem_append.1 hf with hf | hf
 ·exact hp.facts f hf
 ·exact (h v hp).facts f hf
theorem ufr_star : starA q (frmL a p) = ⟨q.facts, q.atoms ++ (frmL a p).atoms⟩ := by unfold starA; rw [frmL_facts, List.append_nil]
theorem ufr_ent (h : ufrB a p q = true) (he : ENT p q = true) : ENT a (ufrL a p q) = true := by
 obtain ⟨hf, hq, hv, e⟩ := ufr_all h
 obtain ⟨ha, hp, hF, hs, hE⟩ := frm_spec hf
 rw [e]
 have hsq : asV (starA q (frmL a p)) = true := by
  rw [ufr_star]
  have := asV_facts hv
  have hq' := asV_facts hq
  unfold asV fsV
  rw [hq'.1, decide_eq_true hq'.2.1, decide_eq_true (show (q.atoms ++ (frmL a p).atoms).length <= 6 from this.2.2.2), show (q.atoms ++ (frmL a p).atoms).all atV = true from this.2.2.1]
  rfl
 have h2 := ent_trans hE (ent_frame he hs hsq)
 rw [ufr_star] at h2
 exact ent_facts h2 hv
theorem ufr_same (h : ufrB a p p = true) : ENT a (ufrL a p p) = true := ufr_ent h (ent_refl (ufr_all h).2.1)
theorem ufr_len (h : ufrB a p q = true) : (ufrL a p q).atoms.length = q.atoms.length + (frmL a p).atoms.length := by
 rw [(ufr_all h).2.2.2]
 unfold ufrR
 simp
theorem ufrL_le : (ufrL a p q).facts.length <= a.facts.length + q.facts.length /\ (ufrL a p q).atoms.length <= q.atoms.length + a.atoms.length := by
 have := frmL_len (a := a) (b := p)
 unfold ufrL ufrR
 cases ufrB a p q with
 | true => simp; omega
 | false => simp
theorem mbits : ∀ n : Nat, n <= 6 -> ∀ m : Nat, m < 64 -> ∀ i : Nat, i < 6 -> m < 2 ^ n -> i < n -> mbit ((2 ^ n : Int) - 1 - m) i = !mbit m i := by decide +kernel
theorem pk_two {l : List GAtom} (hl : l.length <= 6) {m : Int} (h0 : 0 <= m) (h1 : m < 2 ^ l.length) : (pkA m l ++ pkA ((2 ^ l.length : Int) - 1 - m) l).Perm l := by
 have hm : m.toNat < 64 := by
  have : ∀ k : Nat, k <= 6 -> (2 : Int) ^ k <= 64 := by decide
  have := this _ hl
  omega
 have e : ((2 ^ l.length : Nat) : Int) = 2 ^ l.length := by push_cast; rfl
 have hb : ∀ i, i < l.length -> mbit ((2 ^ l.length : Int) - 1 - m) i = !mbit m i := fun i hi => by
  have := mbits l.length hl m.toNat hm i (by omega) (by omega) hi
  rw [show ((m.toNat : Nat) : Int) = m by omega] at this
  exact this
 unfold pkA pk
 rw [← List.map_append]
 have e2 : (List.range l.length).filter (mbit ((2 ^ l.length : Int) - 1 - m)) = (List.range l.length).filter fun i => !mbit m i := List.filter_congr fun i hi => hb i (List.mem_range.1 hi)
 rw [e2]
 have e3 : (List.range l.length).map (fun j => l.getD j ⟨0, 0, 0⟩) = l := by
  apply List.ext_getElem
  ·simp
  ·intro i h1 h2
   simp only [List.getElem_map, List.getElem_range]
   rw [List.getD_eq_getElem?_getD, List.getElem?_eq_getElem h2]; rfl
 exact ((List.filter_append_perm (mbit m) (List.range l.length)).map _).trans (.of_eq e3)
end
end Go.SE
namespace Go.SE
section
variable {a p q : GAsn}
end
end Go.SE

namespace Go.SE
section
variable {a b p q : GAsn} {m n : Int}
theorem frm200F : (frmL a b).facts.length <= 200 := by rw [frmL_len.1]; omega
theorem frm200A (h : a.atoms.length <= 100) : (frmL a b).atoms.length <= 200 := by have := (frmL_len (a := a) (b := b)).2; omega
theorem ufr200F (h : a.facts.length <= 100) (hq : q.facts.length <= 100) : (ufrL a p q).facts.length <= 200 := by have := (ufrL_le (a := a) (p := p) (q := q)).1; omega
theorem ufr200A (h : a.atoms.length <= 100) (hq : q.atoms.length <= 100) : (ufrL a p q).atoms.length <= 200 := by have := (ufrL_le (a := a) (p := p) (q := q)).2; omega
theorem frs_1 (ha : asV a = true) (h : frmB a a = false) : False := by rw [(frm_self ha).1] at h; cases h
theorem frs_2 (ha : asV a = true) : ((frmL a a).atoms.length : Int) = 0 := by rw [(frm_self ha).2]; rfl
theorem fre_1 (h : ENT a b = true) (h2 : frmB a b = false) : False := by rw [(frm_ent h).1] at h2; cases h2
theorem fre_2 (h : ENT a b = true) (h2 : ¬ ((frmL a b).atoms.length : Int) = 0) : False := h2 (by rw [frm_entA h]; rfl)
theorem uf_bd (hq : q.atoms.length <= 100) (h : a.atoms.length <= 100) : (q.atoms.length : Int) + ((frmL a p).atoms.length : Int) <= 9223372036854775807 := by
 have := (frmL_len (a := a) (b := p)).2
 omega
theorem uf_lenN (h2 : ¬ ((ufrL a p q).atoms.length : Int) = (q.atoms.length : Int) + ((frmL a p).atoms.length : Int)) (h : ufrB a p q = true) : False := by
 rw [ufr_len h] at h2; exact h2 (by push_cast; rfl)
theorem uf_sameN (h : ufrB a p p = true) (h2 : ENT a (ufrL a p p) = false) : False := by rw [ufr_same h] at h2; cases h2
theorem uf_frmN (h : ufrB a p q = true) (h2 : frmB a p = false) : False := by rw [(ufr_all h).1] at h2; cases h2
theorem pkl200F : (pkL a m).facts.length <= 200 := by rw [(pkL_len a m).1]; omega
theorem pkl200A (h : a.atoms.length <= 100) : (pkL a m).atoms.length <= 200 := by have := (pkL_len a m).2; omega
theorem stp200F : (starL (pkL a m) (pkL b n)).facts.length <= 200 := starL_bdF (by rw [(pkL_len _ _).1]; omega) (by rw [(pkL_len _ _).1]; omega)
theorem stp200A (ha : a.atoms.length <= 100) (hb : b.atoms.length <= 100) : (starL (pkL a m) (pkL b n)).atoms.length <= 200 := starL_bdA (Nat.le_trans (pkL_len _ _).2 ha) (Nat.le_trans (pkL_len _ _).2 hb)
def pkC (a : GAsn) (m : Int) : Int := pkTop a - 1 - m
theorem pkC_w : pkTop a - 1 - m = pkC a m := rfl
theorem pkOk_all (h : pkOk a m = true) : asV a = true /\ 0 <= m /\ m < pkTop a /\ a.facts.length <= 12 /\ a.atoms.length <= 6 /\ pkTop a = 2 ^ a.atoms.length /\ pkTop a <= 64 /\ 1 <= pkTop a := by
 unfold pkOk at h
 simp only [Bool.and_eq_true, Bool.not_eq_true', decide_eq_false_iff_not] at h
 obtain ⟨⟨ha, h0⟩, h1⟩ := h
 exact ⟨ha, by omega, by omega, (fo_len6 ha).1, (fo_len6 ha).2, pkTop_eq ha⟩
theorem pkT_1 (h : pkOk a m = true) : -9223372036854775808 <= pkTop a - 1 := by have := pkOk_all h; omega
theorem pkT_2 (h : pkOk a m = true) : pkTop a - 1 <= 9223372036854775807 := by have := pkOk_all h; omega
theorem pkT_3 (h : pkOk a m = true) : -9223372036854775808 <= pkC a m := by have := pkOk_all h; unfold pkC; omega
theorem pkT_4 (h : pkOk a m = true) : pkC a m <= 9223372036854775807 := by have := pkOk_all h; unfold pkC; omega
theorem pkT_ok (h : pkOk a m = true) : pkOk a (pkC a m) = true := by
 have := pkOk_all h
 unfold pkOk pkC
 rw [this.1]
 simp only [Bool.true_and, Bool.and_eq_true, Bool.not_eq_true', decide_eq_false_iff_not]
 omega
theorem pkT_okN (h2 : pkOk a (pkC a m) = false) (h : pkOk a m = true) : False := by rw [pkT_ok h] at h2; cases h2
theorem asV_bare {l : List GAtom} (h : l.all atV = true) (hl : l.length <= 6) : asV ⟨[], l⟩ = true := by
 unfold asV fsV
 rw [h, decide_eq_true hl]
 rfl
theorem pkV (ha : asV a = true) : asV ⟨[], pkA m a.atoms⟩ = true :=
 asV_bare (List.all_eq_true.2 fun x hx => List.all_eq_true.1 (asV_facts ha).2.2.1 x (pkA_mem x hx)) (Nat.le_trans pkA_le (asV_facts ha).2.2.2)
theorem pk_perm (h : pkOk a m = true) : (pkA m a.atoms ++ pkA (pkC a m) a.atoms).Perm a.atoms := by
 have ha := pkOk_all h
 have := pk_two (l := a.atoms) ha.2.2.2.2.1 (m := m) ha.2.1 (by have := ha.2.2.1; rw [ha.2.2.2.2.2.1] at this; exact this)
 unfold pkC
 rw [ha.2.2.2.2.2.1]
 exact this
theorem pk_star (h : pkOk a m = true) : starL (pkL a m) (pkL a (pkC a m)) = ⟨[], pkA m a.atoms ++ pkA (pkC a m) a.atoms⟩ /\ starOk (pkL a m) (pkL a (pkC a m)) = true /\ asV ⟨[], pkA m a.atoms ++ pkA (pkC a m) a.atoms⟩ = true /\ asV ⟨[], a.atoms⟩ = true := by
 have ha := (pkOk_all h).1
 have hp := pk_perm h
 have e1 : pkL a m = ⟨[], pkA m a.atoms⟩ := by unfold pkL; rw [h]; rfl
 have e2 : pkL a (pkC a m) = ⟨[], pkA (pkC a m) a.atoms⟩ := by unfold pkL; rw [pkT_ok h]; rfl
 have hs : starA (pkL a m) (pkL a (pkC a m)) = ⟨[], pkA m a.atoms ++ pkA (pkC a m) a.atoms⟩ := by rw [e1, e2]; rfl
 have hv : asV ⟨[], pkA m a.atoms ++ pkA (pkC a m) a.atoms⟩ = true :=
  asV_bare (List.all_eq_true.2 fun x hx => List.all_eq_true.1 (asV_facts ha).2.2.1 x (hp.mem_iff.1 hx)) (by rw [hp.length_eq]; exact (asV_facts ha).2.2.2)
 have ho : starOk (pkL a m) (pkL a (pkC a m)) = true := by
  unfold starOk
  rw [hs, hv, e1, e2, pkV ha, pkV ha]; rfl
 refine ⟨?_, ho, hv, asV_bare (asV_facts ha).2.2.1 (asV_facts ha).2.2.2⟩
 unfold starL; rw [ho]; exact hs
theorem pk_so (h2 : starOk (pkL a m) (pkL a (pkC a m)) = false) (h : pkOk a m = true) : False := by rw [(pk_star h).2.1] at h2; cases h2
theorem pk_ln (h2 : ¬ (starL (pkL a m) (pkL a (pkC a m))).atoms.length = a.atoms.length) (h : pkOk a m = true) : False := by
 rw [(pk_star h).1] at h2
 exact h2 (pk_perm h).length_eq
theorem pk_eq (h : pkOk a m = true) : (ENT (starL (pkL a m) (pkL a (pkC a m))) ⟨[], a.atoms⟩ && ENT ⟨[], a.atoms⟩ (starL (pkL a m) (pkL a (pkC a m)))) = true := by
 obtain ⟨e, _, hv, hw⟩ := pk_star h
 rw [e, ent_sub hv hw (fun f hf => by cases hf) (pk_perm h).symm, ent_sub hw hv (fun f hf => by cases hf) (pk_perm h)]
 rfl
end
end Go.SE
