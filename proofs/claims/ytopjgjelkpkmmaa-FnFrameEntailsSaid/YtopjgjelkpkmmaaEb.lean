/-
  Parts of a symbolic engine over the program's code: how operations, regions, loops and calls are shown to keep contracts. No conditions.
-/
import Derived.Deep.AppendSrc
import Derived.Deep.Upon
import Derived.Test.YtopjgjelkpkmmaaEa
set_option linter.unusedSimpArgs false
set_option linter.unusedVariables false
set_option linter.unusedSectionVars false

namespace Go.SE
open Go.RowKit
section
variable {P : Program} {E : Ty -> TypeId} {tab : TypeId -> Option TI} {w0 : World} {M : MM} {n : Nat} {o : Oper} {st : St} {a : Act} {w : World}
theorem RowR.vals {ro : Nat -> Option (Array Value)} {ds : List DC} {vs : Array Value} {o : Nat} (h : RowR ro ds vs o) :
  ∃ news : List Value, news.length = ds.length /\ (∀ (j : Nat) (u : Value), news[j]? = some u -> vs[o + j]? = some u) /\ (∀ u ∈ news, u.oneCell' = true) /\ ∀ (k : Nat) (c : DC), ds[k]? = some c -> ∃ u, news[k]? = some u /\ DR ro c u := by
 have hlt : ∀ j, j < ds.length -> ∃ u, vs[o + j]? = some u /\ u.oneCell' = true := fun j hj => by
  obtain ⟨u, h1, h2⟩ := h j ds[j] (List.getElem?_eq_getElem hj)
  exact ⟨u, h1, h2.one⟩
 have hfit : ds.length = 0 ∨ o + ds.length <= vs.size := by
  by_cases h0 : ds.length = 0
  ·exact .inl h0
  ·right
   obtain ⟨u, h1, _⟩ := hlt (ds.length - 1) (by omega)
   have := (Array.getElem?_eq_some_iff.1 h1).1
   omega
 have get : ∀ j, ((vs.toList.drop o).take ds.length)[j]? = if j < ds.length then vs[o + j]? else none := by
  intro j
  rw [List.getElem?_take]
  split
  ·rw [List.getElem?_drop]; simp
  ·rfl
 refine ⟨(vs.toList.drop o).take ds.length, ?_, ?_, ?_, ?_⟩
 ·rcases hfit with h0 | h0
  ·simp [h0]
  ·simp; omega
 ·intro j u hj
  rw [get] at hj
  split at hj
  ·exact hj
  ·cases hj
 ·intro u hu
  obtain ⟨j, hj⟩ := List.getElem?_of_mem hu
  rw [get] at hj
  split at hj
  ·rename_i hjl
   obtain ⟨u', h1, h2⟩ := hlt j hjl
   rw [hj] at h1
   injection h1 with h1
   subst h1
   exact h2
  ·cases hj
 ·intro k c hk
  obtain ⟨u, h1, h2⟩ := h k c hk
  exact ⟨u, by rw [get, if_pos (List.getElem?_eq_some_iff.1 hk).1]; exact h1, h2⟩
theorem RowR.of_vals {ro : Nat -> Option (Array Value)} {ds : List DC} {news : List Value} (h : ∀ (k : Nat) (c : DC), ds[k]? = some c -> ∃ u, news[k]? = some u /\ DR ro c u) {vs : Array Value} {o : Nat} (hv : ∀ (j : Nat) (u : Value), news[j]? = some u -> vs[o + j]? = some u) : RowR ro ds vs o := by
 intro k c hk
 obtain ⟨u, h1, h2⟩ := h k c hk
 exact ⟨u, hv k u h1, h2⟩
theorem src_of {g : G} {ty e : TypeId} {t : Ty} {ys : List t.den} {v : Value} (hu : P.underlying ty = some (.slice e)) (h : SliceR w g t ys v) :
  ∃ news : List Value, _root_.Go.Src P t.sz ty v ys.length news w /\ ∀ (k : Nat) (c : DC), (flat t ys)[k]? = some c -> ∃ u, news[k]? = some u /\ DR g.ro c u := by
 rcases h with ⟨rfl, rfl⟩ | ⟨b, o, cap, vs, bt, fz, rfl, hb, hle, hcap, hrow⟩
 ·exact ⟨[], _root_.Go.Src.ofNil w hu 0, by simp [flat]⟩
 ·obtain ⟨news, h1, h2, h3, h4⟩ := hrow.vals
  refine ⟨news, _root_.Go.Src.ofSlice w hu ⟨b, o, none⟩ ys.length cap news (by rw [h1, flat_len]) (fun j u hj => ?_) h3, h4⟩
  rw [Addr.add_lit, cell_at hb]
  exact h2 j u hj
def AppR (P : Program) (E : Ty -> TypeId) (w0 w : World) (g : G) (id : Nat) (t : Ty) (xs ys : List t.den) (vy : Value) (ty rty : TypeId) : Prop :=
  ∃ v' w', (Builtin.append_ #[ty, ty] rty #[g.κ id, vy]).run P w = .ok v' w' /\ (∀ M : Nat -> Prop, (∀ b, blkOf (g.κ id) = some b -> w0.heap.size <= b ∨ M b) -> Ext M w0 w -> Ext M w0 w') /\
   (∀ b, b < w.heap.size -> blkOf (g.κ id) ≠ some b -> w'.heap[b]? = w.heap[b]?) /\
   (∀ b cur bt, blkOf (g.κ id) = some b -> w.heap[b]? = some (.cells cur bt (0, 0)) -> ∃ cur', w'.heap[b]? = some (.cells cur' bt (0, 0)) /\ cur'.size = cur.size /\ ∀ k, k < xs.length * t.sz -> cur'[k]? = cur[k]?) /\
   w.heap.size <= w'.heap.size /\ v'.oneCell' = true /\
   (∀ b, blkOf v' = some b -> blkOf (g.κ id) = some b ∨ w.heap.size <= b) /\
   ((v' = .slice none 0 0 /\ xs ++ ys = []) ∨ ∃ b cap cur, v' = .slice (some ⟨b, 0, none⟩) (xs ++ ys).length cap /\ w'.heap[b]? = some (.cells cur (E t) (0, 0)) /\ (xs ++ ys).length <= cap /\ cap <= maxLen /\ cur.size = cap * t.sz /\ RowR g.ro (flat t (xs ++ ys)) cur 0)
theorem append_run {g : G} {id fam : Nat} {t : Ty} {xs ys : List t.den} {vy : Value} {ty rty : TypeId} {ie : TypeInfo} {z : Value} (hres : ResR E w g id (.sl fam t xs)) (hsrc : SliceR w g t ys vy)
  (hu : P.underlying ty = some (.slice (E t))) (hie : P.info? (E t) = some ie) (hsz : ie.size = t.sz) (hby : ie.bytes <= 256) (hz : ie.zero = some z) (hzv : z.cells.toList = t.zvals) (hlen : xs.length + ys.length <= 4294967296) :
  AppR P E w0 w g id t xs ys vy ty rty := by
 obtain ⟨news, hS, hnews⟩ := src_of (P := P) hu hsrc
 rw [← hsz] at hS
 have hzs : z.cells.size = ie.size := by rw [← Array.length_toList, hzv]; simp [Ty.zvals, cells_len, hsz]
 have same : ∀ {v' : Value}, (Builtin.append_ #[ty, ty] rty #[g.κ id, vy]).run P w = .ok v' w -> v' = g.κ id -> ys = [] -> AppR P E w0 w g id t xs ys vy ty rty := by
  intro v' hr hv hy
  subst hv hy
  have hone : (g.κ id).oneCell' = true := by
   rcases hres.2 with ⟨h, _⟩ | ⟨b, cap, cur, h, _⟩ <;> rw [h] <;> rfl
  refine ⟨g.κ id, w, hr, fun M _ h => h, fun _ _ _ => rfl, fun b cur bt _ hb => ⟨cur, hb, rfl, fun _ _ => rfl⟩, Nat.le_refl _, hone, fun b hb => .inl hb, ?_⟩
  rw [List.append_nil]
  exact hres.2
 -- a new row
 have grow : ∀ (base : Option Addr) (cap : Nat) (olds : List Value), g.κ id = .slice base xs.length cap -> cap < xs.length + ys.length -> olds.length = xs.length * t.sz -> (Builtin.firstCells ie.size xs.length (.slice base xs.length cap)).run P w.drew = .ok olds.toArray w.drew ->
   (∀ (k : Nat) (c : DC), (flat t xs)[k]? = some c -> ∃ u, olds[k]? = some u /\ DR g.ro c u) -> AppR P E w0 w g id t xs ys vy ty rty := by
  intro base cap olds hκ hc holdl hold holds
  have hfit : Builtin.nextslicecap (xs.length + ys.length) cap * ie.bytes <= 281474976710656 := by
   have h1 := nextslicecap_le hc
   have h2 : Builtin.nextslicecap (xs.length + ys.length) cap * ie.bytes <= (2 * (xs.length + ys.length)) * 256 := Nat.mul_le_mul h1 hby
   omega
  have hr := run_append_grow_src (P := P) w ty ty rty (E t) ie z hu hie hz base xs.length cap olds hold vy ys.length news hS hc (by omega) hfit
  have hge := grownCap_ge w (xs.length + ys.length) cap (E t)
  have hcm : grownCap w (xs.length + ys.length) cap (E t) <= maxLen := grownCap_le_maxLen w _ cap (E t) (by simp only [maxLen]; omega)
  generalize hgc : grownCap w (xs.length + ys.length) cap (E t) = gc at hr hge hcm
  have hnl : news.length = ys.length * t.sz := by rw [hS.newsLen, hsz]
  refine ⟨.slice (some ⟨w.heap.size, 0, none⟩) (xs.length + ys.length) gc, w.drew.alloc (.cells ((olds ++ news).toArray ++ Builtin.zeroCells z.cells (gc - (xs.length + ys.length))) (E t)), by rw [hκ]; exact hr, ?_, ?_, ?_, ?_, rfl, ?_, ?_⟩
  ·intro M _ h
   exact h.trans ⟨rfl, rfl, rfl, by simp, fun b hb _ => heap_alloc_old w.drew _ hb⟩
  ·intro b hb _
   exact heap_alloc_old w.drew _ hb
  ·intro b cur bt hb hbc
   exact ⟨cur, by rw [← hbc]; exact heap_alloc_old w.drew _ (lt_of_some hbc), rfl, fun _ _ => rfl⟩
  ·simp
  ·intro b hb
   simp [blkOf] at hb
   omega
  ·refine .inr ⟨w.heap.size, gc, _, by simp, heap_alloc_new w.drew _, by simpa using hge, hcm, ?_, ?_⟩
   ·simp only [Array.size_append, List.size_toArray, List.length_append, size_zeroCells, hzs, holdl, hnl, hsz, ← Nat.add_mul]
    congr 1
    omega
   ·rw [flat_append]
    have hfl : (flat t xs).length = olds.length := by rw [flat_len, holdl]
    refine RowR.append (RowR.of_vals holds fun j u hj => ?_) (RowR.of_vals hnews fun j u hj => ?_)
    ·have hlt := (List.getElem?_eq_some_iff.1 hj).1
     rw [Array.getElem?_append_left (by simp; omega)]
     simp only [List.getElem?_toArray, Nat.zero_add]
     rw [List.getElem?_append_left hlt]
     exact hj
    ·have hlt := (List.getElem?_eq_some_iff.1 hj).1
     rw [Array.getElem?_append_left (by simp; omega)]
     simp only [List.getElem?_toArray, Nat.zero_add]
     rw [List.getElem?_append_right (by omega), hfl]
     rw [show olds.length + j - olds.length = j from by omega]
     exact hj
 rcases hres.2 with ⟨hκ, hx⟩ | ⟨b, cap, cur, hκ, hb, hle, hcap, hcs, hrow⟩
 ·by_cases hy : ys = []
  ·subst hy
   have hn0 : news = [] := List.eq_nil_of_length_eq_zero (by simpa using hS.newsLen)
   subst hn0
   have := run_append_nothing (P := P) w ty ty rty (E t) ie hu hie none 0 0 (Nat.le_refl _) vy hS
   exact same (v' := g.κ id) (by rw [hκ]; exact this) rfl rfl
  ·have hyl : 0 < ys.length := List.length_pos_iff.2 hy
   refine grow none 0 [] (by rw [hκ, hx]; rfl) (by omega) (by simp [hx]) ?_ (by simp [hx, flat])
   simpa using run_firstCells_none (P := P) w.drew ie.size xs.length xs.length 0
 ·by_cases hy : ys = []
  ·subst hy
   have hn0 : news = [] := List.eq_nil_of_length_eq_zero (by simpa using hS.newsLen)
   subst hn0
   have := run_append_nothing (P := P) w ty ty rty (E t) ie hu hie (some ⟨b, 0, none⟩) xs.length cap hle vy hS
   exact same (v' := g.κ id) (by rw [hκ]; exact this) rfl rfl
  ·by_cases hroom : xs.length + ys.length <= cap
   ·rcases hsrc with ⟨_, h0⟩ | ⟨b', o', cap', vs', bt', fz', hvy, hb', hle', hcap', hrow'⟩
    ·exact (hy h0).elim
    ·obtain ⟨news, h1, h2, h3, h4⟩ := hrow'.vals
     rw [flat_len] at h1
     have hfit : xs.length * ie.size + news.length <= cur.size := by rw [hcs, h1, hsz, ← Nat.add_mul]; exact Nat.mul_le_mul_right _ hroom
     have hfit' : xs.length * ie.size + news.length <= cur.toList.length := by simpa using hfit
     have hr := run_append_room (P := P) w ty rty (E t) ie hu hie b xs.length cap cur hb ⟨b', o', none⟩ ys.length cap' news (by rw [h1, hsz]) (fun j u hj => by rw [Addr.add_lit, cell_at hb']; exact h2 j u hj) h3 hroom hfit
     have hcur : (cur.toList.take (xs.length * ie.size) ++ news ++ cur.toList.drop (xs.length * ie.size + news.length)).toArray = over cur (xs.length * ie.size) news := rfl
     rw [hcur] at hr
     refine ⟨.slice (some ⟨b, 0, none⟩) (xs.length + ys.length) cap, _, by rw [hκ, hvy]; exact hr, ?_, ?_, ?_, by simp, rfl, ?_, ?_⟩
     ·intro M hfr h
      refine ⟨h.os, h.tape, h.output, by simpa using h.size, fun b2 hb2 hM => ?_⟩
      rw [setRow_other w b b2 _ fun e => ?_]
      ·exact h.block b2 hb2 hM
      ·subst e
       rcases hfr b2 (by rw [hκ]; rfl) with h5 | h5
       ·omega
       ·exact hM h5
     ·intro b2 hb2 hne
      exact setRow_other w b b2 _ (fun e => hne (by rw [hκ, e]; rfl))
     ·intro b2 cur2 bt hbb hbc
      rw [hκ] at hbb
      simp [blkOf] at hbb
      subst hbb
      rw [hb] at hbc
      simp at hbc
      obtain ⟨rfl, rfl⟩ := hbc
      refine ⟨_, setRow_heap w b _ _ _ _ hb, over_size hfit, fun k hk => ?_⟩
      rw [over_get hfit, if_neg (by rw [hsz]; omega)]
     ·intro b2 hb2
      simp [blkOf] at hb2
      exact .inl (by rw [hκ, ← hb2]; rfl)
     ·refine .inr ⟨b, cap, _, by simp, setRow_heap w b _ _ _ _ hb, by simpa using hroom, hcap, by rw [over_size hfit, hcs], ?_⟩
      rw [flat_append]
      refine RowR.append ?_ (RowR.of_vals h4 fun j u hj => ?_)
      ·intro k c hk
       have hkl : k < xs.length * t.sz := by have := (List.getElem?_eq_some_iff.1 hk).1; rwa [flat_len] at this
       obtain ⟨u, h5, h6⟩ := hrow k c hk
       exact ⟨u, by rw [over_get hfit, if_neg (by rw [hsz]; omega)]; exact h5, h6⟩
      ·have hlt := (List.getElem?_eq_some_iff.1 hj).1
       rw [over_get hfit, flat_len, if_pos (by rw [hsz]; omega)]
       rw [show 0 + xs.length * t.sz + j - xs.length * ie.size = j from by rw [hsz]; omega]
       exact hj
   ·obtain ⟨olds, h1, h2, h3, h4⟩ := hrow.vals
    rw [flat_len] at h1
    refine grow (some ⟨b, 0, none⟩) cap olds hκ (by omega) h1 ?_ h4
    refine run_firstCells_some (P := P) w.drew ie.size xs.length ⟨b, 0, none⟩ xs.length cap olds (by rw [h1, hsz]) fun j u hj => ?_
    rw [Addr.add_lit, cell_at (w := w.drew) hb]
    exact h2 j u hj
theorem Good.append {g : G} (hg : Good E w0 M g st w) (cl : Cl st) {id fam k : Nat} {t : Ty} {xs ys : List t.den} (hm : st.mem id = some (.sl fam t xs)) (hs : st.sp id = false) (hf : st.fr id = false) (hk : st.mem k = none) {v' : Value} {w' : World}
  (hext : ∀ M : Nat -> Prop, (∀ b, blkOf (g.κ id) = some b -> w0.heap.size <= b ∨ M b) -> Ext M w0 w -> Ext M w0 w')
  (hw : ∀ b, b < w.heap.size -> blkOf (g.κ id) ≠ some b -> w'.heap[b]? = w.heap[b]?)
  (hrow : ∀ b cur bt, blkOf (g.κ id) = some b -> w.heap[b]? = some (.cells cur bt (0, 0)) -> ∃ cur', w'.heap[b]? = some (.cells cur' bt (0, 0)) /\ cur'.size = cur.size /\ ∀ k, k < xs.length * t.sz -> cur'[k]? = cur[k]?)
  (hblk : ∀ b, blkOf v' = some b -> blkOf (g.κ id) = some b ∨ w.heap.size <= b)
  (hval : ((v' = .slice none 0 0 /\ xs ++ ys = []) ∨ ∃ b cap cur, v' = .slice (some ⟨b, 0, none⟩) (xs ++ ys).length cap /\ w'.heap[b]? = some (.cells cur (E t) (0, 0)) /\ (xs ++ ys).length <= cap /\ cap <= maxLen /\ cur.size = cap * t.sz /\ RowR g.ro (flat t (xs ++ ys)) cur 0)) :
  Good E w0 M (gnew st g k v' (xs ++ ys).length) { st with mem := adds st.mem [(k, .sl fam t (xs ++ ys))], sp := sets st.sp [id] } w' := by
 have old : ∀ i r, st.mem i = some r -> (gnew st g k v' (xs ++ ys).length).κ i = g.κ i /\ (gnew st g k v' (xs ++ ys).length).ln i = g.ln i := fun i r hi => gnew_old (by simp [hi])
 have new := gnew_new (g := g) (vb := v') (nb := (xs ++ ys).length) hk
 have cases : ∀ i r, adds st.mem [(k, .sl fam t (xs ++ ys))] i = some r -> (i = k /\ r = .sl fam t (xs ++ ys)) ∨ (i ≠ k /\ st.mem i = some r) := by
  intro i r hi
  simp only [adds] at hi
  by_cases e : i = k
  ·subst e; rw [upd_same] at hi; injection hi with hi; exact .inl ⟨rfl, hi.symm⟩
  ·rw [upd_ne _ _ e] at hi; exact .inr ⟨e, hi⟩
 have spk : ∀ i, sets st.sp [id] i = (st.sp i || i == id) := fun i => by rw [sets_get]; by_cases e : i = id <;> simp [e]
 have hlt : ∀ i r, st.mem i = some r -> r.live -> ∀ b, blkOf (g.κ i) = some b -> b < w.heap.size := fun i r hi hl b hb => (hg.res i r hi).lt hl hb
 have rob : ∀ b, blkOf (g.κ id) = some b -> g.ro b = none := fun b hb => hg.wro id _ hm trivial b hb hs hf
 have hsize : w.heap.size <= w'.heap.size ∨ True := .inr trivial
 have hrds : st.rd ≠ none -> RdSame w0 w' g.ρ := fun hn => (hg.rds hn).next fun hb => hw _ hb fun e => by
  cases hr : st.rd with
  | none => exact hn hr
  | some m => exact (hg.rd m hr).2.2 id _ hm trivial e
 refine ⟨hext M.can (hg.fresh id _ hm trivial) hg.ext, ?_, ?_, ?_, ?_, ?_, ?_, hrds, hg.roo, hg.rho, fun i v hv => ⟨adds_isSome (hg.pin i v hv).1, (gnew_old (hg.pin i v hv).1).1.trans (hg.pin i v hv).2⟩, ⟨fun i m hv => ⟨adds_isSome (hg.keep.1 i m hv).1, (gnew_old (hg.keep.1 i m hv).1).2.trans (hg.keep.1 i m hv).2⟩, hg.keep.2⟩⟩
 ·intro b vs hb
  obtain ⟨ty, fz, hh⟩ := hg.ro b vs hb
  refine ⟨ty, fz, ?_⟩
  rw [hw b (lt_of_some hh) fun e => ?_]
  ·exact hh
  ·have := rob b e
   have hb' : g.ro b = some vs := hb
   rw [this] at hb'; cases hb'
 ·intro i r hi
  replace hi := cases i r hi
  rcases hi with ⟨rfl, rfl⟩ | ⟨hik, hi⟩
  ·refine ⟨new.2, ?_⟩
   rw [new.1]
   exact hval
  ·by_cases hl : r.live
   ·by_cases hb : ∃ b, blkOf (g.κ id) = some b /\ blkOf (g.κ i) = some b
    ·obtain ⟨b, hb1, hb2⟩ := hb
     -- the row itself, or one of its family
     have fami : ∃ ys' : List t.den, r = .sl fam t ys' /\ ys'.length <= xs.length := by
      by_cases e : i = id
      ·subst e; rw [hm] at hi; injection hi with hi; exact ⟨xs, hi.symm, Nat.le_refl _⟩
      ·obtain ⟨f, t', xs', ys', h1, h2, h3⟩ := hg.sep id i _ r hm hi (Ne.symm e) trivial hl b hb1 hb2
       injection h1 with e1 e2 e3
       subst e1 e2
       cases e3
       exact ⟨ys', h2, (h3 hs).2⟩
     obtain ⟨ys', rfl, hle⟩ := fami
     obtain ⟨hln, hres⟩ := hg.res i _ hi
     refine ⟨by rw [(old i _ hi).2]; exact hln, ?_⟩
     rw [(old i _ hi).1]
     rcases hres with h | ⟨b', cap, cur, h1, h2, h3, h4, h5, h6⟩
     ·exact .inl h
     ·have e : b' = b := by rw [h1] at hb2; simpa [blkOf] using hb2
      subst e
      obtain ⟨cur', c1, c2, c3⟩ := hrow b' cur _ hb1 h2
      refine .inr ⟨b', cap, cur', h1, c1, h3, h4, by rw [c2, h5], ?_⟩
      intro j c hj
      have hjl : j < ys'.length * t.sz := by have := (List.getElem?_eq_some_iff.1 hj).1; rwa [flat_len] at this
      obtain ⟨u, h7, h8⟩ := h6 j c hj
      have := Nat.mul_le_mul_right t.sz hle
      exact ⟨u, by rw [c3 _ (by omega)]; exact h7, h8⟩
    ·refine (hg.res i r hi).keep (g' := gnew st g k v' (xs ++ ys).length) (fun b hb' => hw b (hlt i r hi hl b hb') fun e => hb ⟨b, e, hb'⟩) (fun _ _ h => h) rfl (old i r hi) fun j hj => ?_
     have := cl.2 i r hi j hj
     exact gnew_old this
   ·cases r with
    | dead => trivial
    | _ => exact (hl trivial).elim
 ·intro i j r s hi hj hij hli hlj b hbi hbj
  replace hi := cases i r hi
  replace hj := cases j s hj
  rcases hi with ⟨rfl, rfl⟩ | ⟨hik, hi⟩ <;> rcases hj with ⟨rfl, rfl⟩ | ⟨hjk, hj⟩
  ·exact (hij rfl).elim
  ·rw [new.1] at hbi
   rw [(old j s hj).1] at hbj
   rcases hblk b hbi with hb | hb
   ·by_cases e : j = id
    ·subst e
     rw [hm] at hj
     injection hj with hj
     exact ⟨fam, t, xs ++ ys, xs, rfl, hj.symm, fun _ => ⟨by simp [spk], by simp⟩⟩
    ·obtain ⟨f, t', xs', ys', h1, h2, h3⟩ := hg.sep id j _ s hm hj (Ne.symm e) trivial hlj b hb hbj
     injection h1 with e1 e2 e3
     subst e1 e2
     cases e3
     refine ⟨fam, t, xs ++ ys, ys', rfl, h2, fun _ => ⟨by simp [spk, (h3 hs).1], ?_⟩⟩
     have := (h3 hs).2
     simp; omega
   ·have := hlt j s hj hlj b hbj; omega
  ·rw [new.1] at hbj
   rw [(old i r hi).1] at hbi
   rcases hblk b hbj with hb | hb
   ·by_cases e : i = id
    ·subst e
     rw [hm] at hi
     injection hi with hi
     exact ⟨fam, t, xs, xs ++ ys, hi.symm, rfl, fun h => by simp [spk] at h⟩
    ·obtain ⟨f, t', xs', ys', h1, h2, h3⟩ := hg.sep id i _ r hm hi (Ne.symm e) trivial hli b hb hbi
     injection h1 with e1 e2 e3
     subst e1 e2
     cases e3
     refine ⟨fam, t, ys', xs ++ ys, h2, rfl, fun h => ?_⟩
     simp [spk, (h3 hs).1] at h
   ·have := hlt i r hi hli b hbi; omega
  ·rw [(old i r hi).1] at hbi
   rw [(old j s hj).1] at hbj
   obtain ⟨f, t', xs', ys', h1, h2, h3⟩ := hg.sep i j r s hi hj hij hli hlj b hbi hbj
   refine ⟨f, t', xs', ys', h1, h2, fun h => ?_⟩
   simp only [spk, Bool.or_eq_false_iff] at h
   have := h3 h.1
   exact ⟨by simp [spk, this.1], this.2⟩
 ·intro i r hi hl b hb
  replace hi := cases i r hi
  rcases hi with ⟨rfl, rfl⟩ | ⟨hik, hi⟩
  ·rw [new.1] at hb
   rcases hblk b hb with hb | hb
   ·exact hg.fresh id _ hm trivial b hb
   ·exact .inl (Nat.le_trans hg.ext.size hb)
  ·rw [(old i r hi).1] at hb
   exact hg.fresh i r hi hl b hb
 ·intro i r hi hl b hb h1 h2
  show g.ro b = none
  replace hi := cases i r hi
  rcases hi with ⟨rfl, rfl⟩ | ⟨hik, hi⟩
  ·rw [new.1] at hb
   rcases hblk b hb with hb | hb
   ·exact rob b hb
   ·cases hr : g.ro b with
    | none => rfl
    | some vs =>
     obtain ⟨ty, fz, hh⟩ := hg.ro b vs hr
     have := lt_of_some hh
     omega
  ·rw [(old i r hi).1] at hb
   simp only [spk, Bool.or_eq_false_iff] at h1
   exact hg.wro i r hi hl b hb h1.1 h2
 ·intro m hmr
  obtain ⟨⟨hlim, hout, code, v, p, ty, hc, hd, hrest⟩, hin, hno⟩ := hg.rd m hmr
  have hρlt := lt_of_some hc
  refine ⟨⟨hlim, hout, code, v, p, ty, ?_, hd, hrest⟩, hin, ?_⟩
  ·show w'.heap[g.ρ]? = _
   rw [hw _ hρlt fun e => hno id _ hm trivial e]
   exact hc
  ·intro i r hi hl
   show _ ≠ some g.ρ
   replace hi := cases i r hi
   rcases hi with ⟨rfl, rfl⟩ | ⟨hik, hi⟩
   ·rw [new.1]
    intro e
    rcases hblk _ e with hb | hb
    ·exact hno id _ hm trivial hb
    ·omega
   ·rw [(old i r hi).1]
    exact hno i r hi hl
theorem snd_append (h : Rel E w0 M n st a w) (ht : TabOk P E tab) (hd : ∀ d, o.dst = some d -> d < n) {ty : TypeId} {x y : Operand} {args : Array Operand} {tys : Array TypeId} (hargs : args.toList = [x, y]) (htys : tys.toList = [ty, ty])
  (ho : o.op = .call ⟨.builtin .append, args, tys⟩) {t : Tr} (htr : trAppend tab st ty (o.dst.getD 0) x y = some t) (hp : t.pre) : Sound P E w0 M n o st a w t := by
 have ea : args = #[x, y] := by cases args; simp_all
 have et : tys = #[ty, ty] := by cases tys; simp_all
 subst ea et
 generalize hD : o.dst.getD 0 = D at htr
 obtain ⟨g, hg, henv⟩ := h.good
 have hx := ev_R henv x
 have hy := ev_R henv y
 unfold trAppend at htr
 split at htr
 ·rename_i sz by_ e t' id v hti hev hevy
  rw [hev] at hx
  rw [hevy] at hy
  split at htr
  ·rename_i fam t'' xs ys hm hr
   split at htr
   ·rename_i xs0 hcast
    obtain ⟨rfl, hq⟩ := castL_eq hcast
    cases hq
    injection htr with htr
    subst htr
    obtain ⟨hfr, hs, hf, hlen⟩ := hp
    obtain ⟨inf, d, _, hu, _, _, ⟨rfl, _⟩, ie, hie, hsz, hby, hrw⟩ := ht _ _ hti
    obtain ⟨rfl, z, hz, hzv⟩ := hrw rfl
    obtain ⟨v', w', hrun, h1, h2, h3, h4, h5, h6, h7⟩ := append_run (P := P) (w0 := w0) (rty := o.type) (hg.res _ _ hm) (rdl_R hg hr hy) hu hie hsz hby hz hzv hlen
    have hop : (execOp a.eval o).run P w = .ok (.value v') w' := by
     have e1 : a.eval x = g.κ id := hx.1
     simp [execOp, ho, resolve, invoke, builtin, e1, hrun]
    intro next Q hn
    unfold Oper.wp
    rw [hop, Oper.upon_value]
    refine hn () _ _ trivial ?_
    have e := app_gen st o.dst (.s (.c (.own (nid st.base D 0)))) (free st D 0 /\ st.sp id = false /\ st.fr id = false /\ xs.length + ys.length <= 4294967296) [(nid st.base D 0, .sl fam t'' (xs ++ ys))] [id] [] ()
    have hgood := hg.append h.cl hm hs hf hfr h1 h2 h3 h6 h7
    refine Rel.app h hd henv (g' := gnew st g (nid st.base D 0) v' (xs ++ ys).length) (fun _ _ h => h) rfl (fun i hi => gnew_old hi) ?_ ?_ ?_ ?_ ?_
    ·rw [e]; exact hgood.env rfl rfl rfl rfl
    ·exact ⟨(gnew_new hfr).1.symm, h5⟩
    ·rw [e]; exact fun id hid => adds_isSome hid
    ·rw [e]
     intro i hi
     simp [S.refs, S0.refs, CV.refs] at hi
     subst hi
     exact adds_new (List.mem_singleton.2 rfl)
    ·rw [e]
     intro j r' hj i hi
     rcases adds_cases hj with hj | hj
     ·simp at hj
      obtain ⟨_, rfl⟩ := hj
      simp [Res.refs] at hi
     ·exact adds_isSome (h.cl.2 j r' hj i hi)
   ·cases htr
  ·cases htr
 ·cases htr
end
end Go.SE

namespace Go.SE
open Go.RowKit
section
variable {P : Program} {E : Ty -> TypeId} {tab : TypeId -> Option TI} {w0 : World} {M : MM} {n : Nat} {o : Oper} {st : St} {a : Act} {w : World}
theorem Good.write {g : G} (hg : Good E w0 M g st w) (cl : Cl st) {id b : Nat} {r r' : Res} {m' : Nat -> Option Res} {w' : World}
  (hm : st.mem id = some r) (hl : r.live) (hb : blkOf (g.κ id) = some b ∨ (blkOf (g.κ id) = none /\ b = w.heap.size))
  (hm' : ∀ j s, m' j = some s -> (j = id /\ s = r') ∨ (j ≠ id /\ (st.mem j = some s ∨ s = .dead)))
  (hother : ∀ j s, j ≠ id -> m' j = some s -> s.live -> blkOf (g.κ j) ≠ some b) (hro : g.ro b = none)
  (hos : w'.os = w.os) (htape : w'.tape = w.tape) (hout : w'.output = w.output) (hsize : w'.heap.size = w.heap.size) (hw : ∀ b', b' ≠ b -> w'.heap[b']? = w.heap[b']?)
  (hres : ResR E w' g id r') (hdom : ∀ j, (st.mem j).isSome = true -> (m' j).isSome = true) : Good E w0 M g { st with mem := m' } w' := by
 have hlive : ∀ j s, j ≠ id -> m' j = some s -> s.live -> st.mem j = some s := by
  intro j s hj hs hl
  rcases hm' j s hs with ⟨e, _⟩ | ⟨_, h | h⟩
  ·exact (hj e).elim
  ·exact h
  ·subst h; exact hl.elim
 have hb1 : ∀ b', blkOf (g.κ id) = some b' -> b' = b := by
  intro b' hb'
  rcases hb with hb | ⟨hb, _⟩
  ·rw [hb] at hb'; injection hb' with hb'; exact hb'.symm
  ·rw [hb] at hb'; cases hb'
 have hfr : w0.heap.size <= b ∨ M b := by
  rcases hb with hb | ⟨_, rfl⟩
  ·exact hg.fresh id r hm hl b hb
  ·exact .inl hg.ext.size
 refine ⟨⟨hos.trans hg.ext.os, htape.trans hg.ext.tape, hout.trans hg.ext.output, by rw [hsize]; exact hg.ext.size, fun b' hb' hM => ?_⟩, ?_, ?_, ?_, ?_, ?_, ?_, ?_, hg.roo, hg.rho, fun i v hv => ⟨hdom i (hg.pin i v hv).1, (hg.pin i v hv).2⟩, ⟨fun i m hv => ⟨hdom i (hg.keep.1 i m hv).1, (hg.keep.1 i m hv).2⟩, hg.keep.2⟩⟩
 ·rw [hw b' fun e => ?_]
  ·exact hg.ext.block b' hb' hM
  ·subst e
   rcases hfr with h | h
   ·omega
   ·exact hM h
 ·intro b' vs hv
  obtain ⟨ty, fz, hh⟩ := hg.ro b' vs hv
  refine ⟨ty, fz, ?_⟩
  rw [hw b' fun e => by subst e; rw [hro] at hv; cases hv]
  exact hh
 ·intro j s hs
  by_cases e : j = id
  ·subst e
   rcases hm' j s hs with ⟨_, e⟩ | ⟨h, _⟩
   ·subst e; exact hres
   ·exact (h rfl).elim
  ·by_cases hsl : s.live
   ·have hj := hlive j s e hs hsl
    exact (hg.res j s hj).keep (fun b' hb' => hw b' fun e' => by subst e'; exact hother j s e hs hsl hb') (fun _ _ h => h) rfl ⟨rfl, rfl⟩ fun _ _ => ⟨rfl, rfl⟩
   ·cases s with
    | dead => trivial
    | _ => exact (hsl trivial).elim
 ·intro i j ri rj hi hj hij hli hlj b' hbi hbj
  by_cases ei : i = id
  ·subst ei
   have := hb1 b' hbi
   subst this
   exact (hother j rj (Ne.symm hij) hj hlj hbj).elim
  ·by_cases ej : j = id
   ·subst ej
    have := hb1 b' hbj
    subst this
    exact (hother i ri ei hi hli hbi).elim
   ·exact hg.sep i j ri rj (hlive i ri ei hi hli) (hlive j rj ej hj hlj) hij hli hlj b' hbi hbj
 ·intro j s hs hsl b' hb'
  by_cases e : j = id
  ·subst e
   have := hb1 b' hb'
   subst this
   exact hfr
  ·exact hg.fresh j s (hlive j s e hs hsl) hsl b' hb'
 ·intro j s hs hsl b' hb' h1 h2
  by_cases e : j = id
  ·subst e
   have := hb1 b' hb'
   subst this
   exact hro
  ·exact hg.wro j s (hlive j s e hs hsl) hsl b' hb' h1 h2
 ·intro m hmr
  obtain ⟨⟨hlim, hout, code, v, p, ty, hc, hd, hrest⟩, hin, hno⟩ := hg.rd m hmr
  have hne : g.ρ ≠ b := by
   intro e
   rcases hb with hb | ⟨_, hb⟩
   ·exact hno id r hm hl (by rw [hb, e])
   ·have := lt_of_some hc
    omega
  refine ⟨⟨hlim, hout, code, v, p, ty, by rw [hw _ hne]; exact hc, hd, hrest⟩, hin, ?_⟩
  intro j s hs hsl
  by_cases e : j = id
  ·subst e; exact hno j r hm hl
  ·exact hno j s (hlive j s e hs hsl) hsl
 ·intro hn
  refine (hg.rds hn).next fun hlt => hw _ fun e => ?_
  cases hr : st.rd with
  | none => exact hn hr
  | some m =>
   rcases hb with hb | ⟨_, hb⟩
   ·exact (hg.rd m hr).2.2 id r hm hl (by rw [hb, e])
   ·omega
theorem app_wr (st : St) (dst : Option Nat) (s : S) (pre : Prop) (wr : (Nat -> Option Res) -> Nat -> Option Res) (fz : List Nat) (r : Unit) :
  st.app dst (Tr.gen s pre [] [] fz (some wr)) r = { env := (match dst with | some d => upd st.env d s | none => st.env), mem := wr st.mem, sp := st.sp, fr := sets st.fr fz, base := st.base, rd := st.rd } := by
 cases dst <;> simp [St.app, rd_zero, adds, sets]
theorem Sound.wr (h : Rel E w0 M n st a w) (hd : ∀ d, o.dst = some d -> d < n) {g g1 : G} {fz : List Nat} (henv : ∀ x, (st.env x).R g (a.tmps.getD x undef)) (hg1 : Good E w0 M g1 { st with fr := sets st.fr fz } w)
  (hro : ∀ b vs, g.ro b = some vs -> g1.ro b = some vs) (hκ : g1.κ = g.κ) (hln : g1.ln = g.ln) (hρ : g1.ρ = g.ρ) {s : S} {pre : Prop} {wr : (Nat -> Option Res) -> Nat -> Option Res} {v : Value} {id b : Nat} {r r' : Res} {w' : World}
  (hrun : (execOp a.eval o).run P w = .ok (.value v) w' ∨ ((execOp a.eval o).run P w = .ok .skip w' /\ v = undef)) (hm : st.mem id = some r) (hl : r.live) (hb : blkOf (g.κ id) = some b ∨ (blkOf (g.κ id) = none /\ b = w.heap.size))
  (hm' : ∀ j s, wr st.mem j = some s -> (j = id /\ s = r') ∨ (j ≠ id /\ (st.mem j = some s ∨ s = .dead)))
  (hother : ∀ j s, j ≠ id -> wr st.mem j = some s -> s.live -> blkOf (g.κ j) ≠ some b) (hrob : g1.ro b = none)
  (hos : w'.os = w.os) (htape : w'.tape = w.tape) (hout : w'.output = w.output) (hsize : w'.heap.size = w.heap.size) (hw : ∀ b', b' ≠ b -> w'.heap[b']? = w.heap[b']?)
  (hres : ResR E w' g1 id r') (hdom : ∀ j, (st.mem j).isSome = true -> (wr st.mem j).isSome = true) (hrefs : ∀ i ∈ r'.refs, (st.mem i).isSome = true) (hvr : s.refs = []) (hv : s.R g1 v) :
  Sound P E w0 M n o st a w (Tr.gen s pre [] [] fz (some wr)) := by
 intro next Q hn
 unfold Oper.wp
 have hrun' : ∀ next Q, o.upon P a next Q ((execOp a.eval o).run P w) = next (a.put o.dst v) w' := by
  intro next Q
  rcases hrun with hrun | ⟨hrun, hvu⟩
  ·rw [hrun, Oper.upon_value]
  ·rw [hrun, Oper.upon_skip, hvu]
 rw [hrun']
 refine hn () _ _ trivial ?_
 have e := app_wr st o.dst s pre wr fz ()
 have hgood := Good.write (st := { st with fr := sets st.fr fz }) hg1 ⟨h.cl.1, h.cl.2⟩ hm hl (by rw [hκ]; exact hb) hm' (by rw [hκ]; exact hother) hrob hos htape hout hsize hw hres hdom
 refine Rel.app h hd henv (g' := g1) hro hρ (fun i _ => by rw [hκ, hln]; exact ⟨rfl, rfl⟩) ?_ hv ?_ ?_ ?_
 ·rw [e]; exact hgood.env rfl rfl rfl rfl
 ·rw [e]; exact hdom
 ·rw [hvr]; intro i hi; cases hi
 ·rw [e]
  intro j r2 hj i hi
  refine hdom i ?_
  rcases hm' j r2 hj with ⟨_, rfl⟩ | ⟨_, h2 | h2⟩
  ·exact hrefs i hi
  ·exact h.cl.2 j r2 h2 i hi
  ·subst h2; simp [Res.refs] at hi
theorem write_eq (pre : Prop) (wr : (Nat -> Option Res) -> Nat -> Option Res) (fz : List Nat) : Tr.write pre wr fz = Tr.gen junk pre [] [] fz (some wr) := rfl
theorem noJunk_mem : ∀ {l : List CV}, noJunk l = true -> ∀ c ∈ l, c ≠ .junk := by
 intro l
 induction l with
 | nil => intro _ c h; simp at h
 | cons x l ih =>
  intro h c hc
  cases x <;> simp [noJunk] at h <;> rcases List.mem_cons.1 hc with rfl | hc <;> first | exact ih h c ‹_› | simp
theorem upd_cases {m : Nat -> Option Res} {id : Nat} {r' : Res} {j : Nat} {s : Res} (h : upd m id (some r') j = some s) : (j = id /\ s = r') ∨ (j ≠ id /\ m j = some s) := by
 by_cases e : j = id
 ·subst e; rw [upd_same] at h; injection h with h; exact .inl ⟨rfl, h.symm⟩
 ·rw [upd_ne _ _ e] at h; exact .inr ⟨e, h⟩
theorem upd_dom {m : Nat -> Option Res} {id : Nat} {r' : Res} {j : Nat} (h : (m j).isSome = true) : (upd m id (some r') j).isSome = true := by
 by_cases e : j = id
 ·subst e; rw [upd_same]; rfl
 ·rw [upd_ne _ _ e]; exact h
theorem kill_cases {fam id : Nat} {m : Nat -> Option Res} {j : Nat} {s : Res} (h : kill fam id m j = some s) : m j = some s ∨ s = .dead := by
 unfold kill at h
 split at h
 ·split at h
  ·injection h with h; exact .inr h.symm
  ·rename_i hm _; rw [hm]; exact .inl h
 ·exact .inl h
theorem kill_dom {fam id : Nat} {m : Nat -> Option Res} {j : Nat} (h : (m j).isSome = true) : (kill fam id m j).isSome = true := by
 unfold kill
 split
 ·split <;> rfl
 ·exact h
theorem alone {g : G} (hg : Good E w0 M g st w) {id b : Nat} {r : Res} (hm : st.mem id = some r) (hl : r.live) (hns : ∀ f t xs, r ≠ .sl f t xs) (hb : blkOf (g.κ id) = some b) : ∀ j s, j ≠ id -> st.mem j = some s -> s.live -> blkOf (g.κ j) ≠ some b := by
 intro j s hj hs hsl hbj
 obtain ⟨f, t, xs, ys, h1, _⟩ := hg.sep id j r s hm hs (Ne.symm hj) hl hsl b hb hbj
 exact hns f t xs h1
theorem alone_sl {g : G} (hg : Good E w0 M g st w) {id b fam : Nat} {t : Ty} {xs : List t.den} (hm : st.mem id = some (.sl fam t xs)) (hb : blkOf (g.κ id) = some b) :
  ∀ j s, j ≠ id -> kill fam id st.mem j = some s -> s.live -> blkOf (g.κ j) ≠ some b := by
 intro j s hj hs hsl hbj
 have hs' : st.mem j = some s := by
  rcases kill_cases hs with h | h
  ·exact h
  ·subst h; exact hsl.elim
 obtain ⟨f, t', xs', ys, h1, h2, _⟩ := hg.sep id j _ s hm hs' (Ne.symm hj) trivial hsl b hb hbj
 injection h1 with e1 _ _
 subst e1
 unfold kill at hs
 rw [hs', h2] at hs
 simp [hj] at hs
theorem RowR.setElem {ro : Nat -> Option (Array Value)} {t : Ty} {xs : List t.den} {cur : Array Value} (h : RowR ro (flat t xs) cur 0) {k off : Nat} (hk : k < xs.length) {ds : List DC} {y : t.den} (hy : updElem t (xs.getD k t.zero) off ds = some y)
  {vs : List Value} (hvl : vs.length = ds.length) (hvs : ∀ (j : Nat) (c : DC), ds[j]? = some c -> ∃ u, vs[j]? = some u /\ DR ro c u) (hfit : k * t.sz + off + vs.length <= cur.size) : RowR ro (flat t (xs.set k y)) (over cur (k * t.sz + off) vs) 0 := by
 unfold updElem at hy
 split at hy
 ·rename_i hle
  have hc := dec_cells hy
  have hpos := sz_pos t
  intro m c hm
  have hml : m < xs.length * t.sz := by
   have := (List.getElem?_eq_some_iff.1 hm).1
   rwa [flat_len, List.length_set] at this
  have hq : m / t.sz < xs.length := (Nat.div_lt_iff_lt_mul hpos).2 hml
  have hr : m % t.sz < t.sz := Nat.mod_lt _ hpos
  have hdm : m / t.sz * t.sz + m % t.sz = m := by rw [Nat.mul_comm]; exact Nat.div_add_mod m t.sz
  have h1 := flat_get t (xs.set k y) (m / t.sz) (m % t.sz) (by simpa using hq) hr
  rw [hdm, hm] at h1
  have hold := flat_get t xs (m / t.sz) (m % t.sz) hq hr
  rw [hdm] at hold
  rw [Nat.zero_add, over_get hfit]
  by_cases e : m / t.sz = k
  ·rw [e] at h1 hdm hold
   have h2 : (xs.set k y).getD k t.zero = y := by simp [List.getD_eq_getElem?_getD, hk]
   rw [h2, hc] at h1
   have hcl := cells_len t (xs.getD k t.zero)
   generalize hX : t.cells (xs.getD k t.zero) = X at h1 hold hcl
   by_cases h3 : m % t.sz < off
   ·rw [List.append_assoc, List.getElem?_append_left (by simp; omega), List.getElem?_take_of_lt h3] at h1
    rw [if_neg (by omega)]
    rw [← h1] at hold
    simpa using h m c hold
   ·by_cases h4 : m % t.sz < off + ds.length
    ·rw [List.getElem?_append_left (by simp; omega), List.getElem?_append_right (by simp; omega)] at h1
     simp only [List.length_take, hcl] at h1
     obtain ⟨u, h5, h6⟩ := hvs _ c h1.symm
     refine ⟨u, ?_, h6⟩
     rw [if_pos (by omega), ← h5]
     congr 1
     omega
    ·rw [List.getElem?_append_right (by simp; omega), List.getElem?_drop] at h1
     rw [if_neg (by omega)]
     simp only [List.length_append, List.length_take, hcl] at h1
     rw [show off + ds.length + (m % t.sz - (min off t.sz + ds.length)) = m % t.sz from by omega] at h1
     rw [← h1] at hold
     simpa using h m c hold
  ·have h2 : (xs.set k y).getD (m / t.sz) t.zero = xs.getD (m / t.sz) t.zero := by simp [List.getD_eq_getElem?_getD, List.getElem?_set_ne (Ne.symm e)]
   rw [h2] at h1
   rw [← h1] at hold
   have hout : ¬ (k * t.sz + off <= m /\ m < k * t.sz + off + vs.length) := by
    intro ⟨h3, h4⟩
    rcases Nat.lt_or_gt_of_ne e with h5 | h5
    ·have : (m / t.sz + 1) * t.sz <= k * t.sz := Nat.mul_le_mul_right _ h5
     rw [Nat.add_mul] at this
     omega
    ·have : (k + 1) * t.sz <= m / t.sz * t.sz := Nat.mul_le_mul_right _ h5
     rw [Nat.add_mul] at this
     omega
   rw [if_neg hout]
   simpa using h m c hold
 ·cases hy
theorem updElem_le {t : Ty} {x y : t.den} {off : Nat} {ds : List DC} (hy : updElem t x off ds = some y) : off + ds.length <= t.sz := by
 unfold updElem at hy
 split at hy
 ·assumption
 ·cases hy
theorem cells_ones {g : G} {vs : List CV} {us : Array Value} (h : Cells g vs us) (hj : ∀ c ∈ vs, c ≠ .junk) : ∀ u ∈ us.toList, u.oneCell' = true := by
 intro u hu
 obtain ⟨j, hju⟩ := List.getElem?_of_mem hu
 have hlt : j < vs.length := by rw [← h.1]; simpa using (List.getElem?_eq_some_iff.1 hju).1
 obtain ⟨u', h1, h2⟩ := h.2 j vs[j] (List.getElem?_eq_getElem hlt)
 have : u' = u := by
  have h3 : us[j]? = some u := by simpa using hju
  rw [h1] at h3
  injection h3
 subst this
 exact h2.one (hj _ (List.getElem_mem hlt))
theorem datas_noJunk {mem : Nat -> Option Res} : ∀ {vs : List CV} {ds : List DC} {ids : List Nat}, datas mem vs = some (ds, ids) -> ∀ c ∈ vs, c ≠ .junk := by
 intro vs
 induction vs with
 | nil => intro ds ids _ c hc; simp at hc
 | cons v vs ih =>
  intro ds ids hd c hc
  simp only [datas] at hd
  split at hd
  ·cases hd
  ·rename_i ds' ids' hd'
   rcases List.mem_cons.1 hc with rfl | hc
   ·intro e; subst e; simp at hd
   ·exact ih hd' c hc
theorem snd_store (h : Rel E w0 M n st a w) (ht : TabOk P E tab) (hd : ∀ d, o.dst = some d -> d < n) {ty : TypeId} {x y : Operand} (ho : o.op = .store ty x y) {t : Tr} (htr : trStore tab st ty x y = some t) (hp : t.pre) : Sound P E w0 M n o st a w t := by
 obtain ⟨g, hg, henv⟩ := h.good
 have hx := ev_R henv x
 have hy := ev_R henv y
 unfold trStore at htr
 split at htr
 ·rename_i ti id off hti hev
  obtain ⟨i, d, hi, hu, hisz, hk⟩ := ht _ _ hti
  rw [hev] at hx
  obtain ⟨b, hκ, hv⟩ := hx
  have hbk : blkOf (g.κ id) = some b := by rw [hκ]; rfl
  split at htr
  ·rename_i cs hm
   obtain ⟨b', vs, bt, hκ', hb, hc⟩ := hg.res _ _ hm
   rw [hκ] at hκ'
   simp at hκ'
   subst hκ'
   split at htr
   ·cases htr
   ·rename_i ps hps hna
    split at htr
    ·rename_i hle
     injection htr with htr
     subst htr
     obtain ⟨hs, hf⟩ := hp
     rw [write_eq]
     obtain ⟨hpl, hpc⟩ := partCells_R hy hps
     have hr := run_storeAt (P := P) (ty := ty) (o := off) hb hi (v := a.eval y) (by rw [hpc.1, hpl, hisz]) (by rw [hc.1, hisz, ← hpl]; exact hle.1) (cells_ones hpc (noJunk_mem hle.2))
     have hop : (execOp a.eval o).run P w = .ok .skip (w.setRow b (over vs off (a.eval y).cells.toList)) := by
      simp [execOp, ho, hv, hr]
     refine Sound.wr h hd (g1 := g) (fz := []) henv (hg.env rfl rfl rfl rfl) (fun _ _ h => h) rfl rfl rfl (r' := .blk (putc cs off ps)) (v := undef) (.inr ⟨hop, rfl⟩) hm trivial (.inl hbk) (fun j s hj => ?_) ?_ ?_ rfl rfl rfl (by simp) ?_ ?_ ?_ ?_ rfl trivial
     ·rcases upd_cases hj with h1 | h1
      ·exact .inl h1
      ·exact .inr ⟨h1.1, .inl h1.2⟩
     ·intro j s hj hjs hsl
      rcases upd_cases hjs with h1 | h1
      ·exact (hj h1.1).elim
      ·exact alone hg hm trivial (by simp) hbk j s hj h1.2 hsl
     ·exact hg.wro id _ hm trivial b hbk hs hf
     ·intro b' hb'; exact setRow_other w b b' _ hb'
     ·exact ⟨b, _, bt, hκ, setRow_heap w b _ _ _ _ hb, hc.put hpc (by omega)⟩
     ·intro j hj; exact upd_dom hj
     ·intro i' hi'
      simp only [Res.refs] at hi'
      rcases refsL_putc hi' with h1 | h1
      ·exact h.cl.2 id _ hm i' h1
      ·have hpr : ∀ q ∈ refsL ps, (st.mem q).isSome = true := by
        intro q hq
        refine ev_refs h.cl y q ?_
        unfold partCells at hps
        split at hps
        ·cases hps
        ·rename_i v hnj he
         split at hps
         ·injection hps with hps; subst hps; rw [he]; simpa [refsL, S.refs, S0.refs] using hq
         ·cases hps
        ·rename_i v he
         split at hps
         ·injection hps with hps; subst hps; rw [he]; exact hq
         ·cases hps
        ·cases hps
       exact hpr i' h1
    ·cases htr
   ·cases htr
  ·rename_i t' xs hm
   obtain ⟨hln, b', vs, bt, hκ', hb, hvs, hrow⟩ := hg.res _ _ hm
   rw [hκ] at hκ'
   simp at hκ'
   subst hκ'
   split at htr
   ·rename_i t'' ys hey
    split at htr
    ·rename_i ys' hcast
     obtain ⟨rfl, hq⟩ := castL_eq hcast
     cases hq
     split at htr
     ·rename_i hcond
      injection htr with htr
      subst htr
      obtain ⟨hlen, hs, hf⟩ := hp
      obtain ⟨rfl, hsz⟩ := hcond
      rw [write_eq]
      rw [hey] at hy
      obtain ⟨us, hyv, hus, hurow⟩ := hy
      obtain ⟨news, n1, n2, n3, n4⟩ := hurow.vals
      have hucells : (a.eval y).cells = us := by rw [hyv]; rfl
      have hones : ∀ u ∈ us.toList, u.oneCell' = true := by
       intro u hu'
       obtain ⟨j, hju⟩ := List.getElem?_of_mem hu'
       have hjl : j < us.size := by simpa using (List.getElem?_eq_some_iff.1 hju).1
       have hjl' : j < (flat t'' ys).length := by rw [flat_len]; omega
       obtain ⟨u2, h1, h2⟩ := hurow j _ (List.getElem?_eq_getElem hjl')
       rw [Nat.zero_add] at h1
       have h3 : us[j]? = some u := by simpa using hju
       rw [h1] at h3
       injection h3 with h3
       subst h3
       exact h2.one
      have husz : us.size = ti.sz := by rw [hus, hlen, hsz]
      have hr := run_storeAt (P := P) (ty := ty) (o := 0) hb hi (v := a.eval y) (by rw [hucells, husz, hisz]) (by rw [hvs, hisz, hsz]; omega) (by rw [hucells]; exact hones)
      have hop : (execOp a.eval o).run P w = .ok .skip (w.setRow b (over vs 0 us.toList)) := by
       rw [hucells] at hr
       simp [execOp, ho, hv, hr]
      have hsv : us.size = vs.size := by rw [husz, hvs, hsz]
      have hover : over vs 0 us.toList = us := by
       apply Array.ext'
       simp [over, hsv]
      rw [hover] at hop
      refine Sound.wr h hd (g1 := g) (fz := []) henv (hg.env rfl rfl rfl rfl) (fun _ _ h => h) rfl rfl rfl (r' := .vec t'' ys) (v := undef) (.inr ⟨hop, rfl⟩) hm trivial (.inl hbk) (fun j s hj => ?_) ?_ ?_ rfl rfl rfl (by simp) ?_ ?_ ?_ ?_ rfl trivial
      ·rcases upd_cases hj with h1 | h1
       ·exact .inl h1
       ·exact .inr ⟨h1.1, .inl h1.2⟩
      ·intro j s hj hjs hsl
       rcases upd_cases hjs with h1 | h1
       ·exact (hj h1.1).elim
       ·exact alone hg hm trivial (by simp) hbk j s hj h1.2 hsl
      ·exact hg.wro id _ hm trivial b hbk hs hf
      ·intro b' hb'; exact setRow_other w b b' _ hb'
      ·exact ⟨by rw [hln, hlen], b, us, bt, hκ, setRow_heap w b _ _ _ _ hb, hus, hurow⟩
      ·intro j hj; exact upd_dom hj
      ·intro i' hi'; simp [Res.refs] at hi'
     ·cases htr
    ·cases htr
   ·cases htr
  ·cases htr
 ·rename_i ti id t' k off hti hev
  obtain ⟨i, d, hi, hu, hisz, hk⟩ := ht _ _ hti
  rw [hev] at hx
  obtain ⟨b, hbk, h0, hkl, hv⟩ := hx
  split at htr
  ·rename_i ps hps
   obtain ⟨hpl, hpc⟩ := partCells_R hy hps
   split at htr
   ·rename_i ds ids hds
    split at htr
    ·rename_i t'' xs hm
     split at htr
     ·rename_i xs' hcast
      obtain ⟨rfl, hq⟩ := castL_eq hcast
      cases hq
      split at htr
      ·rename_i z hz
       injection htr with htr
       subst htr
       obtain ⟨hs, hf, hns⟩ := hp
       rw [write_eq]
       obtain ⟨ro', hro, hdr, hg1⟩ := hg.freeze ids fun q hq => ⟨notSpent_mem hns q hq, datas_refs ps ds ids hds q hq⟩
       obtain ⟨h3, h4⟩ := datas_R hro ps ds ids hds hdr (fun j => (a.eval y).cells[j]?) hpc.2
       obtain ⟨hln, b', vs, bt, hκ', hb, hvs, hrow⟩ := hg.res _ _ hm
       have e : b' = b := by rw [hκ'] at hbk; simpa [blkOf] using hbk
       subst e
       have hle := updElem_le hz
       have hfit : k.toNat * t''.sz + off + i.size <= vs.size := by
        have : (k.toNat + 1) * t''.sz <= xs.length * t''.sz := Nat.mul_le_mul_right _ (by omega)
        rw [Nat.add_mul] at this
        rw [hvs, hisz, ← hpl, ← h3]
        omega
       have hcsz : (a.eval y).cells.size = i.size := by rw [hpc.1, hpl, hisz]
       have hr := run_storeAt (P := P) (ty := ty) (o := k.toNat * t''.sz + off) hb hi (v := a.eval y) hcsz hfit (cells_ones hpc (datas_noJunk hds))
       have hop : (execOp a.eval o).run P w = .ok .skip (w.setRow b' (over vs (k.toNat * t''.sz + off) (a.eval y).cells.toList)) := by
        simp [execOp, ho, hv, hr]
       have hnid : id ∉ ids := fun hin => by
        obtain ⟨f, t3, xs3, h5⟩ := datas_refs ps ds ids hds id hin
        rw [hm] at h5; cases h5
       refine Sound.wr h hd (g1 := { g with ro := ro' }) (fz := ids) henv hg1 hro rfl rfl rfl (r' := .vec t'' (xs.set k.toNat z)) (v := undef) (.inr ⟨hop, rfl⟩) hm trivial (.inl hbk) (fun j s hj => ?_) ?_ ?_ rfl rfl rfl (by simp) ?_ ?_ ?_ ?_ rfl trivial
       ·rcases upd_cases hj with h1 | h1
        ·exact .inl h1
        ·exact .inr ⟨h1.1, .inl h1.2⟩
       ·intro j s hj hjs hsl
        rcases upd_cases hjs with h1 | h1
        ·exact (hj h1.1).elim
        ·exact alone hg hm trivial (by simp) hbk j s hj h1.2 hsl
       ·exact hg1.wro id _ hm trivial b' hbk hs (by show sets st.fr ids id = false; rw [sets_get, hf]; simpa using hnid)
       ·intro b2 hb2; exact setRow_other w b' b2 _ hb2
       ·have hcl2 : (a.eval y).cells.toList.length = ds.length := by rw [Array.length_toList, hpc.1, h3]
        have hfit2 : k.toNat * t''.sz + off + (a.eval y).cells.toList.length <= vs.size := by rw [Array.length_toList, hcsz]; exact hfit
        refine ⟨by simp [hln], b', _, bt, hκ', setRow_heap w b' _ _ _ _ hb, by rw [over_size hfit2, hvs]; simp, ?_⟩
        exact RowR.setElem (hrow.mono hro) (by omega) hz hcl2 (fun j c hj => by
         obtain ⟨u, h5, h6⟩ := h4 j c hj
         exact ⟨u, by simpa using h5, h6⟩) hfit2
       ·intro j hj; exact upd_dom hj
       ·intro i' hi'; simp [Res.refs] at hi'
      ·cases htr
     ·cases htr
    ·rename_i fam t'' xs hm
     split at htr
     ·rename_i xs' hcast
      obtain ⟨rfl, hq⟩ := castL_eq hcast
      cases hq
      split at htr
      ·rename_i z hz
       injection htr with htr
       subst htr
       obtain ⟨hs, hf, hns, hnid⟩ := hp
       rw [write_eq]
       obtain ⟨ro', hro, hdr, hg1⟩ := hg.freeze ids fun q hq => ⟨notSpent_mem hns q hq, datas_refs ps ds ids hds q hq⟩
       obtain ⟨h3, h4⟩ := datas_R hro ps ds ids hds hdr (fun j => (a.eval y).cells[j]?) hpc.2
       obtain ⟨hln, hres⟩ := hg.res _ _ hm
       rcases hres with ⟨hκ', hx0⟩ | ⟨b', cap, vs, hκ', hb, hcl, hcm, hvs, hrow⟩
       ·rw [hκ'] at hbk; simp [blkOf] at hbk
       have e : b' = b := by rw [hκ'] at hbk; simpa [blkOf] using hbk
       subst e
       have hle := updElem_le hz
       have hfit : k.toNat * t''.sz + off + i.size <= vs.size := by
        have : (k.toNat + 1) * t''.sz <= cap * t''.sz := Nat.mul_le_mul_right _ (by omega)
        rw [Nat.add_mul] at this
        rw [hvs, hisz, ← hpl, ← h3]
        omega
       have hcsz : (a.eval y).cells.size = i.size := by rw [hpc.1, hpl, hisz]
       have hr := run_storeAt (P := P) (ty := ty) (o := k.toNat * t''.sz + off) hb hi (v := a.eval y) hcsz hfit (cells_ones hpc (datas_noJunk hds))
       have hop : (execOp a.eval o).run P w = .ok .skip (w.setRow b' (over vs (k.toNat * t''.sz + off) (a.eval y).cells.toList)) := by
        simp [execOp, ho, hv, hr]
       refine Sound.wr h hd (g1 := { g with ro := ro' }) (fz := ids) henv hg1 hro rfl rfl rfl (r' := .sl fam t'' (xs.set k.toNat z)) (v := undef) (.inr ⟨hop, rfl⟩) hm trivial (.inl hbk) (fun j s hj => ?_) ?_ ?_ rfl rfl rfl (by simp) ?_ ?_ ?_ ?_ rfl trivial
       ·rcases upd_cases hj with h1 | h1
        ·exact .inl h1
        ·exact .inr ⟨h1.1, kill_cases h1.2⟩
       ·intro j s hj hjs hsl
        rcases upd_cases hjs with h1 | h1
        ·exact (hj h1.1).elim
        ·exact alone_sl hg hm hbk j s hj h1.2 hsl
       ·exact hg1.wro id _ hm trivial b' hbk hs (by show sets st.fr ids id = false; rw [sets_get, hf]; simpa using hnid)
       ·intro b2 hb2; exact setRow_other w b' b2 _ hb2
       ·have hcl2 : (a.eval y).cells.toList.length = ds.length := by rw [Array.length_toList, hpc.1, h3]
        have hfit2 : k.toNat * t''.sz + off + (a.eval y).cells.toList.length <= vs.size := by rw [Array.length_toList, hcsz]; exact hfit
        refine ⟨by simp [hln], .inr ⟨b', cap, _, by simpa using hκ', setRow_heap w b' _ _ _ _ hb, by simpa using hcl, hcm, by rw [over_size hfit2, hvs], ?_⟩⟩
        exact RowR.setElem (hrow.mono hro) (by omega) hz hcl2 (fun j c hj => by
         obtain ⟨u, h5, h6⟩ := h4 j c hj
         exact ⟨u, by simpa using h5, h6⟩) hfit2
       ·intro j hj; exact upd_dom (kill_dom hj)
       ·intro i' hi'; simp [Res.refs] at hi'
      ·cases htr
     ·cases htr
    ·cases htr
   ·cases htr
  ·cases htr
 ·cases htr
theorem snd_copy (h : Rel E w0 M n st a w) (ht : TabOk P E tab) (hd : ∀ d, o.dst = some d -> d < n) {ty : TypeId} {x y : Operand} {args : Array Operand} {tys : Array TypeId} (hargs : args.toList = [x, y]) (htys : tys.toList = [ty, ty])
  (ho : o.op = .call ⟨.builtin .copy, args, tys⟩) {t : Tr} (htr : trCopy tab st ty x y = some t) (hp : t.pre) : Sound P E w0 M n o st a w t := by
 have ea : args = #[x, y] := by cases args; simp_all
 have et : tys = #[ty, ty] := by cases tys; simp_all
 subst ea et
 obtain ⟨g, hg, henv⟩ := h.good
 have hx := ev_R henv x
 have hy := ev_R henv y
 unfold trCopy at htr
 split at htr
 ·rename_i sz by_ e t' id v hti hev hevy
  rw [hev] at hx
  rw [hevy] at hy
  split at htr
  ·rename_i fam t'' xs ys hm hr
   split at htr
   ·rename_i xs0 hcast
    obtain ⟨rfl, hq⟩ := castL_eq hcast
    cases hq
    split at htr
    ·rename_i hsz1
     injection htr with htr
     subst htr
     obtain ⟨hs, hf⟩ := hp
     obtain ⟨inf, d, _, hu, _, _, ⟨rfl, _⟩, ie, hie, hsz, hby, hrw⟩ := ht _ _ hti
     obtain ⟨rfl, z, hz, hzv⟩ := hrw rfl
     have hS := rdl_R hg hr hy
     have hsi : (P.info? (E t'')).map (·.size) = some 1 := by rw [hie]; simp [hsz, hsz1]
     obtain ⟨hln, hres⟩ := hg.res _ _ hm
     have e1 : a.eval x = g.κ id := hx.1
     have fin : ∀ (b : Nat) (w' : World), (blkOf (g.κ id) = some b ∨ (blkOf (g.κ id) = none /\ b = w.heap.size)) -> (Builtin.copy_ #[ty, ty] o.type #[g.κ id, a.eval y]).run P w = .ok (goInt (min ys.length xs.length : Nat)) w' ->
       w'.os = w.os -> w'.tape = w.tape -> w'.output = w.output -> w'.heap.size = w.heap.size -> (∀ b', b' ≠ b -> w'.heap[b']? = w.heap[b']?) -> ResR E w' g id (.sl fam t'' (ys.take xs.length ++ xs.drop ys.length)) ->
       Sound P E w0 M n o st a w (Tr.gen (sv (.int .i64 (min ys.length xs.length : Nat))) (st.sp id = false /\ st.fr id = false) [] [] []
        (some fun m => upd (kill fam id m) id (some (.sl fam t'' (ys.take xs.length ++ xs.drop ys.length))))) := by
      intro b w' hb hrun h1 h2 h3 h4 h5 h6
      have hop : (execOp a.eval o).run P w = .ok (.value (.int .i64 (min ys.length xs.length : Nat))) w' := by
       simp [execOp, ho, resolve, invoke, builtin, e1, hrun, goInt]
      have hlt : ∀ j s, st.mem j = some s -> s.live -> blkOf (g.κ j) ≠ some w.heap.size := fun j s hj hl hbj => by
       have := (hg.res j s hj).lt hl hbj
       omega
      refine Sound.wr h hd (g1 := g) (fz := []) henv (hg.env rfl rfl rfl rfl) (fun _ _ h => h) rfl rfl rfl (r' := .sl fam t'' (ys.take xs.length ++ xs.drop ys.length)) (.inl hop) hm trivial hb (fun j s hj => ?_) ?_ ?_ h1 h2 h3 h4 h5 h6 ?_ ?_ rfl (R_sv rfl)
      ·rcases upd_cases hj with h7 | h7
       ·exact .inl h7
       ·exact .inr ⟨h7.1, kill_cases h7.2⟩
      ·intro j s hj hjs hsl
       rcases upd_cases hjs with h7 | h7
       ·exact (hj h7.1).elim
       ·rcases hb with hb | ⟨_, rfl⟩
        ·exact alone_sl hg hm hb j s hj h7.2 hsl
        ·rcases kill_cases h7.2 with h8 | h8
         ·exact hlt j s h8 hsl
         ·subst h8; exact hsl.elim
      ·rcases hb with hb | ⟨_, rfl⟩
       ·exact hg.wro id _ hm trivial b hb hs hf
       ·cases hro : g.ro w.heap.size with
        | none => rfl
        | some vs =>
         obtain ⟨ty', fz, hh⟩ := hg.ro _ vs hro
         have := lt_of_some hh
         omega
      ·intro j hj; exact upd_dom (kill_dom hj)
      ·intro i' hi'; simp [Res.refs] at hi'
     -- nothing is copied
     by_cases h0 : min ys.length xs.length = 0
     ·obtain ⟨ba, cap, hvy⟩ := hS.len
      have hxl : ∃ b cap, g.κ id = .slice b xs.length cap := by
       rcases hres with ⟨h1, h2⟩ | ⟨b, cap, cur, h1, _⟩
       ·exact ⟨none, 0, by rw [h1, h2]; rfl⟩
       ·exact ⟨_, cap, h1⟩
      obtain ⟨bx, capx, hκ⟩ := hxl
      have hrun := run_copy_none (P := P) w ty ty o.type (E t'') bx ba xs.length capx ys.length cap hu hsi h0
      have hsame : ys.take xs.length ++ xs.drop ys.length = xs := by
       rcases Nat.le_total ys.length xs.length with hle | hle
       ·have : ys = [] := List.eq_nil_of_length_eq_zero (by omega)
        subst this; simp
       ·have : xs = [] := List.eq_nil_of_length_eq_zero (by omega)
        subst this; simp
      have hrun' : (Builtin.copy_ #[ty, ty] o.type #[g.κ id, a.eval y]).run P w = .ok (goInt (min ys.length xs.length : Nat)) w := by
       rw [hκ, hvy, h0]; exact hrun
      cases hbk : blkOf (g.κ id) with
      | none => exact fin w.heap.size w (.inr ⟨hbk, rfl⟩) hrun' rfl rfl rfl rfl (fun _ _ => rfl) (by rw [hsame]; exact ⟨hln, hres⟩)
      | some b => exact fin b w (.inl hbk) hrun' rfl rfl rfl rfl (fun _ _ => rfl) (by rw [hsame]; exact ⟨hln, hres⟩)
     ·rcases hS with ⟨_, hy0⟩ | ⟨b', o', cap', vs', bt', fz', hvy, hb', hle', hcap', hrow'⟩
      ·subst hy0; simp at h0
      ·rcases hres with ⟨_, hx0⟩ | ⟨b, cap, cur, hκ, hb, hcl, hcm, hcs, hrow⟩
       ·subst hx0; simp at h0
       ·obtain ⟨news, n1, n2, n3, n4⟩ := hrow'.vals
        rw [flat_len, hsz1, Nat.mul_one] at n1
        have hcl2 : (news.take xs.length).length = Nat.min ys.length xs.length := by
         rw [List.length_take, n1]; exact Nat.min_comm _ _
        have hmin : Nat.min ys.length xs.length <= xs.length := Nat.min_le_right _ _
        rw [hsz1, Nat.mul_one] at hcs
        have hfit : 0 + (news.take xs.length).length <= cur.size := by rw [hcl2]; omega
        have hrun := run_copy_row (P := P) w ty ty o.type (E t'') b 0 xs.length cap ⟨b', o', none⟩ ys.length cap' cur (E t'') (news.take xs.length) hu hsi hb hcl2 (fun j u hj => by
         rw [Addr.add_lit, cell_at hb']
         rw [List.getElem?_take] at hj
         split at hj
         ·exact n2 j u hj
         ·cases hj) hfit (fun u hu => n3 u (List.mem_of_mem_take hu))
        have hcur : (cur.toList.take 0 ++ news.take xs.length ++ cur.toList.drop (0 + (news.take xs.length).length)).toArray = over cur 0 (news.take xs.length) := rfl
        rw [hcur, hcl2] at hrun
        refine fin b (w.setRow b (over cur 0 (news.take xs.length))) (.inl (by rw [hκ]; rfl)) (by rw [hκ, hvy]; exact hrun) rfl rfl rfl (by simp) (fun b2 hb2 => setRow_other w b b2 _ hb2) ?_
        have hlen : (ys.take xs.length ++ xs.drop ys.length).length = xs.length := by simp; omega
        refine ⟨by rw [hln, hlen], .inr ⟨b, cap, _, by rw [hκ, hlen], setRow_heap w b _ _ _ _ hb, by rw [hlen]; exact hcl, hcm, by rw [over_size hfit, hcs, hsz1, Nat.mul_one], ?_⟩⟩
        rw [flat_append]
        have hft : flat t'' (ys.take xs.length) = (flat t'' ys).take xs.length := by have := flat_take t'' ys xs.length; rwa [hsz1, Nat.mul_one] at this
        have hfd : flat t'' (xs.drop ys.length) = (flat t'' xs).drop ys.length := by have := flat_drop t'' xs ys.length; rwa [hsz1, Nat.mul_one] at this
        have hfl : (flat t'' (ys.take xs.length)).length = (news.take xs.length).length := by rw [flat_len, hsz1, Nat.mul_one, List.length_take, hcl2]; exact Nat.min_comm _ _
        refine RowR.append ?_ ?_
        ·intro k c hk
         have hkl := (List.getElem?_eq_some_iff.1 hk).1
         rw [hft, List.getElem?_take] at hk
         split at hk
         ·rename_i hkx
          obtain ⟨u, h1, h2⟩ := n4 k c hk
          refine ⟨u, ?_, h2⟩
          rw [over_get hfit, if_pos (by omega)]
          simp [List.getElem?_take_of_lt hkx, h1]
         ·cases hk
        ·intro k c hk
         rw [hfd, List.getElem?_drop] at hk
         obtain ⟨u, h1, h2⟩ := hrow _ c hk
         have hkl := (List.getElem?_eq_some_iff.1 hk).1
         rw [flat_len, hsz1, Nat.mul_one] at hkl
         have hmin2 : Nat.min ys.length xs.length = ys.length := Nat.min_eq_left (by omega)
         refine ⟨u, ?_, h2⟩
         rw [over_get hfit, if_neg (by omega), hfl, hcl2, hmin2]
         rw [← h1]
         congr 1
         omega
    ·cases htr
   ·cases htr
  ·cases htr
 ·cases htr
end
end Go.SE

namespace Go.SE
open Go.RowKit
section
variable {P : Program} {E : Ty -> TypeId} {tab : TypeId -> Option TI} {w0 : World} {M : MM} {n : Nat} {o : Oper} {st : St} {a : Act} {w : World}
def argG (ro : Nat -> Option (Array Value)) (ρ : Nat) : G := { ro, κ := fun _ => undef, ln := fun _ => 0, ρ }
def ArgsR (g : G) (l : List S0) (vs : List Value) : Prop := vs.length = l.length /\ ∀ (j : Nat) (s : S0), l[j]? = some s -> ∃ v, vs[j]? = some v /\ s.R g v
def ROin (w : World) (ro : Nat -> Option (Array Value)) : Prop := ∀ b vs, ro b = some vs -> ∃ ty fz, w.heap[b]? = some (.cells vs ty fz)
def Lent (mem : Nat -> Option Res) (κ : Nat -> Value) (ro : Nat -> Option (Array Value)) (id : Nat) : Prop :=
 (∀ f t xs, mem id = some (.sl f t xs) -> DR ro (.arr t xs) (κ id)) /\
 (∀ t xs, mem id = some (.vec t xs) -> ∃ b vs, κ id = .pointer (some ⟨b, 0, none⟩) /\ ro b = some vs /\ vs.size = xs.length * t.sz /\ RowR ro (flat t xs) vs 0)
theorem rdl_DR {mem : Nat -> Option Res} {g : G} {ro' : Nat -> Option (Array Value)} (hro : ∀ b vs, g.ro b = some vs -> ro' b = some vs) {t : Ty} {c : CV} {xs : List t.den} (h : rdl mem t c = some xs) {v : Value} (hc : c.R g v)
  (hl : ∀ id ∈ c.refs, Lent mem g.κ ro' id) : DR ro' (.arr t xs) v := by
 unfold rdl at h
 split at h
 ·rename_i t' ys
  obtain ⟨rfl, hh⟩ := castL_eq h
  cases hh
  exact DR.mono hro hc
 ·rename_i id
  split at h
  ·rename_i f t' ys hm
   obtain ⟨rfl, hh⟩ := castL_eq h
   cases hh
   rw [hc.1]
   exact (hl id (by simp [CV.refs])).1 _ _ _ hm
  ·cases h
 ·injection h with h
  subst h
  have hc : v = _ := hc
  subst hc
  exact .nil t
 ·cases h
inductive All2 (p : CV -> CV -> Prop) : List CV -> List CV -> Prop
 | nil : All2 p [] []
 | cons {c c' cs cs'} (h : p c c') (t : All2 p cs cs') : All2 p (c :: cs) (c' :: cs')
theorem All2.len {p : CV -> CV -> Prop} {cs cs' : List CV} (h : All2 p cs cs') : cs.length = cs'.length := by
 induction h with
 | nil => rfl
 | cons _ _ ih => simp [ih]
theorem All2.get {p : CV -> CV -> Prop} {cs cs' : List CV} (h : All2 p cs cs') : ∀ (j : Nat) (c' : CV), cs'[j]? = some c' -> ∃ c, cs[j]? = some c /\ p c c' := by
 induction h with
 | nil => intro j c' h; simp at h
 | cons h _ ih =>
  intro j c' hj
  cases j with
  | zero => simp at hj; subst hj; exact ⟨_, rfl, h⟩
  | succ j => exact ih j c' (by simpa using hj)
theorem Cells.conv {g g' : G} {cs cs' : List CV} {vs : Array Value} (h : Cells g cs vs) (ha : All2 (fun c c' => ∀ v, c.R g v -> c'.R g' v) cs cs') : Cells g' cs' vs := by
 refine ⟨by rw [h.1, ha.len], fun j c' hj => ?_⟩
 obtain ⟨c, h1, h2⟩ := ha.get j c' hj
 obtain ⟨u, h3, h4⟩ := h.2 j c h1
 exact ⟨u, h3, h2 u h4⟩
theorem dec_R {mem : Nat -> Option Res} {g : G} {ro' : Nat -> Option (Array Value)} (hro : ∀ b vs, g.ro b = some vs -> ro' b = some vs) {k : AK} {s : S0} {x : k.den} (h : k.dec mem s = some x) {v : Value} (hs : s.R g v)
  (hl : ∀ id ∈ s.refs, Lent mem g.κ ro' id) : (k.enc x).R (argG ro' g.ρ) v := by
 have keep : s.refs = [] -> s.R (argG ro' g.ρ) v := fun e => S0.R.mono (g := g) (g' := argG ro' g.ρ) hro rfl (fun id hid => by rw [e] at hid; cases hid) hs
 have sc : ∀ (x : DC) (v : Value), (CV.d x).R g v -> (CV.d x).R (argG ro' g.ρ) v := fun x v h => DR.mono hro h
 unfold AK.dec at h
 split at h
 case h_1 => injection h with h; subst h; exact keep rfl
 case h_2 => injection h with h; subst h; exact keep rfl
 case h_3 => injection h with h; subst h; exact keep rfl
 case h_4 => injection h with h; subst h; exact keep rfl
 case h_5 => injection h with h; subst h; exact keep rfl
 case h_6 => injection h with h; subst h; exact keep rfl
 case h_7 => injection h with h; subst h; exact keep rfl
 case h_8 f a =>
  split at h
  ·rename_i fs as h1 h2
   injection h with h
   subst h
   obtain ⟨us, rfl, hc⟩ := hs
   exact ⟨us, rfl, hc.conv (.cons (fun v hv => rdl_DR hro h1 hv fun id hid => hl id (by simp [S0.refs, refsL, hid])) (.cons (fun v hv => rdl_DR hro h2 hv fun id hid => hl id (by simp [S0.refs, refsL, hid])) .nil))⟩
  ·cases h
 case h_9 f a =>
  split at h
  ·rename_i fs as h1 h2
   injection h with h
   subst h
   obtain ⟨us, rfl, hc⟩ := hs
   exact ⟨us, rfl, hc.conv (.cons (fun v hv => rdl_DR hro h1 hv fun id hid => hl id (by simp [S0.refs, refsL, hid])) (.cons (fun v hv => rdl_DR hro h2 hv fun id hid => hl id (by simp [S0.refs, refsL, hid])) .nil))⟩
  ·cases h
 case h_10 =>
  split at h
  ·rename_i h1 h2 h3 h4
   injection h with h
   subst h
   obtain ⟨us, rfl, hc⟩ := hs
   exact ⟨us, rfl, hc.conv (.cons (sc _) (.cons (sc _) (.cons (sc _) (.cons (sc _) (.cons (sc _) (.cons (sc _)
    (.cons (fun v hv => rdl_DR hro h1 hv fun id hid => hl id (mem_refsL (j := 6) rfl hid)) (.cons (fun v hv => rdl_DR hro h2 hv fun id hid => hl id (mem_refsL (j := 7) rfl hid))
    (.cons (fun v hv => rdl_DR hro h3 hv fun id hid => hl id (mem_refsL (j := 8) rfl hid)) (.cons (fun v hv => rdl_DR hro h4 hv fun id hid => hl id (mem_refsL (j := 9) rfl hid)) .nil))))))))))⟩
  ·cases h
 case h_11 t c =>
  exact rdl_DR hro h hs fun id hid => hl id hid
 case h_12 => injection h with h; subst h; exact keep rfl
 case h_13 id =>
  split at h
  ·rename_i xs hm
   injection h with h
   subst h
   obtain ⟨b, vs, h1, h2, h3, h4⟩ := (hl id (by simp [S0.refs, CV.refs])).2 _ _ hm
   obtain ⟨b', h5, h6⟩ := hs
   rw [h1] at h5
   simp at h5
   subst h5
   exact ⟨b, vs, h2, h3, h4, h6⟩
  ·cases h
 case h_14 => injection h with h; subst h; exact keep rfl
 case h_15 => exact keep rfl
 case h_16 f f' =>
  split at h
  ·rename_i e
   subst e
   exact keep rfl
  ·cases h
 case h_17 => cases h
theorem decs_R {mem : Nat -> Option Res} {g : G} {ro' : Nat -> Option (Array Value)} (hro : ∀ b vs, g.ro b = some vs -> ro' b = some vs) : ∀ {ks : List AK} {ss : List S0} {x : Args ks}, decs mem ks ss = some x -> ∀ {vs : List Value}, ArgsR g ss vs ->
  (∀ id ∈ refsT ss, Lent mem g.κ ro' id) -> ArgsR (argG ro' g.ρ) (encs ks x) vs := by
 intro ks
 induction ks with
 | nil =>
  intro ss x h vs hv _
  cases ss with
  | nil => exact ⟨hv.1, by simp [encs]⟩
  | cons s ss => simp [decs] at h
 | cons k ks ih =>
  intro ss x h vs hv hl
  cases ss with
  | nil => simp [decs] at h
  | cons s ss =>
   simp only [decs] at h
   split at h
   ·rename_i y ys h1 h2
    injection h with h
    subst h
    obtain ⟨v, hv0, hvr⟩ := hv.2 0 s rfl
    cases vs with
    | nil => simp at hv0
    | cons v' vs =>
     simp at hv0
     subst hv0
     have hvs : ArgsR g ss vs := ⟨by have := hv.1; simpa using this, fun j s hj => by simpa using hv.2 (j + 1) s (by simpa using hj)⟩
     have := ih h2 hvs fun id hid => hl id (by simp [refsT, hid])
     refine ⟨by simp [encs, this.1], fun j s' hj => ?_⟩
     cases j with
     | zero =>
      simp [encs] at hj
      subst hj
      exact ⟨v', rfl, dec_R hro h1 hvr fun id hid => hl id (by simp [refsT, hid])⟩
     | succ j => simpa using this.2 j s' (by simpa [encs] using hj)
   ·cases h
theorem argsS_R {g : G} (henv : ∀ x, (st.env x).R g (a.tmps.getD x undef)) : ∀ {xs : List Operand} {ss : List S0}, argsS st xs = some ss -> ArgsR g ss (xs.map a.eval) := by
 intro xs
 induction xs with
 | nil => intro ss h; simp only [argsS, Option.some.injEq] at h; subst h; exact ⟨rfl, by simp⟩
 | cons x xs ih =>
  intro ss h
  simp only [argsS] at h
  split at h
  ·rename_i s ss' h1 h2
   injection h with h
   subst h
   have := ih h2
   have hx := ev_R henv x
   rw [h1] at hx
   refine ⟨by simp [this.1], fun j s' hj => ?_⟩
   cases j with
   | zero => simp at hj; subst hj; exact ⟨_, rfl, hx⟩
   | succ j => simpa using this.2 j s' (by simpa using hj)
  ·cases h
theorem argsS_refs (h : Cl st) : ∀ {xs : List Operand} {ss : List S0}, argsS st xs = some ss -> ∀ id ∈ refsT ss, (st.mem id).isSome = true := by
 intro xs
 induction xs with
 | nil => intro ss h id hid; simp only [argsS, Option.some.injEq] at h; subst h; simp [refsT] at hid
 | cons x xs ih =>
  intro ss hh id hid
  simp only [argsS] at hh
  split at hh
  ·rename_i s ss' h1 h2
   injection hh with hh
   subst hh
   simp only [refsT, List.mem_append] at hid
   rcases hid with hid | hid
   ·exact ev_refs h x id (by rw [h1]; exact hid)
   ·exact ih h2 id hid
  ·cases hh
theorem Good.lend {g : G} (hg : Good E w0 M g st w) : ∃ ro', (∀ b vs, g.ro b = some vs -> ro' b = some vs) /\ ROin w ro' /\ (∀ id, Lent st.mem g.κ ro' id) /\ (∀ n, st.rd = some n -> ro' g.ρ = none) := by
 classical
 have main : ∃ ro' : Nat -> Option (Array Value), (∀ b vs, g.ro b = some vs -> ro' b = some vs) /\ ROin w ro' /\
   (∀ id r, st.mem id = some r -> r.live -> ∀ b vs bt, blkOf (g.κ id) = some b -> w.heap[b]? = some (.cells vs bt (0, 0)) -> ro' b = some vs) /\ (∀ n, st.rd = some n -> ro' g.ρ = none) := by
  refine ⟨fun b => match g.ro b with
   | some vs => some vs
   | none => if ∃ id r, st.mem id = some r /\ r.live /\ blkOf (g.κ id) = some b then (match w.heap[b]? with | some (.cells vs _ _) => some vs | _ => none) else none, ?_, ?_, ?_, ?_⟩
  ·intro b vs hb; simp [hb]
  ·intro b vs hb
   simp only at hb
   split at hb
   ·rename_i vs' h1
    injection hb with hb
    subst hb
    exact hg.ro b _ h1
   ·split at hb
    ·split at hb
     ·rename_i vs' ty fz hh
      injection hb with hb
      subst hb
      exact ⟨ty, fz, hh⟩
     ·cases hb
    ·cases hb
  ·intro id r hm hl b vs bt hb hh
   simp only
   split
   ·rename_i vs' h1
    obtain ⟨ty, fz, h2⟩ := hg.ro b _ h1
    rw [hh] at h2
    simp at h2
    rw [h2.1]
   ·rw [if_pos ⟨id, r, hm, hl, hb⟩, hh]
  ·intro n hn
   obtain ⟨hrd, _, hno⟩ := hg.rd n hn
   simp only [hrd.out]
   rw [if_neg]
   intro ⟨id, r, hm, hl, hb⟩
   exact hno id r hm hl hb
 obtain ⟨ro', h1, h2, h3, h4⟩ := main
 refine ⟨ro', h1, h2, fun id => ⟨?_, ?_⟩, h4⟩
 ·intro f t xs hm
  obtain ⟨_, hres⟩ := hg.res _ _ hm
  rcases hres with ⟨hκ, hx⟩ | ⟨b, cap, cur, hκ, hb, hle, hcap, hcs, hrow⟩
  ·rw [hκ, hx]; exact .nil t
  ·rw [hκ]
   exact DR.of_row (h3 id _ hm trivial b cur _ (by rw [hκ]; rfl) hb) hle hcap (hrow.mono h1)
 ·intro t xs hm
  obtain ⟨_, b, vs, ty, hκ, hb, hsz, hrow⟩ := hg.res _ _ hm
  exact ⟨b, vs, hκ, h3 id _ hm trivial b vs _ (by rw [hκ]; rfl) hb, hsz, hrow.mono h1⟩
end
end Go.SE

namespace Go.SE
open Go.RowKit
section
variable {P : Program} {E : Ty -> TypeId} {tab : TypeId -> Option TI} {K : FuncId -> Option Con} {w0 : World} {M : MM} {n : Nat} {o : Oper} {st : St} {a : Act} {w : World}
structure ResOk (E : Ty -> TypeId) (w0 w : World) (ro0 : Nat -> Option (Array Value)) (rks : List AK) (id0 : Nat) (r : Args rks) (v : Value) (g : G) : Prop where
 ro : ∀ b vs, ro0 b = some vs -> g.ro b = some vs
 ro' : ∀ b vs, g.ro b = some vs -> ro0 b = some vs ∨ (w0.heap.size <= b /\ ∃ ty fz, w.heap[b]? = some (.cells vs ty fz))
 val : (pack1 (ress rks id0 r).1).R g v
 res : ∀ id q, (id, q) ∈ (ress rks id0 r).2 -> ResR E w g id q
 new : ∀ id q, (id, q) ∈ (ress rks id0 r).2 -> ∀ b, blkOf (g.κ id) = some b -> w0.heap.size <= b /\ g.ro b = none
 dist : ∀ i q j s, (i, q) ∈ (ress rks id0 r).2 -> (j, s) ∈ (ress rks id0 r).2 -> i ≠ j -> ∀ b, blkOf (g.κ i) = some b -> blkOf (g.κ j) = some b -> False
def RdStep (w0 w : World) (ρ n : Nat) : Prop :=
 ∀ v p ty, w0.heap[ρ]? = some (.cells #[v, .int .i64 p] ty (0, 0)) -> ∃ (p' : Int) (ty' : TypeId), w.heap[ρ]? = some (.cells #[v, .int .i64 p'] ty' (0, 0)) /\ 0 <= p' /\ p' <= n
def CallOk (P : Program) (E : Ty -> TypeId) (f : FuncId) (con : Con) : Prop :=
 ∀ (w0 : World) (ro0 : Nat -> Option (Array Value)) (ρ n : Nat) (x : Args con.aks) (vs : List Value) (id0 : Nat), con.pre x -> ROin w0 ro0 -> (hasRdr con.aks = true -> RdOk w0 ro0 ρ n /\ n + con.cost x <= rdLimit) -> ArgsR (argG ro0 ρ) (encs con.aks x) vs ->
  Calls P f vs.toArray w0 fun e w => ∃ v r g, e = .returned v /\ con.post x r /\ Ext (fun b => hasRdr con.aks = true /\ b = ρ) w0 w /\ g.ρ = ρ /\ ResOk E w0 w ro0 con.rks id0 r v g /\ (hasRdr con.aks = true -> RdStep w0 w ρ (n + con.cost x))
structure FnOk (P : Program) (E : Ty -> TypeId) (f : FuncId) (con : Con) : Prop where
 fn : ∃ fn c, P.funcs[f]? = some fn /\ (fn.name == "runtime.NumGoroutine") = false /\ fn.body = some c
 call : CallOk P E f con
 tot : ∀ x, con.pre x -> ∃ r, con.post x r
def KAll (P : Program) (E : Ty -> TypeId) (K : FuncId -> Option Con) : Prop := ∀ f con, K f = some con -> FnOk P E f con
theorem run_call {f : FuncId} {fn : Func} {c : Code} (hf : P.funcs[f]? = some fn) (hname : (fn.name == "runtime.NumGoroutine") = false) (hb : fn.body = some c) {args : Array Operand} {tys : Array TypeId} (ho : o.op = .call ⟨.value (.func f), args, tys⟩) :
  (execOp a.eval o).run P w = .ok (.enter f (args.map a.eval)) w := by
 have hn : ¬ fn.name = "runtime.NumGoroutine" := by simpa using hname
 simp [execOp, ho, resolve, Deferred.ofValue, Act.eval, invoke, callFunc, hf, hn, hb]
theorem ress_range : ∀ (ks : List AK) (id0 : Nat) (r : Args ks) (id : Nat) (q : Res), (id, q) ∈ (ress ks id0 r).2 -> id0 <= id /\ id < id0 + 2 * ks.length /\ ∃ f t xs, q = .sl f t xs := by
 intro ks
 induction ks with
 | nil => intro id0 r id q h; simp [ress] at h
 | cons k ks ih =>
  intro id0 r id q h
  obtain ⟨x, xs⟩ := r
  simp only [ress, List.mem_append] at h
  rcases h with h | h
  ·cases k <;> simp [AK.res] at h <;> first
    | (rcases h with ⟨h1, h2⟩ | ⟨h1, h2⟩ <;> exact ⟨by omega, by simp; omega, _, _, _, h2⟩)
    | exact ⟨by omega, by simp; omega, _, _, _, h.2⟩
  ·obtain ⟨h1, h2, h3⟩ := ih _ _ _ _ h
   exact ⟨by omega, by simp; omega, h3⟩
theorem ress_refs : ∀ (ks : List AK) (id0 : Nat) (r : Args ks), ∀ id ∈ refsT (ress ks id0 r).1, ∃ q, (id, q) ∈ (ress ks id0 r).2 := by
 intro ks
 induction ks with
 | nil => intro id0 r id h; simp [ress, refsT] at h
 | cons k ks ih =>
  intro id0 r id h
  obtain ⟨x, xs⟩ := r
  simp only [ress, refsT, List.mem_append] at h
  rcases h with h | h
  ·cases k <;> simp [AK.res, AK.enc, S0.refs, refsL, CV.refs] at h
   ·rcases h with h | h <;> subst h
    ·exact ⟨.sl _ .fact x.facts, List.mem_append_left _ List.mem_cons_self⟩
    ·exact ⟨.sl _ .atom x.atoms, List.mem_append_left _ (List.mem_cons_of_mem _ List.mem_cons_self)⟩
   ·rcases h with h | h <;> subst h
    ·exact ⟨.sl _ .int x.vals, List.mem_append_left _ List.mem_cons_self⟩
    ·exact ⟨.sl _ .int x.heap, List.mem_append_left _ (List.mem_cons_of_mem _ List.mem_cons_self)⟩
   ·cases x; simp [AK.enc, S0.refs, refsL, CV.refs] at h
   ·subst h; exact ⟨.sl _ _ x, List.mem_append_left _ List.mem_cons_self⟩
   ·subst h; exact ⟨.sl _ .atom x.atoms, List.mem_append_left _ List.mem_cons_self⟩
  ·obtain ⟨q, hq⟩ := ih _ _ _ h
   exact ⟨q, by simp only [ress, List.mem_append]; exact .inr hq⟩
theorem pack1_refs (l : List S0) : ∀ id ∈ (pack1 l).refs, id ∈ refsT l := by
 intro id h
 cases l with
 | nil => simp [pack1, S.refs, refsT] at h
 | cons x l =>
  cases l with
  | nil => simpa [pack1, S.refs, refsT] using h
  | cons y l => exact h
theorem flat_vals {t : Ty} (ht : t.flat = true) (xs : List t.den) : ∀ (k : Nat) (c : DC), (flat t xs)[k]? = some c -> ∃ x, c = .val x := by
 intro k c h
 have hm := List.mem_of_getElem? h
 simp only [flat, List.mem_flatMap] at hm
 obtain ⟨x, _, hx⟩ := hm
 cases t <;> simp [Ty.flat] at ht <;> simp [Ty.cells] at hx
 ·exact ⟨_, hx⟩
 ·exact ⟨_, hx⟩
 ·exact ⟨_, hx⟩
 ·rcases hx with h | h | h <;> exact ⟨_, h⟩
 ·rcases hx with h | h | h <;> exact ⟨_, h⟩
theorem RowR.flat_any {ro ro' : Nat -> Option (Array Value)} {t : Ty} (ht : t.flat = true) {xs : List t.den} {vs : Array Value} {o : Nat} (h : RowR ro (SE.flat t xs) vs o) : RowR ro' (SE.flat t xs) vs o := by
 intro k c hk
 obtain ⟨u, h1, h2⟩ := h k c hk
 obtain ⟨x, rfl⟩ := flat_vals ht xs k c hk
 cases h2 with
 | val _ h3 => exact ⟨_, h1, .val _ h3⟩
theorem ress_any {g g' : G} (hρ : g'.ρ = g.ρ) : ∀ (ks : List AK) (id0 : Nat) (r : Args ks), nested ks = false -> (∀ id ∈ refsT (ress ks id0 r).1, g'.κ id = g.κ id /\ g'.ln id = g.ln id) ->
  ∀ (j : Nat) (s : S0), (ress ks id0 r).1[j]? = some s -> ∀ v, s.R g v -> s.R g' v := by
 intro ks
 induction ks with
 | nil => intro id0 r _ _ j s h; simp [ress] at h
 | cons k ks ih =>
  intro id0 r hn hk j s hj v hs
  obtain ⟨x, xs⟩ := r
  have hn2 : nested ks = false := by cases k <;> simp [nested] at hn <;> first | exact hn | exact hn.2
  cases j with
  | succ j => exact ih (id0 + 2) xs hn2 (fun id hid => hk id (by simp only [ress, refsT, List.mem_append]; exact .inr hid)) j s (by simpa [ress] using hj) v hs
  | zero =>
   simp [ress] at hj
   subst hj
   have hk1 : ∀ id ∈ ((k.res id0 x).1).refs, g'.κ id = g.κ id /\ g'.ln id = g.ln id := fun id hid => hk id (by simp only [ress, refsT, List.mem_append]; exact .inl hid)
   have val : ∀ (y : Value) (v : Value), (CV.d (.val y)).R g v -> (CV.d (.val y)).R g' v := fun y v h => by
    cases h with
    | val _ h => exact .val _ h
   have own : ∀ i v, (i ∈ ((k.res id0 x).1).refs) -> (CV.own i).R g v -> (CV.own i).R g' v := fun i v hi h => ⟨by rw [(hk1 i hi).1]; exact h.1, h.2⟩
   cases k with
   | int => exact val _ v hs
   | bool => exact val _ v hs
   | u16 => exact val _ v hs
   | u64 => exact val _ v hs
   | str => exact val _ v hs
   | fact => obtain ⟨us, rfl, hc⟩ := hs; exact ⟨us, rfl, hc.conv (.cons (val _) (.cons (val _) (.cons (val _) .nil)))⟩
   | atom => obtain ⟨us, rfl, hc⟩ := hs; exact ⟨us, rfl, hc.conv (.cons (val _) (.cons (val _) (.cons (val _) .nil)))⟩
   | asn => obtain ⟨us, rfl, hc⟩ := hs; exact ⟨us, rfl, hc.conv (.cons (fun v h => own _ v (by simp [AK.res, S0.refs, refsL, CV.refs]) h) (.cons (fun v h => own _ v (by simp [AK.res, S0.refs, refsL, CV.refs]) h) .nil))⟩
   | state => obtain ⟨us, rfl, hc⟩ := hs; exact ⟨us, rfl, hc.conv (.cons (fun v h => own _ v (by simp [AK.res, S0.refs, refsL, CV.refs]) h) (.cons (fun v h => own _ v (by simp [AK.res, S0.refs, refsL, CV.refs]) h) .nil))⟩
   | cmd => simp [nested] at hn
   | sl t => exact own id0 v (by simp [AK.res, S0.refs, CV.refs]) hs
   | kase => obtain ⟨vs, rfl, h1, h2⟩ := hs; exact ⟨vs, rfl, h1, RowR.flat_any rfl h2⟩
   | pkase => simp [nested] at hn
   | rdr => exact hs.trans (by rw [hρ])
   | dasn => simp [nested] at hn
   | dstate => simp [nested] at hn
   | dsl t => simp [nested] at hn
   | hasn => simp [nested] at hn
   | fnc f => exact hs
   | pasn => simp [nested] at hn
theorem ress_flat : ∀ (ks : List AK) (id0 : Nat) (r : Args ks), nested ks = false -> ∀ id q, (id, q) ∈ (ress ks id0 r).2 -> ∃ f t xs, q = .sl f t xs /\ t.flat = true := by
 intro ks
 induction ks with
 | nil => intro id0 r _ id q h; simp [ress] at h
 | cons k ks ih =>
  intro id0 r hn id q h
  obtain ⟨x, xs⟩ := r
  have hn2 : nested ks = false := by cases k <;> simp [nested] at hn <;> first | exact hn | exact hn.2
  simp only [ress, List.mem_append] at h
  rcases h with h | h
  ·cases k <;> simp [AK.res] at h
   ·rcases h with ⟨rfl, rfl⟩ | ⟨rfl, rfl⟩ <;> exact ⟨_, _, _, rfl, rfl⟩
   ·rcases h with ⟨rfl, rfl⟩ | ⟨rfl, rfl⟩ <;> exact ⟨_, _, _, rfl, rfl⟩
   ·obtain ⟨rfl, rfl⟩ := h
    simp [nested] at hn
    exact ⟨_, _, _, rfl, hn.1⟩
   ·simp [nested] at hn
  ·exact ih _ _ hn2 id q h
theorem pack1_any {g g' : G} {l : List S0} (h : ∀ (j : Nat) (s : S0), l[j]? = some s -> ∀ v, s.R g v -> s.R g' v) {v : Value} (hv : (pack1 l).R g v) : (pack1 l).R g' v := by
 cases l with
 | nil => obtain ⟨vs, h1, h2, h3⟩ := hv; exact ⟨vs, h1, h2, fun j s hj => by simp at hj⟩
 | cons x l =>
  cases l with
  | nil => exact h 0 x rfl v hv
  | cons y l =>
   obtain ⟨vs, h1, h2, h3⟩ := hv
   exact ⟨vs, h1, h2, fun j s hj => let ⟨u, hu, hr⟩ := h3 j s hj; ⟨u, hu, h j s hj u hr⟩⟩
theorem Good.extendR {g : G} (h : Good E w0 M g st w) (cl : Cl st) {w' : World} {g' : G} (l : List (Nat × Res)) (c : Nat)
  (hext : Ext M.can w0 w') (hsize : w.heap.size <= w'.heap.size) (hw : ∀ b, b < w.heap.size -> (st.rd ≠ none -> b ≠ g.ρ) -> w'.heap[b]? = w.heap[b]?)
  (hro : ∀ b vs, g.ro b = some vs -> g'.ro b = some vs) (hro' : ∀ b vs, g'.ro b = some vs -> g.ro b = some vs ∨ (w.heap.size <= b /\ ∃ ty fz, w'.heap[b]? = some (.cells vs ty fz)))
  (hκ : ∀ id, (st.mem id).isSome = true -> g'.κ id = g.κ id /\ g'.ln id = g.ln id) (hρ : g'.ρ = g.ρ)
  (hres : ∀ id r, (id, r) ∈ l -> ResR E w' g' id r)
  (hnew : ∀ id r, (id, r) ∈ l -> r.live -> ∀ b, blkOf (g'.κ id) = some b -> w.heap.size <= b /\ g'.ro b = none)
  (hdist : ∀ i r j s, (i, r) ∈ l -> (j, s) ∈ l -> i ≠ j -> ∀ b, blkOf (g'.κ i) = some b -> blkOf (g'.κ j) = some b -> False)
  (hrd : ∀ n, st.rd = some n -> RdOk w' g'.ro g'.ρ (n + c)) (hrds : st.rd ≠ none -> RdSame w0 w' g.ρ) :
  Good E w0 M g' { st with mem := adds st.mem l, rd := st.rd.map (· + c) } w' := by
 have old : ∀ id r, st.mem id = some r -> g'.κ id = g.κ id /\ g'.ln id = g.ln id := fun id r hm => hκ id (by simp [hm])
 have hlt : ∀ id r, st.mem id = some r -> r.live -> ∀ b, blkOf (g.κ id) = some b -> b < w.heap.size := fun id r hm hl b hb => (h.res id r hm).lt hl hb
 have hnρ : ∀ id r, st.mem id = some r -> r.live -> ∀ b, blkOf (g.κ id) = some b -> st.rd ≠ none -> b ≠ g.ρ := fun id r hm hl b hb hn e => by
  cases hr : st.rd with
  | none => exact hn hr
  | some n => exact (h.rd n hr).2.2 id r hm hl (by rw [hb, e])
 refine ⟨hext, ?_, ?_, ?_, ?_, ?_, ?_, fun hn => by rw [hρ]; exact hrds fun e => hn (by show st.rd.map _ = none; rw [e]; rfl),
  fun b vs hb => (hro' b vs hb).elim (h.roo b vs) fun h1 => .inr (.inl (Nat.le_trans h.ext.size h1.1)), hρ.trans h.rho, fun id v hv => ⟨adds_isSome (h.pin id v hv).1, (hκ id (h.pin id v hv).1).1.trans (h.pin id v hv).2⟩, ⟨fun id m hv => ⟨adds_isSome (h.keep.1 id m hv).1, (hκ id (h.keep.1 id m hv).1).2.trans (h.keep.1 id m hv).2⟩, fun b vs hv => hro b vs (h.keep.2 b vs hv)⟩⟩
 ·intro b vs hb
  rcases hro' b vs hb with hb | ⟨_, hb⟩
  ·obtain ⟨ty, fz, hh⟩ := h.ro b vs hb
   refine ⟨ty, fz, ?_⟩
   rw [hw b (lt_of_some hh) fun hn e => ?_]
   ·exact hh
   ·cases hr : st.rd with
    | none => exact hn hr
    | some n =>
     have := (h.rd n hr).1.out
     subst e
     rw [this] at hb; cases hb
  ·exact hb
 ·intro id r hm
  rcases adds_cases hm with hm | hm
  ·exact hres id r hm
  ·by_cases hl : r.live
   ·exact (h.res id r hm).keep (fun b hb => hw b (hlt id r hm hl b hb) (hnρ id r hm hl b hb)) hro hρ (old id r hm) fun i hi => hκ i (cl.2 id r hm i hi)
   ·cases r with
    | dead => trivial
    | _ => exact (hl trivial).elim
 ·intro i j r s hi hj hne hli hlj b hbi hbj
  rcases adds_cases hi with hi | hi <;> rcases adds_cases hj with hj | hj
  ·exact (hdist i r j s hi hj hne b hbi hbj).elim
  ·have h1 := (hnew i r hi hli b hbi).1
   rw [(old j s hj).1] at hbj
   have h2 := hlt j s hj hlj b hbj
   omega
  ·have h1 := (hnew j s hj hlj b hbj).1
   rw [(old i r hi).1] at hbi
   have h2 := hlt i r hi hli b hbi
   omega
  ·rw [(old i r hi).1] at hbi
   rw [(old j s hj).1] at hbj
   exact h.sep i j r s hi hj hne hli hlj b hbi hbj
 ·intro id r hm hl b hb
  rcases adds_cases hm with hm | hm
  ·left
   exact Nat.le_trans h.ext.size (hnew id r hm hl b hb).1
  ·rw [(old id r hm).1] at hb
   exact h.fresh id r hm hl b hb
 ·intro id r hm hl b hb h1 h2
  rcases adds_cases hm with hm | hm
  ·exact (hnew id r hm hl b hb).2
  ·rw [(old id r hm).1] at hb
   have hn := h.wro id r hm hl b hb h1 h2
   cases hg : g'.ro b with
   | none => rfl
   | some vs =>
    rcases hro' b vs hg with h3 | ⟨h3, _⟩
    ·rw [hn] at h3; cases h3
    ·have := hlt id r hm hl b hb; omega
 ·intro n hn
  obtain ⟨m, hm, rfl⟩ : ∃ m, st.rd = some m /\ m + c = n := by
   cases hr : st.rd with
   | none => rw [hr] at hn; simp at hn
   | some m => rw [hr] at hn; simp at hn; exact ⟨m, rfl, hn⟩
  obtain ⟨⟨_, hout, code, v, p, ty, hc, hd, hrest⟩, hin, hno⟩ := h.rd m hm
  have hρlt := lt_of_some hc
  refine ⟨hrd m hm, by rw [hρ]; exact hin, ?_⟩
  intro id r hm hl
  rw [hρ]
  rcases adds_cases hm with hm | hm
  ·intro hb
   have := (hnew id r hm hl _ hb).1
   omega
  ·rw [(old id r hm).1]
   exact hno id r hm hl
end
end Go.SE

namespace Go.SE
open Go.RowKit
section
variable {P : Program} {E : Ty -> TypeId} {tab : TypeId -> Option TI} {K : FuncId -> Option Con} {w0 : World} {M : MM} {n : Nat} {o : Oper} {st : St} {a : Act} {w : World}
theorem ownsC_mem {mem : Nat -> Option Res} : ∀ {l ids : List Nat}, ownsC mem l = some ids -> ids = l /\ ∀ id ∈ l, ∃ f t xs, mem id = some (.sl f t xs) := by
 intro l
 induction l with
 | nil => intro ids h; simp only [ownsC, Option.some.injEq] at h; subst h; simp
 | cons x l ih =>
  intro ids h
  simp only [ownsC] at h
  split at h
  ·rename_i f t xs ids' h1 h2
   injection h with h
   subst h
   obtain ⟨e, h3⟩ := ih h2
   subst e
   refine ⟨rfl, fun id hid => ?_⟩
   rcases List.mem_cons.1 hid with rfl | hid
   ·exact ⟨f, t, xs, h1⟩
   ·exact h3 id hid
  ·cases h
theorem refsC_eq (c : CV) : refsC c = c.refs := by cases c <;> rfl
theorem refsCs_eq (l : List CV) : refsCs l = refsL l := by
 induction l with
 | nil => rfl
 | cons x l ih => simp [refsCs, refsL, ih, refsC_eq]
theorem refsAr_eq (l : List S0) : refsAr l = refsT l := by
 induction l with
 | nil => rfl
 | cons x l ih => cases x <;> simp [refsAr, refsT, S0.refs, ih, refsC_eq, refsCs_eq]
theorem snd_call0 (h : Rel E w0 M n st a w) (hd : ∀ d, o.dst = some d -> d < n) {f : FuncId} {con : Con} (hK : FnOk P E f con) {args : Array Operand} {tys : Array TypeId} (ho : o.op = .call ⟨.value (.func f), args, tys⟩)
  {g g1 : G} (henv : ∀ x, (st.env x).R g (a.tmps.getD x undef)) {fz : List Nat} (hg1 : Good E w0 M g1 { st with fr := sets st.fr fz } w) (hro1 : ∀ b vs, g.ro b = some vs -> g1.ro b = some vs) (hκ1 : g1.κ = g.κ) (hln1 : g1.ln = g.ln) (hρ1 : g1.ρ = g.ρ)
  {ro0 : Nat -> Option (Array Value)} (hro0 : ∀ b vs, g.ro b = some vs -> ro0 b = some vs) (hro10 : ∀ b vs, g1.ro b = some vs -> ro0 b = some vs) (hin : ROin w ro0) (hrd0 : ∀ n, st.rd = some n -> ro0 g.ρ = none)
  {ss : List S0} (hss : argsS st args.toList = some ss) {x : Args con.aks} (hx : decs st.mem con.aks ss = some x) (hl : ∀ id ∈ refsT ss, Lent st.mem g.κ ro0 id)
  (hmode : nested con.rks = false ∨ (∀ b vs, ro0 b = some vs ↔ g1.ro b = some vs)) (id0 : Nat) (hpre : con.pre x) (hfit : rdFits st.rd (con.cost x) (hasRdr con.aks)) (hfree : ∀ r, con.post x r -> allFree st (ress con.rks id0 r).2) {pre : Prop} {det : Option (Args con.rks)} :
  Sound P E w0 M n o st a w { R := Args con.rks, pre, post := con.post x, val := fun r => pack1 (ress con.rks id0 r).1, news := fun r => (ress con.rks id0 r).2, fl := [], fz, wr := none, cost := costIf (hasRdr con.aks) (con.cost x), det } := by
 intro next Q hn
 obtain ⟨fn, c, hf, hname, hbody⟩ := hK.fn
 unfold Oper.wp
 rw [run_call hf hname hbody ho, Oper.upon_enter]
 -- the reader
 have hrdn : ∃ m, (∀ k, st.rd = some k -> k = m) /\ (hasRdr con.aks = true -> st.rd = some m /\ RdOk w ro0 g.ρ m /\ m + con.cost x <= rdLimit) := by
  cases hr : st.rd with
  | none => exact ⟨0, by simp, fun hh => by rw [hr, hh] at hfit; exact hfit.elim⟩
  | some m =>
   refine ⟨m, by simp, fun hh => ⟨rfl, ?_, ?_⟩⟩
   ·obtain ⟨⟨hlim, hout, code, v, p, ty, hc, hdr, hrest⟩, _⟩ := hg1.rd m hr
    rw [hρ1] at hc
    exact ⟨hlim, hrd0 m hr, code, v, p, ty, hc, hdr.mono hro10, hrest⟩
   ·rw [hr, hh] at hfit; exact hfit
 obtain ⟨m, hm1, hm2⟩ := hrdn
 have hargs := decs_R (ro' := ro0) hro0 hx (argsS_R henv hss) hl
 have hcall := hK.call w ro0 g.ρ m x (args.toList.map a.eval) id0 hpre hin (fun hh => ⟨(hm2 hh).2.1, (hm2 hh).2.2⟩) hargs
 have harr : (args.toList.map a.eval).toArray = args.map a.eval := by apply Array.ext'; simp
 rw [harr] at hcall
 refine Calls.mono hcall fun e w' he => ?_
 obtain ⟨v, r, gc, rfl, hpost, hext, hρc, hres, hrdc⟩ := he
 show next (a.put o.dst v) w'
 refine hn r _ _ hpost ?_
 have hfr : ∀ p ∈ (ress con.rks id0 r).2, st.mem p.1 = none := allFree_mem (hfree r hpost)
 have hfr' : ∀ id q, (id, q) ∈ (ress con.rks id0 r).2 -> st.mem id = none := fun id q hq => hfr (id, q) hq
 have hlive : ∀ id q, (id, q) ∈ (ress con.rks id0 r).2 -> q.refs = [] := fun id q hq => by
  obtain ⟨_, _, f, t, xs, e⟩ := ress_range _ _ _ _ _ hq
  subst e; rfl
 -- the old memory
 have hρin : ∀ k, st.rd = some k -> w0.heap.size <= g.ρ ∨ M g.ρ := fun k hk => by have := (hg1.rd k hk).2.1; rwa [hρ1] at this
 have hext' : Ext M.can w0 w' := by
  refine ⟨hext.os.trans hg1.ext.os, hext.tape.trans hg1.ext.tape, hext.output.trans hg1.ext.output, Nat.le_trans hg1.ext.size hext.size, fun b hb hM => ?_⟩
  rw [hext.block b (Nat.lt_of_lt_of_le hb hg1.ext.size) ?_]
  ·exact hg1.ext.block b hb hM
  ·intro ⟨hh, e⟩
   subst e
   rcases hρin m (hm2 hh).1 with h1 | h1
   ·omega
   ·exact hM h1
 have hw : ∀ b, b < w.heap.size -> (st.rd ≠ none -> b ≠ g.ρ) -> w'.heap[b]? = w.heap[b]? := by
  intro b hb hne
  refine hext.block b hb fun ⟨hh, e⟩ => ?_
  exact hne (by rw [(hm2 hh).1]; simp) e
 -- the state afterwards
 have fin : ∀ rox : Nat -> Option (Array Value), (∀ b vs, g1.ro b = some vs -> rox b = some vs) -> (∀ b vs, rox b = some vs -> g1.ro b = some vs ∨ (w.heap.size <= b /\ ∃ ty fz, w'.heap[b]? = some (.cells vs ty fz))) ->
   (∀ g2 : G, g2.ro = rox -> g2.ρ = g.ρ -> (∀ id q, (id, q) ∈ (ress con.rks id0 r).2 -> g2.κ id = gc.κ id /\ g2.ln id = gc.ln id) ->
    (pack1 (ress con.rks id0 r).1).R g2 v /\ ∀ id q, (id, q) ∈ (ress con.rks id0 r).2 -> ResR E w' g2 id q) ->
   (∀ id q, (id, q) ∈ (ress con.rks id0 r).2 -> ∀ b, blkOf (gc.κ id) = some b -> rox b = none) -> Rel E w0 M n (st.app o.dst { R := Args con.rks, pre, post := con.post x, val := fun r => pack1 (ress con.rks id0 r).1, news := fun r => (ress con.rks id0 r).2, fl := [], fz, wr := none, cost := costIf (hasRdr con.aks) (con.cost x), det } r) (a.put o.dst v) w' := by
  intro rox f1 f2 f3 f4
  let g2 : G := { ro := rox, κ := fun j => if (st.mem j).isSome then g.κ j else gc.κ j, ln := fun j => if (st.mem j).isSome then g.ln j else gc.ln j, ρ := g.ρ }
  have hnewκ : ∀ id q, (id, q) ∈ (ress con.rks id0 r).2 -> g2.κ id = gc.κ id /\ g2.ln id = gc.ln id := fun id q hq => by simp [g2, hfr' id q hq]
  have holdκ : ∀ id, (st.mem id).isSome = true -> g2.κ id = g.κ id /\ g2.ln id = g.ln id := fun id hid => by simp [g2, hid]
  obtain ⟨f5, f6⟩ := f3 g2 rfl rfl hnewκ
  have hgood : Good E w0 M g2 { st with mem := adds st.mem (ress con.rks id0 r).2, fr := sets st.fr fz, rd := st.rd.map (· + costIf (hasRdr con.aks) (con.cost x)) } w' := by
   refine Good.extendR (st := { st with fr := sets st.fr fz }) hg1 ⟨h.cl.1, h.cl.2⟩ (ress con.rks id0 r).2 (costIf (hasRdr con.aks) (con.cost x)) hext' hext.size (by rw [hρ1]; exact hw) f1 f2 (fun id hid => by rw [hκ1, hln1]; exact holdκ id hid) (by rw [hρ1]) f6 ?_ ?_ ?_ ?_
   ·intro id q hq _ b hb
    rw [(hnewκ id q hq).1] at hb
    exact ⟨(hres.new id q hq b hb).1, f4 id q hq b hb⟩
   ·intro i q j s hi hj hij b hbi hbj
    rw [(hnewκ i q hi).1] at hbi
    rw [(hnewκ j s hj).1] at hbj
    exact hres.dist i q j s hi hj hij b hbi hbj
   ·intro k hk
    have hkm := hm1 k hk
    obtain ⟨⟨hlim, hout, code, v0, p, ty, hc, hdr, hle, hp0, hpn⟩, _⟩ := hg1.rd k hk
    rw [hρ1] at hc hout
    have hρlt := lt_of_some hc
    have houtx : rox g.ρ = none := by
     cases hrx : rox g.ρ with
     | none => rfl
     | some vs =>
      rcases f2 _ _ hrx with h1 | ⟨h1, _⟩
      ·rw [hout] at h1; cases h1
      ·omega
    have hk' : st.rd = some k := hk
    rw [hk'] at hfit
    cases hh : hasRdr con.aks with
    | false =>
     refine ⟨by show k + 0 <= rdLimit; omega, houtx, code, v0, p, ty, ?_, hdr.mono f1, hle, hp0, by show p <= ((k + 0 : Nat) : Int); omega⟩
     show w'.heap[g.ρ]? = _
     rw [hext.block _ hρlt (by simp [hh])]
     exact hc
    | true =>
     obtain ⟨p', ty', h1, h2, h3⟩ := hrdc hh v0 p ty hc
     rw [hh] at hfit
     exact ⟨hfit, houtx, code, v0, p', ty', h1, hdr.mono f1, hle, h2, by show p' <= ((k + con.cost x : Nat) : Int); omega⟩
   ·intro hne v0 p ty h0
    rw [hρ1] at h0 ⊢
    have hsame : RdSame w0 w g.ρ := by have := hg1.rds hne; rwa [hρ1] at this
    obtain ⟨p1, ty1, h1⟩ := hsame v0 p ty h0
    cases hh : hasRdr con.aks with
    | false => exact ⟨p1, ty1, by rw [hext.block _ (lt_of_some h1) (by simp [hh])]; exact h1⟩
    | true =>
     obtain ⟨p2, ty2, h2, _, _⟩ := hrdc hh v0 p1 ty1 h1
     exact ⟨p2, ty2, h2⟩
  refine Rel.app h hd henv (g' := g2) (fun b vs hb => f1 b vs (hro1 b vs hb)) rfl holdκ ?_ f5 ?_ ?_ ?_
  ·cases hdst : o.dst <;> exact hgood.env rfl rfl rfl rfl
  ·intro id hid; cases hdst : o.dst <;> exact adds_isSome hid
  ·intro id hid
   obtain ⟨q, hq⟩ := ress_refs _ _ _ id (pack1_refs _ id hid)
   cases hdst : o.dst <;> exact adds_new hq
  ·intro j r' hj id hid
   have hj' : adds st.mem (ress con.rks id0 r).2 j = some r' := by cases hdst : o.dst <;> simpa [St.app, hdst] using hj
   have : (adds st.mem (ress con.rks id0 r).2 id).isSome = true := by
    rcases adds_cases hj' with hj | hj
    ·rw [hlive _ _ hj] at hid; cases hid
    ·exact adds_isSome (h.cl.2 j r' hj id hid)
   cases hdst : o.dst <;> exact this
 rcases hmode with hm | hm
 ·refine fin g1.ro (fun _ _ h => h) (fun _ _ h => .inl h) ?_ ?_
  ·intro g2 e1 e2 e3
   refine ⟨pack1_any (ress_any (g := gc) (g' := g2) (by rw [e2, hρc]) con.rks id0 r hm fun id hid => ?_) hres.val, ?_⟩
   ·obtain ⟨q, hq⟩ := ress_refs _ _ _ id hid
    exact e3 id q hq
   ·intro id q hq
    obtain ⟨f, t, xs, rfl, hflat⟩ := ress_flat _ _ _ hm id q hq
    obtain ⟨h1, h2⟩ := hres.res _ _ hq
    refine ⟨by rw [(e3 _ _ hq).2]; exact h1, ?_⟩
    rw [(e3 _ _ hq).1]
    rcases h2 with h2 | ⟨b, cap, cur, h3, h4, h5, h6, h7, h8⟩
    ·exact .inl h2
    ·exact .inr ⟨b, cap, cur, h3, h4, h5, h6, h7, RowR.flat_any hflat h8⟩
  ·intro id q hq b hb
   have hge := (hres.new id q hq b hb).1
   cases hr : g1.ro b with
   | none => rfl
   | some vs =>
    obtain ⟨ty, fz', hh⟩ := hg1.ro b vs hr
    have := lt_of_some hh
    omega
 ·refine fin gc.ro (fun b vs hb => hres.ro b vs ((hm b vs).2 hb)) (fun b vs hb => ?_) ?_ ?_
  ·rcases hres.ro' b vs hb with h1 | h1
   ·exact .inl ((hm b vs).1 h1)
   ·exact .inr h1
  ·intro g2 e1 e2 e3
   constructor
   ·refine S.R.mono (g := gc) (g' := g2) (by rw [e1]; exact fun _ _ h => h) (by rw [e2, hρc]) (fun id hid => ?_) hres.val
    obtain ⟨q, hq⟩ := ress_refs _ _ _ id (pack1_refs _ id hid)
    exact e3 id q hq
   ·intro id q hq
    exact (hres.res id q hq).keep (g' := g2) (fun _ _ => rfl) (by rw [e1]; exact fun _ _ h => h) (by rw [e2, hρc]) (e3 id q hq) (by rw [hlive id q hq]; simp)
  ·intro id q hq b hb
   exact (hres.new id q hq b hb).2
end
end Go.SE

namespace Go.SE
open Go.RowKit
section
variable {P : Program} {E : Ty -> TypeId} {tab : TypeId -> Option TI} {K : FuncId -> Option Con} {w0 : World} {M : MM} {n : Nat} {o : Oper} {st : St} {a : Act} {w : World}
theorem freeL_ress : ∀ (ks : List AK) (i : Nat) (r : Args ks), freeL st (rids ks i) -> allFree st (ress ks i r).2 := by
 have app1 : ∀ {l l' : List Nat}, freeL st (l ++ l') -> freeL st l /\ freeL st l' := by
  intro l l' h
  induction l with
  | nil => exact ⟨trivial, h⟩
  | cons x l ih => exact ⟨⟨h.1, (ih h.2).1⟩, (ih h.2).2⟩
 have app2 : ∀ {l l' : List (Nat × Res)}, allFree st l -> allFree st l' -> allFree st (l ++ l') := by
  intro l l' h h'
  induction l with
  | nil => exact h'
  | cons x l ih => exact ⟨h.1, ih h.2⟩
 intro ks
 induction ks with
 | nil => intro i r _; trivial
 | cons k ks ih =>
  intro i r h
  obtain ⟨x, xs⟩ := r
  obtain ⟨h1, h2⟩ := app1 h
  refine app2 ?_ (ih _ xs h2)
  cases k <;> first | trivial | exact ⟨h1.1, h1.2.1, trivial⟩ | exact ⟨h1.1, trivial⟩
theorem snd_call (h : Rel E w0 M n st a w) (hd : ∀ d, o.dst = some d -> d < n) (hKA : KAll P E K) {f : FuncId} {args : Array Operand} {tys : Array TypeId} (ho : o.op = .call ⟨.value (.func f), args, tys⟩) {t : Tr}
  (htr : trFn K st (o.dst.getD 0) f args.toList = some t) (hp : t.pre) : Sound P E w0 M n o st a w t := by
 obtain ⟨g, hg, henv⟩ := h.good
 unfold trFn at htr
 split at htr
 ·rename_i ss hss
  unfold trCall at htr
  split at htr
  ·rename_i con hcon
   split at htr
   ·rename_i x hx
    split at htr
    ·rename_i hnest
     split at htr
     ·rename_i ids hids
      injection htr with htr
      subst htr
      obtain ⟨h1, h2, h3, h4⟩ := hp
      rw [refsAr_eq] at hids
      obtain ⟨rfl, hsl⟩ := ownsC_mem hids
      obtain ⟨ro', hro, hdr, hg1⟩ := hg.freeze (refsT ss) fun id hid => ⟨notSpent_mem h2 id hid, hsl id hid⟩
      refine snd_call0 h hd (hKA f con hcon) ho henv hg1 hro rfl rfl rfl (ro0 := ro') hro (fun _ _ h => h) hg1.ro (fun m hm => (hg1.rd m hm).1.out) hss hx ?_ (.inr fun _ _ => Iff.rfl) _ h1 h3 fun r _ => freeL_ress _ _ r h4
      intro id hid
      refine ⟨fun f t xs hm => hdr id hid f t xs hm, fun t xs hm => ?_⟩
      obtain ⟨f, t', xs', hm'⟩ := hsl id hid
      rw [hm] at hm'; cases hm'
     ·cases htr
    ·rename_i hnest
     injection htr with htr
     subst htr
     obtain ⟨h1, h3, h4⟩ := hp
     obtain ⟨ro', hro, hin, hlent, hrd⟩ := hg.lend
     exact snd_call0 h hd (hKA f con hcon) ho henv (g1 := g) (fz := []) (hg.env rfl rfl rfl rfl) (fun _ _ h => h) rfl rfl rfl hro hro hin hrd hss hx (fun id _ => hlent id) (.inl hnest) _ h1 h3 fun r _ => freeL_ress _ _ r h4
   ·cases htr
  ·cases htr
 ·cases htr
def opOk (o : Oper) : Bool :=
 match o.op with
 | .binOp _ _ x y _ => constOk x && constOk y
 | _ => true
theorem ptrIds_R {g : G} (henv : ∀ x, (st.env x).R g (a.tmps.getD x undef)) : ∀ {l : List Operand} {ids : List Nat}, ptrIds st l = some ids -> l.map a.eval = ids.map g.κ := by
 intro l
 induction l with
 | nil => intro ids h; simp only [ptrIds, Option.some.injEq] at h; subst h; rfl
 | cons x l ih =>
  intro ids h
  simp only [ptrIds] at h
  split at h
  ·rename_i id ids' he hl
   injection h with h
   subst h
   have hx := ev_R henv x
   rw [he] at hx
   obtain ⟨b, h1, h2⟩ := hx
   simp only [List.map_cons, ih hl]
   rw [h1, h2]
  ·cases h
theorem ptrIds_refs : ∀ {l : List Operand} {ids : List Nat}, ptrIds st l = some ids -> Cl st -> ∀ id ∈ ids, (st.mem id).isSome = true := by
 intro l
 induction l with
 | nil => intro ids h _ id hid; simp only [ptrIds, Option.some.injEq] at h; subst h; cases hid
 | cons x l ih =>
  intro ids h hcl id hid
  simp only [ptrIds] at h
  split at h
  ·rename_i id' ids' he hl
   injection h with h
   subst h
   rcases List.mem_cons.1 hid with rfl | hid
   ·exact ev_refs hcl x _ (by rw [he]; simp [S.refs, S0.refs, CV.refs])
   ·exact ih hl hcl id hid
  ·cases h
theorem snd_makeFunc (h : Rel E w0 M n st a w) (hd : ∀ d, o.dst = some d -> d < n) {f : FuncId} {first caps : Array Operand} (ho : o.op = .makeFunc (.func f) first caps) {t : Tr} (htr : trMakeFunc st f first.toList caps.toList = some t) : Sound P E w0 M n o st a w t := by
 unfold trMakeFunc at htr
 split at htr
 ·rename_i ids hf hids
  injection htr with htr
  subst htr
  have hfirst : first = #[] := by cases first; simp at hf; subst hf; rfl
  obtain ⟨g0, hg0, henv0⟩ := h.good
  refine Sound.plain h hd ?_ (v := .func (.func f) #[] (caps.map a.eval)) ?_ fun g hg henv => ?_
  ·intro id hid
   simp only [S.refs, S0.refs, CV.refs] at hid
   exact ptrIds_refs hids h.cl id hid
  ·simp [execOp, ho, hfirst, Instr.makeFunc, go_sem]
  ·have := ptrIds_R henv hids
   show _ = _
   congr 1
   apply Array.ext'
   simpa using this
 ·cases htr
theorem snd_op (h : Rel E w0 M n st a w) (ht : TabOk P E tab) (hKA : KAll P E K) (hd : ∀ d, o.dst = some d -> d < n) (hok : opOk o = true) {t : Tr} (htr : trOp tab K o st = some t) (hp : t.pre) : Sound P E w0 M n o st a w t := by
 unfold trOp at htr
 split at htr
 case h_1 x ho => exact snd_move h ht hd (.inl ho) htr hp
 case h_2 x ho => exact snd_move h ht hd (.inr ho) htr hp
 case h_3 c x y ho => exact snd_pick h hd ho htr
 case h_4 ty ho => exact snd_alloc h ht hd ho htr hp
 case h_5 ty x ho => exact snd_box h hd ho htr hp
 case h_6 ty ps ho => exact snd_build h ht hd ho htr hp
 case h_7 ty k ps ho => exact snd_buildSlice h ht hd ho htr hp
 case h_8 ty x ho => exact snd_load h ht hd ho htr hp
 case h_9 ty x v ho => exact snd_store h ht hd ho htr hp
 case h_10 x ho => exact snd_nilCheck h hd ho htr
 case h_11 op ty x y yt ho =>
  have hc : constOk x = true /\ constOk y = true := by simpa [opOk, ho] using hok
  exact snd_bin h ht hd ho hc.1 hc.2 htr hp
 case h_12 op ty x ho => exact snd_un h hd ho htr hp
 case h_13 s t x ho => exact snd_convert h ht hd ho htr hp
 case h_14 ty x f ho => exact snd_fieldAddr h ht hd ho htr
 case h_15 ty x f ho => exact snd_field h ht hd ho htr
 case h_16 ty x i ho => exact snd_indexAddr h ht hd ho htr hp
 case h_17 ty x i ho => exact snd_index h ht hd ho htr hp
 case h_18 ty x lo hi ho => exact snd_slice h ht hd ho htr hp
 case h_19 ty l c ho => exact snd_makeSlice h ht hd ho htr hp
 case h_20 x i ho => exact snd_extract h hd ho htr
 case h_21 f args tys ho => exact snd_call h hd hKA ho htr hp
 case h_22 args tys ho =>
  split at htr
  ·rename_i x ty h1 h2
   exact snd_len h ht hd h1 h2 ho htr
  ·cases htr
 case h_23 args tys ho =>
  split at htr
  ·rename_i x y ty u h1 h2
   split at htr
   ·rename_i e
    subst e
    exact snd_append h ht hd h1 h2 ho htr hp
   ·cases htr
  ·cases htr
 case h_24 args tys ho =>
  split at htr
  ·rename_i x y ty u h1 h2
   split at htr
   ·rename_i e
    subst e
    exact snd_copy h ht hd h1 h2 ho htr hp
   ·cases htr
  ·cases htr
 case h_25 f first caps ho => exact snd_makeFunc h hd ho htr
 case h_26 => cases htr
end
end Go.SE

namespace Go.SE
open Go.RowKit
section
variable {P : Program} {E : Ty -> TypeId} {tab : TypeId -> Option TI} {K : FuncId -> Option Con} {w0 : World} {M : MM} {n : Nat} {st : St} {a : Act} {w : World}
theorem upd_self {α : Type} (f : Nat -> α) (k : Nat) (v : α) (h : f k = v) : upd f k v = f := by
 funext j
 by_cases e : j = k
 ·subst e; rw [upd_same, h]
 ·rw [upd_ne _ _ e]
theorem Rel.junk {o : Oper} (h : Rel E w0 M n st a w) (hd : ∀ d, o.dst = some d -> d < n) (v : Value) : Rel E w0 M n (St.put st o.dst SE.junk) (a.put o.dst v) w := by
 obtain ⟨g, hg, henv⟩ := h.good
 have envEq : ∀ x, (St.put st o.dst SE.junk).env x = if o.dst = some x then SE.junk else st.env x := by
  intro x
  cases hdst : o.dst with
  | none => simp [St.put]
  | some d =>
   by_cases e : x = d
   ·subst e; simp [St.put, upd]
   ·have : ¬ (some d = some x) := fun h => e (by injection h with h; exact h.symm)
    rw [if_neg this]
    simp [St.put, upd, e]
 have memEq : (St.put st o.dst SE.junk).mem = st.mem /\ (St.put st o.dst SE.junk).sp = st.sp /\ (St.put st o.dst SE.junk).fr = st.fr /\ (St.put st o.dst SE.junk).rd = st.rd := by
  cases hdst : o.dst <;> exact ⟨rfl, rfl, rfl, rfl⟩
 refine ⟨⟨?_, ?_⟩, ?_, ?_, g, hg.env memEq.1 memEq.2.1 memEq.2.2.1 memEq.2.2.2, ?_⟩
 ·intro x id hid
  rw [envEq] at hid
  rw [memEq.1]
  split at hid
  ·simp [SE.junk, S.refs, S0.refs, CV.refs] at hid
  ·exact h.cl.1 x id hid
 ·rw [memEq.1]; exact h.cl.2
 ·cases hdst : o.dst <;> simp [Act.put, h.size]
 ·cases hdst : o.dst <;> simp [Act.put, h.defers]
 ·intro x
  rw [put_get (by rw [h.size]; exact hd), envEq]
  split
  ·trivial
  ·exact henv x
theorem yields (h : Rel E w0 M n st a w) {ops : Array Oper} {j g : Nat} (hg : gslot ops j = some g) {b : Bool} (he : st.env g = .s (.c (.d (.val (.bool b))))) : yielded ops a.tmps j = some b := by
 obtain ⟨g', hgood, henv⟩ := h.good
 have := henv g
 rw [he] at this
 have hv := R_val this
 unfold gslot at hg
 unfold yielded
 rw [hg]
 simp only [Option.bind_some]
 have hx : a.tmps[g]? = some (.bool b) := by
  cases hq : a.tmps[g]? with
  | none =>
   rw [Array.getD_eq_getD_getElem?, hq] at hv
   simp [undef] at hv
  | some u =>
   rw [Array.getD_eq_getD_getElem?, hq] at hv
   simp at hv
   rw [hv]
 rw [hx]
def DetOk (t : Tr) : Prop := ∀ r0, t.det = some r0 -> ∀ r, t.post r -> r = r0
theorem detOk_map {α : Type} {x : Option α} {f : α -> Tr} {t : Tr} (h : x.map f = some t) (hf : ∀ a, DetOk (f a)) : DetOk t := by
 cases x with
 | none => cases h
 | some a => injection h with h; subst h; exact hf a
theorem detOk_one {v : S} {p : Prop} {l : List (Nat × Res)} : DetOk (.one v p l) := fun _ _ _ _ => rfl
theorem detOk_gen {v : S} {p : Prop} {l : List (Nat × Res)} {fl fz : List Nat} {w : Option ((Nat -> Option Res) -> Nat -> Option Res)} : DetOk (.gen v p l fl fz w) := fun _ _ _ _ => rfl
theorem detOk_write {p : Prop} {w : (Nat -> Option Res) -> Nat -> Option Res} {fz : List Nat} : DetOk (.write p w fz) := fun _ _ _ _ => rfl
theorem detOk_con {con : Con} {x : Args con.aks} {pre : Prop} {val : Args con.rks -> S} {news : Args con.rks -> List (Nat × Res)} {fl fz : List Nat} {wr : Option ((Nat -> Option Res) -> Nat -> Option Res)} {c : Nat} :
  DetOk { R := Args con.rks, pre, post := con.post x, val, news, fl, fz, wr, cost := c, det := con.det x } := by
 intro r0 h0 r hr
 have h0 : con.det x = some r0 := h0
 have hr : con.post x r := hr
 unfold Con.det at h0
 unfold Con.post at hr
 split at h0
 ·rename_i f hf
  rw [hf] at hr
  injection h0 with h0
  subst h0
  exact hr
 ·cases h0
theorem det_ok {o : Oper} {t : Tr} (h : trOp tab K o st = some t) : DetOk t := by
 unfold trOp at h
 split at h
 all_goals first
  | (unfold trMove at h) | (unfold trPick at h) | (unfold trAlloc at h) | (unfold trBox at h) | (unfold trBuild at h) | (unfold trBuildSlice at h) | (unfold trLoad at h) | (unfold trStore at h)
  | (unfold trNilCheck at h) | (unfold trBin at h) | (unfold trUn at h) | (unfold trConvert at h) | (unfold trFieldAddr at h) | (unfold trField at h) | (unfold trIndexAddr at h) | (unfold trIndex at h)
  | (unfold trSlice at h) | (unfold trMakeSlice at h) | (unfold trExtract at h) | (unfold trMakeFunc at h) | (unfold trFn trCall at h) | skip
 all_goals repeat' split at h
 all_goals first
  | cases h; done
  | (injection h with h; subst h; exact detOk_one)
  | (injection h with h; subst h; exact detOk_gen)
  | (injection h with h; subst h; exact detOk_write)
  | (injection h with h; subst h; exact detOk_con)
  | exact detOk_map h fun _ => detOk_one
  | (unfold trLen at h; repeat' split at h
     all_goals first
      | cases h; done
      | (injection h with h; subst h; exact detOk_one))
  | (unfold trAppend at h; repeat' split at h
     all_goals first
      | cases h; done
      | (injection h with h; subst h; exact detOk_gen))
  | (unfold trCopy at h; repeat' split at h
     all_goals first
      | cases h; done
      | (injection h with h; subst h; exact detOk_gen))
theorem vcOp_sound {o : Oper} (h : Rel E w0 M n st a w) (ht : TabOk P E tab) (hKA : KAll P E K) (hd : ∀ d, o.dst = some d -> d < n) (hok : opOk o = true) {k : St -> Prop} (hv : vcOp tab K o st k) {next : Act -> World -> Prop} {Q : Exit -> Act -> World -> Prop}
  (hk : ∀ st' a' w', Rel E w0 M n st' a' w' -> k st' -> next a' w') : o.wp P a w next Q := by
 unfold vcOp vcTr at hv
 cases htr : trOp tab K o st with
 | none => rw [htr] at hv; exact hv.elim
 | some t =>
  rw [htr] at hv
  refine snd_op h ht hKA hd hok htr hv.1 next Q fun r a' w' hr hrel => hk _ a' w' hrel ?_
  have h2 := hv.2
  unfold vcDet at h2
  split at h2
  ·rename_i r0 hr0
   rw [det_ok htr r0 hr0 r hr]
   exact h2
  ·exact h2 r hr
def opsOk (n : Nat) (ops : List Oper) : Bool := ops.all fun o => opOk o && (match o.dst with | some d => decide (d < n) | none => true)
theorem opsOk_mem {l : List Oper} (h : opsOk n l = true) : ∀ o ∈ l, opOk o = true /\ ∀ d, o.dst = some d -> d < n := by
 intro o ho
 have := List.all_eq_true.1 h o ho
 simp only [Bool.and_eq_true] at this
 refine ⟨this.1, fun d hd => ?_⟩
 have h2 := this.2
 rw [hd] at h2
 simpa using h2
theorem Rel.skip {o : Oper} (h : Rel E w0 M n st a w) (hd : ∀ d, o.dst = some d -> d < n) : Rel E w0 M n (St.put st o.dst (.tup [])) (a.put o.dst undef) w := by
 obtain ⟨g, hg, henv⟩ := h.good
 have memEq : (St.put st o.dst (.tup [])).mem = st.mem /\ (St.put st o.dst (.tup [])).sp = st.sp /\ (St.put st o.dst (.tup [])).fr = st.fr /\ (St.put st o.dst (.tup [])).rd = st.rd := by
  cases hdst : o.dst <;> exact ⟨rfl, rfl, rfl, rfl⟩
 have envEq : ∀ x, (St.put st o.dst (.tup [])).env x = if o.dst = some x then .tup [] else st.env x := by
  intro x
  cases hdst : o.dst with
  | none => simp [St.put]
  | some d =>
   by_cases e : x = d
   ·subst e; simp [St.put, upd]
   ·have : ¬ (some d = some x) := fun h => e (by injection h with h; exact h.symm)
    rw [if_neg this]
    simp [St.put, upd, e]
 refine ⟨⟨fun x id hid => ?_, fun j r hj => ?_⟩, ?_, ?_, g, hg.env memEq.1 memEq.2.1 memEq.2.2.1 memEq.2.2.2, fun x => ?_⟩
 ·rw [memEq.1]
  rw [envEq] at hid
  split at hid
  ·cases hid
  ·exact h.cl.1 x id hid
 ·rw [memEq.1] at hj ⊢
  exact h.cl.2 j r hj
 ·cases hdst : o.dst <;> simp [Act.put, h.size]
 ·cases hdst : o.dst <;> exact h.defers
 ·rw [envEq, put_get (by rw [h.size]; exact hd)]
  split
  ·exact ⟨#[], rfl, rfl, fun j s hj => by cases hj⟩
  ·exact henv x
theorem noYield (h : Rel E w0 M n st a w) {ops : Array Oper} {j g : Nat} (hg : gslot ops j = some g) (he : st.env g = .tup []) : yielded ops a.tmps j = none := by
 obtain ⟨g', hgood, henv⟩ := h.good
 have := henv g
 rw [he] at this
 obtain ⟨vs, hv, _⟩ := this
 unfold gslot at hg
 unfold yielded
 rw [hg]
 simp only [Option.bind_some]
 rw [Array.getD_eq_getD_getElem?] at hv
 cases hq : a.tmps[g]? with
 | none => rfl
 | some u =>
  rw [hq] at hv
  simp only [Option.getD_some] at hv
  rw [hv]
def RunsOp (P : Program) (ops : Array Oper) (o : Oper) (next : Act -> World -> Prop) (Q : Exit -> Act -> World -> Prop) (a : Act) (w : World) : Prop :=
 if Region.wanted o (yielded ops a.tmps) then o.wp P a w next Q ∨ (o.asks P a w /\ LetsOut Q) else next (a.put o.dst undef) w
theorem step_sound (ht : TabOk P E tab) (hKA : KAll P E K) {ops : Array Oper} {o : Oper} (hok : opOk o = true) (hd : ∀ d, o.dst = some d -> d < n) (h : Rel E w0 M n st a w) {k : St -> Prop} (hv : vcStep tab K ops o st k) {next : Act -> World -> Prop} {Q : Exit -> Act -> World -> Prop}
  (hk : ∀ st' a' w', Rel E w0 M n st' a' w' -> k st' -> next a' w') : RunsOp P ops o next Q a w := by
 unfold vcStep at hv
 unfold RunsOp
 cases hg : o.guard with
 | none =>
  rw [hg] at hv
  rw [if_pos (by simp [Region.wanted, hg])]
  exact .inl (vcOp_sound h ht hKA hd hok hv hk)
 | some gw =>
  obtain ⟨j, want⟩ := gw
  rw [hg] at hv
  simp only at hv
  split at hv
  ·exact hv.elim
  ·rename_i g hgs
   split at hv
   ·rename_i b he
    have hy := yields h hgs he
    have hwant : Region.wanted o (yielded ops a.tmps) = (b == want) := by simp [Region.wanted, hg, hy]
    rw [hwant]
    have hself : ∀ c : Bool, b = c -> ({ st with env := upd st.env g (sv (.bool c)) } : St) = st := by
     intro c hc
     subst hc
     have := upd_self st.env g (sv (.bool b)) he
     rw [this]
    cases want <;> cases b <;> simp only at hv
    ·have hv := vcIf_f hv
     rw [hself false rfl] at hv
     exact .inl (vcOp_sound h ht hKA hd hok hv hk)
    ·have hv := vcIf_t hv
     rw [hself true rfl] at hv
     exact hk _ _ w (h.skip hd) hv
    ·have hv := vcIf_f hv
     rw [hself false rfl] at hv
     exact hk _ _ w (h.skip hd) hv
    ·have hv := vcIf_t hv
     rw [hself true rfl] at hv
     exact .inl (vcOp_sound h ht hKA hd hok hv hk)
   ·rename_i he
    have hwant : Region.wanted o (yielded ops a.tmps) = false := by simp [Region.wanted, hg, noYield h hgs he]
    rw [hwant]
    exact hk _ _ w (h.skip hd) hv
   ·exact hv.elim
theorem seq_sound (ht : TabOk P E tab) (hKA : KAll P E K) {ops : Array Oper} {k : St -> Prop} {Q : Exit -> Act -> World -> Prop} (hk : ∀ st' a' w', Rel E w0 M n st' a' w' -> k st' -> Q .normal a' w') :
  ∀ (l : List Oper) (st : St) (a : Act) (w : World), (∀ o ∈ l, opOk o = true /\ ∀ d, o.dst = some d -> d < n) -> Rel E w0 M n st a w -> vcOps tab K ops l st k -> wpList P ops Q l a w := by
 intro l
 induction l with
 | nil => intro st a w _ h hv; exact hk st a w h hv
 | cons o rest ih =>
  intro st a w hl h hv
  obtain ⟨hok, hd⟩ := hl o (by simp)
  have hl' : ∀ o ∈ rest, opOk o = true /\ ∀ d, o.dst = some d -> d < n := fun o ho => hl o (by simp [ho])
  unfold wpList
  exact step_sound ht hKA hok hd h hv fun st' a' w' hr hv' => ih st' a' w' hl' hr hv'
end
end Go.SE

namespace Go.SE
open Go.RowKit
section
variable {P : Program} {E : Ty -> TypeId} {w0 : World} {M : MM} {n : Nat} {st st' : St} {a : Act} {w : World}
def G.ren (g : G) (ρ : Nat -> Nat) : G := { g with κ := fun j => g.κ (ρ j), ln := fun j => g.ln (ρ j) }
theorem CV.ren_R {g : G} {ρ : Nat -> Nat} {c : CV} {v : Value} (h : (c.ren ρ).R g v) : c.R (g.ren ρ) v := by
 cases c with
 | fn f ids => have h : v = _ := h; rw [h]; show _ = _; simp [G.ren, Function.comp_def]
 | _ => exact h
theorem Cells.ren {g : G} {ρ : Nat -> Nat} {cs : List CV} {vs : Array Value} (h : Cells g (cs.map (CV.ren ρ)) vs) : Cells (g.ren ρ) cs vs := by
 refine ⟨by simpa using h.1, fun j c hj => ?_⟩
 obtain ⟨u, h1, h2⟩ := h.2 j (c.ren ρ) (by simp [hj])
 exact ⟨u, h1, CV.ren_R h2⟩
theorem S0.ren_R {g : G} {ρ : Nat -> Nat} {s : S0} {v : Value} (h : (s.ren ρ).R g v) : s.R (g.ren ρ) v := by
 cases s with
 | c x => exact CV.ren_R h
 | agg cs => obtain ⟨vs, h1, h2⟩ := h; exact ⟨vs, h1, h2.ren⟩
 | vec t xs => exact h
theorem S.ren_R {g : G} {ρ : Nat -> Nat} {s : S} {v : Value} (h : (s.ren ρ).R g v) : s.R (g.ren ρ) v := by
 cases s with
 | s x => exact S0.ren_R h
 | tup l =>
  obtain ⟨vs, h1, h2, h3⟩ := h
  refine ⟨vs, h1, by simpa using h2, fun j s hj => ?_⟩
  obtain ⟨u, h4, h5⟩ := h3 j (s.ren ρ) (by simp [hj])
  exact ⟨u, h4, S0.ren_R h5⟩
theorem puts_cases (j : Nat) : ∀ (l : List (Nat × S)) (e : Nat -> S), (∃ v, (j, v) ∈ l /\ puts e l j = v) ∨ puts e l j = e j := by
 intro l
 induction l with
 | nil => intro e; exact .inr rfl
 | cons p l ih =>
  intro e
  obtain ⟨k, v⟩ := p
  rcases ih (upd e k v) with ⟨u, h1, h2⟩ | h
  ·exact .inl ⟨u, by simp [h1], h2⟩
  ·by_cases e' : j = k
   ·subst e'; exact .inl ⟨v, by simp, by rw [puts, h, upd_same]⟩
   ·exact .inr (by rw [puts, h, upd_ne _ _ e'])
theorem inL_mem : ∀ {l : List Nat} {j : Nat}, inL l j = true ↔ j ∈ l := by
 intro l j
 induction l with
 | nil => simp [inL]
 | cons x l ih =>
  simp only [inL]
  by_cases e : j = x
  ·simp [e]
  ·simp [e, ih]
theorem envSame_mem {e e' : Nat -> S} : ∀ {l : List Nat}, envSame e e' l -> ∀ j ∈ l, e j = e' j := by
 intro l
 induction l with
 | nil => intro _ j h; simp at h
 | cons x l ih => intro h j hj; rcases List.mem_cons.1 hj with rfl | hj; exact h.1; exact ih h.2 j hj
theorem envSets_mem {e : Nat -> S} {ρ : Nat -> Nat} : ∀ {l : List (Nat × S)}, envSets e ρ l -> ∀ p ∈ l, e p.1 = p.2.ren ρ := by
 intro l
 induction l with
 | nil => intro _ j h; simp at h
 | cons x l ih => intro h j hj; rcases List.mem_cons.1 hj with rfl | hj; exact h.1; exact ih h.2 j hj
theorem memSame_mem : ∀ {l : List Nat}, memSame st st' l -> ∀ j ∈ l, (st.mem j).isSome = true /\ st'.mem j = st.mem j /\ st'.sp j = st.sp j /\ st'.fr j = st.fr j := by
 intro l
 induction l with
 | nil => intro _ j h; simp at h
 | cons x l ih => intro h j hj; rcases List.mem_cons.1 hj with rfl | hj; exact h.1; exact ih h.2 j hj
theorem memBlks_mem {ρ : Nat -> Nat} : ∀ {l : List (Nat × Res)}, memBlks st ρ l -> ∀ p ∈ l, st.mem p.1 = some (p.2.ren ρ) /\ st.sp p.1 = false /\ st.fr p.1 = false /\ ((∃ cs, p.2 = .blk cs) ∨ ∃ t xs, p.2 = .vec t xs) := by
 intro l
 induction l with
 | nil => intro _ j h; simp at h
 | cons x l ih =>
  intro h j hj
  rcases List.mem_cons.1 hj with rfl | hj
  ·obtain ⟨⟨h1, h2, h3, h4⟩, _⟩ := h
   refine ⟨h1, h2, h3, ?_⟩
   obtain ⟨k, r⟩ := j
   cases r <;> simp at h4
   ·exact .inl ⟨_, rfl⟩
   ·exact .inr ⟨_, _, rfl⟩
  ·exact ih h.2 j hj
theorem memOwns_mem {ρ : Nat -> Nat} : ∀ {l : List Own}, memOwns st ρ l -> ∀ o ∈ l, st.sp (ρ o.id) = false /\ st.fr (ρ o.id) = false /\ ∃ f, st.mem (ρ o.id) = some (.sl f o.t o.xs) := by
 intro l
 induction l with
 | nil => intro _ j h; simp at h
 | cons x l ih =>
  intro h j hj
  rcases List.mem_cons.1 hj with rfl | hj
  ·obtain ⟨⟨h1, h2, h3⟩, _⟩ := h
   refine ⟨h1, h2, ?_⟩
   split at h3
   ·rename_i f t xs hm
    obtain ⟨e, hq⟩ := castL_eq h3
    obtain ⟨id, src, t', xs'⟩ := j
    simp only at e hq
    subst e
    cases hq
    exact ⟨f, hm⟩
   ·exact h3.elim
  ·exact ih h.2 j hj
theorem notIn_mem {x : Nat} : ∀ {l : List Nat}, notIn x l -> x ∉ l := by
 intro l
 induction l with
 | nil => intro _; simp
 | cons y l ih => intro h; simp only [List.mem_cons, not_or]; exact ⟨h.1, ih h.2⟩
theorem allDiff_nodup : ∀ {l : List Nat}, allDiff l -> l.Nodup := by
 intro l
 induction l with
 | nil => intro _; simp
 | cons y l ih => intro h; exact List.nodup_cons.2 ⟨notIn_mem h.1, ih h.2⟩
theorem allIn_mem {ids : List Nat} : ∀ {l : List Nat}, allIn ids l -> ∀ x ∈ l, x ∈ ids := by
 intro l
 induction l with
 | nil => intro _ j h; simp at h
 | cons x l ih => intro h j hj; rcases List.mem_cons.1 hj with rfl | hj; exact h.1; exact ih h.2 j hj
theorem closedE_mem {e : Nat -> S} {ids : List Nat} : ∀ {l : List Nat}, closedE e ids l -> ∀ j ∈ l, ∀ x ∈ (e j).refs, x ∈ ids := by
 intro l
 induction l with
 | nil => intro _ j h; simp at h
 | cons x l ih => intro h j hj; rcases List.mem_cons.1 hj with rfl | hj; exact allIn_mem h.1; exact ih h.2 j hj
theorem closedV_mem {ids : List Nat} : ∀ {l : List (Nat × S)}, closedV ids l -> ∀ p ∈ l, ∀ x ∈ p.2.refs, x ∈ ids := by
 intro l
 induction l with
 | nil => intro _ j h; simp at h
 | cons x l ih => intro h j hj; rcases List.mem_cons.1 hj with rfl | hj; exact allIn_mem h.1; exact ih h.2 j hj
theorem closedR_mem {ids : List Nat} : ∀ {l : List (Nat × Res)}, closedR ids l -> ∀ p ∈ l, ∀ x ∈ p.2.refs, x ∈ ids := by
 intro l
 induction l with
 | nil => intro _ j h; simp at h
 | cons x l ih => intro h j hj; rcases List.mem_cons.1 hj with rfl | hj; exact allIn_mem h.1; exact ih h.2 j hj
theorem closedM_mem {m : Nat -> Option Res} {ids : List Nat} : ∀ {l : List Nat}, closedM m ids l -> ∀ j ∈ l, ∀ r, m j = some r -> ∀ x ∈ r.refs, x ∈ ids := by
 intro l
 induction l with
 | nil => intro _ j h; simp at h
 | cons x l ih =>
  intro h j hj
  rcases List.mem_cons.1 hj with rfl | hj
  ·intro r hr
   have h1 := h.1
   rw [hr] at h1
   exact allIn_mem h1
  ·exact ih h.2 j hj
theorem famsOf_mem : ∀ {l : List Nat} {x : Nat} {f : Nat} {t : Ty} {xs : List t.den}, x ∈ l -> st.mem x = some (.sl f t xs) -> f ∈ famsOf st l := by
 intro l
 induction l with
 | nil => intro x f t xs h; simp at h
 | cons y l ih =>
  intro x f t xs h hm
  simp only [famsOf]
  rcases List.mem_cons.1 h with rfl | h
  ·rw [hm]; simp
  ·split
   ·exact List.mem_cons_of_mem _ (ih h hm)
   ·exact ih h hm
theorem famsOf_diff : ∀ {l : List Nat}, (famsOf st l).Nodup -> ∀ {x y f : Nat} {t t' : Ty} {xs : List t.den} {ys : List t'.den}, x ∈ l -> y ∈ l -> x ≠ y -> st.mem x = some (.sl f t xs) -> st.mem y = some (.sl f t' ys) -> False := by
 intro l
 induction l with
 | nil => intro _ x y f t t' xs ys h; simp at h
 | cons z l ih =>
  intro hnd x y f t t' xs ys hx hy hne hmx hmy
  simp only [famsOf] at hnd
  rcases List.mem_cons.1 hx with rfl | hx2 <;> rcases List.mem_cons.1 hy with rfl | hy2
  ·exact hne rfl
  ·rw [hmx] at hnd
   exact (List.nodup_cons.1 hnd).1 (famsOf_mem hy2 hmy)
  ·rw [hmy] at hnd
   exact (List.nodup_cons.1 hnd).1 (famsOf_mem hx2 hmx)
  ·split at hnd
   ·exact ih (List.nodup_cons.1 hnd).2 hx2 hy2 hne hmx hmy
   ·exact ih hnd hx2 hy2 hne hmx hmy
theorem renL_spec : ∀ {l : List Own} {m : List (Nat × Nat)}, renL st l = some m -> m.map (·.1) = l.map (·.id) /\ ((l.map (·.id)).Nodup -> ∀ o ∈ l, srcId st o.src = some (lookR m o.id)) := by
 intro l
 induction l with
 | nil => intro m h; simp only [renL, Option.some.injEq] at h; subst h; simp
 | cons x l ih =>
  intro m h
  simp only [renL] at h
  split at h
  ·rename_i id m' h1 h2
   injection h with h
   subst h
   obtain ⟨h3, h4⟩ := ih h2
   refine ⟨by simp [h3], fun hnd o ho => ?_⟩
   simp only [List.map_cons, List.nodup_cons] at hnd
   rcases List.mem_cons.1 ho with rfl | ho
   ·simp [lookR, h1]
   ·have hne : o.id ≠ x.id := fun e => hnd.1 (by rw [← e]; exact List.mem_map_of_mem ho)
    simp only [lookR, if_neg hne]
    exact h4 hnd.2 o ho
  ·cases h
theorem lookR_id : ∀ {m : List (Nat × Nat)} {j : Nat}, j ∉ m.map (·.1) -> lookR m j = j := by
 intro m
 induction m with
 | nil => intro j _; rfl
 | cons p m ih =>
  intro j h
  simp only [List.map_cons, List.mem_cons, not_or] at h
  simp only [lookR, if_neg h.1]
  exact ih h.2
theorem ownRes_mem : ∀ {l : List Own} {p : Nat × Res}, p ∈ ownRes l -> ∃ o ∈ l, p = (o.id, .sl o.id o.t o.xs) := by
 intro l
 induction l with
 | nil => intro p h; simp [ownRes] at h
 | cons x l ih =>
  intro p h
  simp only [ownRes, List.mem_cons] at h
  rcases h with rfl | h
  ·exact ⟨x, by simp, rfl⟩
  ·obtain ⟨o, h1, h2⟩ := ih h
   exact ⟨o, by simp [h1], h2⟩
theorem ownRes_of : ∀ {l : List Own} {o : Own}, o ∈ l -> (o.id, .sl o.id o.t o.xs) ∈ ownRes l := by
 intro l
 induction l with
 | nil => intro o h; simp at h
 | cons x l ih =>
  intro o h
  simp only [ownRes, List.mem_cons]
  rcases List.mem_cons.1 h with rfl | h
  ·exact .inl rfl
  ·exact .inr (ih h)
theorem ownEnv_mem : ∀ {l : List Own} {p : Nat × S}, p ∈ ownEnv l -> ∃ o ∈ l, o.src = .slot p.1 /\ p.2 = .s (.c (.own o.id)) := by
 intro l
 induction l with
 | nil => intro p h; simp [ownEnv] at h
 | cons x l ih =>
  intro p h
  obtain ⟨id, src, t, xs⟩ := x
  cases src with
  | slot s =>
   simp only [ownEnv, List.mem_cons] at h
   rcases h with rfl | h
   ·exact ⟨_, List.mem_cons_self, rfl, rfl⟩
   ·obtain ⟨o, h1, h2⟩ := ih h
    exact ⟨o, by simp [h1], h2⟩
  | cell b off =>
   simp only [ownEnv] at h
   obtain ⟨o, h1, h2⟩ := ih h
   exact ⟨o, by simp [h1], h2⟩
end
end Go.SE

namespace Go.SE
open Go.RowKit
section
variable {P : Program} {E : Ty -> TypeId} {w0 : World} {M : MM} {n : Nat} {st st' : St} {a : Act} {w : World}
theorem Rel.head (h : Rel E w0 M n st' a w) (hpin : ∀ id, M.pin id = none /\ M.pinl id = none) {A : Ann} {α : A.α} (hf : A.fits st st' α) : Rel E w0 M n (A.head st α) a w := by
 unfold Ann.fits at hf
 split at hf
 ·exact hf.elim
 rename_i m hm
 obtain ⟨f1, f2, f3, f4, f5, f6, f7, f8, f9, f10, f11, f12, f13⟩ := hf
 obtain ⟨hkeys, hsrc⟩ := renL_spec hm
 have n6 := allDiff_nodup f6
 have n7 := allDiff_nodup f7
 have n8 := allDiff_nodup f8
 have nown : ((A.owns α).map (·.id)).Nodup := by
  have h1 : (A.mids ++ ((A.blks α).map (·.1) ++ (A.owns α).map (·.id))).Nodup := n6
  exact (List.nodup_append.1 (List.nodup_append.1 h1).2.1).2.1
 -- what stays keeps its number
 have stay : ∀ x ∈ A.mids ++ (A.blks α).map (·.1), lookR m x = x := by
  intro x hx
  refine lookR_id ?_
  rw [hkeys]
  intro ho
  have h1 : ((A.mids ++ (A.blks α).map (·.1)) ++ (A.owns α).map (·.id)).Nodup := by rw [List.append_assoc]; exact n6
  exact (List.nodup_append.1 h1).2.2 x hx x ho rfl
 have stay_head : ∀ x ∈ A.mids ++ (A.blks α).map (·.1), x ∈ headIds A α := by
  intro x hx
  simp only [headIds, List.mem_append] at hx ⊢
  rcases hx with hx | hx
  ·exact .inl hx
  ·exact .inr (.inl hx)
 obtain ⟨g, hg, henv⟩ := h.good
 have hmemcases : ∀ k r, (A.head st α).mem k = some r -> (∃ o ∈ A.owns α, k = o.id /\ r = .sl o.id o.t o.xs) ∨ ((k, r) ∈ A.blks α) ∨ (k ∈ A.mids /\ st'.mem k = some r) := by
  intro k r hk
  rcases adds_cases hk with hk | hk
  ·obtain ⟨o, h1, h2⟩ := ownRes_mem hk
   injection h2 with h2 h3
   exact .inl ⟨o, h1, h2, h3⟩
  ·rcases adds_cases hk with hk | hk
   ·exact .inr (.inl hk)
   ·refine .inr (.inr ?_)
    unfold keepM at hk
    split at hk
    ·rename_i hin
     have hin' := inL_mem.1 hin
     refine ⟨hin', ?_⟩
     rw [(memSame_mem f3 k hin').2.1]
     exact hk
    ·cases hk
 have hdom : ∀ k ∈ headIds A α, ((A.head st α).mem k).isSome = true := by
  intro k hk
  simp only [headIds, List.mem_append, List.mem_map] at hk
  rcases hk with hk | ⟨p, hp, rfl⟩ | ⟨o, ho, rfl⟩
  ·have h1 := (memSame_mem f3 k hk).1
   refine adds_isSome (adds_isSome ?_)
   have : inL A.mids k = true := inL_mem.2 hk
   simp [keepM, this, h1]
  ·exact adds_isSome (adds_new (k := p.1) (r := p.2) hp)
  ·exact adds_new (ownRes_of ho)
 -- each number at the head: what it is in st'
 have there : ∀ k r, (A.head st α).mem k = some r -> k ∈ headIds A α /\ (A.head st α).sp k = st'.sp (lookR m k) /\ (A.head st α).fr k = st'.fr (lookR m k) /\
   ((r.live -> ∃ r', st'.mem (lookR m k) = some r' /\ r'.live /\ ((∃ f t xs, r' = .sl f t xs) ↔ (∃ f t xs, r = .sl f t xs))) /\ ResR E w (g.ren (lookR m)) k r) /\ ∀ id ∈ r.refs, id ∈ headIds A α := by
  intro k r hk
  have hspfr : (k ∉ A.mids -> (A.head st α).sp k = false /\ (A.head st α).fr k = false) /\ (k ∈ A.mids -> (A.head st α).sp k = st.sp k /\ (A.head st α).fr k = st.fr k) := by
   constructor
   ·intro hn
    have : inL A.mids k = false := by
     cases hq : inL A.mids k with
     | false => rfl
     | true => exact (hn (inL_mem.1 hq)).elim
    simp [Ann.head, keepB, this]
   ·intro hin
    have : inL A.mids k = true := inL_mem.2 hin
    simp [Ann.head, keepB, this]
  have nodup3 : (A.mids ++ ((A.blks α).map (·.1) ++ (A.owns α).map (·.id))).Nodup := n6
  rcases hmemcases k r hk with ⟨o, ho, rfl, rfl⟩ | hk | ⟨hin, hk⟩
  ·obtain ⟨h1, h2, f, h3⟩ := memOwns_mem f5 o ho
   have hmem : o.id ∈ (A.owns α).map (·.id) := List.mem_map_of_mem ho
   have hnot : o.id ∉ A.mids := fun hin => (List.nodup_append.1 nodup3).2.2 _ hin _ (List.mem_append_right _ hmem) rfl
   refine ⟨by simp only [headIds, List.mem_append]; exact .inr (.inr hmem), by rw [(hspfr.1 hnot).1, h1], by rw [(hspfr.1 hnot).2, h2], ⟨fun _ => ⟨_, h3, trivial, ⟨fun _ => ⟨_, _, _, rfl⟩, fun _ => ⟨_, _, _, rfl⟩⟩⟩, ?_⟩, by simp [Res.refs]⟩
   exact hg.res _ _ h3
  ·obtain ⟨h1, h2, h3, h4⟩ := memBlks_mem f4 (k, r) hk
   simp only at h1 h2 h3 h4
   have hmem : k ∈ (A.blks α).map (·.1) := List.mem_map.2 ⟨(k, r), hk, rfl⟩
   have hnot : k ∉ A.mids := fun hin => (List.nodup_append.1 nodup3).2.2 _ hin _ (List.mem_append_left _ hmem) rfl
   have hst : lookR m k = k := stay k (List.mem_append_right _ hmem)
   refine ⟨by simp only [headIds, List.mem_append]; exact .inr (.inl hmem), by rw [(hspfr.1 hnot).1, hst, h2], by rw [(hspfr.1 hnot).2, hst, h3], ⟨fun hl => ⟨r.ren (lookR m), by rw [hst]; exact h1, ?_, ?_⟩, ?_⟩, closedR_mem f12 _ hk⟩
   ·rcases h4 with ⟨cs, rfl⟩ | ⟨t, xs, rfl⟩ <;> trivial
   ·rcases h4 with ⟨cs, rfl⟩ | ⟨t, xs, rfl⟩ <;> simp [Res.ren]
   ·have hr := hg.res _ _ h1
    rcases h4 with ⟨cs, rfl⟩ | ⟨t, xs, rfl⟩
    ·obtain ⟨b, vs, ty, h5, h6, h7⟩ := hr
     exact ⟨b, vs, ty, by show g.κ (lookR m k) = _; rw [hst]; exact h5, h6, h7.ren⟩
    ·obtain ⟨h0, b, vs, ty, h5, h6, h7⟩ := hr
     exact ⟨by show g.ln (lookR m k) = _; rw [hst]; exact h0, b, vs, ty, by show g.κ (lookR m k) = _; rw [hst]; exact h5, h6, h7⟩
  ·obtain ⟨_, h1, h2, h3⟩ := memSame_mem f3 k hin
   have hst : lookR m k = k := stay k (List.mem_append_left _ hin)
   have hcl : ∀ id ∈ r.refs, id ∈ A.mids ++ (A.blks α).map (·.1) := closedM_mem f11 k hin r (by rw [← h1]; exact hk)
   refine ⟨by simp only [headIds, List.mem_append]; exact .inl hin, by rw [(hspfr.2 hin).1, hst, h2], by rw [(hspfr.2 hin).2, hst, h3], ⟨fun hl => ⟨r, by rw [hst]; exact hk, hl, Iff.rfl⟩, ?_⟩, fun id hid => stay_head id (hcl id hid)⟩
   refine (hg.res k r hk).keep (g' := g.ren (lookR m)) (fun _ _ => rfl) (fun _ _ h => h) rfl ?_ ?_
   ·show g.κ (lookR m k) = _ /\ g.ln (lookR m k) = _
    rw [hst]
    exact ⟨rfl, rfl⟩
   ·intro i hi
    show g.κ (lookR m i) = _ /\ g.ln (lookR m i) = _
    rw [stay i (hcl i hi)]
    exact ⟨rfl, rfl⟩
 have inj : ∀ i ∈ headIds A α, ∀ j ∈ headIds A α, i ≠ j -> lookR m i ≠ lookR m j := by
  intro i hi j hj hij e
  have hp := List.nodup_iff_pairwise_ne.1 n7
  rw [List.pairwise_map] at hp
  have key : ∀ (l : List Nat), l.Pairwise (fun a b => lookR m a ≠ lookR m b) -> i ∈ l -> j ∈ l -> False := by
   intro l
   induction l with
   | nil => intro _ h; simp at h
   | cons x l ih =>
    intro hp hi hj
    obtain ⟨h1, h2⟩ := List.pairwise_cons.1 hp
    rcases List.mem_cons.1 hi with rfl | hi2 <;> rcases List.mem_cons.1 hj with rfl | hj2
    ·exact hij rfl
    ·exact h1 j hj2 e
    ·exact h1 i hi2 e.symm
    ·exact ih h2 hi2 hj2
  exact key _ hp hi hj
 have hrd : ∀ k, (A.head st α).rd = some k -> ∃ j, st'.rd = some j /\ j <= k /\ k <= rdLimit := by
  intro k hk
  have hk' : A.rd st.rd α = some k := hk
  rw [hk'] at f13
  cases hr : st'.rd with
  | none => rw [hr] at f13; exact f13.elim
  | some j => rw [hr] at f13; exact ⟨j, rfl, f13⟩
 refine ⟨⟨?_, fun j r hj id hid => hdom id ((there j r hj).2.2.2.2 id hid)⟩, h.size, h.defers, g.ren (lookR m), ⟨hg.ext, hg.ro, fun id r hid => (there id r hid).2.2.2.1.2, ?_, ?_, ?_, ?_, ?_, hg.roo, hg.rho, fun id v hv => (by rw [(hpin id).1] at hv; cases hv), ⟨fun id v hv => (by rw [(hpin id).2] at hv; cases hv), hg.keep.2⟩⟩, ?_⟩
 · -- what the slots name
  intro x id hid
  refine hdom id ?_
  rcases puts_cases x (A.sets α) (puts (keepE A.live st.env) (ownEnv (A.owns α))) with ⟨v, h1, h2⟩ | h1
  ·have : (A.head st α).env x = v := h2
   rw [this] at hid
   exact closedV_mem f10 _ h1 id hid
  ·rcases puts_cases x (ownEnv (A.owns α)) (keepE A.live st.env) with ⟨v, h2, h3⟩ | h2
   ·have : (A.head st α).env x = v := by show puts _ _ x = _; rw [h1, h3]
    rw [this] at hid
    obtain ⟨o, h4, _, h6⟩ := ownEnv_mem h2
    simp only at h6
    subst h6
    simp [S.refs, S0.refs, CV.refs] at hid
    subst hid
    simp only [headIds, List.mem_append]
    exact .inr (.inr (List.mem_map_of_mem h4))
   ·have : (A.head st α).env x = keepE A.live st.env x := by show puts _ _ x = _; rw [h1, h2]
    rw [this] at hid
    unfold keepE at hid
    split at hid
    ·rename_i hin
     exact stay_head id (closedE_mem f9 x (inL_mem.1 hin) id hid)
    ·simp [SE.junk, S.refs, S0.refs, CV.refs] at hid
 ·intro i j r s hi hj hij hli hlj b hbi hbj
  obtain ⟨i1, i2, i3, ⟨i4, i5⟩, _⟩ := there i r hi
  obtain ⟨j1, j2, j3, ⟨j4, j5⟩, _⟩ := there j s hj
  obtain ⟨r', ri1, ri2, _⟩ := i4 hli
  obtain ⟨s', sj1, sj2, _⟩ := j4 hlj
  obtain ⟨f, t, xs, ys, h1, h2, _⟩ := hg.sep _ _ r' s' ri1 sj1 (inj i i1 j j1 hij) ri2 sj2 b hbi hbj
  subst h1 h2
  exact (famsOf_diff n8 (List.mem_map_of_mem i1) (List.mem_map_of_mem j1) (inj i i1 j j1 hij) ri1 sj1).elim
 ·intro i r hi hl b hb
  obtain ⟨i1, i2, i3, ⟨i4, i5⟩, _⟩ := there i r hi
  obtain ⟨r', ri1, ri2, _⟩ := i4 hl
  exact hg.fresh _ r' ri1 ri2 b hb
 ·intro i r hi hl b hb h1 h2
  obtain ⟨i1, i2, i3, ⟨i4, i5⟩, _⟩ := there i r hi
  obtain ⟨r', ri1, ri2, _⟩ := i4 hl
  exact hg.wro _ r' ri1 ri2 b hb (by rw [← i2]; exact h1) (by rw [← i3]; exact h2)
 ·intro k hk
  obtain ⟨j, hj, hle, hlim⟩ := hrd k hk
  obtain ⟨⟨_, hout, code, v, p, ty, hc, hd, hl, h0, hp⟩, hin, hno⟩ := hg.rd j hj
  refine ⟨⟨hlim, hout, code, v, p, ty, hc, hd, hl, h0, by omega⟩, hin, ?_⟩
  intro i r hi hl
  obtain ⟨i1, i2, i3, ⟨i4, i5⟩, _⟩ := there i r hi
  obtain ⟨r', ri1, ri2, _⟩ := i4 hl
  exact hno _ r' ri1 ri2
 ·intro hn
  cases hk : (A.head st α).rd with
  | none => exact (hn hk).elim
  | some k =>
   obtain ⟨j, hj, _⟩ := hrd k hk
   exact hg.rds (by rw [hj]; simp)
 ·intro x
  rcases puts_cases x (A.sets α) (puts (keepE A.live st.env) (ownEnv (A.owns α))) with ⟨v, h1, h2⟩ | h1
  ·have e : (A.head st α).env x = v := h2
   rw [e]
   have := henv x
   rw [envSets_mem f2 _ h1] at this
   exact S.ren_R this
  ·rcases puts_cases x (ownEnv (A.owns α)) (keepE A.live st.env) with ⟨v, h2, h3⟩ | h2
   ·have e : (A.head st α).env x = v := by show puts _ _ x = _; rw [h1, h3]
    rw [e]
    obtain ⟨o, h4, h5, h6⟩ := ownEnv_mem h2
    simp only at h5 h6
    subst h6
    have hs := hsrc nown o h4
    rw [h5] at hs
    simp only [srcId] at hs
    split at hs
    ·rename_i id he
     injection hs with hs
     have := henv x
     rw [he, hs] at this
     exact this
    ·cases hs
   ·have e : (A.head st α).env x = keepE A.live st.env x := by show puts _ _ x = _; rw [h1, h2]
    rw [e]
    unfold keepE
    split
    ·rename_i hin
     have hin' := inL_mem.1 hin
     have := henv x
     rw [envSame_mem f1 x hin'] at this
     refine S.R.mono (g := g) (g' := g.ren (lookR m)) (fun _ _ h => h) rfl (fun id hid => ?_) this
     show g.κ (lookR m id) = _ /\ g.ln (lookR m id) = _
     rw [stay id (closedE_mem f9 x hin' id hid)]
     exact ⟨rfl, rfl⟩
    ·trivial
end
end Go.SE

namespace Go.SE
def clsOf (K : FuncId -> Option Con) (tab : TypeId -> Option TI) (o : Oper) : Nat :=
 match o.op with
 | .move _ | .assign _ => 1
 | .pick .. | .binOp .. | .unOp .. | .convert .. | .nilCheck _ | .fieldAddr .. | .field .. | .extract .. => 0
 | .alloc _ | .box .. | .build .. | .load .. | .indexAddr .. | .index .. | .makeSlice .. => 1
 | .slice .. => 5
 | .buildSlice t _ _ => match tab t with
  | some ⟨_, _, .sl _ _ t⟩ => if t.flat then 1 else 3
  | _ => 4
 | .call ⟨.value (.func f), _, _⟩ => match K f with
  | some con => if con.rks.length <= 7 then (if nested con.rks then (if hasRdr con.aks then 4 else 3) else if hasRdr con.aks then 2 else 1) else 4
  | none => 4
 | .call ⟨.builtin .append, _, _⟩ => 3
 | .call ⟨.builtin .len, _, _⟩ => 1
 | _ => 4
def clash (a b : Nat) : Bool := a == 4 || b == 4 || (a == 2 && b == 2) || (a == 3 && (b == 3 || b == 5)) || (a == 5 && b == 3)
def certOk (ops : Array Oper) (bf : Array Nat) : Bool :=
 (List.range ops.size).all fun j => (List.range ops.size).all fun i =>
  !(bf.getD j 0).testBit i || (match ops[j]? with
    | some o => o.after.toList.any fun e => Region.binds .any e && decide (e.on < j) && (e.on == i || (bf.getD e.on 0).testBit i)
    | none => false)
def dstOk (K : FuncId -> Option Con) (tab : TypeId -> Option TI) (o : Oper) : Bool := o.dst.isSome || clsOf K tab o == 0
def backOk (ops : Array Oper) : Bool :=
 (List.range ops.size).all fun j => match ops[j]? with
  | some o => o.after.toList.all fun e => !Region.binds .any e || decide (e.on < j)
  | none => true
def lateP (x y : Oper) : Bool :=
 match x.op, x.guard, y.op, y.guard, y.dst with
 | .extract _ _, none, .store _ _ _, none, none => true
 | _, _, _, _, _ => false
def pairOk (K : FuncId -> Option Con) (tab : TypeId -> Option TI) (ops : Array Oper) (bf : Array Nat) (i j : Nat) : Bool :=
 match ops[i]?, ops[j]? with
 | some oi, some oj => (bf.getD j 0).testBit i || (oi.apart ops oj && !clash (clsOf K tab oi) (clsOf K tab oj) && dstOk K tab oi && dstOk K tab oj) || (oi.apart ops oj && lateP oi oj)
 | _, _ => true
def drawOk (K : FuncId -> Option Con) (tab : TypeId -> Option TI) (ops : Array Oper) : Bool :=
 certOk ops (Region.before ops) && backOk ops && (List.range ops.size).all fun j => (List.range j).all fun i => pairOk K tab ops (Region.before ops) i j
def linExts (ops : Array Oper) : Nat -> Array Bool -> List (List Nat)
 | 0, _ => [[]]
 | fuel + 1, listed => match Region.ready .any ops listed with
  | [] => [[]]
  | i :: l => (i :: l).flatMap fun j => (linExts ops fuel (listed.setIfInBounds j true)).map (j :: ·)
def linDone (ops : Array Oper) : Nat -> Array Bool -> Bool
 | 0, listed => (Region.ready .any ops listed).isEmpty
 | fuel + 1, listed => (Region.ready .any ops listed).all fun j => linDone ops fuel (listed.setIfInBounds j true)
def permOk (ops : Array Oper) (ls : List (List Nat)) : Bool :=
 linDone ops ops.size (Array.replicate ops.size false) && (linExts ops ops.size (Array.replicate ops.size false)).all fun l => ls.contains l
end Go.SE

namespace Go.SE
open Go.RowKit
section
variable {P : Program} {E : Ty -> TypeId} {tab : TypeId -> Option TI} {K : FuncId -> Option Con} {anns : Nat -> Option Ann} {perm : Nat -> List (List Nat)} {w0 : World} {M : MM} {n : Nat}
def XK.exit' : XK -> Exit
 | .normal => .normal
 | .exit id => .exit id
 | .ret => .ret
def codeOk (tab : TypeId -> Option TI) (K : FuncId -> Option Con) (perm : Nat -> List (List Nat)) (n : Nat) : Code -> Bool
 | .region id ops draw => opsOk n ops.toList && (match perm id with
  | [] => !draw || drawOk K tab ops
  | l :: ls => draw && permOk ops (l :: ls))
 | .seq a b => codeOk tab K perm n a && codeOk tab K perm n b
 | .block _ c => codeOk tab K perm n c
 | .loop c => codeOk tab K perm n c
 | .cond _ a b => codeOk tab K perm n a && codeOk tab K perm n b
 | _ => true
def DrawSound (P : Program) (E : Ty -> TypeId) (tab : TypeId -> Option TI) (K : FuncId -> Option Con) (w0 : World) (M : MM) (n : Nat) : Prop :=
 ∀ (id : Nat) (ops : Array Oper) (st : St) (a : Act) (w : World) (k : St -> Prop) (Q : Exit -> Act -> World -> Prop), drawOk K tab ops = true -> opsOk n ops.toList = true -> Rel E w0 M n st a w -> vcOps tab K ops ops.toList st k ->
  (∀ st' a' w', Rel E w0 M n st' a' w' -> k st' -> Q .normal a' w') -> (Code.region id ops true).wp P Q a w
theorem least {p : Nat -> Prop} (h : ∃ m, p m) : ∃ m, p m /\ ∀ k, p k -> m <= k := by
 obtain ⟨m, hm⟩ := h
 induction m using Nat.strongRecOn with
 | _ m ih =>
  by_cases hk : ∃ k, k < m /\ p k
  ·obtain ⟨k, h1, h2⟩ := hk
   exact ih k h1 h2
  ·refine ⟨m, hm, fun k hk' => ?_⟩
   apply Classical.byContradiction
   intro hlt
   exact hk ⟨k, by omega, hk'⟩
theorem Rel.drawn {st : St} {a : Act} {w : World} (h : Rel E w0 M n st a w) : Rel E w0 M n st a { w with drawn := w.drawn + 1 } := by
 obtain ⟨g, hg, henv⟩ := h.good
 have hres : ∀ id r, st.mem id = some r -> ResR E { w with drawn := w.drawn + 1 } g id r := by
  intro id r hr
  have := hg.res id r hr
  cases r <;> exact this
 have hrd : ∀ n, st.rd = some n -> RdOk { w with drawn := w.drawn + 1 } g.ro g.ρ n /\ (w0.heap.size <= g.ρ ∨ M.can g.ρ) /\ ∀ id r, st.mem id = some r -> r.live -> blkOf (g.κ id) ≠ some g.ρ := by
  intro m hm
  obtain ⟨⟨h1, h2, h3⟩, h4⟩ := hg.rd m hm
  exact ⟨⟨h1, h2, h3⟩, h4⟩
 exact ⟨h.cl, h.size, h.defers, g, ⟨⟨hg.ext.os, hg.ext.tape, hg.ext.output, hg.ext.size, hg.ext.block⟩, hg.ro, hres, hg.sep, hg.fresh, hg.wro, hrd, hg.rds, hg.roo, hg.rho, hg.pin, hg.keep⟩, henv⟩
theorem vcTr_all {ι : Type} {f : ι -> St -> Prop} {L : ι -> Prop} (l0 : ι) (h0 : L l0) {dst : Option Nat} {st : St} {t : Option Tr} (h : ∀ l, L l -> vcTr dst st (f l) t) : vcTr dst st (fun s => ∀ l, L l -> f l s) t := by
 cases t with
 | none => exact h l0 h0
 | some t =>
  refine ⟨(h l0 h0).1, ?_⟩
  have h2 : ∀ l, L l -> vcDet (fun r => f l (st.app dst t r)) t.post t.det := fun l hl => (h l hl).2
  unfold vcDet at h2 ⊢
  split
  ·rename_i r hr
   intro l hl
   have := h2 l hl
   rw [hr] at this
   exact this
  ·rename_i hr
   intro r hp l hl
   have := h2 l hl
   rw [hr] at this
   exact this r hp
theorem vcStep_none {ops : Array Oper} {o : Oper} (h : o.guard = none) (st : St) (k : St -> Prop) : vcStep tab K ops o st k = vcOp tab K o st k := by simp only [vcStep, h]
def vcGuard (tab : TypeId -> Option TI) (K : FuncId -> Option Con) (o : Oper) (g : Nat) (b want : Bool) (st : St) (k : St -> Prop) : Prop :=
 if b = want then vcOp tab K o st k else k (St.put st o.dst (.tup []))
theorem St.self {st : St} {g : Nat} {b : Bool} (h : st.env g = sv (.bool b)) : ({ st with env := upd st.env g (sv (.bool b)) } : St) = st := by
 rw [upd_self st.env g (sv (.bool b)) h]
theorem vcStep_some {ops : Array Oper} {o : Oper} {j g : Nat} {want b : Bool} {st : St} {k : St -> Prop} (h : o.guard = some (j, want)) (hg : gslot ops j = some g) (he : st.env g = sv (.bool b)) : vcStep tab K ops o st k ↔ vcGuard tab K o g b want st k := by
 simp only [vcStep, h, hg, he]
 unfold vcGuard
 have hs := St.self he
 cases b <;> cases want <;> simp [vcIf, hs]
theorem vcStep_pass {ops : Array Oper} {o : Oper} {j g : Nat} {want : Bool} {st : St} {k : St -> Prop} (h : o.guard = some (j, want)) (hg : gslot ops j = some g) (he : st.env g = .tup []) : vcStep tab K ops o st k ↔ k (St.put st o.dst (.tup [])) := by
 simp only [vcStep, h, hg, he]
theorem vcStep_inv {ops : Array Oper} {o : Oper} {st : St} {k : St -> Prop} (hv : vcStep tab K ops o st k) : o.guard = none ∨ (∃ j g want b, o.guard = some (j, want) /\ gslot ops j = some g /\ st.env g = sv (.bool b)) ∨ ∃ j g want, o.guard = some (j, want) /\ gslot ops j = some g /\ st.env g = .tup [] := by
 cases ho : o.guard with
 | none => exact .inl rfl
 | some gw =>
  obtain ⟨j, want⟩ := gw
  simp only [vcStep, ho] at hv
  split at hv
  ·exact hv.elim
  ·rename_i g hg
   split at hv
   ·rename_i b hb
    exact .inr (.inl ⟨j, g, want, b, rfl, hg, hb⟩)
   ·rename_i hb
    exact .inr (.inr ⟨j, g, want, rfl, hg, hb⟩)
   ·exact hv.elim
theorem vcStep_all {ι : Type} {f : ι -> St -> Prop} {L : ι -> Prop} (l0 : ι) (h0 : L l0) {ops : Array Oper} {o : Oper} {st : St} (h : ∀ l, L l -> vcStep tab K ops o st (f l)) : vcStep tab K ops o st (fun s => ∀ l, L l -> f l s) := by
 rcases vcStep_inv (h l0 h0) with ho | ⟨j, g, want, b, h1, h2, h3⟩ | ⟨j, g, want, h1, h2, h3⟩
 ·simp only [vcStep_none ho] at h ⊢
  exact vcTr_all l0 h0 h
 ·simp only [vcStep_some h1 h2 h3] at h ⊢
  unfold vcGuard at h ⊢
  split
  ·rename_i e
   simp only [if_pos e] at h
   exact vcTr_all l0 h0 h
  ·rename_i e
   simp only [if_neg e] at h
   exact h
 ·simp only [vcStep_pass h1 h2 h3] at h ⊢
  exact h
theorem vcEach_mem {ops : Array Oper} {st : St} {k : St -> Prop} : ∀ {ls : List (List Nat)}, vcEach tab K ops st k ls -> ∀ l ∈ ls, vcOps tab K ops (pickOps ops l) st k := by
 intro ls
 induction ls with
 | nil => intro _ l h; cases h
 | cons x ls ih => intro h l hl; rcases List.mem_cons.1 hl with rfl | hl; exact h.1; exact ih h.2 l hl
theorem any_sound (ht : TabOk P E tab) (hKA : KAll P E K) {ops : Array Oper} (hok : opsOk n ops.toList = true) {k : St -> Prop} {Q : Exit -> Act -> World -> Prop} (hQ : ∀ st' a' w', Rel E w0 M n st' a' w' -> k st' -> Q .normal a' w') :
  ∀ (fuel : Nat) (listed : Array Bool) (st : St) (a : Act) (w : World), linDone ops fuel listed = true -> Rel E w0 M n st a w -> (∀ l ∈ linExts ops fuel listed, vcOps tab K ops (pickOps ops l) st k) -> wpAny P .any ops Q fuel listed a w := by
 intro fuel
 induction fuel with
 | zero =>
  intro listed st a w hd h hv
  simp only [linDone, List.isEmpty_iff] at hd
  exact ⟨hd, hQ st a w h (hv [] (by simp [linExts]))⟩
 | succ fuel ih =>
  intro listed st a w hd h hv
  simp only [linDone, List.all_eq_true] at hd
  refine ⟨fun he => hQ st a w h (hv [] (by simp [linExts, he])), fun i hi => ?_⟩
  have hmem : ∀ l ∈ linExts ops fuel (listed.setIfInBounds i true), (i :: l) ∈ linExts ops (fuel + 1) listed := by
   intro l hl
   simp only [linExts]
   split
   ·rename_i he; rw [he] at hi; cases hi
   ·rename_i x xs he
    rw [he] at hi
    exact List.mem_flatMap.2 ⟨i, hi, List.mem_map.2 ⟨l, hl, rfl⟩⟩
  unfold wpOp
  cases ho : ops[i]? with
  | none =>
   exact ih _ st a w (hd i hi) h fun l hl => by
    have := hv _ (hmem l hl)
    simpa [pickOps, ho] using this
  | some o =>
   have ho' : o ∈ ops.toList := by
    have := Array.mem_of_getElem? ho
    simpa using this
   obtain ⟨h1, h2⟩ := opsOk_mem hok o ho'
   have hne : ∃ l, l ∈ linExts ops fuel (listed.setIfInBounds i true) := by
    have hex : ∀ (f : Nat) (ls : Array Bool), ∃ l, l ∈ linExts ops f ls := by
     intro f
     induction f with
     | zero => intro ls; exact ⟨[], by simp [linExts]⟩
     | succ f ihf =>
      intro ls
      simp only [linExts]
      split
      ·exact ⟨[], by simp⟩
      ·rename_i x xs _
       obtain ⟨l, hl⟩ := ihf (ls.setIfInBounds x true)
       exact ⟨x :: l, List.mem_flatMap.2 ⟨x, by simp, List.mem_map.2 ⟨l, hl, rfl⟩⟩⟩
    exact hex _ _
   obtain ⟨l0, hl0⟩ := hne
   have hall : ∀ l, l ∈ linExts ops fuel (listed.setIfInBounds i true) -> vcStep tab K ops o st (fun s => vcOps tab K ops (pickOps ops l) s k) := by
    intro l hl
    have := hv _ (hmem l hl)
    simpa only [pickOps, ho, vcOps] using this
   exact step_sound ht hKA h1 h2 h (vcStep_all l0 hl0 hall) fun st' a' w' hr hk => ih _ st' a' w' (hd i hi) hr fun l hl => hk l hl
open Classical in
theorem code_sound (ht : TabOk P E tab) (hKA : KAll P E K) (hmix : P.follows .mixedOrders = true) (hdr : DrawSound P E tab K w0 M n) (hpin : ∀ (k : Nat) (A : Ann), anns k = some A -> ∀ id, M.pin id = none /\ M.pinl id = none) : ∀ (c : Code) (st : St) (a : Act) (w : World) (Qs : XK -> St -> Prop) (Q : Exit -> Act -> World -> Prop), codeOk tab K perm n c = true -> Rel E w0 M n st a w -> vc tab K anns perm c st Qs ->
  (∀ x st' a' w', Rel E w0 M n st' a' w' -> Qs x st' -> Q x.exit' a' w') -> c.wp P Q a w := by
 intro c
 induction c with
 | skip => intro st a w Qs Q _ h hv hQ; exact wp_skip (hQ .normal st a w h hv)
 | region id ops draw =>
  intro st a w Qs Q hok h hv hQ
  simp only [codeOk, Bool.and_eq_true] at hok
  obtain ⟨hok1, hok2⟩ := hok
  simp only [vc] at hv
  cases hp : perm id with
  | nil =>
   rw [hp] at hv hok2
   simp only [vcReg] at hv
   simp only at hok2
   cases draw with
   | false => exact wp_region_list (seq_sound ht hKA (fun st' a' w' hr hk => hQ .normal st' a' w' hr hk) ops.toList st a w (opsOk_mem hok1) h hv)
   | true => exact hdr id ops st a w _ Q (by simpa using hok2) hok1 h hv fun st' a' w' hr hk => hQ .normal st' a' w' hr hk
  | cons l ls =>
   rw [hp] at hv hok2
   simp only [vcReg] at hv
   simp only [Bool.and_eq_true, permOk, List.all_eq_true] at hok2
   obtain ⟨hd, hp1, hp2⟩ := hok2
   subst hd
   refine wp_region_any hmix (any_sound ht hKA hok1 (fun st' a' w' hr hk => hQ .normal st' a' w' hr hk) _ _ st a _ hp1 h.drawn fun x hx => vcEach_mem hv x ?_)
   have := hp2 x hx
   simpa using this
 | seq x y ihx ihy =>
  intro st a w Qs Q hok h hv hQ
  simp only [codeOk, Bool.and_eq_true] at hok
  refine wp_seq (ihx st a w _ _ hok.1 h hv fun k st' a' w' hr hk => ?_)
  cases k with
  | normal => exact ihy st' a' w' Qs Q hok.2 hr hk hQ
  | exit id => exact hQ (.exit id) st' a' w' hr hk
  | ret => exact hQ .ret st' a' w' hr hk
 | cond cnd x y ihx ihy =>
  intro st a w Qs Q hok h hv hQ
  simp only [codeOk, Bool.and_eq_true] at hok
  simp only [vc] at hv
  unfold condK at hv
  split at hv
  ·rename_i t he
   have hval := (ev_val h he).1
   cases t with
   | true => exact wp_cond_true hval (ihx st a w Qs Q hok.1 h (vcIf_t hv) hQ)
   | false => exact wp_cond_false hval (ihy st a w Qs Q hok.2 h (vcIf_f hv) hQ)
  ·exact hv.elim
 | block id x ih =>
  intro st a w Qs Q hok h hv hQ
  refine wp_block (ih st a w _ _ hok h hv fun k st' a' w' hr hk => ?_)
  cases k with
  | normal => exact hQ .normal st' a' w' hr hk
  | exit id' =>
   simp only [XK.exit', Exit.inBlock]
   simp only [blockK] at hk
   split
   ·rename_i e; rw [if_pos e] at hk; exact hQ .normal st' a' w' hr hk
   ·rename_i e; rw [if_neg e] at hk; exact hQ (.exit id') st' a' w' hr hk
  | ret => exact hQ .ret st' a' w' hr hk
 | loop x ih =>
  intro st a w Qs Q hok h hv hQ
  simp only [vc] at hv
  unfold vcLoop at hv
  split at hv
  ·exact hv.elim
  ·rename_i α ok mu i0 nx live sets mids blks owns rd base hA
   let A : Ann := ⟨α, ok, mu, i0, nx, live, sets, mids, blks, owns, rd, base⟩
   obtain ⟨⟨ho0, hf0⟩, hround⟩ := hv
   let α0 : A.α := i0 st
   have hex : ∀ (a : Act) (w : World), (∃ α, A.ok α /\ Rel E w0 M n (A.head st α) a w) -> ∃ m, ∃ α, A.ok α /\ Rel E w0 M n (A.head st α) a w /\ A.mu α = m :=
    fun a w ⟨α, h1, h2⟩ => ⟨_, α, h1, h2, rfl⟩
   let μ : Act -> World -> Nat := fun a w => if hh : ∃ m, ∃ α, A.ok α /\ Rel E w0 M n (A.head st α) a w /\ A.mu α = m then Classical.choose (least hh) else 0
   refine wp_loop (fun a w => ∃ α, A.ok α /\ Rel E w0 M n (A.head st α) a w) μ ⟨α0, ho0, h.head (hpin _ _ hA) hf0⟩ ?_
   intro a w hI
   have hh := hex a w hI
   obtain ⟨α, h1, h2, h3⟩ := (Classical.choose_spec (least hh)).1
   have hμ : μ a w = A.mu α := by simp only [μ, dif_pos hh]; exact h3.symm
   refine ih _ a w _ _ hok h2 (hround α h1) fun k st' a' w' hr hk => ?_
   cases k with
   | normal =>
    obtain ⟨g1, g2, g3⟩ := hk
    let α' : A.α := nx α st'
    have g3' : A.fits st st' α' := g3
    have hrel := hr.head (hpin _ _ hA) g3'
    refine ⟨⟨α', g1, hrel⟩, ?_⟩
    have hh' : ∃ m, ∃ α, A.ok α /\ Rel E w0 M n (A.head st α) a' w' /\ A.mu α = m := ⟨_, α', g1, hrel, rfl⟩
    have : μ a' w' <= A.mu α' := by simp only [μ, dif_pos hh']; exact (Classical.choose_spec (least hh')).2 _ ⟨α', g1, hrel, rfl⟩
    have g2' : A.mu α' < A.mu α := g2
    omega
   | exit id => exact hQ (.exit id) st' a' w' hr hk
   | ret => exact hQ .ret st' a' w' hr hk
 | exit id => intro st a w Qs Q _ h hv hQ; exact wp_exit (hQ (.exit id) st a w h hv)
 | ret => intro st a w Qs Q _ h hv hQ; exact wp_ret (hQ .ret st a w h hv)
 | _ => intro st a w Qs Q _ h hv hQ; exact hv.elim
end
end Go.SE

namespace Go.SE
theorem rdl_ag {m m' : Nat -> Option Res} {t : Ty} {c : CV} (h : ∀ id ∈ c.refs, m' id = m id) : rdl m' t c = rdl m t c := by
 cases c with
 | own id => simp only [rdl, h id (by simp [CV.refs])]
 | d x => cases x <;> rfl
 | _ => rfl
theorem datas_ag {m m' : Nat -> Option Res} : ∀ {vs : List CV}, (∀ id ∈ refsL vs, m' id = m id) -> datas m' vs = datas m vs := by
 intro vs
 induction vs with
 | nil => intro _; rfl
 | cons v l ih =>
  intro h
  simp only [datas, ih fun id hid => h id (by simp [refsL, hid])]
  cases v with
  | own id => simp only [h id (by simp [refsL, CV.refs])]
  | _ => rfl
theorem partCells_refs {sz : Nat} {s : S} {vs : List CV} (h : partCells sz s = some vs) : ∀ id ∈ refsL vs, id ∈ s.refs := by
 intro id hid
 unfold partCells at h
 split at h
 ·cases h
 ·split at h
  ·injection h with h; subst h; simpa [refsL, S.refs, S0.refs] using hid
  ·cases h
 ·split at h
  ·injection h with h; subst h; exact hid
  ·cases h
 ·cases h
theorem elemOf_ag {m m' : Nat -> Option Res} {t : Ty} {s : S} (h : ∀ id ∈ s.refs, m' id = m id) : elemOf m' t s = elemOf m t s := by
 unfold elemOf
 cases hp : partCells t.sz s with
 | none => rfl
 | some vs => simp only [datas_ag fun id hid => h id (partCells_refs hp id hid)]
structure AgX (st st' : St) (x : Operand) : Prop where
 ev : SE.ev st' x = SE.ev st x
 mem : ∀ id ∈ (SE.ev st x).refs, st'.mem id = st.mem id
theorem elemsOf_ag {st st' : St} {t : Ty} : ∀ {ps : List (Nat × Operand)} {k : Nat}, (∀ p ∈ ps, AgX st st' p.2) -> elemsOf st' t k ps = elemsOf st t k ps := by
 intro ps
 induction ps with
 | nil => intro k _; rfl
 | cons p l ih =>
  intro k h
  obtain ⟨i, x⟩ := p
  have h1 := h (i, x) (by simp)
  simp only [elemsOf, ih fun p hp => h p (by simp [hp]), h1.ev, elemOf_ag h1.mem]
theorem fills_ag {st st' : St} {fs : List (Nat × Nat × Bool)} : ∀ {ps : List (Nat × Operand)} {cs : List CV}, (∀ p ∈ ps, AgX st st' p.2) -> fills st' fs cs ps = fills st fs cs ps := by
 intro ps
 induction ps with
 | nil => intro cs _; rfl
 | cons p l ih =>
  intro cs h
  obtain ⟨i, x⟩ := p
  have h1 := h (i, x) (by simp)
  simp only [fills, h1.ev]
  split
  ·split
   ·split
    ·exact ih fun p hp => h p (by simp [hp])
    ·rfl
   ·rfl
  ·rfl
theorem dec_ag {m m' : Nat -> Option Res} {k : AK} {s : S0} (h : ∀ id ∈ s.refs, m' id = m id) : k.dec m' s = k.dec m s := by
 unfold AK.dec
 split
 case h_8 f a => simp only [rdl_ag (m := m) (m' := m') (c := f) fun id hid => h id (by simp [S0.refs, refsL, hid]), rdl_ag (m := m) (m' := m') (c := a) fun id hid => h id (by simp [S0.refs, refsL, hid])]
 case h_9 f a => simp only [rdl_ag (m := m) (m' := m') (c := f) fun id hid => h id (by simp [S0.refs, refsL, hid]), rdl_ag (m := m) (m' := m') (c := a) fun id hid => h id (by simp [S0.refs, refsL, hid])]
 case h_10 =>
  rename_i f a b c
  simp only [rdl_ag (m := m) (m' := m') (c := f) fun id hid => h id (by simp [S0.refs, refsL, hid]), rdl_ag (m := m) (m' := m') (c := a) fun id hid => h id (by simp [S0.refs, refsL, hid]),
   rdl_ag (m := m) (m' := m') (c := b) fun id hid => h id (by simp [S0.refs, refsL, hid]), rdl_ag (m := m) (m' := m') (c := c) fun id hid => h id (by simp [S0.refs, refsL, hid])]
 case h_11 t x => exact rdl_ag fun id hid => h id hid
 all_goals first
  | rfl
  | (rename_i id; simp only [h id (by simp [S0.refs, CV.refs])])
  | (split <;> simp_all)
theorem decs_ag {m m' : Nat -> Option Res} : ∀ {ks : List AK} {ss : List S0}, (∀ id ∈ refsT ss, m' id = m id) -> decs m' ks ss = decs m ks ss := by
 intro ks
 induction ks with
 | nil => intro ss _; cases ss <;> rfl
 | cons k ks ih =>
  intro ss h
  cases ss with
  | nil => rfl
  | cons s ss => simp only [decs, ih (ss := ss) fun id hid => h id (by simp [refsT, hid]), dec_ag (k := k) (s := s) fun id hid => h id (by simp [refsT, hid])]
theorem ownsC_ag {m m' : Nat -> Option Res} : ∀ {l : List Nat}, (∀ id ∈ l, m' id = m id) -> ownsC m' l = ownsC m l := by
 intro l
 induction l with
 | nil => intro _; rfl
 | cons x l ih => intro h; simp only [ownsC, ih fun id hid => h id (by simp [hid]), h x (by simp)]
theorem notSpent_ag {st st' : St} : ∀ {l : List Nat}, (∀ id ∈ l, st'.sp id = st.sp id) -> notSpent st' l = notSpent st l := by
 intro l
 induction l with
 | nil => intro _; rfl
 | cons x l ih => intro h; simp only [notSpent, ih fun id hid => h id (by simp [hid]), h x (by simp)]
theorem argsS_ag {st st' : St} : ∀ {l : List Operand}, (∀ x ∈ l, AgX st st' x) -> argsS st' l = argsS st l := by
 intro l
 induction l with
 | nil => intro _; rfl
 | cons x l ih => intro h; simp only [argsS, ih fun y hy => h y (by simp [hy]), (h x (by simp)).ev]
theorem argsS_refs2 {st : St} : ∀ {l : List Operand} {ss : List S0}, argsS st l = some ss -> ∀ id ∈ refsT ss, ∃ x ∈ l, id ∈ (ev st x).refs := by
 intro l
 induction l with
 | nil => intro ss h id hid; simp only [argsS, Option.some.injEq] at h; subst h; simp [refsT] at hid
 | cons x l ih =>
  intro ss h id hid
  simp only [argsS] at h
  split at h
  ·rename_i s ss' h1 h2
   injection h with h
   subst h
   simp only [refsT, List.mem_append] at hid
   rcases hid with hid | hid
   ·exact ⟨x, by simp, by rw [h1]; exact hid⟩
   ·obtain ⟨y, hy, hr⟩ := ih h2 id hid
    exact ⟨y, by simp [hy], hr⟩
  ·cases h
def AgN (st st' : St) (d : Nat) : Prop := st'.base = st.base /\ ∀ j, j < 16 -> st'.mem (nid st.base d j) = st.mem (nid st.base d j)
theorem AgN.free {st st' : St} {d : Nat} (h : AgN st st' d) {j : Nat} (hj : j < 16) : free st' d j = free st d j := by
 unfold SE.free; rw [h.1, h.2 j hj]
theorem rids_range : ∀ (ks : List AK) (i : Nat), ∀ id ∈ rids ks i, i <= id /\ id < i + 2 * ks.length := by
 intro ks
 induction ks with
 | nil => intro i id h; simp [rids] at h
 | cons k ks ih =>
  intro i id h
  simp only [rids, List.mem_append] at h
  rcases h with h | h
  ·cases k <;> simp [AK.rids] at h <;> simp <;> omega
  ·have := ih _ _ h; simp; omega
theorem freeL_ag {st st' : St} : ∀ {l : List Nat}, (∀ id ∈ l, st'.mem id = st.mem id) -> freeL st' l = freeL st l := by
 intro l
 induction l with
 | nil => intro _; rfl
 | cons x l ih => intro h; simp only [freeL, ih fun id hid => h id (by simp [hid]), h x (by simp)]
theorem allFree_ag {st st' : St} : ∀ {l : List (Nat × Res)}, (∀ p ∈ l, st'.mem p.1 = st.mem p.1) -> allFree st' l = allFree st l := by
 intro l
 induction l with
 | nil => intro _; rfl
 | cons p l ih => intro h; obtain ⟨k, r⟩ := p; simp only [allFree, ih fun q hq => h q (by simp [hq]), h (k, r) (by simp)]
theorem zcells_range {base d : Nat} : ∀ (cks : List CK) (j : Nat), ∀ p ∈ (zcells base d cks j).2, ∃ i, j <= i /\ i < j + cks.length /\ p.1 = nid base d i /\ p.2.refs = [] := by
 intro cks
 induction cks with
 | nil => intro j p h; simp [zcells] at h
 | cons c l ih =>
  intro j p h
  cases c with
  | sc z => obtain ⟨i, h1, h2, h3⟩ := ih (j + 1) p (by simpa [zcells] using h); exact ⟨i, by omega, by simp; omega, h3⟩
  | sl t =>
   simp only [zcells, List.mem_cons] at h
   rcases h with h | h
   ·subst h; exact ⟨j, Nat.le_refl _, by simp, rfl, rfl⟩
   ·obtain ⟨i, h1, h2, h3⟩ := ih (j + 1) p h; exact ⟨i, by omega, by simp; omega, h3⟩
end Go.SE

namespace Go.SE
section
variable {tab : TypeId -> Option TI} {K : FuncId -> Option Con} {st st' : St} {d : Nat}
theorem trMove_ag {ty : Nat} {x : Operand} (h : AgX st st' x) (hn : AgN st st' d) : trMove tab st' ty d x = trMove tab st ty d x := by
 have e : moveId st' d = moveId st d := by
  unfold moveId
  rw [hn.1, hn.2 0 (by omega), hn.2 14 (by omega)]
 have e2 : st'.mem (moveId st d) = st.mem (moveId st d) := by
  unfold moveId
  split
  ·exact hn.2 0 (by omega)
  ·split
   ·exact hn.2 14 (by omega)
   ·exact hn.2 13 (by omega)
 unfold trMove
 rw [h.ev, e, e2]
theorem trPick_ag {c x y : Operand} (h1 : AgX st st' c) (h2 : AgX st st' x) (h3 : AgX st st' y) : trPick st' c x y = trPick st c x y := by
 unfold trPick
 rw [h1.ev, h2.ev, h3.ev]
theorem zeroOf_range {base : Nat} {k : TK} {r : Res} {l : List (Nat × Res)} (h : zeroOf base d k = some (r, l)) (hk : ∀ cks fs, k = .st cks fs -> cks.length <= 15) : ∀ p ∈ l, ∃ i, i < 15 /\ p.1 = nid base d i /\ p.2.refs = [] := by
 intro p hp
 unfold zeroOf at h
 split at h
 ·injection h with h; injection h with _ h; subst h; cases hp
 ·injection h with h; injection h with _ h; subst h
  simp at hp; subst hp
  exact ⟨0, by omega, rfl, rfl⟩
 ·rename_i cks fs
  injection h with h; injection h with _ h; subst h
  obtain ⟨i, _, h2, h3⟩ := zcells_range cks 0 p hp
  exact ⟨i, by have := hk cks fs rfl; omega, h3⟩
 ·injection h with h; injection h with _ h; subst h; cases hp
 ·cases h
def TabSmall (tab : TypeId -> Option TI) : Prop := ∀ ty a b cks fs, tab ty = some ⟨a, b, .st cks fs⟩ -> cks.length <= 15
theorem trAlloc_ag {ty : Nat} (hs : TabSmall tab) (hn : AgN st st' d) : trAlloc tab st' ty d = trAlloc tab st ty d := by
 unfold trAlloc
 split
 ·rename_i ti hti
  rw [hn.1]
  cases hz : zeroOf st.base d ti.k with
  | none => rfl
  | some p =>
   obtain ⟨r, l⟩ := p
   have e : allFree st' ((nid st.base d 15, r) :: l) = allFree st ((nid st.base d 15, r) :: l) := by
    refine allFree_ag fun p hp => ?_
    rcases List.mem_cons.1 hp with rfl | hp
    ·exact hn.2 15 (by omega)
    ·obtain ⟨i, h1, h2, _⟩ := zeroOf_range hz (fun cks fs he => hs ty ti.sz ti.bytes cks fs (by rw [hti, ← he])) p hp
     rw [h2]; exact hn.2 i (by omega)
   simp only [e]
 ·rfl
theorem trBox_ag {x : Operand} (h : AgX st st' x) (hn : AgN st st' d) : trBox st' d x = trBox st d x := by
 unfold trBox
 rw [h.ev, hn.free (by omega), hn.1]
theorem trBuild_ag {ty : Nat} {ps : List (Nat × Operand)} (hs : TabSmall tab) (h : ∀ p ∈ ps, AgX st st' p.2) (hn : AgN st st' d) : trBuild tab st' ty d ps = trBuild tab st ty d ps := by
 unfold trBuild
 split
 ·rename_i a b cks fs hti
  have e : allFree st' (zcells st.base d cks 0).2 = allFree st (zcells st.base d cks 0).2 := by
   refine allFree_ag fun p hp => ?_
   obtain ⟨i, _, h2, h3, _⟩ := zcells_range cks 0 p hp
   rw [h3]
   have := hs ty a b cks fs hti
   exact hn.2 i (by omega)
  rw [hn.1, fills_ag h, e]
 ·rw [elemsOf_ag h]
 ·rfl
theorem elems_ids {t : Ty} : ∀ {ps : List (Nat × Operand)} {k : Nat} {xs : List t.den} {ids : List Nat}, elemsOf st t k ps = some (xs, ids) -> ∀ id ∈ ids, ∃ p ∈ ps, id ∈ (ev st p.2).refs := by
 have one : ∀ {s : S} {x : t.den} {ids : List Nat}, elemOf st.mem t s = some (x, ids) -> ∀ id ∈ ids, id ∈ s.refs := by
  intro s x ids h id hid
  unfold elemOf at h
  split at h
  ·rename_i vs hp
   split at h
   ·rename_i ds ids' hd
    split at h
    ·injection h with h; injection h with _ h; subst h
     refine partCells_refs hp id ?_
     have : ∀ (vs : List CV) (ds : List DC) (ids : List Nat), datas st.mem vs = some (ds, ids) -> ∀ id ∈ ids, id ∈ refsL vs := by
      intro vs
      induction vs with
      | nil => intro ds ids h id hid; simp only [datas, Option.some.injEq, Prod.mk.injEq] at h; rw [← h.2] at hid; cases hid
      | cons v l ih =>
       intro ds ids h id hid
       simp only [datas] at h
       split at h
       ·cases h
       ·rename_i ds' ids'' h1
        split at h
        ·injection h with h; injection h with _ h; subst h
         simp only [refsL, List.mem_append]; exact .inr (ih _ _ h1 id hid)
        ·split at h
         ·injection h with h; injection h with _ h; subst h
          simp only [refsL, List.mem_append, CV.refs]
          rcases List.mem_cons.1 hid with rfl | hid
          ·exact .inl (by simp)
          ·exact .inr (ih _ _ h1 id hid)
         ·cases h
        ·cases h
     exact this vs ds ids' hd id hid
    ·cases h
   ·cases h
  ·cases h
 intro ps
 induction ps with
 | nil => intro k xs ids h id hid; simp only [elemsOf, Option.some.injEq, Prod.mk.injEq] at h; rw [← h.2] at hid; cases hid
 | cons p l ih =>
  intro k xs ids h id hid
  obtain ⟨i, x⟩ := p
  simp only [elemsOf] at h
  split at h
  ·split at h
   ·rename_i y a ys b h1 h2
    injection h with h; injection h with _ h; subst h
    rcases List.mem_append.1 hid with hid | hid
    ·exact ⟨(i, x), by simp, one h1 id hid⟩
    ·obtain ⟨p, hp, hr⟩ := ih h2 id hid
     exact ⟨p, by simp [hp], hr⟩
   ·cases h
  ·cases h
def AgS (st st' : St) (x : Operand) : Prop := ∀ id ∈ (ev st x).refs, st'.sp id = st.sp id /\ st'.fr id = st.fr id
theorem datas_flat {t : Ty} (ht : t.flat = true) {mem : Nat -> Option Res} : ∀ {s : S} {x : t.den} {ids : List Nat}, elemOf mem t s = some (x, ids) -> ids = [] := by
 have key : ∀ (vs : List CV) (ds : List DC) (ids : List Nat), datas mem vs = some (ds, ids) -> (∀ c ∈ ds, ∃ v, c = .val v) -> ids = [] := by
  intro vs
  induction vs with
  | nil => intro ds ids h _; simp only [datas, Option.some.injEq, Prod.mk.injEq] at h; exact h.2.symm
  | cons v l ih =>
   intro ds ids h hv
   simp only [datas] at h
   split at h
   ·cases h
   ·rename_i ds' ids' h1
    split at h
    ·injection h with h; injection h with h2 h; subst h h2
     exact ih _ _ h1 fun c hc => hv c (by simp [hc])
    ·split at h
     ·injection h with h; injection h with h2 h; subst h2
      obtain ⟨v, hv⟩ := hv _ List.mem_cons_self
      cases hv
     ·cases h
    ·cases h
 intro s x ids h
 unfold elemOf at h
 split at h
 ·split at h
  ·rename_i ds ids' hd
   split at h
   ·rename_i y hy
    injection h with h; injection h with _ h; subst h
    refine key _ _ _ hd fun c hc => ?_
    have hcell : ∀ (ds : List DC) (y : t.den), t.dec ds = some y -> ∀ c ∈ ds, ∃ v, c = .val v := by
     intro ds y hy c hc
     rw [← dec_cells hy] at hc
     cases t <;> simp [Ty.flat] at ht <;> simp [Ty.cells] at hc
     ·exact ⟨_, hc⟩
     ·exact ⟨_, hc⟩
     ·exact ⟨_, hc⟩
     ·rcases hc with h | h | h <;> exact ⟨_, h⟩
     ·rcases hc with h | h | h <;> exact ⟨_, h⟩
    exact hcell ds y hy c hc
   ·cases h
  ·cases h
 ·cases h
theorem elems_flat {t : Ty} (ht : t.flat = true) : ∀ {ps : List (Nat × Operand)} {k : Nat} {xs : List t.den} {ids : List Nat}, elemsOf st t k ps = some (xs, ids) -> ids = [] := by
 intro ps
 induction ps with
 | nil => intro k xs ids h; simp only [elemsOf, Option.some.injEq, Prod.mk.injEq] at h; exact h.2.symm
 | cons p l ih =>
  intro k xs ids h
  obtain ⟨i, x⟩ := p
  simp only [elemsOf] at h
  split at h
  ·split at h
   ·rename_i y a ys b h1 h2
    injection h with h; injection h with _ h; subst h
    rw [datas_flat ht h1, ih h2]; rfl
   ·cases h
  ·cases h
theorem trBuildSlice_ag {ty n : Nat} {ps : List (Nat × Operand)} (h : ∀ p ∈ ps, AgX st st' p.2) (hn : AgN st st' d)
  (hf : (∀ a b rw e t, tab ty = some ⟨a, b, .sl rw e t⟩ -> t.flat = true) ∨ ∀ p ∈ ps, AgS st st' p.2) : trBuildSlice tab st' ty d n ps = trBuildSlice tab st ty d n ps := by
 unfold trBuildSlice
 split
 ·rename_i a b e t hti
  rw [elemsOf_ag h]
  cases he : elemsOf st t 0 ps with
  | none => rfl
  | some q =>
   obtain ⟨xs, ids⟩ := q
   have e2 : notSpent st' ids = notSpent st ids := by
    refine notSpent_ag fun id hid => ?_
    rcases hf with hf | hf
    ·rw [elems_flat (hf _ _ _ _ _ hti) he] at hid; cases hid
    ·obtain ⟨p, hp, hr⟩ := elems_ids he id hid
     exact (hf p hp id hr).1
   simp only [e2, hn.free (j := 0) (by omega), hn.1]
 ·rfl
theorem trLoad_ag {ty : Nat} {x : Operand} (h : AgX st st' x) : trLoad tab st' ty x = trLoad tab st ty x := by
 unfold trLoad
 rw [h.ev]
 split
 ·rename_i id off _ hx; rw [h.mem id (by rw [hx]; simp [S.refs, S0.refs, CV.refs])]
 ·rename_i id t k off _ hx; rw [h.mem id (by rw [hx]; simp [S.refs, S0.refs, CV.refs])]
 ·rfl
 ·rfl
 ·rfl
theorem trNilCheck_ag {x : Operand} (h : AgX st st' x) : trNilCheck st' x = trNilCheck st x := by unfold trNilCheck; rw [h.ev]
theorem trBin_ag {op : BinOp} {ty : Nat} {x y : Operand} (h1 : AgX st st' x) (h2 : AgX st st' y) : trBin tab st' op ty x y = trBin tab st op ty x y := by
 have e : ∀ {x : Operand}, AgX st st' x -> aggS st' x = aggS st x := by
  intro x h
  unfold aggS
  split
  ·rfl
  ·rw [h.ev]
 unfold trBin
 rw [h1.ev, h2.ev, e h1, e h2]
theorem trUn_ag {op : UnOp} {x : Operand} (h : AgX st st' x) : trUn st' op x = trUn st op x := by unfold trUn; rw [h.ev]
theorem trConvert_ag {s t : Nat} {x : Operand} (h : AgX st st' x) : trConvert tab st' s t x = trConvert tab st s t x := by unfold trConvert; rw [h.ev]
theorem trFieldAddr_ag {ty f : Nat} {x : Operand} (h : AgX st st' x) : trFieldAddr tab st' ty x f = trFieldAddr tab st ty x f := by unfold trFieldAddr; rw [h.ev]
theorem trField_ag {ty f : Nat} {x : Operand} (h : AgX st st' x) : trField tab st' ty x f = trField tab st ty x f := by unfold trField; rw [h.ev]
theorem trExtract_ag {i : Nat} {x : Operand} (h : AgX st st' x) : trExtract st' x i = trExtract st x i := by unfold trExtract; rw [h.ev]
theorem trIndexAddr_ag {ty : Nat} {x i : Operand} (h : AgX st st' x) (hi : AgX st st' i) : trIndexAddr tab st' ty x i = trIndexAddr tab st ty x i := by
 unfold trIndexAddr
 rw [h.ev, hi.ev]
 split
 ·split
  ·rfl
  ·rename_i id hx; rw [h.mem id (by rw [hx]; simp [S.refs, S0.refs, CV.refs])]
  ·rfl
 ·split
  ·rename_i id hx; rw [h.mem id (by rw [hx]; simp [S.refs, S0.refs, CV.refs])]
  ·rfl
  ·rfl
 ·rfl
theorem trIndex_ag {ty : Nat} {x i : Operand} (h : AgX st st' x) (hi : AgX st st' i) : trIndex tab st' ty x i = trIndex tab st ty x i := by
 unfold trIndex; rw [h.ev, hi.ev]
theorem intOp_ag {x : Option Operand} (h : ∀ y, x = some y -> AgX st st' y) : intOp st' x = intOp st x := by
 cases x with
 | none => rfl
 | some y => simp only [intOp, (h y rfl).ev]
theorem trSlice_ag {ty : Nat} {x : Operand} {lo hi : Option Operand} (h : AgX st st' x) (hs : ∀ id ∈ (ev st x).refs, st'.sp id = st.sp id) (h1 : ∀ y, lo = some y -> AgX st st' y) (h2 : ∀ y, hi = some y -> AgX st st' y) :
  trSlice tab st' ty x lo hi = trSlice tab st ty x lo hi := by
 unfold trSlice
 rw [h.ev, intOp_ag h1, intOp_ag h2]
 split
 ·rfl
 ·split
  ·rfl
  ·rename_i id hx
   have hid : id ∈ (ev st x).refs := by rw [hx]; simp [S.refs, S0.refs, CV.refs]
   rw [h.mem id hid, hs id hid]
  ·rfl
 ·split
  ·rename_i id hx
   have hid : id ∈ (ev st x).refs := by rw [hx]; simp [S.refs, S0.refs, CV.refs]
   rw [h.mem id hid]
  ·rfl
 ·rfl
theorem trMakeSlice_ag {ty : Nat} {x y : Operand} (h1 : AgX st st' x) (h2 : AgX st st' y) (hn : AgN st st' d) : trMakeSlice tab st' ty d x y = trMakeSlice tab st ty d x y := by
 unfold trMakeSlice
 rw [h1.ev, h2.ev, hn.free (by omega), hn.1]
theorem trLen_ag {ty : Nat} {x : Operand} (h : AgX st st' x) : trLen tab st' ty x = trLen tab st ty x := by
 unfold trLen
 rw [h.ev]
 split
 ·rename_i v _ hx
  rw [rdl_ag fun id hid => h.mem id (by rw [hx]; exact hid)]
 ·rfl
 ·rfl
 ·rfl
theorem trAppend_ag {ty : Nat} {x y : Operand} (h1 : AgX st st' x) (h2 : AgX st st' y) (hs : AgS st st' x) (hn : AgN st st' d) : trAppend tab st' ty d x y = trAppend tab st ty d x y := by
 unfold trAppend
 rw [h1.ev, h2.ev]
 split
 ·rename_i id v _ hx hy
  have hid : id ∈ (ev st x).refs := by rw [hx]; simp [S.refs, S0.refs, CV.refs]
  rw [h1.mem id hid, rdl_ag fun id hid => h2.mem id (by rw [hy]; exact hid), hn.free (by omega), hn.1, (hs id hid).1, (hs id hid).2]
 ·rfl
theorem refsT_refsAr (l : List S0) : refsAr l = refsT l := by
 induction l with
 | nil => rfl
 | cons x l ih =>
  have e1 : ∀ c : CV, refsC c = c.refs := fun c => by cases c <;> rfl
  have e2 : ∀ l : List CV, refsCs l = refsL l := fun l => by
   induction l with
   | nil => rfl
   | cons x l ih => simp [refsCs, refsL, ih, e1]
  cases x <;> simp [refsAr, refsT, S0.refs, ih, e1, e2]
theorem trFn_ag {f : Nat} {args : List Operand} (h : ∀ x ∈ args, AgX st st' x) (hn : AgN st st' d) (hr : ∀ con, K f = some con -> con.rks.length <= 7 /\ (nested con.rks = true -> ∀ x ∈ args, AgS st st' x) /\ (hasRdr con.aks = true -> st'.rd = st.rd)) :
  trFn K st' d f args = trFn K st d f args := by
 unfold trFn
 rw [argsS_ag h]
 cases hss : argsS st args with
 | none => rfl
 | some ss =>
  simp only
  have hmem : ∀ id ∈ refsT ss, st'.mem id = st.mem id := fun id hid => by
   obtain ⟨x, hx, hr⟩ := argsS_refs2 hss id hid
   exact (h x hx).mem id hr
  unfold trCall
  cases hK : K f with
  | none => rfl
  | some con =>
   obtain ⟨r1, r2, r3⟩ := hr con hK
   simp only
   rw [decs_ag hmem]
   cases hx : decs st.mem con.aks ss with
   | none => rfl
   | some x =>
    simp only
    have e1 : freeL st' (rids con.rks (nid st.base d 0)) = freeL st (rids con.rks (nid st.base d 0)) := by
     refine freeL_ag fun id hid => ?_
     obtain ⟨h1, h2⟩ := rids_range _ _ id hid
     obtain ⟨j, rfl⟩ : ∃ j, id = nid st.base d j := ⟨id - nid st.base d 0, by unfold nid at *; omega⟩
     exact hn.2 j (by unfold nid at *; omega)
    have e2 : rdFits st'.rd (con.cost x) (hasRdr con.aks) = rdFits st.rd (con.cost x) (hasRdr con.aks) := by
     cases hh : hasRdr con.aks with
     | false => rfl
     | true => rw [r3 hh]
    cases hnest : nested con.rks with
    | false => simp only [e1, e2, hn.1]
    | true =>
     simp only
     rw [refsT_refsAr, ownsC_ag hmem]
     cases ho : ownsC st.mem (refsT ss) with
     | none => rfl
     | some ids =>
      have e3 : notSpent st' ids = notSpent st ids := by
       refine notSpent_ag fun id hid => ?_
       have hin : id ∈ refsT ss := by
        have key : ∀ (l ids : List Nat), ownsC st.mem l = some ids -> ids = l := by
         intro l
         induction l with
         | nil => intro ids h; simp only [ownsC, Option.some.injEq] at h; exact h.symm
         | cons y l ih =>
          intro ids h
          simp only [ownsC] at h
          split at h
          ·rename_i ids' _ h2
           injection h with h; subst h; rw [ih _ h2]
          ·cases h
        rw [← key _ _ ho]; exact hid
       obtain ⟨y, hy, hyr⟩ := argsS_refs2 hss id hin
       exact (r2 hnest y hy id hyr).1
      simp only [e1, e2, e3, hn.1]
end
end Go.SE

namespace Go.SE
section
variable {tab : TypeId -> Option TI} {K : FuncId -> Option Con} {st st' : St} {d : Nat}
structure Nice (st : St) (d : Nat) (cls : Nat) (xs : List Operand) (t : Tr) : Prop where
 wr : t.wr = none
 ids : ∀ r p, p ∈ t.news r -> ∃ j, j < 16 /\ p.1 = nid st.base d j
 fre : t.pre -> ∀ r, ∀ p ∈ t.news r, st.mem p.1 = none
 spfr : ∀ id, id ∈ t.fl ∨ id ∈ t.fz -> (cls = 3 ∨ cls = 5 /\ t.fl = []) /\ ∃ x ∈ xs, id ∈ (ev st x).refs
 cost : cls ≠ 2 -> t.cost = 0
 none : cls = 0 -> ∀ r, t.news r = []
 val : Cl st -> ∀ r, ∀ id ∈ (t.val r).refs, (st.mem id).isSome = true ∨ ∃ q, (id, q) ∈ t.news r
 new : Cl st -> ∀ r p, p ∈ t.news r -> ∀ id ∈ p.2.refs, (st.mem id).isSome = true ∨ ∃ q, (id, q) ∈ t.news r
theorem Nice.plain {cls : Nat} {xs : List Operand} {v : S} {p : Prop} (hv : Cl st -> ∀ id ∈ v.refs, (st.mem id).isSome = true) : Nice st d cls xs (.one v p) :=
 ⟨rfl, fun _ _ h => (by cases h), fun _ _ _ h => (by cases h), fun _ h => (by rcases h with h | h <;> cases h), fun _ => rfl, fun _ _ => rfl, fun hc _ id hid => .inl (hv hc id hid), fun _ _ _ h => (by cases h)⟩
theorem Nice.sv {cls : Nat} {xs : List Operand} {v : Value} {p : Prop} : Nice st d cls xs (.one (SE.sv v) p) := Nice.plain fun _ id hid => by simp [SE.sv, S.refs, S0.refs, CV.refs] at hid
theorem Nice.make1 {cls : Nat} {xs : List Operand} {j : Nat} {v : S} {p : Prop} {q : Res} (hj : j < 16) (hc : cls ≠ 0) (hp : p -> st.mem (nid st.base d j) = Option.none) (hv : v.refs = [nid st.base d j]) (hq : Cl st -> ∀ id ∈ q.refs, (st.mem id).isSome = true) :
  Nice st d cls xs (.one v p [(nid st.base d j, q)]) :=
 ⟨rfl, fun _ p h => ⟨j, hj, by simp at h; rw [h]⟩, fun h _ p hm => by simp at hm; rw [hm]; exact hp h, fun _ h => (by rcases h with h | h <;> cases h), fun _ => rfl, fun h => (hc h).elim,
  fun _ _ id hid => .inr ⟨q, by rw [hv] at hid; simp at hid; simp [hid]⟩, fun hcl _ p hm id hid => .inl (by simp at hm; rw [hm] at hid; exact hq hcl id hid)⟩
theorem moveId_range (st : St) (d : Nat) : ∃ j, j < 16 /\ moveId st d = nid st.base d j := by
 unfold moveId
 split
 ·exact ⟨0, by omega, rfl⟩
 ·split
  ·exact ⟨14, by omega, rfl⟩
  ·exact ⟨13, by omega, rfl⟩
theorem nice_move {cls : Nat} {xs : List Operand} {ty : Nat} {x : Operand} {t : Tr} (hc : cls ≠ 0) (h : trMove tab st ty d x = some t) : Nice st d cls xs t := by
 unfold trMove at h
 split at h
 ·split at h
  ·injection h with h; subst h
   obtain ⟨j, hj, e⟩ := moveId_range st d
   rw [e]
   exact Nice.make1 hj hc (fun h => h) rfl fun _ id hid => by simp [Res.refs] at hid
  ·cases h
 ·injection h with h; subst h
  exact Nice.plain fun hcl id hid => ev_refs hcl x id hid
theorem nice_pick {cls : Nat} {xs : List Operand} {c x y : Operand} {t : Tr} (h : trPick st c x y = some t) : Nice st d cls xs t := by
 unfold trPick at h
 split at h
 ·injection h with h; subst h; exact Nice.plain fun hcl id hid => ev_refs hcl x id hid
 ·injection h with h; subst h; exact Nice.plain fun hcl id hid => ev_refs hcl y id hid
 ·cases h
theorem allFree_mem' {l : List (Nat × Res)} (h : allFree st l) : ∀ p ∈ l, st.mem p.1 = Option.none := by
 induction l with
 | nil => intro p hp; cases hp
 | cons q l ih =>
  intro p hp
  obtain ⟨k, r⟩ := q
  rcases List.mem_cons.1 hp with rfl | hp
  ·exact h.1
  ·exact ih h.2 p hp
theorem zero_refs {base : Nat} {k : TK} {r : Res} {l : List (Nat × Res)} (h : zeroOf base d k = some (r, l)) : (∀ id ∈ r.refs, ∃ q, (id, q) ∈ l) /\ ∀ p ∈ l, p.2.refs = [] := by
 unfold zeroOf at h
 split at h
 ·injection h with h; injection h with h1 h; subst h h1; exact ⟨by simp [Res.refs, refsL, CV.refs], by simp⟩
 ·injection h with h; injection h with h1 h; subst h h1; exact ⟨by simp [Res.refs, refsL, CV.refs], by simp [Res.refs]⟩
 ·injection h with h; injection h with h1 h; subst h h1
  refine ⟨fun id hid => zcells_refs _ _ id hid, fun p hp => ?_⟩
  obtain ⟨_, _, _, _, h4⟩ := zcells_range _ _ p hp
  exact h4
 ·injection h with h; injection h with h1 h; subst h h1; exact ⟨by simp [Res.refs], by simp⟩
 ·cases h
theorem nice_alloc {cls : Nat} {xs : List Operand} {ty : Nat} {t : Tr} (hs : TabSmall tab) (hc : cls ≠ 0) (h : trAlloc tab st ty d = some t) : Nice st d cls xs t := by
 unfold trAlloc at h
 split at h
 ·rename_i ti hti
  split at h
  ·rename_i r l hz
   injection h with h; subst h
   obtain ⟨z1, z2⟩ := zero_refs hz
   have zr := zeroOf_range hz (fun cks fs he => hs ty ti.sz ti.bytes cks fs (by rw [hti, ← he]))
   refine ⟨rfl, ?_, fun h _ => allFree_mem' h, fun _ h => (by rcases h with h | h <;> cases h), fun _ => rfl, fun h => (hc h).elim, ?_, ?_⟩
   ·intro _ p hp
    rcases List.mem_cons.1 hp with rfl | hp
    ·exact ⟨15, by omega, rfl⟩
    ·obtain ⟨i, h1, h2, _⟩ := zr p hp; exact ⟨i, by omega, h2⟩
   ·intro _ _ id hid
    simp [S.refs, S0.refs, CV.refs] at hid
    subst hid
    exact .inr ⟨r, List.mem_cons_self⟩
   ·intro _ _ p hp id hid
    rcases List.mem_cons.1 hp with rfl | hp
    ·obtain ⟨q, hq⟩ := z1 id hid; exact .inr ⟨q, List.mem_cons_of_mem _ hq⟩
    ·rw [z2 p hp] at hid; cases hid
  ·cases h
 ·cases h
theorem nice_box {cls : Nat} {xs : List Operand} {x : Operand} {t : Tr} (hc : cls ≠ 0) (h : trBox st d x = some t) : Nice st d cls xs t := by
 unfold trBox at h
 split at h
 ·cases h
 ·rename_i v _ hx
  injection h with h; subst h
  exact Nice.make1 (by omega) hc (fun h => h) rfl fun hcl id hid => ev_refs hcl x id (by rw [hx]; simpa [Res.refs, refsL, S.refs, S0.refs] using hid)
 ·rename_i vs hx
  injection h with h; subst h
  exact Nice.make1 (by omega) hc (fun h => h) rfl fun hcl id hid => ev_refs hcl x id (by rw [hx]; exact hid)
 ·injection h with h; subst h
  exact Nice.make1 (by omega) hc (fun h => h) rfl fun hcl id hid => by simp [Res.refs] at hid
 ·cases h
theorem nice_build {cls : Nat} {xs : List Operand} {ty : Nat} {ps : List (Nat × Operand)} {t : Tr} (hs : TabSmall tab) (hc : cls ≠ 0) (h : trBuild tab st ty d ps = some t) : Nice st d cls xs t := by
 unfold trBuild at h
 split at h
 ·rename_i a b cks fs hti
  split at h
  ·rename_i cs hcs
   injection h with h; subst h
   refine ⟨rfl, ?_, fun h _ => allFree_mem' h, fun _ h => (by rcases h with h | h <;> cases h), fun _ => rfl, fun h => (hc h).elim, ?_, ?_⟩
   ·intro _ p hp
    obtain ⟨i, _, h2, h3, _⟩ := zcells_range cks 0 p hp
    exact ⟨i, by have := hs ty a b cks fs hti; omega, h3⟩
   ·intro hcl _ id hid
    rcases fills_refs ps _ cs hcl hcs id hid with h1 | h1
    ·obtain ⟨q, hq⟩ := zcells_refs _ _ id h1; exact .inr ⟨q, hq⟩
    ·exact .inl h1
   ·intro _ _ p hp id hid
    obtain ⟨_, _, _, _, h4⟩ := zcells_range cks 0 p hp
    rw [h4] at hid; cases hid
  ·cases h
 ·split at h
  ·split at h
   ·injection h with h; subst h; exact Nice.plain fun _ id hid => by simp [S.refs, S0.refs] at hid
   ·split at h
    ·injection h with h; subst h; exact Nice.plain fun _ id hid => by simp [S.refs, S0.refs] at hid
    ·cases h
  ·cases h
 ·cases h
theorem cellsAt_refs {k : TK} {sz off : Nat} {cs : List CV} {s : S} (h : cellsAt k sz off cs = some s) : ∀ id ∈ s.refs, id ∈ refsL cs := by
 intro id hid
 have sub : ∀ (l : List CV) (a b : Nat), ∀ id ∈ refsL ((l.drop a).take b), id ∈ refsL l := by
  intro l a b id hid
  obtain ⟨c, hc, hi⟩ := refsL_mem hid
  have : c ∈ l := List.mem_of_mem_drop (List.mem_of_mem_take hc)
  obtain ⟨j, hj⟩ := List.getElem?_of_mem this
  exact mem_refsL hj hi
 unfold cellsAt at h
 split at h
 ·split at h
  ·injection h with h; subst h; exact sub _ _ _ id hid
  ·cases h
 ·cases h
 ·split at h
  ·rename_i v hv
   injection h with h; subst h
   exact mem_refsL hv (weak_refs _ id hid)
  ·cases h
theorem dcellsAt_refs {k : TK} {sz off : Nat} {cs : List DC} {s : S} (h : dcellsAt k sz off cs = some s) : s.refs = [] := by
 have := cellsAt_refs (h : cellsAt k sz off (cs.map .d) = some s)
 rw [refs_d] at this
 cases hs : s.refs with
 | nil => rfl
 | cons x l => have := this x (by rw [hs]; simp); cases this
theorem nice_load {cls : Nat} {xs : List Operand} {ty : Nat} {x : Operand} {t : Tr} (h : trLoad tab st ty x = some t) : Nice st d cls xs t := by
 have dmap : ∀ {k : TK} {sz off : Nat} {cs : List DC} {t : Tr}, (dcellsAt k sz off cs).map (fun v => Tr.one v) = some t -> Nice st d cls xs t := by
  intro k sz off cs t h
  cases hd : dcellsAt k sz off cs with
  | none => rw [hd] at h; cases h
  | some v => rw [hd] at h; injection h with h; subst h; exact Nice.plain fun _ id hid => by rw [dcellsAt_refs hd] at hid; cases hid
 unfold trLoad at h
 split at h
 ·rename_i ti id off hti hx
  split at h
  ·rename_i cs hm
   cases hc : cellsAt ti.k ti.sz off cs with
   | none => rw [hc] at h; cases h
   | some v => rw [hc] at h; injection h with h; subst h; exact Nice.plain fun hcl i hi => hcl.2 _ _ hm i (cellsAt_refs hc i hi)
  ·split at h
   ·injection h with h; subst h; exact Nice.plain fun _ id hid => by simp [S.refs, S0.refs] at hid
   ·cases h
  ·cases h
 ·split at h
  ·split at h
   ·exact dmap h
   ·cases h
  ·split at h
   ·exact dmap h
   ·cases h
  ·cases h
 ·exact dmap h
 ·split at h
  ·injection h with h; subst h; exact Nice.plain fun _ id hid => by simp [S.refs, S0.refs] at hid
  ·cases h
 ·cases h
end
end Go.SE

namespace Go.SE
section
variable {tab : TypeId -> Option TI} {K : FuncId -> Option Con} {st st' : St} {d : Nat}
theorem nice_nilCheck {cls : Nat} {xs : List Operand} {x : Operand} {t : Tr} (h : trNilCheck st x = some t) : Nice st d cls xs t := by
 unfold trNilCheck at h
 split at h
 case h_6 => cases h
 all_goals
  rename_i hx
  injection h with h; subst h
  exact Nice.plain fun hcl id hid => ev_refs hcl x id (by rw [hx]; exact hid)
theorem nice_map {α : Type} {cls : Nat} {xs : List Operand} {x : Option α} {f : α -> Tr} {t : Tr} (h : x.map f = some t) (hf : ∀ a, Nice st d cls xs (f a)) : Nice st d cls xs t := by
 cases x with
 | none => cases h
 | some a => injection h with h; subst h; exact hf a
theorem nice_bin {cls : Nat} {xs : List Operand} {op : BinOp} {ty : Nat} {x y : Operand} {t : Tr} (h : trBin tab st op ty x y = some t) : Nice st d cls xs t := by
 unfold trBin at h
 split at h
 ·split at h
  ·exact nice_map h fun _ => Nice.sv
  ·split at h
   ·exact nice_map h fun _ => Nice.sv
   ·cases h
 ·split at h
  ·injection h with h; subst h; exact Nice.sv
  ·injection h with h; subst h; exact Nice.sv
  ·cases h
 ·split at h
  ·injection h with h; subst h; exact Nice.sv
  ·injection h with h; subst h; exact Nice.sv
  ·injection h with h; subst h; exact Nice.sv
  ·cases h
 ·split at h
  ·split at h
   ·exact nice_map h fun _ => Nice.sv
   ·exact nice_map h fun _ => Nice.sv
   ·cases h
  ·cases h
 ·cases h
theorem nice_un {cls : Nat} {xs : List Operand} {op : UnOp} {x : Operand} {t : Tr} (h : trUn st op x = some t) : Nice st d cls xs t := by
 unfold trUn at h
 split at h
 ·injection h with h; subst h; exact Nice.sv
 ·injection h with h; subst h; exact Nice.sv
 ·cases h
theorem nice_convert {cls : Nat} {xs : List Operand} {s u : Nat} {x : Operand} {t : Tr} (h : trConvert tab st s u x = some t) : Nice st d cls xs t := by
 unfold trConvert at h
 split at h
 ·injection h with h; subst h; exact Nice.sv
 ·cases h
theorem nice_fieldAddr {cls : Nat} {xs : List Operand} {ty f : Nat} {x : Operand} {t : Tr} (h : trFieldAddr tab st ty x f = some t) : Nice st d cls xs t := by
 unfold trFieldAddr at h
 split at h
 ·split at h
  ·split at h
   case h_4 => cases h
   all_goals
    rename_i hx
    injection h with h; subst h
    exact Nice.plain fun hcl id hid => ev_refs hcl x id (by rw [hx]; exact hid)
  ·cases h
 ·cases h
theorem nice_field {cls : Nat} {xs : List Operand} {ty f : Nat} {x : Operand} {t : Tr} (h : trField tab st ty x f = some t) : Nice st d cls xs t := by
 unfold trField at h
 split at h
 ·split at h
  ·rename_i off sz vs _ hx
   split at h
   ·injection h with h; subst h
    refine Nice.plain fun hcl id hid => ev_refs hcl x id ?_
    rw [hx]
    obtain ⟨c, hc, hi⟩ := refsL_mem (show id ∈ refsL ((vs.drop off).take sz) from hid)
    obtain ⟨j, hj⟩ := List.getElem?_of_mem (List.mem_of_mem_drop (List.mem_of_mem_take hc))
    exact mem_refsL hj hi
   ·cases h
  ·rename_i off _ vs _ hx
   split at h
   ·rename_i v hv
    injection h with h; subst h
    refine Nice.plain fun hcl id hid => ev_refs hcl x id ?_
    rw [hx]
    exact mem_refsL hv hid
   ·cases h
  ·cases h
 ·cases h
theorem nice_indexAddr {cls : Nat} {xs : List Operand} {ty : Nat} {x i : Operand} {t : Tr} (h : trIndexAddr tab st ty x i = some t) : Nice st d cls xs t := by
 have own : ∀ {id : Nat} {off : Nat} {t : Ty} {k : Int} {p : Prop} {v : S}, ev st x = v -> id ∈ v.refs -> Nice st d cls xs (.one (.s (.c (.vp id t k off))) p) := by
  intro id off t k p v hx hi
  exact Nice.plain fun hcl j hj => by
   simp [S.refs, S0.refs, CV.refs] at hj
   subst hj
   exact ev_refs hcl x j (by rw [hx]; exact hi)
 unfold trIndexAddr at h
 split at h
 ·split at h
  ·split at h
   ·injection h with h; subst h; exact Nice.plain fun _ id hid => by simp [S.refs, S0.refs, CV.refs] at hid
   ·cases h
  ·rename_i id hx
   split at h
   ·split at h
    ·injection h with h; subst h; exact own hx (by simp [S.refs, S0.refs, CV.refs])
    ·cases h
   ·cases h
  ·cases h
 ·split at h
  ·rename_i id hx
   split at h
   ·split at h
    ·injection h with h; subst h; exact own hx (by simp [S.refs, S0.refs, CV.refs])
    ·cases h
   ·cases h
  ·split at h
   ·injection h with h; subst h; exact Nice.plain fun _ id hid => by simp [S.refs, S0.refs, CV.refs] at hid
   ·cases h
  ·cases h
 ·cases h
theorem nice_index {cls : Nat} {xs : List Operand} {ty : Nat} {x i : Operand} {t : Tr} (h : trIndex tab st ty x i = some t) : Nice st d cls xs t := by
 unfold trIndex at h
 split at h
 ·injection h with h; subst h; exact Nice.sv
 ·split at h
  ·split at h
   ·rename_i ys _ _
    cases hd : dcellsAt (.sc (.bool false)) 1 0 (Ty.cells _ (ys.getD _ _)) with
    | none => rw [hd] at h; cases h
    | some v => rw [hd] at h; injection h with h; subst h; exact Nice.plain fun _ id hid => by rw [dcellsAt_refs hd] at hid; cases hid
   ·cases h
  ·cases h
 ·cases h
theorem nice_makeSlice {cls : Nat} {xs : List Operand} {ty : Nat} {x y : Operand} {t : Tr} (hc : cls ≠ 0) (h : trMakeSlice tab st ty d x y = some t) : Nice st d cls xs t := by
 unfold trMakeSlice at h
 split at h
 ·injection h with h; subst h
  exact Nice.make1 (by omega) hc (fun h => h.1) rfl fun _ id hid => by simp [Res.refs] at hid
 ·cases h
theorem nice_extract {cls : Nat} {xs : List Operand} {x : Operand} {i : Nat} {t : Tr} (h : trExtract st x i = some t) : Nice st d cls xs t := by
 unfold trExtract at h
 split at h
 ·rename_i l hx
  split at h
  ·rename_i s hs
   injection h with h; subst h
   exact Nice.plain fun hcl id hid => ev_refs hcl x id (by rw [hx]; exact mem_refsT hs hid)
  ·cases h
 ·cases h
theorem nice_len {cls : Nat} {xs : List Operand} {ty : Nat} {x : Operand} {t : Tr} (h : trLen tab st ty x = some t) : Nice st d cls xs t := by
 unfold trLen at h
 split at h
 ·split at h
  ·injection h with h; subst h; exact Nice.sv
  ·cases h
 ·injection h with h; subst h; exact Nice.sv
 ·injection h with h; subst h; exact Nice.sv
 ·cases h
theorem nice_slice {xs : List Operand} {ty : Nat} {x : Operand} {lo hi : Option Operand} {t : Tr} (hx0 : x ∈ xs) (h : trSlice tab st ty x lo hi = some t) : Nice st d 5 xs t := by
 unfold trSlice at h
 split at h
 ·split at h
  ·injection h with h; subst h; exact Nice.sv
  ·cases h
 ·split at h
  ·split at h
   ·injection h with h; subst h; exact Nice.plain fun _ id hid => by simp [S.refs, S0.refs, CV.refs] at hid
   ·cases h
  ·rename_i id hx
   split at h
   ·split at h
    ·injection h with h; subst h
     refine ⟨rfl, fun _ _ h => (by cases h), fun _ _ _ h => (by cases h), ?_, fun _ => rfl, fun _ _ => rfl, fun _ _ id hid => by simp [S.refs, S0.refs, CV.refs] at hid, fun _ _ _ h => (by cases h)⟩
     intro i hi
     rcases hi with hi | hi
     ·cases hi
     ·simp at hi; subst hi; exact ⟨.inr ⟨rfl, rfl⟩, x, hx0, by rw [hx]; simp [S.refs, S0.refs, CV.refs]⟩
    ·cases h
   ·cases h
  ·cases h
 ·split at h
  ·rename_i id hx
   split at h
   ·split at h
    ·injection h with h; subst h
     refine ⟨rfl, fun _ _ h => (by cases h), fun _ _ _ h => (by cases h), ?_, fun _ => rfl, fun _ _ => rfl, fun _ _ id hid => by simp [S.refs, S0.refs, CV.refs] at hid, fun _ _ _ h => (by cases h)⟩
     intro i hi
     rcases hi with hi | hi
     ·cases hi
     ·simp at hi; subst hi; exact ⟨.inr ⟨rfl, rfl⟩, x, hx0, by rw [hx]; simp [S.refs, S0.refs, CV.refs]⟩
    ·cases h
   ·cases h
  ·cases h
 ·cases h
theorem nice_append {xs : List Operand} {ty : Nat} {x y : Operand} {t : Tr} (hx0 : x ∈ xs) (h : trAppend tab st ty d x y = some t) : Nice st d 3 xs t := by
 unfold trAppend at h
 split at h
 ·rename_i id v _ hx _
  split at h
  ·split at h
   ·injection h with h; subst h
    refine ⟨rfl, fun _ p h => ⟨0, by omega, by simp at h; rw [h]⟩, fun h _ p hm => by simp at hm; rw [hm]; exact h.1, ?_, fun _ => rfl, fun h => (by cases h), (fun _ _ i hi => by simp [S.refs, S0.refs, CV.refs] at hi; subst hi; exact .inr ⟨_, List.mem_cons_self⟩), ?_⟩
    ·intro i hi
     rcases hi with hi | hi
     ·simp at hi; subst hi; exact ⟨.inl rfl, x, hx0, by rw [hx]; simp [S.refs, S0.refs, CV.refs]⟩
     ·cases hi
    ·intro _ _ p hp i hi; simp at hp; rw [hp] at hi; simp [Res.refs] at hi
   ·cases h
  ·cases h
 ·cases h
theorem nice_buildSlice {cls : Nat} {xs : List Operand} {ty n : Nat} {ps : List (Nat × Operand)} {t : Tr} (hc : cls ≠ 0) (hps : ∀ p ∈ ps, p.2 ∈ xs) (hf : (∀ a b rw e t, tab ty = some ⟨a, b, .sl rw e t⟩ -> t.flat = true) ∨ cls = 3)
  (h : trBuildSlice tab st ty d n ps = some t) : Nice st d cls xs t := by
 unfold trBuildSlice at h
 split at h
 ·rename_i a b e t hti
  split at h
  ·rename_i ys ids he
   split at h
   ·injection h with h; subst h
    refine ⟨rfl, fun _ p h => ⟨0, by omega, by simp at h; rw [h]⟩, fun h _ p hm => by simp at hm; rw [hm]; exact h.1, ?_, fun _ => rfl, fun h => (hc h).elim, (fun _ _ i hi => by simp [S.refs, S0.refs, CV.refs] at hi; subst hi; exact .inr ⟨_, List.mem_cons_self⟩), ?_⟩
    ·intro i hi
     rcases hi with hi | hi
     ·cases hi
     ·rcases hf with hf | hf
      ·rw [elems_flat (hf _ _ _ _ _ hti) he] at hi; cases hi
      ·obtain ⟨p, hp, hr⟩ := elems_ids he i hi
       exact ⟨.inl hf, p.2, hps p hp, hr⟩
    ·intro _ _ p hp i hi; simp at hp; rw [hp] at hi; simp [Res.refs] at hi
   ·cases h
  ·cases h
 ·cases h
theorem ress_ids : ∀ (ks : List AK) (i : Nat) (r : Args ks), ∀ p ∈ (ress ks i r).2, p.1 ∈ rids ks i := by
 intro ks
 induction ks with
 | nil => intro i r p h; simp [ress] at h
 | cons k ks ih =>
  intro i r p h
  obtain ⟨x, xs⟩ := r
  simp only [ress, List.mem_append] at h
  simp only [rids, List.mem_append]
  rcases h with h | h
  ·left
   cases k <;> simp [AK.res] at h <;> simp [AK.rids] <;> first
    | (rcases h with h | h <;> simp [h]; done)
    | (simp [h]; done)
  ·exact .inr (ih _ _ p h)
theorem freeL_mem {l : List Nat} (h : freeL st l) : ∀ id ∈ l, st.mem id = none := by
 induction l with
 | nil => intro id hid; cases hid
 | cons x l ih => intro id hid; rcases List.mem_cons.1 hid with rfl | hid; exact h.1; exact ih h.2 id hid
theorem nice_call {cls : Nat} {xs : List Operand} {f : Nat} {args : List Operand} {t : Tr} (hxs : ∀ x ∈ args, x ∈ xs) (hc : ∀ con, K f = some con -> con.rks.length <= 7 /\ (nested con.rks = true -> cls = 3) /\ (hasRdr con.aks = true -> cls = 2) /\ cls ≠ 0)
  (h : trFn K st d f args = some t) : Nice st d cls xs t := by
 unfold trFn at h
 split at h
 ·rename_i ss hss
  unfold trCall at h
  split at h
  ·rename_i con hcon
   obtain ⟨c1, c2, c3, c4⟩ := hc con hcon
   have main : ∀ (fz : List Nat) (pre : Prop) , (pre -> freeL st (rids con.rks (nid st.base d 0))) -> (∀ id ∈ fz, cls = 3 /\ ∃ x ∈ xs, id ∈ (ev st x).refs) -> ∀ x,
     Nice st d cls xs { R := Args con.rks, pre, post := con.post x, val := fun r => pack1 (ress con.rks (nid st.base d 0) r).1, news := fun r => (ress con.rks (nid st.base d 0) r).2, fl := [], fz, wr := none, cost := costIf (hasRdr con.aks) (con.cost x), det := con.det x } := by
    intro fz pre hp hfz x
    refine ⟨rfl, ?_, ?_, ?_, ?_, fun h => (c4 h).elim, ?_, ?_⟩
    ·intro r p hm
     obtain ⟨h1, h2⟩ := rids_range _ _ p.1 (ress_ids _ _ _ p hm)
     exact ⟨p.1 - nid st.base d 0, by unfold nid at *; omega, by unfold nid at *; omega⟩
    ·intro h r p hm
     exact freeL_mem (hp h) p.1 (ress_ids _ _ _ p hm)
    ·intro id hid
     rcases hid with hid | hid
     ·cases hid
     ·exact ⟨.inl (hfz id hid).1, (hfz id hid).2⟩
    ·intro h2
     cases hh : hasRdr con.aks with
     | false => rfl
     | true => exact (h2 (c3 hh)).elim
    ·intro _ r id hid
     obtain ⟨q, hq⟩ := ress_refs _ _ _ id (pack1_refs _ id hid)
     exact .inr ⟨q, hq⟩
    ·intro _ r p hm id hid
     obtain ⟨_, _, f, t, xs, e⟩ := ress_range _ _ _ p.1 p.2 hm
     rw [e] at hid; cases hid
   split at h
   ·rename_i x hx
    split at h
    ·rename_i hnest
     split at h
     ·rename_i ids hids
      injection h with h; subst h
      refine main ids _ (fun h => h.2.2.2) ?_ x
      intro id hid
      rw [refsT_refsAr] at hids
      obtain ⟨rfl, _⟩ := ownsC_mem hids
      obtain ⟨y, hy, hr⟩ := argsS_refs2 hss id hid
      exact ⟨c2 hnest, y, hxs y hy, hr⟩
     ·cases h
    ·injection h with h; subst h
     exact main [] _ (fun h => h.2.2) (fun _ h => by cases h) x
   ·cases h
  ·cases h
 ·cases h
end
end Go.SE

namespace Go.SE
section
variable {tab : TypeId -> Option TI} {K : FuncId -> Option Con} {st st' : St} {o : Oper}
def opnds (o : Oper) : List Operand := o.op.operands.toList
theorem cls_call {f : FuncId} {args : Array Operand} {tys : Array TypeId} (ho : o.op = .call ⟨.value (.func f), args, tys⟩) (hc : clsOf K tab o ≠ 4) {con : Con} (hK : K f = some con) :
  con.rks.length <= 7 /\ (nested con.rks = true -> clsOf K tab o = 3) /\ (hasRdr con.aks = true -> clsOf K tab o = 2) /\ clsOf K tab o ≠ 0 := by
 have e : clsOf K tab o = if con.rks.length <= 7 then (if nested con.rks then (if hasRdr con.aks then 4 else 3) else if hasRdr con.aks then 2 else 1) else 4 := by
  simp only [clsOf, ho, hK]
 rw [e] at hc ⊢
 by_cases h1 : con.rks.length <= 7
 ·rw [if_pos h1] at hc ⊢
  cases h2 : nested con.rks <;> cases h3 : hasRdr con.aks <;> simp [h2, h3] at hc ⊢ <;> exact h1
 ·rw [if_neg h1] at hc; exact (hc rfl).elim
theorem cls_bs {ty : TypeId} {n : Nat} {ps : Array (Nat × Operand)} (ho : o.op = .buildSlice ty n ps) (hc : clsOf K tab o ≠ 4) : clsOf K tab o ≠ 0 /\ ((∀ a b rw e t, tab ty = some ⟨a, b, .sl rw e t⟩ -> t.flat = true) ∨ clsOf K tab o = 3) := by
 have e : clsOf K tab o = match tab ty with
  | some ⟨_, _, .sl _ _ t⟩ => if t.flat then 1 else 3
  | _ => 4 := by simp only [clsOf, ho] <;> rfl
 rw [e] at hc ⊢
 split
 ·rename_i a b rw e' t hti
  cases hf : t.flat with
  | true => exact ⟨by simp, .inl fun a' b' rw' e'' t' h => by rw [hti] at h; injection h with h; injection h with _ _ h; injection h with _ _ h; subst h; exact hf⟩
  | false => exact ⟨by simp, .inr (by simp)⟩
 ·rename_i hne
  split at hc
  ·rename_i a b rw e' t hti
   exact (hne _ _ _ _ _ hti).elim
  ·exact (hc rfl).elim
theorem trOp_ag (hs : TabSmall tab) (hc : clsOf K tab o ≠ 4) (hx : ∀ x ∈ opnds o, AgX st st' x) (hsf : clsOf K tab o = 3 -> ∀ x ∈ opnds o, AgS st st' x) (hs5 : clsOf K tab o = 5 -> ∀ x ∈ opnds o, ∀ id ∈ (ev st x).refs, st'.sp id = st.sp id) (hrd : clsOf K tab o = 2 -> st'.rd = st.rd) (hn : clsOf K tab o ≠ 0 -> AgN st st' (o.dst.getD 0)) :
  trOp tab K o st' = trOp tab K o st := by
 unfold opnds at hx hsf
 unfold trOp
 split
 case h_1 x ho => exact trMove_ag (hx x (by simp [ho, Op.operands])) (hn (by simp [clsOf, ho]))
 case h_2 x ho => exact trMove_ag (hx x (by simp [ho, Op.operands])) (hn (by simp [clsOf, ho]))
 case h_3 c x y ho => exact trPick_ag (hx c (by simp [ho, Op.operands])) (hx x (by simp [ho, Op.operands])) (hx y (by simp [ho, Op.operands]))
 case h_4 ty ho => exact trAlloc_ag hs (hn (by simp [clsOf, ho]))
 case h_5 ty x ho => exact trBox_ag (hx x (by simp [ho, Op.operands])) (hn (by simp [clsOf, ho]))
 case h_6 ty ps ho => exact trBuild_ag hs (fun p hp => hx p.2 (by simp only [ho, Op.operands]; exact List.mem_map.2 ⟨p, hp, rfl⟩)) (hn (by simp [clsOf, ho]))
 case h_7 ty k ps ho =>
  have hm : ∀ p ∈ ps.toList, p.2 ∈ o.op.operands.toList := fun p hp => by simp only [ho, Op.operands]; exact List.mem_map.2 ⟨p, hp, rfl⟩
  refine trBuildSlice_ag (fun p hp => hx p.2 (hm p hp)) (hn (cls_bs ho hc).1) ?_
  rcases (cls_bs ho hc).2 with h | h
  ·exact .inl h
  ·exact .inr fun p hp => hsf h p.2 (hm p hp)
 case h_8 ty x ho => exact trLoad_ag (hx x (by simp [ho, Op.operands]))
 case h_9 ty x v ho => exact (hc (by simp only [clsOf, ho])).elim
 case h_10 x ho => exact trNilCheck_ag (hx x (by simp [ho, Op.operands]))
 case h_11 op ty x y yt ho => exact trBin_ag (hx x (by simp [ho, Op.operands])) (hx y (by simp [ho, Op.operands]))
 case h_12 op ty x ho => exact trUn_ag (hx x (by simp [ho, Op.operands]))
 case h_13 s t x ho => exact trConvert_ag (hx x (by simp [ho, Op.operands]))
 case h_14 ty x f ho => exact trFieldAddr_ag (hx x (by simp [ho, Op.operands]))
 case h_15 ty x f ho => exact trField_ag (hx x (by simp [ho, Op.operands]))
 case h_16 ty x i ho => exact trIndexAddr_ag (hx x (by simp [ho, Op.operands])) (hx i (by simp [ho, Op.operands]))
 case h_17 ty x i ho => exact trIndex_ag (hx x (by simp [ho, Op.operands])) (hx i (by simp [ho, Op.operands]))
 case h_18 ty x lo hi ho =>
  have h3 : clsOf K tab o = 5 := by simp only [clsOf, ho]
  have hm : x ∈ opnds o := by simp [opnds, ho, Op.operands]
  refine trSlice_ag (hx x hm) (hs5 h3 x hm) (fun y hy => hx y (by simp [ho, Op.operands, hy])) (fun y hy => hx y (by simp [ho, Op.operands, hy]))
 case h_19 ty l c ho => exact trMakeSlice_ag (hx l (by simp [ho, Op.operands])) (hx c (by simp [ho, Op.operands])) (hn (by simp [clsOf, ho]))
 case h_20 x i ho => exact trExtract_ag (hx x (by simp [ho, Op.operands]))
 case h_21 f args tys ho =>
  have hm : ∀ x ∈ args.toList, x ∈ o.op.operands.toList := fun x hx => by simp only [ho, Op.operands, Call.operands]; simp; exact .inr (by simpa using hx)
  cases hKf : K f with
  | none => unfold trFn; rw [argsS_ag fun x h => hx x (hm x h)]; unfold trCall; rw [hKf]
  | some con0 =>
  refine trFn_ag (fun x h => hx x (hm x h)) (hn (cls_call ho hc hKf).2.2.2) fun con hK => ?_
  obtain ⟨c1, c2, c3, c4⟩ := cls_call ho hc hK
  exact ⟨c1, fun h x hxx => hsf (c2 h) x (hm x hxx), fun h => hrd (c3 h)⟩
 case h_22 args tys ho =>
  split
  ·rename_i x t h1 h2
   exact trLen_ag (hx x (by
    simp only [ho, Op.operands, Call.operands]
    simp
    have : x ∈ args.toList := by rw [h1]; simp
    simpa using this))
  ·rfl
 case h_23 args tys ho =>
  have h3 : clsOf K tab o = 3 := by simp only [clsOf, ho]
  split
  ·rename_i x y t u h1 h2
   have hm : ∀ z ∈ args.toList, z ∈ o.op.operands.toList := fun z hz => by simp only [ho, Op.operands, Call.operands]; simp; simpa using hz
   split
   ·exact trAppend_ag (hx x (hm x (by rw [h1]; simp))) (hx y (hm y (by rw [h1]; simp))) (hsf h3 x (hm x (by rw [h1]; simp))) (hn (by rw [h3]; simp))
   ·rfl
  ·rfl
 case h_24 args tys ho => exact (hc (by simp only [clsOf, ho])).elim
 case h_25 f first caps ho => exact (hc (by simp only [clsOf, ho])).elim
 case h_26 => rfl
theorem trOp_nice (hs : TabSmall tab) (hc : clsOf K tab o ≠ 4) {t : Tr} (htr : trOp tab K o st = some t) : Nice st (o.dst.getD 0) (clsOf K tab o) (opnds o) t := by
 unfold trOp at htr
 split at htr
 case h_1 x ho => exact nice_move (by simp [clsOf, ho]) htr
 case h_2 x ho => exact nice_move (by simp [clsOf, ho]) htr
 case h_3 c x y ho => exact nice_pick htr
 case h_4 ty ho => exact nice_alloc hs (by simp [clsOf, ho]) htr
 case h_5 ty x ho => exact nice_box (by simp [clsOf, ho]) htr
 case h_6 ty ps ho => exact nice_build hs (by simp [clsOf, ho]) htr
 case h_7 ty k ps ho =>
  obtain ⟨h1, h2⟩ := cls_bs ho hc
  exact nice_buildSlice h1 (fun p hp => by simp only [opnds, ho, Op.operands]; exact List.mem_map.2 ⟨p, hp, rfl⟩) h2 htr
 case h_8 ty x ho => exact nice_load htr
 case h_9 ty x v ho => exact (hc (by simp only [clsOf, ho])).elim
 case h_10 x ho => exact nice_nilCheck htr
 case h_11 op ty x y yt ho => exact nice_bin htr
 case h_12 op ty x ho => exact nice_un htr
 case h_13 s t x ho => exact nice_convert htr
 case h_14 ty x f ho => exact nice_fieldAddr htr
 case h_15 ty x f ho => exact nice_field htr
 case h_16 ty x i ho => exact nice_indexAddr htr
 case h_17 ty x i ho => exact nice_index htr
 case h_18 ty x lo hi ho =>
  have h3 : clsOf K tab o = 5 := by simp only [clsOf, ho]
  rw [h3]
  exact nice_slice (by simp [opnds, ho, Op.operands]) htr
 case h_19 ty l c ho => exact nice_makeSlice (by simp [clsOf, ho]) htr
 case h_20 x i ho => exact nice_extract htr
 case h_21 f args tys ho =>
  refine nice_call (args := args.toList) (fun x hx => ?_) (fun con hK => cls_call ho hc hK) htr
  simp only [opnds, ho, Op.operands, Call.operands]; simp; exact .inr (by simpa using hx)
 case h_22 args tys ho =>
  split at htr
  ·exact nice_len htr
  ·cases htr
 case h_23 args tys ho =>
  have h3 : clsOf K tab o = 3 := by simp only [clsOf, ho]
  rw [h3]
  split at htr
  ·rename_i x y t u h1 h2
   split at htr
   ·refine nice_append ?_ htr
    simp only [opnds, ho, Op.operands, Call.operands]
    simp
    have : x ∈ args.toList := by rw [h1]; simp
    simpa using this
   ·cases htr
  ·cases htr
 case h_24 args tys ho => exact (hc (by simp only [clsOf, ho])).elim
 case h_25 f first caps ho => exact (hc (by simp only [clsOf, ho])).elim
 case h_26 => cases htr
def Out (t : Tr) (r : t.R) : Prop := t.det = some r ∨ (t.det = none /\ t.post r)
theorem vcTr_iff {dst : Option Nat} {k : St -> Prop} {t : Tr} : vcTr dst st k (some t) ↔ t.pre /\ ∀ r, Out t r -> k (st.app dst t r) := by
 show (t.pre /\ vcDet (fun r => k (st.app dst t r)) t.post t.det) ↔ _
 unfold vcDet Out
 constructor
 ·rintro ⟨h1, h2⟩
  refine ⟨h1, fun r hr => ?_⟩
  split at h2
  ·rename_i r0 h0
   rcases hr with hr | ⟨hr, _⟩
   ·rw [h0] at hr; injection hr with hr; subst hr; exact h2
   ·rw [h0] at hr; cases hr
  ·rename_i h0
   rcases hr with hr | ⟨_, hr⟩
   ·rw [h0] at hr; cases hr
   ·exact h2 r hr
 ·rintro ⟨h1, h2⟩
  refine ⟨h1, ?_⟩
  split
  ·rename_i r0 h0; exact h2 r0 (.inl h0)
  ·rename_i h0; exact fun r hr => h2 r (.inr ⟨h0, hr⟩)
def KTot (K : FuncId -> Option Con) : Prop := ∀ f con, K f = some con -> ∀ x, con.pre x -> ∃ r, con.post x r
end
end Go.SE
