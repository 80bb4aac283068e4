/-
  Parts of a symbolic engine over the program's code: how operations, regions, loops and calls are shown to keep contracts. No conditions.
-/
import Derived.Test.YtfoioficiffgkaaEe
import Derived.Test.YtfoioficiffgkaaEd
set_option linter.unusedSimpArgs false
set_option linter.unusedVariables false
set_option linter.unusedSectionVars false

namespace Go.SE
open Go.RowKit
inductive Pth (L : List GAtom) (y : Int) : Int -> List GAtom -> Prop
 | last {x : GAtom} : x ∈ L -> x.b = y -> Pth L y x.a [x]
 | step {x : GAtom} {p : List GAtom} : x ∈ L -> x.b ≠ y -> Pth L y x.b p -> Pth L y x.a (x :: p)
def Opn (z : Int) (L : List GAtom) (y : Int) (p : List GAtom) : Prop := y = z ∨ (∃ x ∈ L, x.a = y) ∨ ∀ x ∈ p.dropLast, x.kind ≠ 2
def OkA (z : Int) (L : List GAtom) (g : GAtom) (p : List GAtom) : Prop := (g.kind = 1 /\ g ∈ L /\ p = [g]) ∨ (g.kind ≠ 1 /\ Pth L g.b g.a p /\ Opn z L g.b p)
structure MtF (z : Int) (L G : List GAtom) (f : GAtom -> List GAtom) : Prop where
 ok : ∀ g ∈ G, OkA z L g (f g)
 all : (G.flatMap f).Perm L
def MtS (z : Int) (L G : List GAtom) : Prop := ∃ f, MtF z L G f
structure Pos (z : Int) (L : List GAtom) : Prop where
 nz : ∀ x ∈ L, x.a ≠ z
 ap : L.Pairwise fun x y => x.a ≠ y.a
 kd : ∀ x ∈ L, x.kind ≠ 1 -> x.kind = 2
section
variable {z y q : Int} {L M G H : List GAtom} {p : List GAtom} {f : GAtom -> List GAtom} {g : GAtom}
theorem Pth.head (h : Pth L y q p) : ∃ x p', p = x :: p' /\ x.a = q /\ x ∈ L := by
 cases h with
 | last h1 h2 => exact ⟨_, _, rfl, rfl, h1⟩
 | step h1 h2 h3 => exact ⟨_, _, rfl, rfl, h1⟩
theorem Pth.ne (h : Pth L y q p) : p ≠ [] := by obtain ⟨x, p', rfl, _⟩ := h.head; simp
theorem Pth.sub (h : Pth L y q p) : ∀ x ∈ p, x ∈ L := by
 induction h with
 | last h1 h2 => intro x hx; rw [List.mem_singleton] at hx; rw [hx]; exact h1
 | step h1 h2 h3 ih =>
  intro x hx
  rcases List.mem_cons.1 hx with e | hx
  ·rw [e]; exact h1
  ·exact ih x hx
theorem Pth.mono (h : Pth L y q p) (hs : ∀ x ∈ L, x ∈ M) : Pth M y q p := by
 induction h with
 | last h1 h2 => exact .last (hs _ h1) h2
 | step h1 h2 h3 ih => exact .step (hs _ h1) h2 ih
theorem Pth.fin (h : Pth L y q p) : ∃ i x, p = i ++ [x] /\ x.b = y /\ i = p.dropLast := by
 induction h with
 | @last x h1 h2 => exact ⟨[], x, rfl, h2, rfl⟩
 | @step x p h1 h2 h3 ih =>
  obtain ⟨i, x', e, h, e2⟩ := ih
  refine ⟨x :: i, x', by rw [e]; rfl, h, ?_⟩
  rw [List.dropLast_cons_of_ne_nil h3.ne, e2]
theorem Pth.inner (h : Pth L y q p) {x : GAtom} (hx : x ∈ p) (hb : x.b ≠ y) : x ∈ p.dropLast := by
 obtain ⟨i, x', e, h1, e2⟩ := h.fin
 rw [← e2]
 rw [e] at hx
 rcases List.mem_append.1 hx with h | h
 ·exact h
 ·rw [List.mem_singleton] at h; rw [h] at hb; exact (hb h1).elim
theorem Pth.next (h : Pth L y q p) {x : GAtom} (hx : x ∈ p) (hb : x.b ≠ y) : ∃ x' ∈ p.tail, x'.a = x.b := by
 induction h with
 | last h1 h2 => rw [List.mem_singleton] at hx; rw [hx] at hb; exact (hb h2).elim
 | @step x0 p h1 h2 h3 ih =>
  rcases List.mem_cons.1 hx with rfl | hx
  ·obtain ⟨x', p', rfl, e, _⟩ := h3.head
   exact ⟨x', by simp, e⟩
  ·obtain ⟨x', h5, h6⟩ := ih hx
   exact ⟨x', List.mem_of_mem_tail h5, h6⟩
theorem Pth.cat {p2 : List GAtom} {y2 : Int} (h : Pth L y2 q p) (hn : ∀ x ∈ p, x.b ≠ y) (h2 : Pth L y y2 p2) : Pth L y q (p ++ p2) := by
 induction h with
 | last h1 e => subst e; exact .step h1 (hn _ (by simp)) h2
 | step h1 e h3 ih => exact .step h1 (hn _ (by simp)) (ih fun x hx => hn x (by simp [hx]))
theorem OkA.pth (h : OkA z L g p) : Pth L g.b g.a p := by
 rcases h with ⟨_, h1, rfl⟩ | ⟨_, h1, _⟩
 ·exact .last h1 rfl
 ·exact h1
theorem OkA.mono (h : OkA z L g p) (hs : ∀ x ∈ L, x ∈ M) : OkA z M g p := by
 rcases h with ⟨h0, h1, h2⟩ | ⟨h0, h1, h2⟩
 ·exact .inl ⟨h0, hs _ h1, h2⟩
 ·refine .inr ⟨h0, h1.mono hs, ?_⟩
  rcases h2 with h | ⟨x, hx, e⟩ | h
  ·exact .inl h
  ·exact .inr (.inl ⟨x, hs _ hx, e⟩)
  ·exact .inr (.inr h)
theorem pw_perm {l l' : List GAtom} (h : l.Perm l') : (l.Pairwise fun x y => x.a ≠ y.a) ↔ l'.Pairwise fun x y => x.a ≠ y.a := h.pairwise_iff fun h e => h e.symm
theorem MtF.used (h : MtF z L G f) (hL : Pos z L) : (G.flatMap f).Pairwise fun x y => x.a ≠ y.a := (pw_perm h.all).2 hL.ap
theorem MtF.parts (h : MtF z L G f) (hL : Pos z L) : (∀ g ∈ G, (f g).Pairwise fun x y => x.a ≠ y.a) /\ G.Pairwise fun g g' => ∀ x ∈ f g, ∀ x' ∈ f g', x.a ≠ x'.a := by
 have := h.used hL
 rw [List.pairwise_flatMap] at this
 exact this
theorem MtF.pos (h : MtF z L G f) (hL : Pos z L) (hk : ∀ x ∈ G, x.kind ≠ 1 -> x.kind = 2) : Pos z G := by
 obtain ⟨_, h2⟩ := h.parts hL
 refine ⟨fun g hg => ?_, h2.imp_of_mem fun {g g'} hg hg' h3 => ?_, hk⟩
 ·obtain ⟨x, p', _, e, hx⟩ := (h.ok g hg).pth.head
  rw [← e]; exact hL.nz x hx
 ·obtain ⟨x, p1, e1, a1, _⟩ := (h.ok g hg).pth.head
  obtain ⟨x', p2, e2, a2, _⟩ := (h.ok g' hg').pth.head
  rw [← a1, ← a2]
  exact h3 x (by rw [e1]; simp) x' (by rw [e2]; simp)
theorem MtF.own (h : MtF z L G f) (hL : Pos z L) {g' : GAtom} (hg : g ∈ G) (hg' : g' ∈ G) {x x' : GAtom} (hx : x ∈ f g) (hx' : x' ∈ f g') (e : x.a = x'.a) : g = g' := by
 obtain ⟨_, h2⟩ := h.parts hL
 have key : ∀ {l : List GAtom}, (l.Pairwise fun g g' => ∀ x ∈ f g, ∀ x' ∈ f g', x.a ≠ x'.a) -> g ∈ l -> g' ∈ l -> g = g' := by
  intro l hl h1 h2
  induction l with
  | nil => cases h1
  | cons a l ih =>
   rw [List.pairwise_cons] at hl
   rcases List.mem_cons.1 h1 with e1 | h3 <;> rcases List.mem_cons.1 h2 with e2 | h4
   ·rw [e1, e2]
   ·rw [e1] at hx; exact (hl.1 _ h4 x hx x' hx' e).elim
   ·rw [e2] at hx'; exact (hl.1 _ h3 x' hx' x hx e.symm).elim
   ·exact ih hl.2 h3 h4
 exact key h2 hg hg'
/-- no atom on a way inside ends at y, when y is where a way in G ends -/
theorem inner_ne (h : MtF z L G f) (hL : Pos z L) (hG : ∀ x ∈ G, x.kind ≠ 1 -> x.kind = 2) {p2 : List GAtom} (h2 : Pth G y q p2) (ho : Opn z G y p2) (hg : g ∈ p2) (hb : g.b ≠ y) : ∀ x ∈ f g, x.b ≠ y := by
 intro x hx e
 have hgG := h2.sub g hg
 have hok := h.ok g hgG
 have hpth := hok.pth
 obtain ⟨x', h3, h4⟩ := hpth.next hx (by rw [e]; exact hb.symm)
 have hx' : x' ∈ f g := List.mem_of_mem_tail h3
 have hL' : x' ∈ L := hpth.sub x' hx'
 rcases ho with ho | ⟨g', hg', ea⟩ | ho
 ·exact hL.nz x' hL' (by rw [h4, e, ho])
 ·obtain ⟨x2, p', e2, a2, m2⟩ := (h.ok g' hg').pth.head
  have hx2 : x2 ∈ f g' := by rw [e2]; simp
  have ee : x'.a = x2.a := by rw [h4, e, a2, ea]
  have := h.own hL hgG hg' hx' hx2 ee
  subst this
  have hpw := (h.parts hL).1 g hgG
  rw [e2, List.pairwise_cons] at hpw
  rw [e2] at h3
  exact hpw.1 x' h3 ee.symm
 ·have hk := ho g (h2.inner hg hb)
  rcases hok with ⟨_, _, e1⟩ | ⟨hk1, _, _⟩
  ·rw [e1, List.mem_singleton] at hx
   rw [hx] at e
   exact hb e
  ·exact hk (hG g hgG hk1)
theorem pth_cat (h : MtF z L G f) {p2 : List GAtom} (h2 : Pth G y q p2) (hn : ∀ g ∈ p2, g.b ≠ y -> ∀ x ∈ f g, x.b ≠ y) : Pth L y q (p2.flatMap f) := by
 induction h2 with
 | @last x h1 e =>
  have := (h.ok x h1).pth
  rw [e] at this
  simpa using this
 | @step x p h1 e h3 ih =>
  rw [List.flatMap_cons]
  exact (h.ok x h1).pth.cat (hn x (by simp) e) (ih fun g hg => hn g (by simp [hg]))
theorem opn_cat (h : MtF z L G f) (hL : Pos z L) (hG : ∀ x ∈ G, x.kind ≠ 1 -> x.kind = 2) {p2 : List GAtom} (h2 : Pth G y q p2) (ho : Opn z G y p2) : Opn z L y (p2.flatMap f) := by
 rcases ho with ho | ⟨g', hg', ea⟩ | ho
 ·exact .inl ho
 ·obtain ⟨x2, p', e2, a2, m2⟩ := (h.ok g' hg').pth.head
  exact .inr (.inl ⟨x2, m2, a2.trans ea⟩)
 ·obtain ⟨i, gl, e, eb, ei⟩ := h2.fin
  have hi : ∀ g ∈ i, f g = [g] /\ g.kind = 1 := fun g hg => by
   have hgG : g ∈ G := h2.sub g (by rw [e]; simp [hg])
   rcases h.ok g hgG with ⟨k1, _, e1⟩ | ⟨k1, _, _⟩
   ·exact ⟨e1, k1⟩
   ·exact (ho g (by rw [← ei]; exact hg) (hG g hgG k1)).elim
  have hflat : i.flatMap f = i := by
   have : ∀ l : List GAtom, (∀ g ∈ l, f g = [g]) -> l.flatMap f = l := by
    intro l hl
    induction l with
    | nil => rfl
    | cons a l ih => rw [List.flatMap_cons, hl a (by simp), ih fun g hg => hl g (by simp [hg])]; rfl
   exact this i fun g hg => (hi g hg).1
  have hglG : gl ∈ G := h2.sub gl (by rw [e]; simp)
  have hgl := h.ok gl hglG
  have hne : f gl ≠ [] := hgl.pth.ne
  have hdl : (p2.flatMap f).dropLast = i ++ (f gl).dropLast := by
   rw [e, List.flatMap_append, hflat]
   simp only [List.flatMap_cons, List.flatMap_nil, List.append_nil]
   rw [List.dropLast_append_of_ne_nil hne]
  rcases hgl with ⟨_, _, e1⟩ | ⟨_, _, ho2⟩
  ·refine .inr (.inr fun x hx => ?_)
   rw [hdl, e1] at hx
   simp only [List.dropLast_singleton, List.append_nil] at hx
   rw [(hi x hx).2]; decide
  ·rw [eb] at ho2
   rcases ho2 with h | h | h
   ·exact .inl h
   ·exact .inr (.inl h)
   ·refine .inr (.inr fun x hx => ?_)
    rw [hdl] at hx
    rcases List.mem_append.1 hx with hx | hx
    ·rw [(hi x hx).2]; decide
    ·exact h x hx
theorem mts_trans (hL : Pos z L) (hG : ∀ x ∈ G, x.kind ≠ 1 -> x.kind = 2) (h1 : MtS z L G) (h2 : MtS z G H) : MtS z L H := by
 obtain ⟨f, hf⟩ := h1
 obtain ⟨k, hk⟩ := h2
 refine ⟨fun h => (k h).flatMap f, fun h hh => ?_, ?_⟩
 ·rcases hk.ok h hh with ⟨k1, m1, e1⟩ | ⟨k1, p1, o1⟩
  ·show OkA z L h ((k h).flatMap f)
   rw [e1]
   simp only [List.flatMap_cons, List.flatMap_nil, List.append_nil]
   exact hf.ok h m1
  ·exact .inr ⟨k1, pth_cat hf p1 fun g hg hb => inner_ne hf hL hG p1 o1 hg hb, opn_cat hf hL hG p1 o1⟩
 ·show (H.flatMap fun h => (k h).flatMap f).Perm L
  rw [← List.flatMap_assoc]
  exact (hk.all.flatMap_right f).trans hf.all
theorem Pth.map {φ : GAtom -> GAtom} {n : Int -> Int} (ha : ∀ x ∈ L, (φ x).a = n x.a /\ (φ x).b = n x.b) (hy : ∀ x ∈ L, x.b ≠ y -> n x.b ≠ n y) (h : Pth L y q p) : Pth (L.map φ) (n y) (n q) (p.map φ) := by
 induction h with
 | @last x h1 e =>
  rw [← (ha x h1).1]
  exact .last (List.mem_map_of_mem h1) (by rw [(ha x h1).2, e])
 | @step x p h1 e h3 ih =>
  rw [← (ha x h1).1]
  rw [← (ha x h1).2] at ih
  exact .step (List.mem_map_of_mem h1) (by rw [(ha x h1).2]; exact hy x h1 e) ih
theorem mts_map {φ : GAtom -> GAtom} {n : Int -> Int} (hφ : ∀ x, φ x = ⟨x.kind, n x.a, n x.b⟩) (V : Int -> Prop) (hn : ∀ s t, V s -> V t -> n s = n t -> s = t) (hL : ∀ x ∈ L, V x.a /\ V x.b) (hG : ∀ x ∈ G, V x.a /\ V x.b) (hz : V z) (h : MtS z L G) : MtS (n z) (L.map φ) (G.map φ) := by
 obtain ⟨f, hf⟩ := h
 classical
 have inj : ∀ x ∈ G, ∀ x' ∈ G, φ x = φ x' -> x = x' := fun x hx x' hx' e => by
  rw [hφ, hφ] at e
  injection e with e1 e2 e3
  have h1 := hn _ _ (hG x hx).1 (hG x' hx').1 e2
  have h2 := hn _ _ (hG x hx).2 (hG x' hx').2 e3
  cases x; cases x'; simp_all
 let k : GAtom -> List GAtom := fun g => if h : ∃ x ∈ G, φ x = g then (f h.choose).map φ else []
 have hk : ∀ x ∈ G, k (φ x) = (f x).map φ := fun x hx => by
  have he : ∃ x' ∈ G, φ x' = φ x := ⟨x, hx, rfl⟩
  show (if h : ∃ x' ∈ G, φ x' = φ x then (f h.choose).map φ else []) = _
  rw [dif_pos he, inj _ he.choose_spec.1 _ hx he.choose_spec.2]
 refine ⟨k, fun g hg => ?_, ?_⟩
 ·obtain ⟨x, hx, rfl⟩ := List.mem_map.1 hg
  rw [hk x hx]
  rcases hf.ok x hx with ⟨k1, m1, e1⟩ | ⟨k1, p1, o1⟩
  ·exact .inl ⟨by rw [hφ]; exact k1, List.mem_map_of_mem m1, by rw [e1]; rfl⟩
  ·refine .inr ⟨by rw [hφ]; exact k1, ?_, ?_⟩
   ·have := p1.map (φ := φ) (n := n) (fun x _ => by rw [hφ]; exact ⟨rfl, rfl⟩) fun x' hx' hb e => hb (hn _ _ (hL x' hx').2 (hG x hx).2 e)
    rw [hφ x]
    exact this
   ·rw [hφ x]
    rcases o1 with o | ⟨x', hx', e⟩ | o
    ·exact .inl (congrArg n o)
    ·exact .inr (.inl ⟨φ x', List.mem_map_of_mem hx', by rw [hφ]; exact congrArg n e⟩)
    ·refine .inr (.inr fun x' hx' => ?_)
     rw [← List.map_dropLast] at hx'
     obtain ⟨x2, hx2, rfl⟩ := List.mem_map.1 hx'
     rw [hφ]; exact o x2 hx2
 ·have e : (G.map φ).flatMap k = (G.flatMap f).map φ := by
   rw [List.flatMap_map, List.map_flatMap, List.flatMap_def, List.flatMap_def, List.map_congr_left hk]
  rw [e]
  exact hf.all.map φ
end
end Go.SE

namespace Go.SE
open Go.RowKit
def sel : List GAtom -> List Bool -> List GAtom
 | x :: l, b :: u => cond b (x :: sel l u) (sel l u)
 | _, _ => []
def noHi (l : List GAtom) (u : List Bool) : Prop := ∀ i, l.length <= i -> u.getD i false = false
theorem noHi_tail {x : GAtom} {b : Bool} {l : List GAtom} {u : List Bool} (h : noHi (x :: l) (b :: u)) : noHi l u := fun i hi => by
 have := h (i + 1) (by simp; omega)
 simpa using this
theorem noHi_set {l : List GAtom} {u : List Bool} {i : Nat} (h : noHi l u) (hi : i < l.length) : noHi l (u.set i true) := fun j hj => by
 rw [List.getD_eq_getElem?_getD, List.getElem?_set_ne (by omega), ← List.getD_eq_getElem?_getD]
 exact h j hj
theorem sel_set : ∀ {l : List GAtom} {u : List Bool} {i : Nat}, i < l.length -> i < u.length -> u.getD i false = false -> (sel l (u.set i true)).Perm (l.getD i nA :: sel l u) := by
 intro l
 induction l with
 | nil => intro u i h; simp at h
 | cons x l ih =>
  intro u i h1 h2 h3
  cases u with
  | nil => simp at h2
  | cons b u =>
   cases i with
   | zero =>
    have : b = false := h3
    subst this
    exact .refl _
   | succ i =>
    have := ih (u := u) (i := i) (by simpa using h1) (by simpa using h2) (by simpa using h3)
    cases b
    ·exact this
    ·show (x :: sel l (u.set i true)).Perm (l.getD i nA :: x :: sel l u)
     exact (this.cons x).trans (.swap _ _ _)
theorem sel_cnt : ∀ {l : List GAtom} {u : List Bool}, noHi l u -> cnt u = ((sel l u).length : Nat) := by
 intro l
 induction l with
 | nil =>
  intro u h
  have : u.filter id = [] := by
   rw [List.filter_eq_nil_iff]
   intro b hb
   obtain ⟨i, hi, e⟩ := List.getElem_of_mem hb
   have := h i (by simp)
   rw [List.getD_eq_getElem?_getD, List.getElem?_eq_getElem hi, Option.getD_some, e] at this
   simp [this]
  unfold cnt
  rw [this]
  cases u <;> rfl
 | cons x l ih =>
  intro u h
  cases u with
  | nil => rfl
  | cons b u =>
   have := ih (noHi_tail h)
   unfold cnt at this ⊢
   cases b
   ·exact this
   ·simp only [sel, cond_true, List.filter_cons, id, if_true, List.length_cons]
    omega
theorem sel_sub : ∀ {l : List GAtom} {u : List Bool}, (sel l u).Sublist l := by
 intro l
 induction l with
 | nil => intro u; cases u <;> exact .slnil
 | cons x l ih =>
  intro u
  cases u with
  | nil => exact List.nil_sublist _
  | cons b u => cases b
                ·exact (ih (u := u)).cons x
                ·exact (ih (u := u)).cons_cons x
theorem sel_zero : ∀ {l : List GAtom} {u : List Bool}, (∀ b ∈ u, b = false) -> sel l u = [] := by
 intro l
 induction l with
 | nil => intro u _; cases u <;> rfl
 | cons x l ih =>
  intro u h
  cases u with
  | nil => rfl
  | cons b u =>
   rw [h b (by simp)] at *
   exact ih fun b' hb => h b' (by simp [hb])
theorem sel_get : ∀ {l : List GAtom} {u : List Bool} {i : Nat}, i < l.length -> u.getD i false = true -> l.getD i nA ∈ sel l u := by
 intro l
 induction l with
 | nil => intro u i h; simp at h
 | cons x l ih =>
  intro u i h1 h2
  cases u with
  | nil => simp at h2
  | cons b u =>
   cases i with
   | zero =>
    have : b = true := h2
    subst this
    simp [sel]
   | succ i =>
    have := ih (u := u) (i := i) (by simpa using h1) (by simpa using h2)
    cases b
    ·exact this
    ·exact List.mem_cons_of_mem _ this
section
variable {l g : List GAtom} {u : List Bool} {q y : Int} {x : GAtom}
theorem getD_memA {i : Nat} (h : i < l.length) : l.getD i nA ∈ l := by
 rw [List.getD_eq_getElem?_getD, List.getElem?_eq_getElem h]; exact List.getElem_mem h
theorem clB_iff : clB l y = true ↔ y = 0 ∨ ∃ x ∈ l, x.a = y := by
 unfold clB bgn
 rw [Bool.or_eq_true, beq_iff_eq, List.any_eq_true]
 exact or_congr_right ⟨fun ⟨x, h1, h2⟩ => ⟨x, h1, by simpa using h2⟩, fun ⟨x, h1, h2⟩ => ⟨x, h1, by simpa using h2⟩⟩
theorem opn_iff {p : List GAtom} : Opn 0 l y p ↔ clB l y = true ∨ ∀ x ∈ p.dropLast, x.kind ≠ 2 := by
 rw [clB_iff]; unfold Opn; rw [or_assoc]
theorem chn_fwd : ∀ (f : Nat) (u : List Bool) (q : Int) (us us' : List Int), u.length = 6 -> l.length <= 6 -> noHi l u -> (chn l y f u q us).2 = some us' ->
  ∃ p, Pth l y q p /\ Opn 0 l y p /\ (sel l (chn l y f u q us).1).Perm (p ++ sel l u) /\ noHi l (chn l y f u q us).1 := by
 intro f
 induction f with
 | zero => intro u q us us' _ _ _ h; cases h
 | succ f ih =>
  intro u q us us' hu hl hh h
  simp only [chn] at h ⊢
  cases hq : uaO l u q with
  | none => rw [hq] at h; cases h
  | some i =>
   rw [hq] at h
   obtain ⟨h1, h2, h3⟩ := uaO_spec hq
   have hm := getD_memA h1
   have hs := sel_set (u := u) h1 (by omega) h3
   simp only at h ⊢
   by_cases e1 : (l.getD i nA).b = y
   ·rw [if_pos e1] at h ⊢
    exact ⟨[l.getD i nA], h2 ▸ .last hm e1, opn_iff.2 (.inr fun x hx => by cases hx), hs, noHi_set hh h1⟩
   ·rw [if_neg e1] at h ⊢
    by_cases e2 : (l.getD i nA).kind = 2 /\ clB l y = false
    ·rw [if_pos e2] at h; cases h
    ·rw [if_neg e2] at h ⊢
     obtain ⟨p, h5, h6, h7, h8⟩ := ih (u.set i true) _ _ us' (by simpa using hu) hl (noHi_set hh h1) h
     refine ⟨l.getD i nA :: p, h2 ▸ .step hm e1 h5, ?_, ?_, h8⟩
     ·rw [opn_iff] at h6 ⊢
      rcases h6 with h6 | h6
      ·exact .inl h6
      ·by_cases hc : clB l y = true
       ·exact .inl hc
       ·refine .inr fun x hx => ?_
        rw [List.dropLast_cons_of_ne_nil h5.ne] at hx
        rcases List.mem_cons.1 hx with rfl | hx
        ·intro hk; exact e2 ⟨hk, by simpa using hc⟩
        ·exact h6 x hx
     ·refine h7.trans ?_
      rw [List.cons_append]
      exact (hs.append_left p).trans List.perm_middle
theorem mcF_fwd : ∀ (g : List GAtom) (u u' : List Bool), u.length = 6 -> l.length <= 6 -> noHi l u -> mcF l g u = some u' ->
  ∃ ps : List (List GAtom), ps.length = g.length /\ (∀ t ∈ g.zip ps, OkA 0 l t.1 t.2) /\ (sel l u').Perm (ps.flatten ++ sel l u) /\ noHi l u' := by
 intro g
 induction g with
 | nil =>
  intro u u' _ _ hh h
  injection h with h
  subst h
  exact ⟨[], rfl, (fun t ht => by cases ht), .refl _, hh⟩
 | cons x g ih =>
  intro u u' hu hl hh h
  simp only [mcF] at h
  cases hb : useB l u x with
  | false => rw [hb] at h; cases h
  | true =>
   rw [hb, cond_true] at h
   have key : ∃ p, OkA 0 l x p /\ (sel l (useU l u x)).Perm (p ++ sel l u) /\ noHi l (useU l u x) := by
    by_cases hk : x.kind = 1
    ·rw [(use_cell hk).1] at hb
     rw [(use_cell hk).2]
     unfold ucB at hb
     unfold ucU
     cases hq : ucO l u x with
     | none => rw [hq] at hb; cases hb
     | some i =>
      unfold ucO at hq
      cases hw : uaO l u x.a with
      | none => rw [hw] at hq; cases hq
      | some j =>
       rw [hw] at hq
       have hq : cond (decide (l.getD j nA = x)) (some j) none = some i := hq
       obtain ⟨h1, h2, h3⟩ := uaO_spec hw
       by_cases e : l.getD j nA = x
       ·rw [decide_eq_true e] at hq
        injection hq with hq
        subst hq
        have hm := getD_memA h1
        rw [e] at hm
        refine ⟨[x], .inl ⟨hk, hm, rfl⟩, ?_, noHi_set hh h1⟩
        have := sel_set (u := u) h1 (by omega) h3
        rw [e] at this
        exact this
       ·rw [decide_eq_false e] at hq; cases hq
    ·rw [(use_chain hk).1] at hb
     rw [(use_chain hk).2]
     unfold chB at hb
     unfold chU
     obtain ⟨us', hs⟩ := Option.isSome_iff_exists.1 hb
     obtain ⟨p, h1, h2, h3, h4⟩ := chn_fwd 7 u x.a [] us' hu hl hh hs
     exact ⟨p, .inr ⟨hk, h1, h2⟩, h3, h4⟩
   obtain ⟨p, h1, h2, h3⟩ := key
   obtain ⟨ps, h4, h5, h6, h7⟩ := ih (useU l u x) u' (useU_len.trans hu) hl h3 h
   refine ⟨p :: ps, by simp [h4], fun t ht => ?_, ?_, h7⟩
   ·rw [List.zip_cons_cons] at ht
    rcases List.mem_cons.1 ht with e | ht
    ·rw [e]; exact h1
    ·exact h5 t ht
   ·refine h6.trans ?_
    rw [List.flatten_cons]
    refine (h2.append_left _).trans ?_
    rw [← List.append_assoc]
    exact (List.perm_append_comm).append_right _
theorem zip_fun (hL : Pos 0 l) : ∀ {g : List GAtom} {ps : List (List GAtom)}, ps.length = g.length -> (∀ t ∈ g.zip ps, OkA 0 l t.1 t.2) -> (ps.flatten.Pairwise fun x y => x.a ≠ y.a) -> ∃ f : GAtom -> List GAtom, (∀ x ∈ g, OkA 0 l x (f x)) /\ g.flatMap f = ps.flatten /\ ∀ x ∈ g, ∃ y ∈ ps.flatten, y.a = x.a := by
 intro g
 induction g with
 | nil =>
  intro ps h _ _
  have : ps = [] := List.length_eq_zero_iff.1 h
  subst this
  exact ⟨fun _ => [], (fun x hx => by cases hx), rfl, (fun x hx => by cases hx)⟩
 | cons x g ih =>
  intro ps h1 h2 h3
  cases ps with
  | nil => cases h1
  | cons p ps =>
   rw [List.flatten_cons, List.pairwise_append] at h3
   rw [List.zip_cons_cons] at h2
   obtain ⟨f, hf, he, hs⟩ := ih (by simpa using h1) (fun t ht => h2 t (List.mem_cons_of_mem _ ht)) h3.2.1
   have hp : OkA 0 l x p := h2 (x, p) (by simp)
   obtain ⟨y, p', e, ea, _⟩ := hp.pth.head
   have hy : y ∈ p := by rw [e]; simp
   have hx : x ∉ g := fun hx => by
    obtain ⟨y', h4, h5⟩ := hs x hx
    exact h3.2.2 y hy y' h4 (ea.trans h5.symm)
   classical
   have e1 : ∀ x' ∈ g, (if x' = x then p else f x') = f x' := fun x' hx' => if_neg fun e => hx (by rw [← e]; exact hx')
   refine ⟨fun x' => if x' = x then p else f x', fun x' hx' => ?_, ?_, fun x' hx' => ?_⟩
   ·rcases List.mem_cons.1 hx' with rfl | hx'
    ·show OkA 0 l x' (if x' = x' then p else f x')
     rw [if_pos rfl]; exact hp
    ·show OkA 0 l x' (if x' = x then p else f x')
     rw [e1 x' hx']; exact hf x' hx'
   ·rw [List.flatMap_cons, List.flatten_cons, if_pos rfl, ← he, List.flatMap_def, List.flatMap_def, List.map_congr_left e1]
   ·rcases List.mem_cons.1 hx' with rfl | hx'
    ·exact ⟨y, by simp [hy], ea⟩
    ·obtain ⟨y', h4, h5⟩ := hs x' hx'
     exact ⟨y', by rw [List.flatten_cons]; simp [h4], h5⟩
theorem u0_noHi : noHi l u0 := fun i _ => by
 match i with
 | 0 => rfl
 | 1 => rfl
 | 2 => rfl
 | 3 => rfl
 | 4 => rfl
 | 5 => rfl
 | i + 6 => rfl
theorem u0_sel : sel l u0 = [] := sel_zero fun b hb => by
 unfold u0 six at hb
 simp only [List.mem_cons, List.not_mem_nil, or_false, or_self] at hb
 exact hb
theorem mcM_fwd (hL : Pos 0 l) (hl : l.length <= 6) (h : mcM l g = true) : MtS 0 l g := by
 unfold mcM at h
 cases hm : mcF l g u0 with
 | none => rw [hm] at h; cases h
 | some u =>
  rw [hm] at h
  obtain ⟨ps, h1, h2, h3, h4⟩ := mcF_fwd g u0 u rfl hl u0_noHi hm
  rw [u0_sel, List.append_nil] at h3
  have hc : cnt u = (l.length : Nat) := by simpa using h
  rw [sel_cnt h4] at hc
  have he : sel l u = l := sel_sub.eq_of_length (by omega)
  rw [he] at h3
  obtain ⟨f, hf, e, _⟩ := zip_fun hL h1 h2 ((pw_perm h3).1 hL.ap)
  exact ⟨f, hf, by rw [e]; exact h3.symm⟩
theorem find_at (hL : Pos 0 l) {R : List GAtom} (hp : (sel l u ++ x :: R).Perm l) : ∃ i, uaO l u x.a = some i /\ i < l.length /\ l.getD i nA = x /\ u.getD i false = false := by
 have hx : x ∈ l := hp.mem_iff.1 (by simp)
 obtain ⟨i, hi, e⟩ := List.getElem_of_mem hx
 have eD : l.getD i nA = x := by rw [List.getD_eq_getElem?_getD, List.getElem?_eq_getElem hi, Option.getD_some, e]
 have hu : u.getD i false = false := by
  cases hb : u.getD i false with
  | false => rfl
  | true =>
   have hm := sel_get hi hb
   rw [eD] at hm
   have := (pw_perm hp).2 hL.ap
   rw [List.pairwise_append] at this
   exact (this.2.2 x hm x (by simp) rfl).elim
 refine ⟨i, ?_, hi, eD, hu⟩
 unfold uaO
 rw [List.find?_range_eq_some]
 refine ⟨by unfold uaP; rw [eD, hu]; simp, List.mem_range.2 hi, fun j hj => ?_⟩
 have hjl : j < l.length := by omega
 have hne := List.pairwise_iff_getElem.1 hL.ap j i hjl hi hj
 rw [e] at hne
 unfold uaP
 have : l.getD j nA = l[j] := by rw [List.getD_eq_getElem?_getD, List.getElem?_eq_getElem hjl, Option.getD_some]
 rw [this, beq_eq_false_iff_ne.2 hne]
 rfl
theorem chn_bwd (hL : Pos 0 l) {p : List GAtom} (hp : Pth l y q p) : ∀ (f : Nat) (u : List Bool) (us : List Int) (R : List GAtom), u.length = 6 -> l.length <= 6 -> noHi l u -> p.length <= f -> Opn 0 l y p -> (sel l u ++ (p ++ R)).Perm l ->
  (chn l y f u q us).2.isSome = true /\ (sel l (chn l y f u q us).1).Perm (sel l u ++ p) /\ noHi l (chn l y f u q us).1 := by
 induction hp with
 | @last x h1 e =>
  intro f u us R hu hl hh hf _ hr
  obtain ⟨i, h2, h3, h4, h5⟩ := find_at (x := x) (R := R) hL hr
  have hs := sel_set (u := u) h3 (by omega) h5
  cases f with
  | zero => simp at hf
  | succ f =>
   simp only [chn]
   rw [h2]
   simp only
   rw [if_pos (by rw [h4]; exact e)]
   rw [h4] at hs
   exact ⟨rfl, hs.trans (List.perm_append_singleton _ _).symm, noHi_set hh h3⟩
 | @step x p h1 e h3 ih =>
  intro f u us R hu hl hh hf ho hr
  obtain ⟨i, h2, h3', h4, h5⟩ := find_at (x := x) (R := p ++ R) hL (by simpa using hr)
  have hs := sel_set (u := u) h3' (by omega) h5
  cases f with
  | zero => simp at hf
  | succ f =>
   simp only [chn]
   rw [h2]
   simp only
   rw [if_neg (by rw [h4]; exact e)]
   rw [h4] at hs ⊢
   have ho' := opn_iff.1 ho
   rw [List.dropLast_cons_of_ne_nil h3.ne] at ho'
   rw [if_neg (fun ⟨k1, k2⟩ => ho'.elim (fun h => by rw [k2] at h; cases h) fun h => h x (by simp) k1)]
   have ho2 : Opn 0 l y p := opn_iff.2 (ho'.imp id fun h x' hx' => h x' (by simp [hx']))
   have hr2 : (sel l (u.set i true) ++ (p ++ R)).Perm l := by
    refine .trans ?_ hr
    refine (hs.append_right _).trans ?_
    simp only [List.cons_append]
    exact List.perm_middle.symm
   obtain ⟨a1, a2, a3⟩ := ih f (u.set i true) (us ++ [(i : Int)]) R (by simpa using hu) hl (noHi_set hh h3') (by simpa using hf) ho2 hr2
   refine ⟨a1, a2.trans ?_, a3⟩
   refine (hs.append_right _).trans ?_
   simp only [List.cons_append]
   exact List.perm_middle.symm
theorem mcF_bwd (hL : Pos 0 l) {f : GAtom -> List GAtom} : ∀ (g : List GAtom) (u : List Bool), u.length = 6 -> l.length <= 6 -> noHi l u -> (∀ x ∈ g, OkA 0 l x (f x)) -> (sel l u ++ g.flatMap f).Perm l ->
  ∃ u', mcF l g u = some u' /\ (sel l u').Perm l /\ noHi l u' := by
 intro g
 induction g with
 | nil =>
  intro u _ _ hh _ hp
  exact ⟨u, rfl, by simpa using hp, hh⟩
 | cons x g ih =>
  intro u hu hl hh hf hp
  rw [List.flatMap_cons] at hp
  have key : useB l u x = true /\ (sel l (useU l u x)).Perm (sel l u ++ f x) /\ noHi l (useU l u x) := by
   rcases hf x (by simp) with ⟨k1, m1, e1⟩ | ⟨k1, p1, o1⟩
   ·rw [(use_cell k1).1, (use_cell k1).2]
    rw [e1] at hp ⊢
    obtain ⟨i, h2, h3, h4, h5⟩ := find_at (x := x) (R := g.flatMap f) hL hp
    have hq : ucO l u x = some i := by
     unfold ucO
     rw [h2]
     show cond (decide (l.getD i nA = x)) (some i) none = some i
     rw [decide_eq_true h4]; rfl
    unfold ucB ucU
    rw [hq]
    have hs := sel_set (u := u) h3 (by omega) h5
    rw [h4] at hs
    exact ⟨rfl, hs.trans (List.perm_append_singleton _ _).symm, noHi_set hh h3⟩
   ·rw [(use_chain k1).1, (use_chain k1).2]
    have hlen : (f x).length <= 7 := by
     have := hp.length_eq
     simp only [List.length_append] at this
     omega
    exact chn_bwd hL p1 7 u [] (g.flatMap f) hu hl hh hlen o1 hp
  obtain ⟨h1, h2, h3⟩ := key
  obtain ⟨u', h4, h5, h6⟩ := ih (useU l u x) (useU_len.trans hu) hl h3 (fun x' hx' => hf x' (by simp [hx'])) ((h2.append_right _).trans (by rw [List.append_assoc]; exact hp))
  refine ⟨u', ?_, h5, h6⟩
  simp only [mcF]
  rw [h1, cond_true, h4]
theorem mcM_bwd (hL : Pos 0 l) (hl : l.length <= 6) (h : MtS 0 l g) : mcM l g = true := by
 obtain ⟨f, hf⟩ := h
 obtain ⟨u', h1, h2, h3⟩ := mcF_bwd hL g u0 rfl hl u0_noHi hf.ok (by rw [u0_sel]; exact hf.all)
 unfold mcM
 rw [h1]
 have := sel_cnt h3
 have e := h2.length_eq
 simp only [beq_iff_eq]
 omega
theorem mcM_iff (hL : Pos 0 l) (hl : l.length <= 6) : mcM l g = true ↔ MtS 0 l g := ⟨mcM_fwd hL hl, mcM_bwd hL hl⟩
end
end Go.SE

namespace Go.SE
open Go.RowKit
section
variable {a : GAsn} {i : Nat}
end
end Go.SE

namespace Go.SE
open Go.RowKit
section
variable {a : GAsn} {i n : Nat}
abbrev cL (a : GAsn) : List (List Int) := cond (asV a) (casesF a) []
theorem cL_mem {c : List Int} (h : c ∈ cL a) : asV a = true /\ c ∈ casesF a := by
 unfold cL at h
 cases ha : asV a with
 | false => rw [ha] at h; cases h
 | true => rw [ha] at h; exact ⟨rfl, h⟩
theorem case_r {c : List Int} (h : c ∈ cL a) {t : Nat} (ht : t < 9) (hh : hz a (fun _ => false) t = true) : ∃ k : Nat, c.getD t 0 = (k : Int) /\ k <= t /\ c.getD k 0 = (k : Int) := by
 obtain ⟨ha, hc⟩ := cL_mem h
 unfold casesF at hc
 rw [casesB_eq (hz_named ha _)] at hc
 exact fEn_root _ 9 0 (List.replicate 9 0) c (by simp) (List.mem_filter.1 hc).1 t (by omega) (by simpa using ht) hh
theorem case_p {c : List Int} (h : c ∈ cL a) : possV a (cl c) := by
 obtain ⟨ha, hc⟩ := cL_mem h
 unfold casesF at hc
 rw [casesB_eq (hz_named ha _)] at hc
 obtain ⟨h1, h2⟩ := List.mem_filter.1 hc
 exact (possI_iff (hz_named ha _) h1 rfl).1 h2
end
end Go.SE

namespace Go.SE
open Go.RowKit
end Go.SE

namespace Go.SE
open Go.RowKit
section
variable {s : GState} {a : GAsn} {f : GFact} {x t : Int}
end
end Go.SE

namespace Go.SE
open Go.RowKit
section
variable {c : List Int}
theorem mdV_bd : ∀ (i : Nat), i <= 8 -> ∀ j, 0 <= (mdV c i).1.getD j 0 /\ (mdV c i).1.getD j 0 <= i := by
 intro i
 induction i with
 | zero =>
  intro _ j
  show 0 <= (List.replicate 8 (0 : Int)).getD j 0 /\ (List.replicate 8 (0 : Int)).getD j 0 <= 0
  rw [List.getD_eq_getElem?_getD, List.getElem?_replicate]
  split <;> simp
 | succ i ih =>
  intro hi j
  have hl := mdV_len c i
  have hn := mdV_n c i
  have h0 := ih (by omega) j
  simp only [mdV]
  cases (cl c ((i + 1 : Nat) : Int) == ((i + 1 : Nat) : Int)) with
  | true =>
   simp only [cond_true]
   by_cases e : j = i
   ·subst e; rw [getD_set_eq (by omega)]; omega
   ·rw [getD_set_ne e]; omega
  | false =>
   cases decide (0 < cl c ((i + 1 : Nat) : Int)) with
   | true =>
    simp only [cond_true, cond_false]
    by_cases e : j = i
    ·subst e
     rw [getD_set_eq (by omega)]
     have := ih (by omega) (cl c ((j + 1 : Nat) : Int) - 1).toNat
     omega
    ·rw [getD_set_ne e]; omega
   | false => simp only [cond_false]; omega
theorem mdV_at {i j : Nat} (h : j < i) (hi : i <= 8) : (mdV c i).1.getD j 0 = (mdV c (j + 1)).1.getD j 0 := by
 induction i with
 | zero => omega
 | succ i ih =>
  by_cases e : j = i
  ·subst e; rfl
  ·rw [← ih (by omega) (by omega)]
   simp only [mdV]
   cases (cl c ((i + 1 : Nat) : Int) == ((i + 1 : Nat) : Int)) with
   | true => simp only [cond_true]; rw [getD_set_ne e]
   | false =>
    cases decide (0 < cl c ((i + 1 : Nat) : Int)) with
    | true => simp only [cond_true, cond_false]; rw [getD_set_ne e]
    | false => rfl
theorem mdV_late : ∀ (i j : Nat), i <= j -> (mdV c i).1.getD j 0 = 0 := by
 intro i
 induction i with
 | zero =>
  intro j _
  show (List.replicate 8 (0 : Int)).getD j 0 = 0
  rw [List.getD_eq_getElem?_getD, List.getElem?_replicate]
  split <;> rfl
 | succ i ih =>
  intro j hj
  have e : j ≠ i := by omega
  have h0 := ih j (by omega)
  simp only [mdV]
  cases (cl c ((i + 1 : Nat) : Int) == ((i + 1 : Nat) : Int)) with
  | true => simp only [cond_true]; rw [getD_set_ne e]; exact h0
  | false =>
   cases decide (0 < cl c ((i + 1 : Nat) : Int)) with
   | true => simp only [cond_true, cond_false]; rw [getD_set_ne e]; exact h0
   | false => exact h0
theorem mdV_up : ∀ (i d : Nat), (mdV c i).2 <= (mdV c (i + d)).2 := by
 intro i d
 induction d with
 | zero => exact Int.le_refl _
 | succ d ih =>
  refine Int.le_trans ih ?_
  rw [show i + (d + 1) = (i + d) + 1 by omega]
  simp only [mdV]
  cases (cl c ((i + d + 1 : Nat) : Int) == ((i + d + 1 : Nat) : Int)) with
  | true => simp only [cond_true]; omega
  | false => cases decide (0 < cl c ((i + d + 1 : Nat) : Int)) <;> simp
theorem mdV_root {j : Nat} (hj : j < 8) (h : c.getD (j + 1) 0 = (j : Int) + 1) : (mdV c 8).1.getD j 0 = (mdV c j).2 + 1 /\ (mdV c (j + 1)).2 = (mdV c j).2 + 1 := by
 rw [mdV_at hj (by omega), mdV_eq h]
 exact ⟨getD_set_eq (by rw [mdV_len]; exact hj), rfl⟩
theorem mdV_inj {j k : Nat} (hj : j < k) (hk : k < 8) (h1 : c.getD (j + 1) 0 = (j : Int) + 1) (h2 : c.getD (k + 1) 0 = (k : Int) + 1) : (mdV c 8).1.getD j 0 < (mdV c 8).1.getD k 0 := by
 rw [(mdV_root (by omega) h1).1, (mdV_root hk h2).1]
 have := mdV_up (c := c) (j + 1) (k - (j + 1))
 rw [show j + 1 + (k - (j + 1)) = k by omega, (mdV_root (by omega) h1).2] at this
 omega
theorem mdV_cls {t : Nat} (ht : t < 9) (h0 : c.getD 0 0 = 0) (hr : ∃ k : Nat, c.getD t 0 = (k : Int) /\ k <= t /\ c.getD k 0 = (k : Int)) : tv (mdV c 8).1 (t : Int) = tv (mdV c 8).1 (c.getD t 0) := by
 obtain ⟨k, e1, e2, e3⟩ := hr
 rw [e1]
 by_cases e : k = t
 ·rw [e]
 ·obtain ⟨j, rfl⟩ : ∃ j, t = j + 1 := ⟨t - 1, by omega⟩
  have hne : ¬ c.getD (j + 1) 0 = (j : Int) + 1 := by rw [e1]; omega
  have l1 : tv (mdV c 8).1 ((j + 1 : Nat) : Int) = (mdV c 8).1.getD j 0 := by
   unfold tv; rw [if_neg (by omega), show (((j + 1 : Nat) : Int) - 1).toNat = j by omega]
  rw [l1, mdV_at (by omega) (by omega)]
  by_cases ek : k = 0
  ·subst ek
   rw [mdV_no hne (by rw [e1]; omega), mdV_late j j (Nat.le_refl _)]; rfl
  ·rw [mdV_lt hne (by rw [e1]; omega), getD_set_eq (by rw [mdV_len]; omega), e1]
   unfold tv
   rw [if_neg (by omega), show ((k : Int) - 1).toNat = k - 1 by omega, mdV_at (i := j) (by omega) (by omega), mdV_at (i := 8) (by omega) (by omega)]
theorem mdV_eq_iff {k m : Nat} (hk : k < 9) (hm : m < 9) (h1 : c.getD k 0 = (k : Int)) (h2 : c.getD m 0 = (m : Int)) : tv (mdV c 8).1 (k : Int) = tv (mdV c 8).1 (m : Int) ↔ k = m := by
 constructor
 ·intro e
  have pos : ∀ q : Nat, q ≠ 0 -> q < 9 -> c.getD q 0 = (q : Int) -> tv (mdV c 8).1 (q : Int) = (mdV c 8).1.getD (q - 1) 0 /\ 1 <= (mdV c 8).1.getD (q - 1) 0 := fun q q0 q9 hq => by
   refine ⟨by unfold tv; rw [if_neg (by omega), show ((q : Int) - 1).toNat = q - 1 by omega], ?_⟩
   exact (mdV_pos c 8 (q - 1) (by omega) (Nat.le_refl _) (by unfold cl; rw [show ((q - 1 + 1 : Nat) : Int) = (q : Int) by omega]; simpa using hq)).1
  have z : tv (mdV c 8).1 ((0 : Nat) : Int) = 0 := rfl
  by_cases k0 : k = 0
  ·by_cases m0 : m = 0
   ·rw [k0, m0]
   ·have := pos m m0 hm h2
    rw [k0, z] at e; omega
  ·by_cases m0 : m = 0
   ·have := pos k k0 hk h1
    rw [m0, z] at e; omega
   ·have p1 := pos k k0 hk h1
    have p2 := pos m m0 hm h2
    rw [p1.1, p2.1] at e
    rcases Nat.lt_trichotomy k m with h | h | h
    ·have := mdV_inj (c := c) (j := k - 1) (k := m - 1) (by omega) (by omega) (by rw [show k - 1 + 1 = k by omega]; omega) (by rw [show m - 1 + 1 = m by omega]; omega)
     omega
    ·exact h
    ·have := mdV_inj (c := c) (j := m - 1) (k := k - 1) (by omega) (by omega) (by rw [show m - 1 + 1 = m by omega]; omega) (by rw [show k - 1 + 1 = k by omega]; omega)
     omega
 ·intro e; rw [e]
end
section
variable {V : List Int}
theorem mdS_other {n : Int} (h1 : 1 <= n) : ∀ (l : List GAtom) (h : List Int), (∀ x ∈ l, 1 <= tv V x.a /\ tv V x.a ≠ n) -> (l.foldl (mdS V) h).getD (n - 1).toNat 0 = h.getD (n - 1).toNat 0 := by
 intro l
 induction l with
 | nil => intro h _; rfl
 | cons x l ih =>
  intro h hx
  rw [List.foldl_cons, ih _ fun y hy => hx y (by simp [hy])]
  have := hx x (by simp)
  unfold mdS
  exact getD_set_ne (by omega)
theorem mdS_hit : ∀ (l : List GAtom) (h : List Int), h.length = 8 -> (∀ x ∈ l, 1 <= tv V x.a /\ tv V x.a <= 8) -> (l.Pairwise fun x y => tv V x.a ≠ tv V y.a) -> ∀ x ∈ l, (l.foldl (mdS V) h).getD (tv V x.a - 1).toNat 0 = tv V x.b := by
 intro l
 induction l with
 | nil => intro h _ _ _ x hx; cases hx
 | cons y l ih =>
  intro h hl hb hp x hx
  obtain ⟨p1, p2⟩ := List.pairwise_cons.1 hp
  rw [List.foldl_cons]
  rcases List.mem_cons.1 hx with rfl | hx
  ·have hbx := hb x (by simp)
   rw [mdS_other hbx.1 l _ fun z hz => ⟨(hb z (by simp [hz])).1, fun e => p1 z hz e.symm⟩]
   unfold mdS
   exact getD_set_eq (by omega)
  ·exact ih _ (by simp [mdS, hl]) (fun z hz => hb z (by simp [hz])) p2 x hx
end
section
variable {s : GState}
theorem walk_same (q : Int) : walk s q 8 q = some [] := by simp [walk]
theorem walk_one {p q : Int} (h : ¬ p = q) (hc : ct s p = q) (h0 : 0 <= q) : walk s q 8 p = some [p] := by
 have ha : al s p = true := by unfold al; rw [hc]; exact decide_eq_true h0
 show (if p = q then some [] else cond (al s p) ((walk s q 7 (ct s p)).map (p :: ·)) none) = some [p]
 rw [if_neg h, ha, hc]
 have : walk s q 7 q = some [] := by simp [walk]
 rw [this]; rfl
theorem pt_md : ∀ (l : List GAtom) (L : List Int), l.all atV = true -> (∀ x ∈ filt (tv s.vals) l, ct s (tv s.vals x.a) = tv s.vals x.b /\ 0 <= tv s.vals x.b /\ tv s.vals x.a ∉ L) -> ((filt (tv s.vals) l).Pairwise fun x y => tv s.vals x.a ≠ tv s.vals y.a) ->
  ptO s L l = some (L ++ (filt (tv s.vals) l).map fun x => tv s.vals x.a) := by
 intro l
 induction l with
 | nil => intro L _ _ _; simp [ptO, filt]
 | cons x l ih =>
  intro L hv hx hp
  simp only [List.all_cons, Bool.and_eq_true] at hv
  cases hk : (x.kind == 1 || !(tv s.vals x.a == tv s.vals x.b)) with
  | false =>
   have hf : filt (tv s.vals) (x :: l) = filt (tv s.vals) l := by unfold filt; rw [List.filter_cons, hk]; rfl
   rw [hf] at hx hp ⊢
   simp only [Bool.or_eq_false_iff, Bool.not_eq_false'] at hk
   have e : acO s x = some [] := by
    unfold acO
    have k2 : x.kind = 2 := by
     have := hv.1
     unfold atV at this
     simp only [Bool.and_eq_true, Bool.or_eq_true] at this
     rcases this.1.1 with q | q
     ·rw [q] at hk; cases hk.1
     ·simpa using q
    rw [if_pos k2, beq_iff_eq.1 hk.2]
    exact walk_same _
   unfold ptO
   rw [e]
   simp only [List.all_nil, List.nodup_nil, decide_true, Bool.true_and, cond_true, List.append_nil]
   exact ih L hv.2 hx hp
  | true =>
   have hf : filt (tv s.vals) (x :: l) = x :: filt (tv s.vals) l := by unfold filt; rw [List.filter_cons, hk]; rfl
   rw [hf] at hx hp ⊢
   obtain ⟨p1, p2⟩ := List.pairwise_cons.1 hp
   obtain ⟨c1, c2, c3⟩ := hx x (by simp)
   have e : acO s x = some [tv s.vals x.a] := by
    unfold acO
    by_cases k2 : x.kind = 2
    ·rw [if_pos k2]
     refine walk_one (fun e => ?_) c1 c2
     rw [k2, e] at hk
     simp at hk
    ·rw [if_neg k2, if_pos c1]
   unfold ptO
   rw [e]
   have h1 : ([tv s.vals x.a].all (fun n => !L.contains n) && decide [tv s.vals x.a].Nodup) = true := by
    have : L.contains (tv s.vals x.a) = false := con_no.2 c3
    simp [this, c3]
   simp only [h1, cond_true]
   rw [ih (L ++ [tv s.vals x.a]) hv.2 (fun y hy => ?_) p2]
   ·simp
   ·obtain ⟨d1, d2, d3⟩ := hx y (by simp [hy])
    refine ⟨d1, d2, fun hm => ?_⟩
    rcases List.mem_append.1 hm with hm | hm
    ·exact d3 hm
    ·exact p1 y hy (List.mem_singleton.1 hm).symm
end
section
variable {a : GAsn} {c : List Int}
theorem md_named (h : c ∈ cL a) {t : Int} (ht : 0 <= t /\ t <= 8 /\ hz a (fun _ => false) t.toNat = true) : tv (mdV c 8).1 t = tv (mdV c 8).1 (cl c t) /\ ∃ k : Nat, k < 9 /\ cl c t = (k : Int) /\ c.getD k 0 = (k : Int) := by
 obtain ⟨h1, h2, h3⟩ := ht
 obtain ⟨k, e1, e2, e3⟩ := case_r h (t := t.toNat) (by omega) h3
 obtain ⟨k', f1, f2, f3⟩ := case_r h (t := 0) (by omega) rfl
 have z : c.getD 0 0 = 0 := by rw [f1]; omega
 refine ⟨?_, k, by omega, e1, e3⟩
 have := mdV_cls (c := c) (t := t.toNat) (by omega) z ⟨k, e1, e2, e3⟩
 rw [show ((t.toNat : Nat) : Int) = t by omega] at this
 exact this
theorem md_iff (h : c ∈ cL a) {s t : Int} (hs : 0 <= s /\ s <= 8 /\ hz a (fun _ => false) s.toNat = true) (ht : 0 <= t /\ t <= 8 /\ hz a (fun _ => false) t.toNat = true) : (cl c s == cl c t) = (tv (mdV c 8).1 s == tv (mdV c 8).1 t) := by
 obtain ⟨e1, k, k9, k1, k2⟩ := md_named h hs
 obtain ⟨e2, m, m9, m1, m2⟩ := md_named h ht
 rw [e1, e2, k1, m1, Bool.eq_iff_iff, beq_iff_eq, beq_iff_eq, mdV_eq_iff k9 m9 k2 m2]
 omega
theorem md_poss (h : c ∈ cL a) : possV a (tv (mdV c 8).1) := by
 have hn := hz_named (cL_mem h).1 fun _ => false
 exact possV_congr (fun t => 0 <= t /\ t <= 8 /\ hz a (fun _ => false) t.toNat = true) (fun s t hs ht => md_iff h hs ht) ⟨by decide, by decide, rfl⟩
  (fun f hf => by obtain ⟨a1, a2, a3, a4, a5, a6⟩ := hn.1 f hf; exact ⟨⟨a1, a2, a5⟩, a3, a4, a6⟩) (fun x hx => by obtain ⟨a1, a2, a3, a4, a5, a6⟩ := hn.2 x hx; exact ⟨⟨a1, a2, a5⟩, a3, a4, a6⟩) (case_p h)
theorem tv_bd {V : List Int} (h : ∀ j, 0 <= V.getD j 0 /\ V.getD j 0 <= 8) (t : Int) : 0 <= tv V t /\ tv V t <= 8 := by
 unfold tv
 split
 ·omega
 ·exact h _
theorem md_bd (t : Int) : 0 <= tv (mdV c 8).1 t /\ tv (mdV c 8).1 t <= 8 := tv_bd (fun j => mdV_bd 8 (Nat.le_refl _) j) t
theorem md_heap (h : c ∈ cL a) : mdH (mdV c 8).1 (fL c a.atoms) = (filt (tv (mdV c 8).1) a.atoms).foldl (mdS (mdV c 8).1) (List.replicate 8 (-1)) := by
 have hn := hz_named (cL_mem h).1 fun _ => false
 have nm : ∀ x ∈ a.atoms, (0 <= x.a /\ x.a <= 8 /\ hz a (fun _ => false) x.a.toNat = true) /\ (0 <= x.b /\ x.b <= 8 /\ hz a (fun _ => false) x.b.toNat = true) := fun x hx => by
  obtain ⟨a1, a2, a3, a4, a5, a6⟩ := hn.2 x hx; exact ⟨⟨a1, a2, a5⟩, a3, a4, a6⟩
 have e1 : fL c a.atoms = (filt (tv (mdV c 8).1) a.atoms).map fun x => (⟨x.kind, cl c x.a, cl c x.b⟩ : GAtom) := by
  unfold fL filt
  rw [List.filter_map]
  congr 1
  refine List.filter_congr fun x hx => ?_
  simp only [Function.comp]
  rw [md_iff h (nm x hx).1 (nm x hx).2]
 unfold mdH
 rw [e1, List.foldl_map]
 have key : ∀ (l : List GAtom) (h0 : List Int), (∀ x ∈ l, x ∈ a.atoms) -> l.foldl (fun h x => mdS (mdV c 8).1 h ⟨x.kind, cl c x.a, cl c x.b⟩) h0 = l.foldl (mdS (mdV c 8).1) h0 := by
  intro l
  induction l with
  | nil => intro h0 _; rfl
  | cons x l ih =>
   intro h0 hl
   have e : mdS (mdV c 8).1 h0 ⟨x.kind, cl c x.a, cl c x.b⟩ = mdS (mdV c 8).1 h0 x := by
    unfold mdS
    simp only
    rw [← (md_named h (nm x (hl x (by simp))).1).1, ← (md_named h (nm x (hl x (by simp))).2).1]
   rw [List.foldl_cons, List.foldl_cons, e]
   exact ih _ fun y hy => hl y (by simp [hy])
 exact key _ _ fun x hx => (List.mem_filter.1 hx).1
theorem md_stV (h : c ∈ cL a) : stV (md a c) = true := by
 have hp := md_poss h
 have hl : (mdH (mdV c 8).1 (fL c a.atoms)).length = 8 := mdH_len _ _
 have e1 : ((md a c).vals.length == 8) = true := by show ((mdV c 8).1.length == 8) = true; rw [mdV_len]; rfl
 have e2 : ((md a c).heap.length == 8) = true := by show ((mdH (mdV c 8).1 (fL c a.atoms)).length == 8) = true; rw [hl]; rfl
 have e3 : (md a c).vals.all isT = true := by
  show (mdV c 8).1.all isT = true
  rw [List.all_eq_true]
  intro x hx
  obtain ⟨j, hj, rfl⟩ := List.getElem_of_mem hx
  have := mdV_bd (c := c) 8 (Nat.le_refl _) j
  rw [List.getD_eq_getElem?_getD, List.getElem?_eq_getElem hj] at this
  exact isT_iff.2 this
 have e4 : (md a c).heap.all hv = true := by
  show (mdH (mdV c 8).1 (fL c a.atoms)).all hv = true
  rw [md_heap h]
  have key : ∀ (l : List GAtom) (h0 : List Int), h0.all hv = true -> (l.foldl (mdS (mdV c 8).1) h0).all hv = true := by
   intro l
   induction l with
   | nil => intro h0 hh; exact hh
   | cons x l ih =>
    intro h0 hh
    rw [List.foldl_cons]
    refine ih _ ?_
    unfold mdS
    rw [List.all_eq_true] at hh ⊢
    intro y hy
    rcases List.mem_or_eq_of_mem_set hy with hy | hy
    ·exact hh y hy
    ·rw [hy]; unfold hv; rw [isT_iff.2 (md_bd x.b)]; simp
  exact key _ _ (by decide)
 unfold stV
 rw [e1, e2, e3, e4]; rfl
theorem md_ct (h : c ∈ cL a) {n : Int} (h1 : 1 <= n) (h8 : n <= 8) : ct (md a c) n = ((filt (tv (mdV c 8).1) a.atoms).foldl (mdS (mdV c 8).1) (List.replicate 8 (-1))).getD (n - 1).toNat 0 := by
 unfold ct
 rw [if_pos ⟨h1, h8⟩]
 show (mdH (mdV c 8).1 (fL c a.atoms)).getD (n - 1).toNat 0 = _
 rw [md_heap h]
theorem hol_md (h : c ∈ cL a) : HOL (md a c) a = true := by
 have ha := (cL_mem h).1
 have hp := md_poss h
 have hs := md_stV h
 have hb : ∀ x ∈ filt (tv (mdV c 8).1) a.atoms, 1 <= tv (mdV c 8).1 x.a /\ tv (mdV c 8).1 x.a <= 8 := fun x hx => by
  have h1 := hp.nil x hx
  have h2 := md_bd (c := c) x.a
  have z : tv (mdV c 8).1 0 = 0 := rfl
  rw [z] at h1
  omega
 have hc : ∀ x ∈ filt (tv (mdV c 8).1) a.atoms, ct (md a c) (tv (mdV c 8).1 x.a) = tv (mdV c 8).1 x.b := fun x hx => by
  rw [md_ct h (hb x hx).1 (hb x hx).2]
  exact mdS_hit _ _ (by simp) hb hp.apart x hx
 have hpt : ptO (md a c) [] a.atoms = some ([] ++ (filt (tv (mdV c 8).1) a.atoms).map fun x => tv (mdV c 8).1 x.a) :=
  pt_md (s := md a c) a.atoms [] (asV_facts ha).2.2.1 (fun x hx => ⟨hc x hx, (md_bd x.b).1, by simp⟩) hp.apart
 have hf : fctB (md a c) a.facts = true := by
  unfold fctB
  rw [List.all_eq_true]
  intro f hf
  have := hp.facts f hf
  show ((tv (mdV c 8).1 f.a == tv (mdV c 8).1 f.b) == f.eq) = true
  rw [this]; simp
 unfold HOL
 rw [hs, ha, hf, hpt]
 simp only [Bool.true_and, List.nil_append, List.all_eq_true]
 intro n hn
 have hn8 : 1 <= n /\ n <= 8 := by unfold addrs at hn; simp only [List.mem_cons, List.not_mem_nil, or_false] at hn; omega
 rw [beq_iff_eq, Bool.eq_iff_iff, List.contains_iff_mem, List.mem_map]
 unfold al
 rw [decide_eq_true_eq]
 constructor
 ·rintro ⟨x, hx, rfl⟩
  rw [hc x hx]; exact (md_bd x.b).1
 ·intro h0
  by_cases hex : ∃ x ∈ filt (tv (mdV c 8).1) a.atoms, tv (mdV c 8).1 x.a = n
  ·exact hex
  ·exfalso
   rw [md_ct h hn8.1 hn8.2, mdS_other hn8.1 _ _ fun x hx => ⟨(hb x hx).1, fun e => hex ⟨x, hx, e⟩⟩] at h0
   rw [List.getD_eq_getElem?_getD, List.getElem?_replicate, if_pos (by omega)] at h0
   simp at h0
theorem hol_mdL (h : (asV a && !(casesF a).isEmpty) = true) : HOL (mdL a) a = true := by
 simp only [Bool.and_eq_true, Bool.not_eq_true'] at h
 rw [← mdL_yes h.1 h.2 []]
 refine hol_md ?_
 unfold cL
 rw [h.1]
 exact casesF_head h.2
end
end Go.SE

namespace Go.SE
open Go.RowKit
section
variable {a : GAsn} {s : GState}
end
end Go.SE

namespace Go.SE
open Go.RowKit
def imA (v : Int -> Int) (x : GAtom) : GAtom := ⟨x.kind, v x.a, v x.b⟩
def fv (v : Int -> Int) (l : List GAtom) : List GAtom := (filt v l).map (imA v)
structure Qv (a b : GAsn) (v : Int -> Int) : Prop where
 facts : ∀ f ∈ b.facts, (v f.a == v f.b) = f.eq
 mt : MtS (v 0) (fv v a.atoms) (fv v b.atoms)
section
variable {a b c : GAsn} {v w : Int -> Int} {l m : List GAtom}
theorem fL_fv {c : List Int} : fL c l = fv (cl c) l := by
 unfold fL fv filt
 rw [List.filter_map]
 rfl
theorem fv_len : (fv v l).length <= l.length := by unfold fv filt; rw [List.length_map]; exact List.length_filter_le _ _
theorem atV_kind {x : GAtom} (h : atV x = true) : x.kind ≠ 1 -> x.kind = 2 := by
 unfold atV at h
 simp only [Bool.and_eq_true, Bool.or_eq_true, beq_iff_eq] at h
 intro h1
 rcases h.1.1 with h2 | h2
 ·exact (h1 h2).elim
 ·exact h2
theorem fv_kind (h : l.all atV = true) : ∀ x ∈ fv v l, x.kind ≠ 1 -> x.kind = 2 := fun x hx => by
 obtain ⟨y, hy, rfl⟩ := List.mem_map.1 hx
 exact atV_kind (x := y) (List.all_eq_true.1 h y (List.mem_filter.1 hy).1)
theorem fv_pos (ha : a.atoms.all atV = true) (hv : possV a v) : Pos (v 0) (fv v a.atoms) := by
 refine ⟨fun x hx => ?_, ?_, fv_kind ha⟩
 ·obtain ⟨y, hy, rfl⟩ := List.mem_map.1 hx
  exact hv.nil y hy
 ·unfold fv
  rw [List.pairwise_map]
  exact hv.apart
theorem pos_poss (hf : ∀ f ∈ b.facts, (v f.a == v f.b) = f.eq) (h : Pos (v 0) (fv v b.atoms)) : possV b v := by
 refine ⟨hf, fun x hx => h.nz _ (List.mem_map_of_mem hx), ?_⟩
 have := h.ap
 unfold fv at this
 rw [List.pairwise_map] at this
 exact this
theorem Qv.poss (ha : a.atoms.all atV = true) (hb : b.atoms.all atV = true) (hv : possV a v) (h : Qv a b v) : possV b v := by
 obtain ⟨f, hf⟩ := h.mt
 exact pos_poss h.facts (hf.pos (fv_pos ha hv) (fv_kind hb))
theorem Qv.trans (ha : a.atoms.all atV = true) (hb : b.atoms.all atV = true) (hv : possV a v) (h1 : Qv a b v) (h2 : Qv b c v) : Qv a c v :=
 ⟨h2.facts, mts_trans (fv_pos ha hv) (fv_kind hb) h1.mt h2.mt⟩
theorem Qv.congr (P : Int -> Prop) (h : ∀ s t, P s -> P t -> (v s == v t) = (w s == w t)) (h0 : P 0) (hf : ∀ f ∈ b.facts, P f.a /\ P f.b) (ha : ∀ x ∈ a.atoms, P x.a /\ P x.b) (hb : ∀ x ∈ b.atoms, P x.a /\ P x.b) (hq : Qv a b v) : Qv a b w := by
 classical
 have heq : ∀ s t, P s -> P t -> (v s = v t ↔ w s = w t) := fun s t hs ht => by
  have := h s t hs ht
  rw [Bool.eq_iff_iff, beq_iff_eq, beq_iff_eq] at this
  exact this
 let n : Int -> Int := fun x => if h : ∃ t, P t /\ v t = x then w h.choose else 0
 have hn : ∀ t, P t -> n (v t) = w t := fun t ht => by
  have he : ∃ t', P t' /\ v t' = v t := ⟨t, ht, rfl⟩
  show (if h : ∃ t', P t' /\ v t' = v t then w h.choose else 0) = _
  rw [dif_pos he]
  exact (heq _ _ he.choose_spec.1 ht).1 he.choose_spec.2
 have hfv : ∀ l : List GAtom, (∀ x ∈ l, P x.a /\ P x.b) -> fv w l = (fv v l).map fun x => ⟨x.kind, n x.a, n x.b⟩ := fun l hl => by
  have ef : filt v l = filt w l := List.filter_congr fun x hm => by rw [h _ _ (hl x hm).1 (hl x hm).2]
  unfold fv
  rw [List.map_map, ef]
  refine List.map_congr_left fun x hx => ?_
  have hx' := hl x (List.mem_filter.1 hx).1
  show (⟨x.kind, w x.a, w x.b⟩ : GAtom) = ⟨x.kind, n (v x.a), n (v x.b)⟩
  rw [hn _ hx'.1, hn _ hx'.2]
 have hV : ∀ l : List GAtom, (∀ x ∈ l, P x.a /\ P x.b) -> ∀ x ∈ fv v l, (∃ t, P t /\ v t = x.a) /\ ∃ t, P t /\ v t = x.b := fun l hl x hx => by
  obtain ⟨y, hy, rfl⟩ := List.mem_map.1 hx
  have hy' := hl y (List.mem_filter.1 hy).1
  exact ⟨⟨y.a, hy'.1, rfl⟩, ⟨y.b, hy'.2, rfl⟩⟩
 refine ⟨fun f hf' => by rw [← h _ _ (hf f hf').1 (hf f hf').2]; exact hq.facts f hf', ?_⟩
 rw [hfv _ ha, hfv _ hb, ← hn 0 h0]
 refine mts_map (φ := fun x => ⟨x.kind, n x.a, n x.b⟩) (fun _ => rfl) (fun x => ∃ t, P t /\ v t = x) ?_ (hV _ ha) (hV _ hb) ⟨0, h0, rfl⟩ hq.mt
 rintro s t ⟨s', hs, rfl⟩ ⟨t', ht, rfl⟩ e
 rw [hn _ hs, hn _ ht] at e
 exact (heq _ _ hs ht).2 e
theorem hz00 {q : Int -> Bool} : hz a q 0 = true := rfl
theorem hzA_fact (ha : asV a = true) {q : Int -> Bool} {k : Int} (h : occ a k = true) : 0 <= k /\ k <= 8 /\ hz a q k.toNat = true := by
 have ht := occ_isT ha h
 have := isT_iff.1 ht
 refine ⟨this.1, this.2, ?_⟩
 unfold hz
 rw [show ((k.toNat : Nat) : Int) = k by omega, ht, h]
 simp
theorem mc_iff (ha : asV a = true) {q : Int -> Bool} {c : List Int} (hc : c ∈ casesB a (hz a q)) : MC a b c = true ↔ Qv a b (cl c) := by
 have hn := hz_named ha q
 rw [casesB_eq hn] at hc
 obtain ⟨h1, h2⟩ := List.mem_filter.1 hc
 have hp := (possI_iff hn h1 hz00).1 h2
 have hA := asV_facts ha
 have h0 := full_val h1 (k := 0) (by decide) (by decide) hz00
 have hz0 : cl c 0 = 0 := by omega
 have hpos := fv_pos hA.2.2.1 hp
 rw [hz0] at hpos
 unfold MC
 rw [Bool.and_eq_true, fL_fv, fL_fv, mcM_iff hpos (Nat.le_trans fv_len hA.2.2.2), List.all_eq_true]
 constructor
 ·rintro ⟨h3, h4⟩
  exact ⟨fun f hf => by have := h3 f hf; unfold fh at this; simpa using this, by rw [hz0]; exact h4⟩
 ·rintro ⟨h3, h4⟩
  rw [hz0] at h4
  exact ⟨fun f hf => by unfold fh; rw [h3 f hf]; simp, h4⟩
theorem ent_iff : ENT a b = true ↔ asV a = true /\ asV b = true /\ ∀ v, possV a v -> Qv a b v := by
 classical
 unfold ENT
 rw [Bool.and_eq_true, Bool.and_eq_true]
 refine and_congr_right fun ha => and_congr_right fun hb => ?_
 have hP : ∀ k, occ a k = true ∨ occ b k = true -> 0 <= k /\ k <= 8 /\ hz a (occB b) k.toNat = true := fun k hk => hk.elim (fun h => hzA_fact ha h) fun h => hzB_has hb h
 have key := cases_all (hz_named ha (occB b)) hz00 (fun v => decide (Qv a b v)) fun v w h => by
  have h' : ∀ s t : Int, (0 <= s /\ s <= 8 /\ hz a (occB b) s.toNat = true) -> (0 <= t /\ t <= 8 /\ hz a (occB b) t.toNat = true) -> (v s == v t) = (w s == w t) := fun s t hs ht => h s t hs.1 hs.2.1 hs.2.2 ht.1 ht.2.1 ht.2.2
  have f1 : ∀ f ∈ b.facts, (0 <= f.a /\ f.a <= 8 /\ hz a (occB b) f.a.toNat = true) /\ (0 <= f.b /\ f.b <= 8 /\ hz a (occB b) f.b.toNat = true) := fun f hf => ⟨hP _ (.inr (occ_fact hb hf).1), hP _ (.inr (occ_fact hb hf).2)⟩
  have f2 : ∀ x ∈ a.atoms, (0 <= x.a /\ x.a <= 8 /\ hz a (occB b) x.a.toNat = true) /\ (0 <= x.b /\ x.b <= 8 /\ hz a (occB b) x.b.toNat = true) := fun f hf => ⟨hP _ (.inl (occ_atom ha hf).1), hP _ (.inl (occ_atom ha hf).2)⟩
  have f3 : ∀ x ∈ b.atoms, (0 <= x.a /\ x.a <= 8 /\ hz a (occB b) x.a.toNat = true) /\ (0 <= x.b /\ x.b <= 8 /\ hz a (occB b) x.b.toNat = true) := fun f hf => ⟨hP _ (.inr (occ_atom hb hf).1), hP _ (.inr (occ_atom hb hf).2)⟩
  rw [decide_eq_decide]
  exact ⟨fun hq => hq.congr _ h' ⟨by decide, by decide, hz00⟩ f1 f2 f3, fun hq => hq.congr _ (fun s t hs ht => (h' s t hs ht).symm) ⟨by decide, by decide, hz00⟩ f1 f2 f3⟩
 have e : ((casesB a (hz a (occB b))).all fun c => MC a b c) = ((casesB a (hz a (occB b))).all fun d => decide (Qv a b (cl d))) := by
  rw [Bool.eq_iff_iff, List.all_eq_true, List.all_eq_true]
  exact ⟨fun h c hc => decide_eq_true ((mc_iff ha hc).1 (h c hc)), fun h c hc => (mc_iff ha hc).2 (of_decide_eq_true (h c hc))⟩
 rw [e, key]
 exact ⟨fun h v hv => of_decide_eq_true (h v hv), fun h v hv => decide_eq_true (h v hv)⟩
theorem asV_at (h : asV a = true) : a.atoms.all atV = true := (asV_facts h).2.2.1
theorem ent_trans (h1 : ENT a b = true) (h2 : ENT b c = true) : ENT a c = true := by
 obtain ⟨ha, hb, h1⟩ := ent_iff.1 h1
 obtain ⟨_, hc, h2⟩ := ent_iff.1 h2
 refine ent_iff.2 ⟨ha, hc, fun v hv => ?_⟩
 have hq := h1 v hv
 exact hq.trans (asV_at ha) (asV_at hb) hv (h2 v (hq.poss (asV_at ha) (asV_at hb) hv))
end
end Go.SE

namespace Go.SE
open Go.RowKit
inductive Sg (s : GState) (e : Int) : Int -> List Int -> Prop
 | nil : Sg s e e []
 | step {q : Int} {ns : List Int} : al s q = true -> Sg s e (ct s q) ns -> Sg s e q (q :: ns)
def acV (s : GState) (x : GAtom) : Option (List Int) := if x.kind = 2 then walk s x.b 8 x.a else if ct s x.a = x.b then some [x.a] else none
def ftp (s : GState) (x : GAtom) : List Int := (acV s x).getD []
section
variable {s : GState} {q e m : Int} {ns ms : List Int} {a b : GAsn} {L G : List GAtom} {p : List GAtom} {f : GAtom -> List GAtom} {g : GAtom}
theorem Sg.cat (h : Sg s m q ns) (h2 : Sg s e m ms) : Sg s e q (ns ++ ms) := by
 induction h with
 | nil => exact h2
 | step h1 _ ih => exact .step h1 ih
theorem Sg.al (h : Sg s e q ns) : ∀ n ∈ ns, al s n = true := by
 induction h with
 | nil => intro n hn; cases hn
 | step h1 _ ih =>
  intro n hn
  rcases List.mem_cons.1 hn with e | hn
  ·rw [e]; exact h1
  ·exact ih n hn
theorem walk_sg : ∀ (k : Nat) (q : Int) (ns : List Int), walk s e k q = some ns -> Sg s e q ns /\ e ∉ ns := by
 intro k
 induction k with
 | zero =>
  intro q ns h
  simp only [walk] at h
  split at h
  ·rename_i hq; injection h with h; subst h; subst hq; exact ⟨.nil, by simp⟩
  ·cases h
 | succ k ih =>
  intro q ns h
  simp only [walk] at h
  split at h
  ·rename_i hq; injection h with h; subst h; subst hq; exact ⟨.nil, by simp⟩
  ·rename_i hq
   cases ha : al s q with
   | false => rw [ha] at h; cases h
   | true =>
    rw [ha, cond_true] at h
    cases hw : walk s e k (ct s q) with
    | none => rw [hw] at h; cases h
    | some ms =>
     rw [hw] at h
     injection h with h
     subst h
     obtain ⟨h1, h2⟩ := ih _ _ hw
     refine ⟨.step ha h1, fun hm => ?_⟩
     rcases List.mem_cons.1 hm with e1 | hm
     ·exact hq e1.symm
     ·exact h2 hm
theorem sg_walk (h : Sg s e q ns) : ∀ k : Nat, e ∉ ns -> ns.length <= k -> walk s e k q = some ns := by
 induction h with
 | nil => intro k _ _; cases k <;> simp [walk]
 | @step q ns h1 h2 ih =>
  intro k hn hk
  have hne : ¬ q = e := fun hq => hn (by rw [hq]; simp)
  cases k with
  | zero => simp at hk
  | succ k =>
   simp only [walk]
   rw [if_neg hne, h1, cond_true, ih k (fun hm => hn (by simp [hm])) (by simpa using hk)]
   rfl
theorem acO_V {x : GAtom} : acO s x = acV s (imA (tv s.vals) x) := rfl
theorem ac_ftp {x : GAtom} (h : (acV s x).isSome = true) : acV s x = some (ftp s x) := by
 obtain ⟨c, hc⟩ := Option.isSome_iff_exists.1 h
 unfold ftp; rw [hc]; rfl
theorem ftp_sg {x : GAtom} (h : (acV s x).isSome = true) (hb : 0 <= x.b) : Sg s x.b x.a (ftp s x) := by
 have h := ac_ftp h
 unfold acV at h
 by_cases hk : x.kind = 2
 ·rw [if_pos hk] at h; exact (walk_sg _ _ _ h).1
 ·rw [if_neg hk] at h
  split at h
  ·rename_i hc
   injection h with h
   rw [← h]
   refine .step (by unfold Go.SE.al; rw [hc]; exact decide_eq_true hb) ?_
   rw [hc]; exact .nil
  ·cases h
theorem ftp_head {x : GAtom} (h : (acV s x).isSome = true) (hne : x.kind = 2 -> x.a ≠ x.b) : x.a ∈ ftp s x := by
 have h := ac_ftp h
 unfold acV at h
 by_cases hk : x.kind = 2
 ·rw [if_pos hk] at h; exact (walk_al _ _ _ h).2 (hne hk)
 ·rw [if_neg hk] at h
  split at h
  ·injection h with h
   rw [← h]; simp
  ·cases h
theorem Pth.first {L : List GAtom} {y q : Int} {p : List GAtom} (h : Pth L y q p) {x : GAtom} (hx : x ∈ p) (e : x.a = y) : q = y := by
 induction h with
 | last h1 h2 => rw [List.mem_singleton] at hx; rw [hx] at e; exact e
 | @step x0 p h1 h2 h3 ih =>
  rcases List.mem_cons.1 hx with e2 | hx
  ·rw [e2] at e; exact e
  ·exact (h2 (ih hx)).elim
structure Hp (s : GState) (L : List GAtom) : Prop where
 pos : Pos 0 L
 ne : ∀ x ∈ L, x.kind = 2 -> x.a ≠ x.b
 vb : ∀ x ∈ L, 0 <= x.b
 ac : ∀ x ∈ L, (acV s x).isSome = true
 nd : (L.flatMap (ftp s)).Nodup
theorem Hp.own (h : Hp s L) {x x' : GAtom} (hx : x ∈ L) (hx' : x' ∈ L) {n : Int} (h1 : n ∈ ftp s x) (h2 : n ∈ ftp s x') : x = x' := by
 have hd := h.nd
 unfold List.Nodup at hd
 rw [List.pairwise_flatMap] at hd
 have key : ∀ {l : List GAtom}, (l.Pairwise fun x x' => ∀ n ∈ ftp s x, ∀ n' ∈ ftp s x', n ≠ n') -> x ∈ l -> x' ∈ l -> x = x' := by
  intro l hl a1 a2
  induction l with
  | nil => cases a1
  | cons a l ih =>
   rw [List.pairwise_cons] at hl
   rcases List.mem_cons.1 a1 with e1 | a3 <;> rcases List.mem_cons.1 a2 with e2 | a4
   ·rw [e1, e2]
   ·rw [e1] at h1; exact (hl.1 _ a4 n h1 n h2 rfl).elim
   ·rw [e2] at h2; exact (hl.1 _ a3 n h2 n h1 rfl).elim
   ·exact ih hl.2 a3 a4
 exact key hd.2 hx hx'
theorem al_le8 (hd : ns.Nodup) (h : ∀ n ∈ ns, al s n = true) : ns.length <= 8 := by
 have hp : ns.Perm (addrs.filter fun n => decide (n ∈ ns)) := by
  rw [List.perm_ext_iff_of_nodup hd (List.Nodup.sublist List.filter_sublist (by decide))]
  intro n
  rw [List.mem_filter, decide_eq_true_eq]
  refine ⟨fun hn => ⟨?_, hn⟩, fun hn => hn.2⟩
  have := al_range (h n hn)
  have : n = 1 ∨ n = 2 ∨ n = 3 ∨ n = 4 ∨ n = 5 ∨ n = 6 ∨ n = 7 ∨ n = 8 := by omega
  unfold addrs
  simpa using this
 rw [hp.length_eq]
 exact List.length_filter_le _ _
theorem pth_sg (h : Hp s L) {y : Int} (hp : Pth L y q p) : Sg s y q (p.flatMap (ftp s)) := by
 induction hp with
 | @last x h1 e =>
  have := ftp_sg (h.ac x h1) (h.vb x h1)
  rw [e] at this
  simpa using this
 | @step x p h1 e h3 ih =>
  rw [List.flatMap_cons]
  exact (ftp_sg (h.ac x h1) (h.vb x h1)).cat ih
theorem pth_end (h : Hp s L) {y : Int} (hp : Pth L y q p) (hq : q ≠ y) (ho : Opn 0 L y p) : y ∉ p.flatMap (ftp s) := by
 intro hm
 obtain ⟨x, hx, hy⟩ := List.mem_flatMap.1 hm
 have hxL := hp.sub x hx
 rcases ho with ho | ⟨x', hx', e⟩ | ho
 ·have := al_range ((ftp_sg (h.ac x hxL) (h.vb x hxL)).al y hy)
  omega
 ·have h1 := ftp_head (h.ac x' hx') (h.ne x' hx')
  rw [e] at h1
  have := h.own hxL hx' hy h1
  subst this
  exact hq (hp.first hx e)
 ·have hac := ac_ftp (h.ac x hxL)
  unfold acV at hac
  by_cases hk : x.kind = 2
  ·rw [if_pos hk] at hac
   by_cases hb : x.b = y
   ·rw [hb] at hac; exact (walk_sg _ _ _ hac).2 hy
   ·exact ho x (hp.inner hx hb) hk
  ·rw [if_neg hk] at hac
   split at hac
   ·injection hac with hac
    rw [← hac, List.mem_singleton] at hy
    exact hq (hp.first hx hy.symm)
   ·cases hac
theorem flatMap_sub (h : Hp s L) (hp : Pth L e q p) (hd : (p.flatMap (ftp s)).Nodup) : (p.flatMap (ftp s)).length <= 8 := al_le8 hd (pth_sg h hp).al
theorem match_ac (h : Hp s L) (hf : MtF 0 L G f) (hne : ∀ g ∈ G, g.kind = 2 -> g.a ≠ g.b) (hk : ∀ g ∈ G, g.kind ≠ 1 -> g.kind = 2) : ∀ g ∈ G, acV s g = some ((f g).flatMap (ftp s)) := by
 intro g hg
 have hnd : ((G.flatMap f).flatMap (ftp s)).Nodup := ((hf.all.flatMap_right (ftp s)).nodup_iff).2 h.nd
 rw [List.flatMap_assoc] at hnd
 unfold List.Nodup at hnd
 rw [List.pairwise_flatMap] at hnd
 have hd := hnd.1 g hg
 rcases hf.ok g hg with ⟨k1, m1, e1⟩ | ⟨k1, p1, o1⟩
 ·rw [e1, ac_ftp (h.ac g m1)]
  simp
 ·have k2 := hk g hg k1
  have hq := hne g hg k2
  unfold acV
  rw [if_pos k2]
  exact sg_walk (pth_sg h p1) 8 (pth_end h p1 hq o1) (flatMap_sub h p1 hd)
theorem match_hp (h : Hp s L) (hf : MtF 0 L G f) (hne : ∀ g ∈ G, g.kind = 2 -> g.a ≠ g.b) (hk : ∀ g ∈ G, g.kind ≠ 1 -> g.kind = 2) : (∀ g ∈ G, (acV s g).isSome = true) /\ (G.flatMap (ftp s)).Perm (L.flatMap (ftp s)) := by
 have ha := match_ac h hf hne hk
 refine ⟨fun g hg => by rw [ha g hg]; rfl, ?_⟩
 have e : G.flatMap (ftp s) = (G.flatMap f).flatMap (ftp s) := by
  rw [List.flatMap_assoc, List.flatMap_def, List.flatMap_def]
  congr 1
  refine List.map_congr_left fun g hg => ?_
  unfold ftp
  rw [show acV s g = _ from ha g hg]
  rfl
 rw [e]
 exact hf.all.flatMap_right _
theorem ptO_iff : ∀ (l : List GAtom) (M N : List Int), M.Nodup -> (ptO s M l = some N ↔ (∀ x ∈ l, (acO s x).isSome = true) /\ N = M ++ l.flatMap (fun x => ftp s (imA (tv s.vals) x)) /\ N.Nodup) := by
 intro l
 induction l with
 | nil =>
  intro M N hM
  simp only [ptO, List.not_mem_nil, false_imp_iff, implies_true, true_and, List.flatMap_nil, List.append_nil]
  exact ⟨fun h => by injection h with h; rw [← h]; exact ⟨rfl, hM⟩, fun h => by rw [h.1]⟩
 | cons x l ih =>
  intro M N hM
  simp only [ptO]
  cases hx : acO s x with
  | none =>
   simp only [reduceCtorEq, false_iff, not_and]
   intro h
   have := h x (by simp)
   rw [hx] at this; cases this
  | some c =>
   have hc : ftp s (imA (tv s.vals) x) = c := by unfold ftp; rw [← acO_V, hx]; rfl
   rw [List.flatMap_cons, hc, ← List.append_assoc]
   simp only
   have hcon : (c.all (fun n => !M.contains n) && decide c.Nodup) = true ↔ (M ++ c).Nodup := by
    rw [Bool.and_eq_true, decide_eq_true_eq, List.nodup_append, List.all_eq_true]
    constructor
    ·rintro ⟨h1, h2⟩
     refine ⟨hM, h2, fun n hn n' hn' e => ?_⟩
     have := h1 n' hn'
     rw [Bool.not_eq_true', con_no] at this
     exact this (by rw [← e]; exact hn)
    ·rintro ⟨_, h2, h3⟩
     refine ⟨fun n hn => ?_, h2⟩
     rw [Bool.not_eq_true', con_no]
     exact fun hm => h3 n hm n hn rfl
   cases hb : (c.all (fun n => !M.contains n) && decide c.Nodup) with
   | false =>
    simp only [cond_false, reduceCtorEq, false_iff, not_and]
    rintro _ rfl hnd
    have := (List.nodup_append.1 hnd).1
    rw [← hcon, hb] at this
    cases this
   | true =>
    rw [cond_true, ih (M ++ c) N (hcon.1 hb)]
    refine and_congr_left fun _ => ?_
    constructor
    ·intro h y hy
     rcases List.mem_cons.1 hy with e | hy
     ·rw [e, hx]; rfl
     ·exact h y hy
    ·intro h y hy; exact h y (by simp [hy])
theorem flat_filt : ∀ (l : List GAtom), l.all atV = true -> l.flatMap (fun x => ftp s (imA (tv s.vals) x)) = (fv (tv s.vals) l).flatMap (ftp s) := by
 intro l
 induction l with
 | nil => intro _; rfl
 | cons x l ih =>
  intro h
  rw [List.all_cons, Bool.and_eq_true] at h
  have ih := ih h.2
  unfold fv filt at ih ⊢
  rw [List.flatMap_cons, ih, List.filter_cons]
  split
  ·rw [List.map_cons, List.flatMap_cons]
  ·rename_i hn
   have hk := atV_kind h.1
   simp only [Bool.or_eq_true, beq_iff_eq, Bool.not_eq_true', beq_eq_false_iff_ne, ne_eq, not_or, Decidable.not_not] at hn
   have e : ftp s (imA (tv s.vals) x) = [] := by
    unfold ftp acV
    rw [if_pos (show (imA (tv s.vals) x).kind = 2 from hk hn.1)]
    show (walk s (tv s.vals x.b) 8 (tv s.vals x.a)).getD [] = []
    rw [hn.2, walk_same]; rfl
   rw [e]; rfl
theorem hol_iff (hs : stV s = true) (ha : asV a = true) : HOL s a = true ↔ (∀ f ∈ a.facts, (tv s.vals f.a == tv s.vals f.b) = f.eq) /\ (∀ x ∈ fv (tv s.vals) a.atoms, (acV s x).isSome = true) /\ ((fv (tv s.vals) a.atoms).flatMap (ftp s)).Nodup /\
  ∀ n ∈ addrs, (n ∈ (fv (tv s.vals) a.atoms).flatMap (ftp s) ↔ al s n = true) := by
 have hA := asV_at ha
 unfold HOL
 rw [hs, ha, Bool.true_and, Bool.true_and, Bool.and_eq_true]
 refine and_congr ?_ ?_
 ·unfold fctB
  rw [List.all_eq_true]
  exact ⟨fun h f hf => by simpa using h f hf, fun h f hf => by simpa using h f hf⟩
 ·have key := ptO_iff (s := s) a.atoms []
  have hsome : (∀ x ∈ a.atoms, (acO s x).isSome = true) ↔ ∀ x ∈ fv (tv s.vals) a.atoms, (acV s x).isSome = true := by
   constructor
   ·intro h x hx
    obtain ⟨y, hy, rfl⟩ := List.mem_map.1 hx
    rw [← acO_V]; exact h y (List.mem_filter.1 hy).1
   ·intro h x hx
    by_cases hf : (x.kind == 1 || !(tv s.vals x.a == tv s.vals x.b)) = true
    ·rw [acO_V]; exact h _ (List.mem_map_of_mem (List.mem_filter.2 ⟨hx, hf⟩))
    ·have hk := atV_kind (List.all_eq_true.1 hA x hx)
     simp only [Bool.or_eq_true, beq_iff_eq, Bool.not_eq_true', beq_eq_false_iff_ne, ne_eq, not_or, Decidable.not_not] at hf
     unfold acO
     rw [if_pos (hk hf.1), hf.2, walk_same]; rfl
  have hall : ∀ N : List Int, (addrs.all fun n => N.contains n == al s n) = true ↔ ∀ n ∈ addrs, (n ∈ N ↔ al s n = true) := fun N => by
   rw [List.all_eq_true]
   refine forall_congr' fun n => forall_congr' fun _ => ?_
   rw [beq_iff_eq, Bool.eq_iff_iff, List.contains_iff_mem]
  constructor
  ·intro h
   cases hp : ptO s [] a.atoms with
   | none => rw [hp] at h; cases h
   | some N =>
    rw [hp] at h
    obtain ⟨h1, h2, h3⟩ := (key N List.nodup_nil).1 hp
    rw [List.nil_append, flat_filt _ hA] at h2
    rw [h2] at h3 h
    exact ⟨hsome.1 h1, h3, (hall _).1 h⟩
  ·rintro ⟨h1, h2, h3⟩
   rw [(key ((fv (tv s.vals) a.atoms).flatMap (ftp s)) List.nodup_nil).2 ⟨hsome.2 h1, by rw [List.nil_append, flat_filt _ hA], h2⟩]
   exact (hall _).2 h3
theorem fv_ne {v : Int -> Int} {l : List GAtom} (hl : l.all atV = true) : ∀ x ∈ fv v l, x.kind = 2 -> x.a ≠ x.b := fun x hx hk => by
 obtain ⟨y, hy, rfl⟩ := List.mem_map.1 hx
 have := (List.mem_filter.1 hy).2
 have hk : y.kind = 2 := hk
 rw [hk] at this
 simpa [imA] using this
theorem ent_hol (h : ENT a b = true) (hh : HOL s a = true) : HOL s b = true := by
 obtain ⟨ha, hb, hq⟩ := ent_iff.1 h
 obtain ⟨hs, _, hv⟩ := hol_poss hh
 have hq := hq _ hv
 obtain ⟨h1, h2, h3, h4⟩ := (hol_iff hs ha).1 hh
 have h0 : tv s.vals 0 = 0 := rfl
 have hpos := fv_pos (asV_at ha) hv
 have hmt := hq.mt
 rw [h0] at hpos hmt
 obtain ⟨f, hf⟩ := hmt
 have hH : Hp s (fv (tv s.vals) a.atoms) := ⟨hpos, fv_ne (asV_at ha), fun x hx => by
  obtain ⟨y, hy, rfl⟩ := List.mem_map.1 hx
  exact (tv_isT hs (atV_isT (List.all_eq_true.1 (asV_at ha) y (List.mem_filter.1 hy).1)).2).1, h2, h3⟩
 obtain ⟨g1, g2⟩ := match_hp hH hf (fv_ne (asV_at hb)) (fv_kind (asV_at hb))
 exact (hol_iff hs hb).2 ⟨hq.facts, g1, (g2.nodup_iff).2 h3, fun n hn => by rw [g2.mem_iff]; exact h4 n hn⟩
end
end Go.SE

namespace Go.SE
open Go.RowKit
def woF (l : List GAtom) (i k : Int) (n : Nat) : List GAtom := ((List.range n).filter fun (j : Nat) => !((j : Int) == i) && !((j : Int) == k)).map fun j => l.getD j nA
def foldA (a : GAsn) (i k : Nat) : GAsn := ⟨a.facts, ⟨2, (a.atoms.getD i nA).a, (a.atoms.getD k nA).b⟩ :: woF a.atoms i k a.atoms.length⟩
def fcOk (a : GAsn) (i k : Nat) : Bool := !(i == k) && (((a.atoms.getD i nA).b == (a.atoms.getD k nA).a) && ENT a (foldA a i k))
def fcR (a : GAsn) (i : Nat) : Option Nat := (List.range a.atoms.length).find? (fcOk a i)
def fcI (a : GAsn) : Option Nat := (List.range a.atoms.length).find? fun i => (fcR a i).isSome
def fcO (a : GAsn) : Option GAsn := cond (asV a) ((fcI a).bind fun i => (fcR a i).map fun k => foldA a i k) none
def fcL (a : GAsn) : GAsn := (fcO a).getD ⟨[], []⟩
def fcB (a : GAsn) : Bool := (fcO a).isSome
def noK (a : GAsn) (i k : Nat) : Bool := (List.range k).all fun j => !fcOk a i j
def noI (a : GAsn) (i : Nat) : Bool := (List.range i).all fun j => !(fcR a j).isSome
section
variable {a : GAsn} {l : List GAtom} {i k : Int} {n : Nat}
theorem woF_go (h1 : ¬ (n : Int) = i) (h2 : ¬ (n : Int) = k) : woF l i k n ++ [l.getD n ⟨0, 0, 0⟩] = woF l i k (n + 1) := by
 unfold woF
 rw [List.range_succ, List.filter_append, List.map_append]
 simp [h1, h2]
theorem woF_skip (h : (n : Int) = i ∨ (n : Int) = k) : woF l i k (n + 1) = woF l i k n := by
 unfold woF
 rw [List.range_succ, List.filter_append, List.map_append]
 have : (!((n : Int) == i) && !((n : Int) == k)) = false := by
  rcases h with h | h <;> simp [h]
 simp [this]
theorem woF_len : (woF l i k n).length <= n := by
 unfold woF
 rw [List.length_map]
 exact Nat.le_trans (List.length_filter_le _ _) (by simp)
theorem noK_zero {i : Nat} : noK a i 0 = true := rfl
theorem noI_zero : noI a 0 = true := rfl
theorem noK_step {i k : Nat} (h : noK a i k = true) (h2 : fcOk a i k = false) : noK a i (k + 1) = true := by
 unfold noK at h ⊢; rw [List.range_succ, List.all_append, h]; simp [h2]
theorem noK_same {i k : Nat} (h : noK a i k = true) (e : i = k) : noK a i (k + 1) = true := noK_step h (by unfold fcOk; simp [e])
theorem noK_apart {i k : Nat} (h : noK a i k = true) (e : ¬ (a.atoms.getD i ⟨0, 0, 0⟩).b = (a.atoms.getD k ⟨0, 0, 0⟩).a) : noK a i (k + 1) = true := noK_step h (by unfold fcOk; rw [beq_eq_false_iff_ne.2 e]; simp)
theorem noK_no {i k : Nat} (h : noK a i k = true) (e : ENT a (foldA a i k) = false) : noK a i (k + 1) = true := noK_step h (by unfold fcOk; rw [e]; simp)
theorem fcR_none {i k : Nat} (h : noK a i k = true) (hk : ¬ k < a.atoms.length) (hk2 : k <= a.atoms.length) : fcR a i = none := by
 have : k = a.atoms.length := by omega
 subst this
 unfold fcR
 rw [List.find?_range_eq_none]
 intro j hj
 have := List.all_eq_true.1 h j (List.mem_range.2 hj)
 simpa using this
theorem noI_step {i k : Nat} (h : noI a i = true) (h2 : noK a i k = true) (hk : ¬ k < a.atoms.length) (hk2 : k <= a.atoms.length) : noI a (i + 1) = true := by
 unfold noI at h ⊢; rw [List.range_succ, List.all_append, h]; simp [fcR_none h2 hk hk2]
theorem fcR_some {i k : Nat} (h : noK a i k = true) (hk : k < a.atoms.length) (h1 : fcOk a i k = true) : fcR a i = some k := by
 unfold fcR
 rw [List.find?_range_eq_some]
 refine ⟨h1, List.mem_range.2 hk, fun j hj => ?_⟩
 have := List.all_eq_true.1 h j (List.mem_range.2 hj)
 simpa using this
theorem fcO_some {i k : Nat} (ha : asV a = true) (hi : noI a i = true) (hil : i < a.atoms.length) (h : noK a i k = true) (hk : k < a.atoms.length) (h1 : fcOk a i k = true) : fcO a = some (foldA a i k) := by
 have hR := fcR_some h hk h1
 have hI : fcI a = some i := by
  unfold fcI
  rw [List.find?_range_eq_some]
  refine ⟨by rw [hR]; rfl, List.mem_range.2 hil, fun j hj => ?_⟩
  have := List.all_eq_true.1 hi j (List.mem_range.2 hj)
  simpa using this
 unfold fcO
 rw [ha, hI, cond_true]
 simp [hR]
theorem fcO_none {i : Nat} (hi : noI a i = true) (hk : ¬ i < a.atoms.length) (hk2 : i <= a.atoms.length) : fcO a = none := by
 have : i = a.atoms.length := by omega
 subst this
 have : fcI a = none := by
  unfold fcI
  rw [List.find?_range_eq_none]
  intro j hj
  have := List.all_eq_true.1 hi j (List.mem_range.2 hj)
  simpa using this
 unfold fcO
 rw [this]
 cases asV a <;> rfl
theorem fo_bad (h : asV a = false) : fcL a = ⟨[], []⟩ /\ fcB a = false := by unfold fcL fcB fcO; rw [h]; exact ⟨rfl, rfl⟩
theorem fo_end {i : Nat} (hi : noI a i = true) (hk : ¬ i < a.atoms.length) (hk2 : i <= a.atoms.length) : fcL a = ⟨[], []⟩ /\ fcB a = false := by unfold fcL fcB; rw [fcO_none hi hk hk2]; exact ⟨rfl, rfl⟩
theorem fo_hit {i k : Nat} (ha : asV a = true) (hi : noI a i = true) (hil : i < a.atoms.length) (h : noK a i k = true) (hk : k < a.atoms.length) (e1 : ¬ (i : Int) = (k : Int)) (e2 : (a.atoms.getD i ⟨0, 0, 0⟩).b = (a.atoms.getD k ⟨0, 0, 0⟩).a) (e3 : ENT a (foldA a i k) = true) :
  fcL a = foldA a i k /\ fcB a = true := by
 have : fcOk a i k = true := by
  unfold fcOk
  rw [e3, beq_eq_false_iff_ne.2 (show i ≠ k by omega)]
  simp only [Bool.not_false, Bool.true_and, Bool.and_true, beq_iff_eq]
  exact e2
 unfold fcL fcB
 rw [fcO_some ha hi hil h hk this]
 exact ⟨rfl, rfl⟩
theorem foR_no {i k : Nat} (h : noK a i k = true) (e : ENT a ⟨a.facts, ⟨2, (a.atoms.getD i ⟨0, 0, 0⟩).a, (a.atoms.getD k ⟨0, 0, 0⟩).b⟩ :: woF a.atoms i k a.atoms.length⟩ = false) : noK a i (k + 1) = true := noK_no h e
theorem foR_hit {i k : Nat} (ha : asV a = true) (hi : noI a i = true) (hil : i < a.atoms.length) (h : noK a i k = true) (hk : k < a.atoms.length) (e1 : ¬ i = k) (e2 : (a.atoms.getD i ⟨0, 0, 0⟩).b = (a.atoms.getD k ⟨0, 0, 0⟩).a)
  (e3 : ENT a ⟨a.facts, ⟨2, (a.atoms.getD i ⟨0, 0, 0⟩).a, (a.atoms.getD k ⟨0, 0, 0⟩).b⟩ :: woF a.atoms i k a.atoms.length⟩ = true) :
  ⟨a.facts, ⟨2, (a.atoms.getD i ⟨0, 0, 0⟩).a, (a.atoms.getD k ⟨0, 0, 0⟩).b⟩ :: woF a.atoms i k a.atoms.length⟩ = fcL a /\ true = fcB a := by
 obtain ⟨h1, h2⟩ := fo_hit ha hi hil h hk (by omega) e2 e3
 exact ⟨h1.symm, h2.symm⟩
theorem fo_len6 (ha : asV a = true) : a.facts.length <= 12 /\ a.atoms.length <= 6 := ⟨(asV_facts ha).2.1, (asV_facts ha).2.2.2⟩
theorem woF_bd {q : Int} {m : Nat} (h : n <= m) : (woF l i q n).length <= m := Nat.le_trans woF_len h
theorem fo_spec (h : fcB a = true) : ∃ i k : Nat, i < a.atoms.length /\ k < a.atoms.length /\ i ≠ k /\ fcL a = foldA a i k /\ ENT a (foldA a i k) = true := by
 unfold fcB at h
 obtain ⟨b, hb⟩ := Option.isSome_iff_exists.1 h
 have hb' := hb
 unfold fcO at hb
 cases ha : asV a with
 | false => rw [ha] at hb; cases hb
 | true =>
  rw [ha, cond_true] at hb
  cases hI : fcI a with
  | none => rw [hI] at hb; cases hb
  | some i =>
   rw [hI] at hb
   have hb : (fcR a i).map (fun k => foldA a i k) = some b := hb
   cases hR : fcR a i with
   | none => rw [hR] at hb; cases hb
   | some k =>
    rw [hR] at hb
    injection hb with hb
    unfold fcR at hR
    obtain ⟨h1, h2, _⟩ := List.find?_range_eq_some.1 hR
    unfold fcI at hI
    obtain ⟨_, h4, _⟩ := List.find?_range_eq_some.1 hI
    unfold fcOk at h1
    simp only [Bool.and_eq_true, Bool.not_eq_true', beq_eq_false_iff_ne, ne_eq] at h1
    refine ⟨i, k, List.mem_range.1 h4, List.mem_range.1 h2, h1.1, ?_, h1.2.2⟩
    unfold fcL
    rw [hb', ← hb]
    rfl
theorem filter_two : ∀ (n i k : Nat), i < n -> k < n -> i ≠ k -> ((List.range n).filter fun (j : Nat) => !((j : Int) == (i : Int)) && !((j : Int) == (k : Int))).length = n - 2 := by
 intro n i k hi hk hne
 have h1 : ∀ (n i : Nat), ((List.range n).filter fun (j : Nat) => !((j : Int) == (i : Int))).length = if i < n then n - 1 else n := by
  intro n i
  induction n with
  | zero => rfl
  | succ n ih =>
   rw [List.range_succ, List.filter_append, List.length_append, ih]
   by_cases e : n = i
   ·subst e; simp
   ·have : ¬ (n : Int) = (i : Int) := by omega
    simp only [List.filter_cons, beq_eq_false_iff_ne.2 this, Bool.not_false, if_true, List.filter_nil, List.length_cons, List.length_nil]
    split <;> split <;> omega
 have h2 : ∀ n : Nat, ((List.range n).filter fun (j : Nat) => !((j : Int) == (i : Int)) && !((j : Int) == (k : Int))).length = if i < n then (if k < n then n - 2 else n - 1) else (if k < n then n - 1 else n) := by
  intro n
  induction n with
  | zero => rfl
  | succ n ih =>
   rw [List.range_succ, List.filter_append, List.length_append, ih]
   by_cases e : n = i
   ·subst e
    have : (k < n + 1) ↔ k < n := by omega
    simp only [this]
    simp
    all_goals (split <;> omega)
   ·have e' : ¬ (n : Int) = (i : Int) := by omega
    by_cases e2 : n = k
    ·subst e2
     have : (i < n + 1) ↔ i < n := by omega
     simp only [this]
     simp
     all_goals (split <;> omega)
    ·have e2' : ¬ (n : Int) = (k : Int) := by omega
     simp only [List.filter_cons, beq_eq_false_iff_ne.2 e', beq_eq_false_iff_ne.2 e2', Bool.not_false, Bool.and_self, if_true, List.filter_nil, List.length_cons, List.length_nil]
     split <;> split <;> split <;> split <;> omega
 rw [h2, if_pos hi, if_pos hk]
theorem fo_len (h : fcB a = true) : (fcL a).atoms.length = a.atoms.length - 1 := by
 obtain ⟨i, k, h1, h2, h3, h4, _⟩ := fo_spec h
 rw [h4]
 unfold foldA woF
 simp only [List.length_cons, List.length_map]
 rw [filter_two _ _ _ h1 h2 h3]
 omega
theorem fo_ent (h : fcB a = true) : ENT a (fcL a) = true := by
 obtain ⟨i, k, _, _, _, h4, h5⟩ := fo_spec h
 rw [h4]; exact h5
theorem fcL_len : (fcL a).facts.length <= a.facts.length /\ (fcL a).atoms.length <= a.atoms.length := by
 cases h : fcB a with
 | true =>
  obtain ⟨i, k, h1, h2, h3, h4, _⟩ := fo_spec h
  have := fo_len h
  have e : (fcL a).facts = a.facts := by rw [h4]; rfl
  exact ⟨by rw [e]; exact Nat.le_refl _, by omega⟩
 | false =>
  unfold fcB at h
  have : fcO a = none := by simpa using h
  unfold fcL
  rw [this]
  exact ⟨Nat.zero_le _, Nat.zero_le _⟩
end
end Go.SE

namespace Go.SE
open Go.RowKit
section
variable {P : Program} {E : Ty -> TypeId} {tab : TypeId -> Option TI} {w0 : World} {M : MM} {n : Nat} {o : Oper} {st : St} {a : Act} {w : World}
end
end Go.SE

namespace Go.SE
open Go.RowKit
section
variable {a b c : GAsn} {s : GState} {f : GFact} {x y : Int}
theorem md200V : (mdL a).vals.length <= 200 := Nat.le_trans (mdL_len _).1 (by decide)
theorem md200H : (mdL a).heap.length <= 200 := Nat.le_trans (mdL_len _).2 (by decide)
theorem fc200F (h1 : a.facts.length <= 100) : (fcL a).facts.length <= 200 := Nat.le_trans fcL_len.1 (by omega)
theorem fc200A (h1 : a.atoms.length <= 100) : (fcL a).atoms.length <= 200 := Nat.le_trans fcL_len.2 (by omega)
end
end Go.SE

namespace Go.SE
open Go.RowKit
abbrev hn (a : GAsn) : Nat -> Bool := hz a fun _ => false
def cn (a : GAsn) (vs : List Int) : List Int := canon (hn a) (tv vs)
section
variable {a : GAsn} {vs : List Int} {i j : Nat} {x : Int}
end
end Go.SE

namespace Go.SE
open Go.RowKit
section
variable {a : GAsn} {i : Int}
end
end Go.SE

namespace Go.SE
open Go.RowKit
section
variable {a : GAsn} {s : GState} {i : Int}
end
end Go.SE
namespace Go.SE
section
variable {a b c : GAsn}
theorem en_fold (h2 : fcB b = true) (h1 : ENT a b = true) : ENT a (fcL b) = true := ent_trans h1 (fo_ent h2)
theorem en_trN (h0 : ENT a c = false) (h1 : ENT a b = true) (h2 : ENT b c = true) : False := by rw [ent_trans h1 h2] at h0; cases h0
theorem fo_hol (h2 : ENT a (fcL a) = true) (h1 : (asV a && !(casesF a).isEmpty) = true) : HOL (mdL a) (fcL a) = true := ent_hol h2 (hol_mdL h1)
theorem fo_lenI (h : fcB a = true) (h2 : ¬ ((fcL a).atoms.length : Int) = (a.atoms.length : Int) - 1) : False := by
 have h1 := fo_len h
 obtain ⟨i, k, h3, _⟩ := fo_spec h
 omega
theorem fo_entN (h : fcB a = true) (h2 : ENT a (fcL a) = false) : False := by rw [fo_ent h] at h2; cases h2
end
end Go.SE
namespace Go.SE
section
variable {a : GAsn} {i : Int}
end
end Go.SE
namespace Go.SE
section
variable {s : GState} {t v : Int}
end
end Go.SE
namespace Go.SE
section
variable {a : GAsn} {i : Int} {p : Nat × Bool}
end
end Go.SE
