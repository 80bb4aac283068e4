/-
  Parts of a symbolic engine over the program's code: how operations, regions, loops and calls are shown to keep contracts. No conditions.
-/
import Derived.Test.YtfoioficiffgkaaEe
import Derived.Test.YtfoioficiffgkaaEd
set_option linter.unusedSimpArgs false
set_option linter.unusedVariables false
set_option linter.unusedSectionVars false

namespace Go.SE
open Go.RowKit
inductive Sg (s : GState) (e : Int) : Int -> List Int -> Prop
 | nil : Sg s e e []
 | step {q : Int} {ns : List Int} : al s q = true -> Sg s e (ct s q) ns -> Sg s e q (q :: ns)
def acV (s : GState) (x : GAtom) : Option (List Int) := if x.kind = 2 then walk s x.b 8 x.a else if ct s x.a = x.b then some [x.a] else none
def ftp (s : GState) (x : GAtom) : List Int := (acV s x).getD []
section
variable {s : GState} {q e m : Int} {ns ms : List Int} {a b : GAsn} {L G : List GAtom} {p : List GAtom} {f : GAtom -> List GAtom} {g : GAtom}
theorem Sg.cat (h : Sg s m q ns) (h2 : Sg s e m ms) : Sg s e q (ns ++ ms) := by
 induction h with
 | nil => exact h2
 | step h1 _ ih => exact .step h1 ih
theorem Sg.al (h : Sg s e q ns) : ∀ n ∈ ns, al s n = true := by
 induction h with
 | nil => intro n hn; cases hn
 | step h1 _ ih =>
  intro n hn
  rcases List.mem_cons.1 hn with e | hn
  ·rw [e]; exact h1
  ·exact ih n hn
theorem walk_sg : ∀ (k : Nat) (q : Int) (ns : List Int), walk s e k q = some ns -> Sg s e q ns /\ e ∉ ns := by
 intro k
 induction k with
 | zero =>
  intro q ns h
  simp only [walk] at h
  split at h
  ·rename_i hq; injection h with h; subst h; subst hq; exact ⟨.nil, by simp⟩
  ·cases h
 | succ k ih =>
  intro q ns h
  simp only [walk] at h
  split at h
  ·rename_i hq; injection h with h; subst h; subst hq; exact ⟨.nil, by simp⟩
  ·rename_i hq
   cases ha : al s q with
   | false => rw [ha] at h; cases h
   | true =>
    rw [ha, cond_true] at h
    cases hw : walk s e k (ct s q) with
    | none => rw [hw] at h; cases h
    | some ms =>
     rw [hw] at h
     injection h with h
     subst h
     obtain ⟨h1, h2⟩ := ih _ _ hw
     refine ⟨.step ha h1, fun hm => ?_⟩
     rcases List.mem_cons.1 hm with e1 | hm
     ·exact hq e1.symm
     ·exact h2 hm
theorem sg_walk (h : Sg s e q ns) : ∀ k : Nat, e ∉ ns -> ns.length <= k -> walk s e k q = some ns := by
 induction h with
 | nil => intro k _ _; cases k <;> simp [walk]
 | @step q ns h1 h2 ih =>
  intro k hn hk
  have hne : ¬ q = e := fun hq => hn (by rw [hq]; simp)
  cases k with
  | zero => simp at hk
  | succ k =>
   simp only [walk]
   rw [if_neg hne, h1, cond_true, ih k (fun hm => hn (by simp [hm])) (by simpa using hk)]
   rfl
theorem acO_V {x : GAtom} : acO s x = acV s (imA (tv s.vals) x) := rfl
theorem ac_ftp {x : GAtom} (h : (acV s x).isSome = true) : acV s x = some (ftp s x) := by
 obtain ⟨c, hc⟩ := Option.isSome_iff_exists.1 h
 unfold ftp; rw [hc]; rfl
theorem ftp_sg {x : GAtom} (h : (acV s x).isSome = true) (hb : 0 <= x.b) : Sg s x.b x.a (ftp s x) := by
 have h := ac_ftp h
 unfold acV at h
 by_cases hk : x.kind = 2
 ·rw [if_pos hk] at h; exact (walk_sg _ _ _ h).1
 ·rw [if_neg hk] at h
  split at h
  ·rename_i hc
   injection h with h
   rw [← h]
   refine .step (by unfold Go.SE.al; rw [hc]; exact decide_eq_true hb) ?_
   rw [hc]; exact .nil
  ·cases h
theorem ftp_head {x : GAtom} (h : (acV s x).isSome = true) (hne : x.kind = 2 -> x.a ≠ x.b) : x.a ∈ ftp s x := by
 have h := ac_ftp h
 unfold acV at h
 by_cases hk : x.kind = 2
 ·rw [if_pos hk] at h; exact (walk_al _ _ _ h).2 (hne hk)
 ·rw [if_neg hk] at h
  split at h
  ·injection h with h
   rw [← h]; simp
  ·cases h
theorem Pth.first {L : List GAtom} {y q : Int} {p : List GAtom} (h : Pth L y q p) {x : GAtom} (hx : x ∈ p) (e : x.a = y) : q = y := by
 induction h with
 | last h1 h2 => rw [List.mem_singleton] at hx; rw [hx] at e; exact e
 | @step x0 p h1 h2 h3 ih =>
  rcases List.mem_cons.1 hx with e2 | hx
  ·rw [e2] at e; exact e
  ·exact (h2 (ih hx)).elim
structure Hp (s : GState) (L : List GAtom) : Prop where
 pos : Pos 0 L
 ne : ∀ x ∈ L, x.kind = 2 -> x.a ≠ x.b
 vb : ∀ x ∈ L, 0 <= x.b
 ac : ∀ x ∈ L, (acV s x).isSome = true
 nd : (L.flatMap (ftp s)).Nodup
theorem Hp.own (h : Hp s L) {x x' : GAtom} (hx : x ∈ L) (hx' : x' ∈ L) {n : Int} (h1 : n ∈ ftp s x) (h2 : n ∈ ftp s x') : x = x' := by
 have hd := h.nd
 unfold List.Nodup at hd
 rw [List.pairwise_flatMap] at hd
 have key : ∀ {l : List GAtom}, (l.Pairwise fun x x' => ∀ n ∈ ftp s x, ∀ n' ∈ ftp s x', n ≠ n') -> x ∈ l -> x' ∈ l -> x = x' := by
  intro l hl a1 a2
  induction l with
  | nil => cases a1
  | cons a l ih =>
   rw [List.pairwise_cons] at hl
   rcases List.mem_cons.1 a1 with e1 | a3 <;> rcases List.mem_cons.1 a2 with e2 | a4
   ·rw [e1, e2]
   ·rw [e1] at h1; exact (hl.1 _ a4 n h1 n h2 rfl).elim
   ·rw [e2] at h2; exact (hl.1 _ a3 n h2 n h1 rfl).elim
   ·exact ih hl.2 a3 a4
 exact key hd.2 hx hx'
theorem al_le8 (hd : ns.Nodup) (h : ∀ n ∈ ns, al s n = true) : ns.length <= 8 := by
 have hp : ns.Perm (addrs.filter fun n => decide (n ∈ ns)) := by
  rw [List.perm_ext_iff_of_nodup hd (List.Nodup.sublist List.filter_sublist (by decide))]
  intro n
  rw [List.mem_filter, decide_eq_true_eq]
  refine ⟨fun hn => ⟨?_, hn⟩, fun hn => hn.2⟩
  have := al_range (h n hn)
  have : n = 1 ∨ n = 2 ∨ n = 3 ∨ n = 4 ∨ n = 5 ∨ n = 6 ∨ n = 7 ∨ n = 8 := by omega
  unfold addrs
  simpa using this
 rw [hp.length_eq]
 exact List.length_filter_le _ _
theorem pth_sg (h : Hp s L) {y : Int} (hp : Pth L y q p) : Sg s y q (p.flatMap (ftp s)) := by
 induction hp with
 | @last x h1 e =>
  have := ftp_sg (h.ac x h1) (h.vb x h1)
  rw [e] at this
  simpa using this
 | @step x p h1 e h3 ih =>
  rw [List.flatMap_cons]
  exact (ftp_sg (h.ac x h1) (h.vb x h1)).cat ih
theorem pth_end (h : Hp s L) {y : Int} (hp : Pth L y q p) (hq : q ≠ y) (ho : Opn 0 L y p) : y ∉ p.flatMap (ftp s) := by
 intro hm
 obtain ⟨x, hx, hy⟩ := List.mem_flatMap.1 hm
 have hxL := hp.sub x hx
 rcases ho with ho | ⟨x', hx', e⟩ | ho
 ·have := al_range ((ftp_sg (h.ac x hxL) (h.vb x hxL)).al y hy)
  omega
 ·have h1 := ftp_head (h.ac x' hx') (h.ne x' hx')
  rw [e] at h1
  have := h.own hxL hx' hy h1
  subst this
  exact hq (hp.first hx e)
 ·have hac := ac_ftp (h.ac x hxL)
  unfold acV at hac
  by_cases hk : x.kind = 2
  ·rw [if_pos hk] at hac
   by_cases hb : x.b = y
   ·rw [hb] at hac; exact (walk_sg _ _ _ hac).2 hy
   ·exact ho x (hp.inner hx hb) hk
  ·rw [if_neg hk] at hac
   split at hac
   ·injection hac with hac
    rw [← hac, List.mem_singleton] at hy
    exact hq (hp.first hx hy.symm)
   ·cases hac
theorem flatMap_sub (h : Hp s L) (hp : Pth L e q p) (hd : (p.flatMap (ftp s)).Nodup) : (p.flatMap (ftp s)).length <= 8 := al_le8 hd (pth_sg h hp).al
theorem match_ac (h : Hp s L) (hf : MtF 0 L G f) (hne : ∀ g ∈ G, g.kind = 2 -> g.a ≠ g.b) (hk : ∀ g ∈ G, g.kind ≠ 1 -> g.kind = 2) : ∀ g ∈ G, acV s g = some ((f g).flatMap (ftp s)) := by
 intro g hg
 have hnd : ((G.flatMap f).flatMap (ftp s)).Nodup := ((hf.all.flatMap_right (ftp s)).nodup_iff).2 h.nd
 rw [List.flatMap_assoc] at hnd
 unfold List.Nodup at hnd
 rw [List.pairwise_flatMap] at hnd
 have hd := hnd.1 g hg
 rcases hf.ok g hg with ⟨k1, m1, e1⟩ | ⟨k1, p1, o1⟩
 ·rw [e1, ac_ftp (h.ac g m1)]
  simp
 ·have k2 := hk g hg k1
  have hq := hne g hg k2
  unfold acV
  rw [if_pos k2]
  exact sg_walk (pth_sg h p1) 8 (pth_end h p1 hq o1) (flatMap_sub h p1 hd)
theorem match_hp (h : Hp s L) (hf : MtF 0 L G f) (hne : ∀ g ∈ G, g.kind = 2 -> g.a ≠ g.b) (hk : ∀ g ∈ G, g.kind ≠ 1 -> g.kind = 2) : (∀ g ∈ G, (acV s g).isSome = true) /\ (G.flatMap (ftp s)).Perm (L.flatMap (ftp s)) := by
 have ha := match_ac h hf hne hk
 refine ⟨fun g hg => by rw [ha g hg]; rfl, ?_⟩
 have e : G.flatMap (ftp s) = (G.flatMap f).flatMap (ftp s) := by
  rw [List.flatMap_assoc, List.flatMap_def, List.flatMap_def]
  congr 1
  refine List.map_congr_left fun g hg => ?_
  unfold ftp
  rw [show acV s g = _ from ha g hg]
  rfl
 rw [e]
 exact hf.all.flatMap_right _
theorem ptO_iff : ∀ (l : List GAtom) (M N : List Int), M.Nodup -> (ptO s M l = some N ↔ (∀ x ∈ l, (acO s x).isSome = true) /\ N = M ++ l.flatMap (fun x => ftp s (imA (tv s.vals) x)) /\ N.Nodup) := by
 intro l
 induction l with
 | nil =>
  intro M N hM
  simp only [ptO, List.not_mem_nil, false_imp_iff, implies_true, true_and, List.flatMap_nil, List.append_nil]
  exact ⟨fun h => by injection h with h; rw [← h]; exact ⟨rfl, hM⟩, fun h => by rw [h.1]⟩
 | cons x l ih =>
  intro M N hM
  simp only [ptO]
  cases hx : acO s x with
  | none =>
   simp only [reduceCtorEq, false_iff, not_and]
   intro h
   have := h x (by simp)
   rw [hx] at this; cases this
  | some c =>
   have hc : ftp s (imA (tv s.vals) x) = c := by unfold ftp; rw [← acO_V, hx]; rfl
   rw [List.flatMap_cons, hc, ← List.append_assoc]
   simp only
   have hcon : (c.all (fun n => !M.contains n) && decide c.Nodup) = true ↔ (M ++ c).Nodup := by
    rw [Bool.and_eq_true, decide_eq_true_eq, List.nodup_append, List.all_eq_true]
    constructor
    ·rintro ⟨h1, h2⟩
     refine ⟨hM, h2, fun n hn n' hn' e => ?_⟩
     have := h1 n' hn'
     rw [Bool.not_eq_true', con_no] at this
     exact this (by rw [← e]; exact hn)
    ·rintro ⟨_, h2, h3⟩
     refine ⟨fun n hn => ?_, h2⟩
     rw [Bool.not_eq_true', con_no]
     exact fun hm => h3 n hm n hn rfl
   cases hb : (c.all (fun n => !M.contains n) && decide c.Nodup) with
   | false =>
    simp only [cond_false, reduceCtorEq, false_iff, not_and]
    rintro _ rfl hnd
    have := (List.nodup_append.1 hnd).1
    rw [← hcon, hb] at this
    cases this
   | true =>
    rw [cond_true, ih (M ++ c) N (hcon.1 hb)]
    refine and_congr_left fun _ => ?_
    constructor
    ·intro h y hy
     rcases List.mem_cons.1 hy with e | hy
     ·rw [e, hx]; rfl
     ·exact h y hy
    ·intro h y hy; exact h y (by simp [hy])
theorem flat_filt : ∀ (l : List GAtom), l.all atV = true -> l.flatMap (fun x => ftp s (imA (tv s.vals) x)) = (fv (tv s.vals) l).flatMap (ftp s) := by
 intro l
 induction l with
 | nil => intro _; rfl
 | cons x l ih =>
  intro h
  rw [List.all_cons, Bool.and_eq_true] at h
  have ih := ih h.2
  unfold fv filt at ih ⊢
  rw [List.flatMap_cons, ih, List.filter_cons]
  split
  ·rw [List.map_cons, List.flatMap_cons]
  ·rename_i hn
   have hk := atV_kind h.1
   simp only [Bool.or_eq_true, beq_iff_eq, Bool.not_eq_true', beq_eq_false_iff_ne, ne_eq, not_or, Decidable.not_not] at hn
   have e : ftp s (imA (tv s.vals) x) = [] := by
    unfold ftp acV
    rw [if_pos (show (imA (tv s.vals) x).kind = 2 from hk hn.1)]
    show (walk s (tv s.vals x.b) 8 (tv s.vals x.a)).getD [] = []
    rw [hn.2, walk_same]; rfl
   rw [e]; rfl
theorem hol_iff (hs : stV s = true) (ha : asV a = true) : HOL s a = true ↔ (∀ f ∈ a.facts, (tv s.vals f.a == tv s.vals f.b) = f.eq) /\ (∀ x ∈ fv (tv s.vals) a.atoms, (acV s x).isSome = true) /\ ((fv (tv s.vals) a.atoms).flatMap (ftp s)).Nodup /\
  ∀ n ∈ addrs, (n ∈ (fv (tv s.vals) a.atoms).flatMap (ftp s) ↔ al s n = true) := by
 have hA := asV_at ha
 unfold HOL
 rw [hs, ha, Bool.true_and, Bool.true_and, Bool.and_eq_true]
 refine and_congr ?_ ?_
 ·unfold fctB
  rw [List.all_eq_true]
  exact ⟨fun h f hf => by simpa using h f hf, fun h f hf => by simpa using h f hf⟩
 ·have key := ptO_iff (s := s) a.atoms []
  have hsome : (∀ x ∈ a.atoms, (acO s x).isSome = true) ↔ ∀ x ∈ fv (tv s.vals) a.atoms, (acV s x).isSome = true := by
   constructor
   ·intro h x hx
    obtain ⟨y, hy, rfl⟩ := List.mem_map.1 hx
    rw [← acO_V]; exact h y (List.mem_filter.1 hy).1
   ·intro h x hx
    by_cases hf : (x.kind == 1 || !(tv s.vals x.a == tv s.vals x.b)) = true
    ·rw [acO_V]; exact h _ (List.mem_map_of_mem (List.mem_filter.2 ⟨hx, hf⟩))
    ·have hk := atV_kind (List.all_eq_true.1 hA x hx)
     simp only [Bool.or_eq_true, beq_iff_eq, Bool.not_eq_true', beq_eq_false_iff_ne, ne_eq, not_or, Decidable.not_not] at hf
     unfold acO
     rw [if_pos (hk hf.1), hf.2, walk_same]; rfl
  have hall : ∀ N : List Int, (addrs.all fun n => N.contains n == al s n) = true ↔ ∀ n ∈ addrs, (n ∈ N ↔ al s n = true) := fun N => by
   rw [List.all_eq_true]
   refine forall_congr' fun n => forall_congr' fun _ => ?_
   rw [beq_iff_eq, Bool.eq_iff_iff, List.contains_iff_mem]
  constructor
  ·intro h
   cases hp : ptO s [] a.atoms with
   | none => rw [hp] at h; cases h
   | some N =>
    rw [hp] at h
    obtain ⟨h1, h2, h3⟩ := (key N List.nodup_nil).1 hp
    rw [List.nil_append, flat_filt _ hA] at h2
    rw [h2] at h3 h
    exact ⟨hsome.1 h1, h3, (hall _).1 h⟩
  ·rintro ⟨h1, h2, h3⟩
   rw [(key ((fv (tv s.vals) a.atoms).flatMap (ftp s)) List.nodup_nil).2 ⟨hsome.2 h1, by rw [List.nil_append, flat_filt _ hA], h2⟩]
   exact (hall _).2 h3
theorem fv_ne {v : Int -> Int} {l : List GAtom} (hl : l.all atV = true) : ∀ x ∈ fv v l, x.kind = 2 -> x.a ≠ x.b := fun x hx hk => by
 obtain ⟨y, hy, rfl⟩ := List.mem_map.1 hx
 have := (List.mem_filter.1 hy).2
 have hk : y.kind = 2 := hk
 rw [hk] at this
 simpa [imA] using this
theorem ent_hol (h : ENT a b = true) (hh : HOL s a = true) : HOL s b = true := by
 obtain ⟨ha, hb, hq⟩ := ent_iff.1 h
 obtain ⟨hs, _, hv⟩ := hol_poss hh
 have hq := hq _ hv
 obtain ⟨h1, h2, h3, h4⟩ := (hol_iff hs ha).1 hh
 have h0 : tv s.vals 0 = 0 := rfl
 have hpos := fv_pos (asV_at ha) hv
 have hmt := hq.mt
 rw [h0] at hpos hmt
 obtain ⟨f, hf⟩ := hmt
 have hH : Hp s (fv (tv s.vals) a.atoms) := ⟨hpos, fv_ne (asV_at ha), fun x hx => by
  obtain ⟨y, hy, rfl⟩ := List.mem_map.1 hx
  exact (tv_isT hs (atV_isT (List.all_eq_true.1 (asV_at ha) y (List.mem_filter.1 hy).1)).2).1, h2, h3⟩
 obtain ⟨g1, g2⟩ := match_hp hH hf (fv_ne (asV_at hb)) (fv_kind (asV_at hb))
 exact (hol_iff hs hb).2 ⟨hq.facts, g1, (g2.nodup_iff).2 h3, fun n hn => by rw [g2.mem_iff]; exact h4 n hn⟩
end
end Go.SE

namespace Go.SE
open Go.RowKit
def woF (l : List GAtom) (i k : Int) (n : Nat) : List GAtom := ((List.range n).filter fun (j : Nat) => !((j : Int) == i) && !((j : Int) == k)).map fun j => l.getD j nA
def foldA (a : GAsn) (i k : Nat) : GAsn := ⟨a.facts, ⟨2, (a.atoms.getD i nA).a, (a.atoms.getD k nA).b⟩ :: woF a.atoms i k a.atoms.length⟩
def fcOk (a : GAsn) (i k : Nat) : Bool := !(i == k) && (((a.atoms.getD i nA).b == (a.atoms.getD k nA).a) && ENT a (foldA a i k))
def fcR (a : GAsn) (i : Nat) : Option Nat := (List.range a.atoms.length).find? (fcOk a i)
def fcI (a : GAsn) : Option Nat := (List.range a.atoms.length).find? fun i => (fcR a i).isSome
def fcO (a : GAsn) : Option GAsn := cond (asV a) ((fcI a).bind fun i => (fcR a i).map fun k => foldA a i k) none
def fcL (a : GAsn) : GAsn := (fcO a).getD ⟨[], []⟩
def fcB (a : GAsn) : Bool := (fcO a).isSome
section
variable {a : GAsn} {l : List GAtom} {i k : Int} {n : Nat}
theorem fo_spec (h : fcB a = true) : ∃ i k : Nat, i < a.atoms.length /\ k < a.atoms.length /\ i ≠ k /\ fcL a = foldA a i k /\ ENT a (foldA a i k) = true := by
 unfold fcB at h
 obtain ⟨b, hb⟩ := Option.isSome_iff_exists.1 h
 have hb' := hb
 unfold fcO at hb
 cases ha : asV a with
 | false => rw [ha] at hb; cases hb
 | true =>
  rw [ha, cond_true] at hb
  cases hI : fcI a with
  | none => rw [hI] at hb; cases hb
  | some i =>
   rw [hI] at hb
   have hb : (fcR a i).map (fun k => foldA a i k) = some b := hb
   cases hR : fcR a i with
   | none => rw [hR] at hb; cases hb
   | some k =>
    rw [hR] at hb
    injection hb with hb
    unfold fcR at hR
    obtain ⟨h1, h2, _⟩ := List.find?_range_eq_some.1 hR
    unfold fcI at hI
    obtain ⟨_, h4, _⟩ := List.find?_range_eq_some.1 hI
    unfold fcOk at h1
    simp only [Bool.and_eq_true, Bool.not_eq_true', beq_eq_false_iff_ne, ne_eq] at h1
    refine ⟨i, k, List.mem_range.1 h4, List.mem_range.1 h2, h1.1, ?_, h1.2.2⟩
    unfold fcL
    rw [hb', ← hb]
    rfl
theorem filter_two : ∀ (n i k : Nat), i < n -> k < n -> i ≠ k -> ((List.range n).filter fun (j : Nat) => !((j : Int) == (i : Int)) && !((j : Int) == (k : Int))).length = n - 2 := by
 intro n i k hi hk hne
 have h1 : ∀ (n i : Nat), ((List.range n).filter fun (j : Nat) => !((j : Int) == (i : Int))).length = if i < n then n - 1 else n := by
  intro n i
  induction n with
  | zero => rfl
  | succ n ih =>
   rw [List.range_succ, List.filter_append, List.length_append, ih]
   by_cases e : n = i
   ·subst e; simp
   ·have : ¬ (n : Int) = (i : Int) := by omega
    simp only [List.filter_cons, beq_eq_false_iff_ne.2 this, Bool.not_false, if_true, List.filter_nil, List.length_cons, List.length_nil]
    split <;> split <;> omega
 have h2 : ∀ n : Nat, ((List.range n).filter fun (j : Nat) => !((j : Int) == (i : Int)) && !((j : Int) == (k : Int))).length = if i < n then (if k < n then n - 2 else n - 1) else (if k < n then n - 1 else n) := by
  intro n
  induction n with
  | zero => rfl
  | succ n ih =>
   rw [List.range_succ, List.filter_append, List.length_append, ih]
   by_cases e : n = i
   ·subst e
    have : (k < n + 1) ↔ k < n := by omega
    simp only [this]
    simp
    all_goals (split <;> omega)
   ·have e' : ¬ (n : Int) = (i : Int) := by omega
    by_cases e2 : n = k
    ·subst e2
     have : (i < n + 1) ↔ i < n := by omega
     simp only [this]
     simp
     all_goals (split <;> omega)
    ·have e2' : ¬ (n : Int) = (k : Int) := by omega
     simp only [List.filter_cons, beq_eq_false_iff_ne.2 e', beq_eq_false_iff_ne.2 e2', Bool.not_false, Bool.and_self, if_true, List.filter_nil, List.length_cons, List.length_nil]
     split <;> split <;> split <;> split <;> omega
 rw [h2, if_pos hi, if_pos hk]
theorem fo_len (h : fcB a = true) : (fcL a).atoms.length = a.atoms.length - 1 := by
 obtain ⟨i, k, h1, h2, h3, h4, _⟩ := fo_spec h
 rw [h4]
 unfold foldA woF
 simp only [List.length_cons, List.length_map]
 rw [filter_two _ _ _ h1 h2 h3]
 omega
theorem fcL_len : (fcL a).facts.length <= a.facts.length /\ (fcL a).atoms.length <= a.atoms.length := by
 cases h : fcB a with
 | true =>
  obtain ⟨i, k, h1, h2, h3, h4, _⟩ := fo_spec h
  have := fo_len h
  have e : (fcL a).facts = a.facts := by rw [h4]; rfl
  exact ⟨by rw [e]; exact Nat.le_refl _, by omega⟩
 | false =>
  unfold fcB at h
  have : fcO a = none := by simpa using h
  unfold fcL
  rw [this]
  exact ⟨Nat.zero_le _, Nat.zero_le _⟩
end
end Go.SE

namespace Go.SE
open Go.RowKit
section
variable {P : Program} {E : Ty -> TypeId} {tab : TypeId -> Option TI} {w0 : World} {M : MM} {n : Nat} {o : Oper} {st : St} {a : Act} {w : World}
end
end Go.SE

namespace Go.SE
open Go.RowKit
abbrev hn (a : GAsn) : Nat -> Bool := hz a fun _ => false
def cn (a : GAsn) (vs : List Int) : List Int := canon (hn a) (tv vs)
section
variable {a : GAsn} {vs : List Int} {i j : Nat} {x : Int}
end
end Go.SE

namespace Go.SE
open Go.RowKit
def woA (l : List GAtom) (i : Int) : List GAtom := l.take i.toNat ++ l.drop (i.toNat + 1)
def woK (l : List GAtom) (i : Int) (j : Nat) : List GAtom := ((List.range j).filter fun k : Nat => !((k : Int) == i)).map fun k => l.getD k ⟨0, 0, 0⟩
def ufX (a : GAsn) (i : Int) : GAtom := a.atoms.getD i.toNat ⟨0, 0, 0⟩
def ufE' (a : GAsn) (i : Int) : GAsn := ⟨a.facts ++ [⟨true, (ufX a i).a, (ufX a i).b⟩], woA a.atoms i⟩
def ufF' (a : GAsn) (i : Int) : GAsn := ⟨a.facts ++ [⟨false, (ufX a i).a, (ufX a i).b⟩], [⟨1, (ufX a i).a, frL a⟩, ⟨2, frL a, (ufX a i).b⟩] ++ woA a.atoms i⟩
def ufOk (a : GAsn) (i : Int) : Bool := asV a && (decide (0 <= i) && (decide (i < a.atoms.length) && ((ufX a i).kind == 2 && (frB a && (asV (ufE' a i) && asV (ufF' a i))))))
def ufE (a : GAsn) (i : Int) : GAsn := cond (ufOk a i) (ufE' a i) ⟨[], []⟩
def ufF (a : GAsn) (i : Int) : GAsn := cond (ufOk a i) (ufF' a i) ⟨[], []⟩
theorem woK_step (l : List GAtom) (i : Int) (j : Nat) : woK l i (j + 1) = cond ((j : Int) == i) (woK l i j) (woK l i j ++ [l.getD j ⟨0, 0, 0⟩]) := by
 unfold woK
 rw [List.range_succ, List.filter_append, List.map_append]
 cases h : ((j : Int) == i) <;> simp [List.filter, h]
theorem woK_len (l : List GAtom) (i : Int) (j : Nat) : (woK l i j).length <= j := by
 unfold woK
 rw [List.length_map]
 exact Nat.le_trans (List.length_filter_le _ _) (by simp)
theorem woK_end {l : List GAtom} {i : Int} (h0 : 0 <= i) (h1 : i < l.length) : woK l i l.length = woA l i := by
 obtain ⟨n, rfl⟩ := Int.eq_ofNat_of_zero_le h0
 have hn : n < l.length := by omega
 unfold woA
 rw [Int.toNat_natCast]
 have before : ∀ m, m <= n -> woK l n m = l.take m := by
  intro m
  induction m with
  | zero => intro _; rfl
  | succ m ih =>
   intro hm
   rw [woK_step, ih (by omega)]
   have : ((m : Int) == (n : Int)) = false := by simp; omega
   rw [this, cond_false, List.take_add_one, List.getD_eq_getElem?_getD, List.getElem?_eq_getElem (by omega)]
   rfl
 have after : ∀ k, n + 1 + k <= l.length -> woK l n (n + 1 + k) = l.take n ++ (l.drop (n + 1)).take k := by
  intro k
  induction k with
  | zero =>
   intro _
   rw [Nat.add_zero, woK_step, before n (Nat.le_refl _), beq_self_eq_true]
   simp
  | succ k ih =>
   intro hk
   rw [← Nat.add_assoc, woK_step, ih (by omega)]
   have : (((n + 1 + k : Nat) : Int) == (n : Int)) = false := by simp; omega
   rw [this, cond_false, List.append_assoc]
   congr 1
   rw [List.take_add_one, List.getD_eq_getElem?_getD, List.getElem?_drop, List.getElem?_eq_getElem (by omega)]
   rfl
 have := after (l.length - (n + 1)) (by omega)
 rw [show n + 1 + (l.length - (n + 1)) = l.length by omega] at this
 rw [this, List.take_of_length_le (l := l.drop (n + 1)) (by simp)]
theorem woA_le {l : List GAtom} {i : Int} {n : Nat} (h : l.length <= n) : (woA l i).length <= n := by
 unfold woA
 rw [List.length_append, List.length_take, List.length_drop]
 omega
theorem woA_eq {l : List GAtom} {i : Int} (h0 : 0 <= i) (h1 : i < l.length) : List.take i.toNat l ++ List.take (l.length - (i + 1).toNat) (List.drop (i + 1).toNat l) = woA l i := by
 unfold woA
 rw [show (i + 1).toNat = i.toNat + 1 by omega, List.take_of_length_le (l := l.drop (i.toNat + 1)) (by simp)]
section
variable {a : GAsn} {i : Int}
theorem ul_no1 (h : asV a = false) : ufOk a i = false := by unfold ufOk; rw [h]; rfl
theorem ul_no2 (h : i < 0) : ufOk a i = false := by unfold ufOk; rw [decide_eq_false (show ¬ 0 <= i by omega)]; simp
theorem ul_no3 (h : (a.atoms.length : Int) <= i) : ufOk a i = false := by unfold ufOk; rw [decide_eq_false (show ¬ i < (a.atoms.length : Int) by omega)]; simp
theorem ul_no4 (h : ¬ (ufX a i).kind = 2) : ufOk a i = false := by unfold ufOk; rw [show ((ufX a i).kind == 2) = false from beq_eq_false_iff_ne.2 h]; simp
theorem ul_no5 (h : frB a = false) : ufOk a i = false := by unfold ufOk; rw [h]; simp
theorem ul_no6 (h : asV (ufE' a i) = false) : ufOk a i = false := by unfold ufOk; rw [h]; simp
theorem ul_no7 (h : asV (ufF' a i) = false) : ufOk a i = false := by unfold ufOk; rw [h]; simp
theorem ul_yes (ha : asV a = true) (h0 : ¬ i < 0) (h1 : ¬ (a.atoms.length : Int) <= i) (hk : (ufX a i).kind = 2) (hf : frB a = true) (he : asV (ufE' a i) = true) (hF : asV (ufF' a i) = true) : ufOk a i = true := by
 unfold ufOk
 rw [ha, decide_eq_true (show 0 <= i by omega), decide_eq_true (show i < (a.atoms.length : Int) by omega), hk, hf, he, hF]
 rfl
theorem ul_nE (h : ufOk a i = false) : (⟨[], []⟩ : GAsn) = ufE a i := by unfold ufE; rw [h]; rfl
theorem ul_nF (h : ufOk a i = false) : (⟨[], []⟩ : GAsn) = ufF a i := by unfold ufF; rw [h]; rfl
theorem ul_yE (h : ufOk a i = true) : ufE' a i = ufE a i := by unfold ufE; rw [h]; rfl
theorem ul_yF (h : ufOk a i = true) : ufF' a i = ufF a i := by unfold ufF; rw [h]; rfl
end
theorem ul_full {l : List GAtom} {i : Int} {j : Nat} (h0 : ¬ i < 0) (h1 : ¬ (l.length : Int) <= i) (h2 : j <= l.length) (h3 : ¬ j < l.length) : woK l i j = woA l i := by
 rw [show j = l.length by omega]; exact woK_end (by omega) (by omega)
theorem ul_skip {l : List GAtom} {i : Int} {j : Nat} (h : (j : Int) = i) : woK l i (j + 1) = woK l i j := by
 rw [woK_step, show ((j : Int) == i) = true by simpa using h, cond_true]
theorem ul_take {l : List GAtom} {i : Int} {j : Nat} (h : ¬ (j : Int) = i) : woK l i (j + 1) = woK l i j ++ [l.getD j ⟨0, 0, 0⟩] := by
 rw [woK_step, show ((j : Int) == i) = false by simpa using h, cond_false]
theorem ul_as {a : GAsn} (h : frB a = true) : asV a = true := by unfold frB at h; rw [Bool.and_eq_true] at h; exact h.1
end Go.SE

namespace Go.SE
open Go.RowKit
section
variable {a b c : GAsn} {s : GState} {f : GFact} {x y : Int}
theorem stL_of (h : starOk a b = true) : starL a b = starA a b /\ asV (starA a b) = true /\ asV a = true /\ asV b = true := by
 have h' := h
 unfold starOk at h'
 simp only [Bool.and_eq_true] at h'
 unfold starL
 rw [h]
 exact ⟨rfl, h'.2, h'.1.1, h'.1.2⟩
theorem en_cons (h2 : ENT a b = true) (h1 : (asV a && !(casesF a).isEmpty) = true) (h3 : (asV b && !(casesF b).isEmpty) = false) : False := by
 have hb := ent_v2 h2
 rw [hb, Bool.true_and, Bool.not_eq_false'] at h3
 have := ent_cons h2 h3
 rw [this] at h1
 simp at h1
theorem en_none (h2 : ENT a b = false) (h1 : (asV a && !(casesF a).isEmpty) = false) (ha : asV a = true) (hb : asV b = true) : False := by
 rw [ha, Bool.true_and, Bool.not_eq_false'] at h1
 rw [ent_none ha hb h1] at h2
 cases h2
theorem en_star (h : ENT a b = true) (h1 : starOk a c = true) (h2 : starOk b c = true) : ENT (starL a c) (starL b c) = true := by
 rw [(stL_of h1).1, (stL_of h2).1]
 exact ent_frame h (stL_of h1).2.1 (stL_of h2).2.1
theorem starL_bdF (h1 : a.facts.length <= 100) (h2 : b.facts.length <= 100) : (starL a b).facts.length <= 200 := Nat.le_trans (starL_lenF _ _) (by omega)
theorem starL_bdA (h1 : a.atoms.length <= 100) (h2 : b.atoms.length <= 100) : (starL a b).atoms.length <= 200 := Nat.le_trans (starL_lenA _ _) (by omega)
theorem starL_one (h1 : a.facts.length <= 100) : (starL a ⟨[f], []⟩).facts.length <= 200 := starL_bdF h1 (by show 1 <= 100; omega)
theorem starL_oneA (h1 : a.atoms.length <= 100) : (starL a ⟨[f], []⟩).atoms.length <= 200 := starL_bdA h1 (by show 0 <= 100; omega)
theorem en_fact (h : starOk b ⟨[f], []⟩ = true) (ha : asV a = true) : ENT a (starL b ⟨[f], []⟩) = (ENT a b && IMP a f) := by
 obtain ⟨h1, h2, h3, h4⟩ := st1_of h
 rw [h4]
 exact ent_fact ha h3 h1 h2
theorem en_fact1 (h : starOk b ⟨[f], []⟩ = true) (ha : asV a = true) (he : ENT a b = true) : ENT a (starL b ⟨[f], []⟩) = IMP a f := by rw [en_fact h ha, he, Bool.true_and]
theorem en_fact0 (h : starOk b ⟨[f], []⟩ = true) (ha : asV a = true) (he : ENT a b = false) : ENT a (starL b ⟨[f], []⟩) = false := by rw [en_fact h ha, he, Bool.false_and]
theorem v_rT {v : Int -> Int} {u : Int} (e : v x = v y) : v (rT u x y) = v u := by
 unfold rT
 split
 ·rename_i h; rw [← e, h]
 ·rfl
theorem fv_sub {v : Int -> Int} (e : v x = v y) (l : List GAtom) : fv v (l.map (sA x y)) = fv v l := by
 unfold fv filt
 rw [List.filter_map, List.map_map]
 have e1 : ((fun z : GAtom => z.kind == 1 || !(v z.a == v z.b)) ∘ sA x y) = fun z => z.kind == 1 || !(v z.a == v z.b) := by
  funext z
  show (z.kind == 1 || !(v (rT z.a x y) == v (rT z.b x y))) = _
  rw [v_rT e, v_rT e]
 rw [e1]
 refine List.map_congr_left fun z _ => ?_
 show (⟨z.kind, v (rT z.a x y), v (rT z.b x y)⟩ : GAtom) = ⟨z.kind, v z.a, v z.b⟩
 rw [v_rT e, v_rT e]
theorem en_sub (hi : IMP a ⟨true, x, y⟩ = true) (h1 : subOk a x y = true) (h2 : starOk (subL a x y) ⟨[⟨true, x, y⟩], []⟩ = true) :
  (ENT a (starL (subL a x y) ⟨[⟨true, x, y⟩], []⟩) && ENT (starL (subL a x y) ⟨[⟨true, x, y⟩], []⟩) a) = true := by
 obtain ⟨g1, g2, g3, g4⟩ := st1_of h2
 obtain ⟨ha, _, hv⟩ := imp_iff.1 hi
 have hs : subL a x y = subA a x y := by unfold subL; rw [h1]; rfl
 rw [g4]
 rw [hs] at g3 ⊢
 have hat : ∀ v : Int -> Int, v x = v y -> fv v (subA a x y).atoms = fv v a.atoms := fun v e => fv_sub e a.atoms
 have hfc : ∀ v : Int -> Int, v x = v y -> ∀ f : GFact, (v (sF x y f).a == v (sF x y f).b) = (v f.a == v f.b) := fun v e f => by
  show (v (rT f.a x y) == v (rT f.b x y)) = _
  rw [v_rT e, v_rT e]
 rw [Bool.and_eq_true]
 constructor
 ·refine ent_same ha g3 (fun v hp f hf => ?_) fun v hp => ?_
  ·have e : v x = v y := by simpa using hv v hp
   rcases List.mem_append.1 hf with hf | hf
   ·obtain ⟨f', hf', rfl⟩ := List.mem_map.1 hf
    rw [hfc v e]
    exact hp.facts f' hf'
   ·rw [List.mem_singleton] at hf
    rw [hf]
    show (v x == v y) = true
    rw [e]; simp
  ·have e : v x = v y := by simpa using hv v hp
   show (fv v (subA a x y).atoms).Perm _
   rw [hat v e]
 ·refine ent_same g3 ha (fun v hp f hf => ?_) fun v hp => ?_
  ·have e : v x = v y := by
    have := hp.facts ⟨true, x, y⟩ (List.mem_append.2 (.inr (by simp)))
    simpa using this
   have := hp.facts (sF x y f) (List.mem_append.2 (.inl (List.mem_map_of_mem hf)))
   rw [hfc v e] at this
   exact this
  ·have e : v x = v y := by
    have := hp.facts ⟨true, x, y⟩ (List.mem_append.2 (.inr (by simp)))
    simpa using this
   show List.Perm _ (fv v (subA a x y).atoms)
   rw [hat v e]
theorem en_refl : ENT a a = asV a := by
 cases h : asV a with
 | true => exact ent_refl h
 | false => unfold ENT; rw [h]; rfl
theorem en_refl0 (h : asV a = true) (h2 : ENT a a = false) : False := by rw [ent_refl h] at h2; cases h2
theorem rev_step {l : List GAtom} {i : Nat} (hi : 0 <= (l.length : Int) - 1 - (i : Int)) : l.reverse.take i ++ [l.getD ((l.length : Int) - 1 - (i : Int)).toNat ⟨0, 0, 0⟩] = l.reverse.take (i + 1) := by
 have h1 : i < l.reverse.length := by rw [List.length_reverse]; omega
 rw [List.take_succ_eq_append_getElem h1]
 congr 2
 rw [List.getElem_reverse, List.getD_eq_getElem?_getD, List.getElem?_eq_getElem (by omega), Option.getD_some]
 congr 1
 omega
theorem rev_asV {i : Nat} (h : asV a = true) (hi : ¬ 0 <= (a.atoms.length : Int) - 1 - (i : Int)) : (ENT a ⟨a.facts, a.atoms.reverse.take i⟩ && ENT ⟨a.facts, a.atoms.reverse.take i⟩ a) = true := by
 have e : a.atoms.reverse.take i = a.atoms.reverse := List.take_of_length_le (by rw [List.length_reverse]; omega)
 rw [e]
 have hb : asV ⟨a.facts, a.atoms.reverse⟩ = true := by
  unfold asV at h ⊢
  rw [List.length_reverse, List.all_reverse]
  exact h
 rw [Bool.and_eq_true]
 exact ⟨ent_sub h hb (fun _ h => h) (List.reverse_perm _), ent_sub hb h (fun _ h => h) (List.reverse_perm _).symm⟩
theorem rev_no {i : Nat} (h : asV a = true) (hi : ¬ 0 <= (a.atoms.length : Int) - 1 - (i : Int)) (h2 : (ENT a ⟨a.facts, a.atoms.reverse.take i⟩ && ENT ⟨a.facts, a.atoms.reverse.take i⟩ a) = false) : False := by
 rw [rev_asV h hi] at h2; cases h2
theorem rev_len {l : List GAtom} {i m : Nat} (h : l.length <= m) : (l.reverse.take i).length <= m := Nat.le_trans (List.length_take_le' ..) (by rw [List.length_reverse]; exact h)
theorem en_nf (h : asV a = true) : (ENT a (nfL a) && ENT (nfL a) a) = true := by
 have e : nfL a = nf a := by unfold nfL; rw [h]; rfl
 have hv := nf_val h
 rw [e, Bool.and_eq_true]
 have hfv : ∀ v : Int -> Int, fv v (nf a).atoms = fv v a.atoms := fun v => by
  unfold fv nf
  rw [nfA_filt]
 have hfc : ∀ v : Int -> Int, (∀ f ∈ (nf a).facts, (v f.a == v f.b) = f.eq) ↔ ∀ f ∈ a.facts, (v f.a == v f.b) = f.eq := fun v => by
  have := nfF_v (v := v) a.facts
  rw [Bool.eq_iff_iff, List.all_eq_true, List.all_eq_true] at this
  exact ⟨fun h f hf => by have := this.1 (fun f hf => by simpa using h f hf) f hf; simpa using this, fun h f hf => by have := this.2 (fun f hf => by simpa using h f hf) f hf; simpa using this⟩
 exact ⟨ent_same h hv (fun v hp => (hfc v).2 hp.facts) fun v _ => by rw [hfv], ent_same hv h (fun v hp => (hfc v).1 hp.facts) fun v _ => by rw [hfv]⟩
theorem sub1F (h1 : a.facts.length <= 100) : (starL (subL a x y) ⟨[f], []⟩).facts.length <= 200 := starL_one (Nat.le_trans (subL_lenF _ _ _) h1)
theorem sub1A (h1 : a.atoms.length <= 100) : (starL (subL a x y) ⟨[f], []⟩).atoms.length <= 200 := starL_oneA (Nat.le_trans (subL_lenA _ _ _) h1)
theorem subL200F (h1 : a.facts.length <= 100) : (subL a x y).facts.length <= 200 := Nat.le_trans (subL_lenF _ _ _) (by omega)
theorem subL200A (h1 : a.atoms.length <= 100) : (subL a x y).atoms.length <= 200 := Nat.le_trans (subL_lenA _ _ _) (by omega)
theorem nf200F (h1 : a.facts.length <= 100) : (nfL a).facts.length <= 200 := Nat.le_trans (nfL_len _).1 (by omega)
theorem nf200A (h1 : a.atoms.length <= 100) : (nfL a).atoms.length <= 200 := Nat.le_trans (nfL_len _).2 (by omega)
theorem md200V : (mdL a).vals.length <= 200 := Nat.le_trans (mdL_len _).1 (by decide)
theorem md200H : (mdL a).heap.length <= 200 := Nat.le_trans (mdL_len _).2 (by decide)
theorem rev200 {l : List GAtom} {i : Nat} (h : l.length <= 100) : (l.reverse.take i).length <= 200 := rev_len (by omega)
theorem fc200F (h1 : a.facts.length <= 100) : (fcL a).facts.length <= 200 := Nat.le_trans fcL_len.1 (by omega)
theorem fc200A (h1 : a.atoms.length <= 100) : (fcL a).atoms.length <= 200 := Nat.le_trans fcL_len.2 (by omega)
theorem en_mdN (h : ENT a b = true) (h1 : (asV a && !(casesF a).isEmpty) = true) (h2 : HOL (mdL a) b = false) : False := by
 rw [ent_hol h (hol_mdL h1)] at h2; cases h2
end
end Go.SE

namespace Go.SE
open Go.RowKit
section
variable {a : GAsn} {s : GState} {i : Int}
theorem hol_all (hs : stV s = true) (ha : asV a = true) : HOL s a = true ↔ (∀ f ∈ a.facts, (tv s.vals f.a == tv s.vals f.b) = f.eq) /\ (∀ x ∈ a.atoms, (acO s x).isSome = true) /\ (a.atoms.flatMap fun x => ftp s (imA (tv s.vals) x)).Nodup /\
  ∀ n ∈ addrs, (n ∈ (a.atoms.flatMap fun x => ftp s (imA (tv s.vals) x)) ↔ al s n = true) := by
 rw [hol_iff hs ha, flat_filt _ (asV_at ha)]
 refine and_congr_right fun _ => and_congr_left fun _ => ?_
 constructor
 ·intro h x hx
  by_cases hf : (x.kind == 1 || !(tv s.vals x.a == tv s.vals x.b)) = true
  ·rw [acO_V]; exact h _ (List.mem_map_of_mem (List.mem_filter.2 ⟨hx, hf⟩))
  ·have hk := atV_kind (List.all_eq_true.1 (asV_at ha) x hx)
   simp only [Bool.or_eq_true, beq_iff_eq, Bool.not_eq_true', beq_eq_false_iff_ne, ne_eq, not_or, Decidable.not_not] at hf
   unfold acO
   rw [if_pos (hk hf.1), hf.2, walk_same]; rfl
 ·intro h x hx
  obtain ⟨y, hy, rfl⟩ := List.mem_map.1 hx
  rw [← acO_V]; exact h y (List.mem_filter.1 hy).1
theorem woA_perm {l : List GAtom} (h0 : 0 <= i) (h1 : i < l.length) : l.Perm (l.getD i.toNat ⟨0, 0, 0⟩ :: woA l i) := by
 have hi : i.toNat < l.length := by omega
 have e : l = l.take i.toNat ++ (l.getD i.toNat ⟨0, 0, 0⟩ :: l.drop (i.toNat + 1)) := by
  rw [List.getD_eq_getElem?_getD, List.getElem?_eq_getElem hi, Option.getD_some, List.getElem_cons_drop, List.take_append_drop]
 unfold woA
 exact (List.Perm.of_eq e).trans List.perm_middle
theorem uf_all (h : ufOk a i = true) : asV a = true /\ 0 <= i /\ i < a.atoms.length /\ (ufX a i).kind = 2 /\ frB a = true /\ asV (ufE' a i) = true /\ asV (ufF' a i) = true /\ ufE a i = ufE' a i /\ ufF a i = ufF' a i := by
 have h' := h
 unfold ufOk at h'
 simp only [Bool.and_eq_true, decide_eq_true_eq, beq_iff_eq] at h'
 exact ⟨h'.1, h'.2.1, h'.2.2.1, h'.2.2.2.1, h'.2.2.2.2.1, h'.2.2.2.2.2.1, h'.2.2.2.2.2.2, (ul_yE h).symm, (ul_yF h).symm⟩
theorem uf_perm (h : ufOk a i = true) : a.atoms.Perm (ufX a i :: woA a.atoms i) := by
 obtain ⟨_, h0, h1, _⟩ := uf_all h
 exact woA_perm h0 h1
theorem ent_ufE (h : ufOk a i = true) : ENT (ufE a i) a = true := by
 obtain ⟨ha, _, _, hk, _, hE, _, e, _⟩ := uf_all h
 have hp := uf_perm h
 rw [e]
 refine ent_same hE ha (fun v hv f hf => hv.facts f (List.mem_append.2 (.inl hf))) fun v hv => ?_
 have hx : v (ufX a i).a = v (ufX a i).b := by
  have := hv.facts ⟨true, (ufX a i).a, (ufX a i).b⟩ (List.mem_append.2 (.inr (by simp)))
  simpa using this
 refine (fv_perm hp).trans ?_
 have : fv v (ufX a i :: woA a.atoms i) = fv v (woA a.atoms i) := by
  unfold fv filt
  rw [List.filter_cons, if_neg (by rw [hk, hx]; simp)]
 rw [this]
 exact .refl _
theorem ent_ufF (h : ufOk a i = true) : ENT (ufF a i) a = true := by
 obtain ⟨ha, _, _, hk, _, _, hF, _, e⟩ := uf_all h
 have hp := uf_perm h
 rw [e]
 refine ent_iff.2 ⟨hF, ha, fun v hv => ⟨fun f hf => hv.facts f (List.mem_append.2 (.inl hf)), ?_⟩⟩
 have hx : v (ufX a i).a ≠ v (ufX a i).b := by
  have := hv.facts ⟨false, (ufX a i).a, (ufX a i).b⟩ (List.mem_append.2 (.inr (by simp)))
  simpa using this
 have hpos := fv_pos (asV_at hF) hv
 let A : GAtom := ⟨1, (ufX a i).a, frL a⟩
 let B : GAtom := ⟨2, frL a, (ufX a i).b⟩
 have eL : fv v (ufF' a i).atoms = fv v [A, B] ++ fv v (woA a.atoms i) := fv_app
 have eG : (fv v a.atoms).Perm (fv v [ufX a i] ++ fv v (woA a.atoms i)) := by
  rw [← fv_app]; exact fv_perm hp
 rw [eL] at hpos ⊢
 have hA : fv v [A] = [imA v A] := rfl
 have hX : fv v [ufX a i] = [imA v (ufX a i)] := by
  unfold fv filt
  rw [List.filter_cons, if_pos (by rw [beq_eq_false_iff_ne.2 hx]; simp)]
  rfl
 -- the way through the cell and the rest
 have hone : MtS (v 0) (fv v [A, B]) [imA v (ufX a i)] := by
  have hkx : (imA v (ufX a i)).kind ≠ 1 := by show (ufX a i).kind ≠ 1; rw [hk]; decide
  by_cases hn : v (frL a) = v (ufX a i).b
  ·have e2 : fv v [A, B] = [imA v A] := by
    unfold fv filt
    rw [List.filter_cons, if_pos (by rfl), List.filter_cons, if_neg (by show ¬ ((2 : Int) == 1 || !(v (frL a) == v (ufX a i).b)) = true; rw [hn]; simp)]
    rfl
   rw [e2]
   refine ⟨fun _ => [imA v A], fun g hg => ?_, by simp⟩
   rw [List.mem_singleton] at hg
   subst hg
   exact .inr ⟨hkx, .last (x := imA v A) (by simp) hn, .inr (.inr fun x hx => by cases hx)⟩
  ·have e2 : fv v [A, B] = [imA v A, imA v B] := by
    unfold fv filt
    rw [List.filter_cons, if_pos (by rfl), List.filter_cons, if_pos (by show ((2 : Int) == 1 || !(v (frL a) == v (ufX a i).b)) = true; rw [beq_eq_false_iff_ne.2 hn]; rfl)]
    rfl
   rw [e2]
   refine ⟨fun _ => [imA v A, imA v B], fun g hg => ?_, by simp⟩
   rw [List.mem_singleton] at hg
   subst hg
   refine .inr ⟨hkx, .step (x := imA v A) (by simp) hn (.last (x := imA v B) (by simp) rfl), .inr (.inr fun x hx => ?_)⟩
   rw [show [imA v A, imA v B].dropLast = [imA v A] from rfl, List.mem_singleton] at hx
   subst hx
   show (1 : Int) ≠ 2
   decide
 have hfr := mts_frame hpos hone (mts_self (z := v 0) (.refl (fv v (woA a.atoms i))))
 rw [← hX] at hfr
 obtain ⟨f, hf⟩ := hfr
 exact ⟨f, fun g hg => hf.ok g (eG.mem_iff.1 hg), (eG.flatMap_right f).trans hf.all⟩
def setT (s : GState) (t v : Int) : GState := ⟨s.vals.set (t - 1).toNat v, s.heap⟩
def stO (s : GState) (t v : Int) : Bool := stV s && (isT t && (!(t == 0) && isT v))
def stL (s : GState) (t v : Int) : GState := cond (stO s t v) (setT s t v) ⟨[], []⟩
theorem setT_ct {t v n : Int} : ct (setT s t v) n = ct s n := rfl
theorem setT_tv {t v u : Int} (hs : stV s = true) (ht : isT t = true) (h0 : t ≠ 0) (hu : isT u = true) : tv (setT s t v).vals u = if u = t then v else tv s.vals u := by
 have h8 := (stV_all hs).1
 obtain ⟨t1, t2⟩ := isT_iff.1 ht
 obtain ⟨u1, u2⟩ := isT_iff.1 hu
 unfold tv setT
 simp only
 by_cases hu0 : u = 0
 ·subst hu0
  rw [if_pos rfl, if_neg (by omega), if_pos rfl]
 ·rw [if_neg hu0, if_neg hu0]
  by_cases e : u = t
  ·subst e
   rw [if_pos rfl, List.getD_eq_getElem?_getD, List.getElem?_set_self (by omega), Option.getD_some]
  ·rw [if_neg e, List.getD_eq_getElem?_getD, List.getElem?_set_ne (by omega), ← List.getD_eq_getElem?_getD]
theorem setT_stV {t v : Int} (hs : stV s = true) (hv : isT v = true) : stV (setT s t v) = true := by
 obtain ⟨h1, h2, h3, h4⟩ := stV_all hs
 unfold stV setT at *
 simp only [Bool.and_eq_true, decide_eq_true_eq, List.length_set, beq_iff_eq] at hs ⊢
 have hall : (s.vals.set (t - 1).toNat v).all isT = true := by
  rw [List.all_eq_true] at h3 ⊢
  intro x hx
  rcases List.mem_or_eq_of_mem_set hx with h | h
  ·exact h3 x h
  ·rw [h]; exact hv
 grind
theorem walk_setT {t v e : Int} : ∀ (k : Nat) (q : Int), walk (setT s t v) e k q = walk s e k q := by
 intro k
 induction k with
 | zero => intro q; rfl
 | succ k ih =>
  intro q
  simp only [walk, ih, setT_ct]
  rfl
theorem uf_hol (h : ufOk a i = true) (hh : HOL s a = true) : HOL s (ufE a i) = true ∨ ∃ v, isT v = true /\ HOL (setT s (frL a) v) (ufF a i) = true := by
 obtain ⟨ha, _, _, hk, hfb, hE, hF, eE, eF⟩ := uf_all h
 have hp := uf_perm h
 obtain ⟨hs, _, hv⟩ := hol_poss hh
 obtain ⟨f1, f2, f3, f4⟩ := (hol_all hs ha).1 hh
 have hflat : (a.atoms.flatMap fun x => ftp s (imA (tv s.vals) x)).Perm (ftp s (imA (tv s.vals) (ufX a i)) ++ (woA a.atoms i).flatMap fun x => ftp s (imA (tv s.vals) x)) := hp.flatMap_right _
 have hac : ∀ x ∈ ufX a i :: woA a.atoms i, (acO s x).isSome = true := fun x hx => f2 x (hp.mem_iff.2 hx)
 have hxT := List.all_eq_true.1 (asV_at ha) (ufX a i) (hp.mem_iff.2 (by simp))
 by_cases hx : tv s.vals (ufX a i).a = tv s.vals (ufX a i).b
 ·refine .inl ?_
  rw [eE, hol_all hs hE]
  have e0 : ftp s (imA (tv s.vals) (ufX a i)) = [] := by
   unfold ftp
   rw [← acO_V]
   unfold acO
   rw [if_pos hk, hx, walk_same]; rfl
  rw [e0, List.nil_append] at hflat
  refine ⟨fun f hf => ?_, fun x hx' => hac x (by simp [show x ∈ woA a.atoms i from hx']), (hflat.nodup_iff).1 f3, fun n hn => by
   show n ∈ ((woA a.atoms i).flatMap _) ↔ _
   rw [← hflat.mem_iff]; exact f4 n hn⟩
  rcases List.mem_append.1 hf with hf | hf
  ·exact f1 f hf
  ·rw [List.mem_singleton] at hf
   rw [hf]
   simpa using hx
 ·refine .inr ⟨ct s (tv s.vals (ufX a i).a), ?_⟩
  -- the first cell of the list
  have hw := ac_ftp (s := s) (x := imA (tv s.vals) (ufX a i)) (by rw [← acO_V]; exact hac _ (by simp))
  unfold acV at hw
  rw [if_pos (show (imA (tv s.vals) (ufX a i)).kind = 2 from hk)] at hw
  have hw : walk s (tv s.vals (ufX a i).b) 8 (tv s.vals (ufX a i).a) = some (ftp s (imA (tv s.vals) (ufX a i))) := hw
  obtain ⟨hsg, hend⟩ := walk_sg _ _ _ hw
  obtain ⟨ns, hns, hal, hsg2⟩ : ∃ ns, ftp s (imA (tv s.vals) (ufX a i)) = tv s.vals (ufX a i).a :: ns /\ al s (tv s.vals (ufX a i).a) = true /\ Sg s (tv s.vals (ufX a i).b) (ct s (tv s.vals (ufX a i).a)) ns := by
   generalize ftp s (imA (tv s.vals) (ufX a i)) = F at hsg
   generalize tv s.vals (ufX a i).a = q at hsg hx
   generalize tv s.vals (ufX a i).b = e at hsg hx
   cases hsg with
   | nil => exact (hx rfl).elim
   | step h1 h2 => exact ⟨_, rfl, h1, h2⟩
  have hcT : isT (ct s (tv s.vals (ufX a i).a)) = true := al_isT hs hal
  refine ⟨hcT, ?_⟩
  have hfr : occ a (frL a) = false /\ 5 <= frL a /\ frL a <= 8 := by
   have : frOk (occ a) = true := by unfold frB at hfb; rw [ha] at hfb; exact hfb
   have := frT_not this
   unfold frL
   rw [ha]; exact this
  have hfT : isT (frL a) = true := isT_iff.2 ⟨by omega, hfr.2.2⟩
  have hf0 : frL a ≠ 0 := by omega
  generalize hz : setT s (frL a) (ct s (tv s.vals (ufX a i).a)) = z
  have hzs : stV z = true := by rw [← hz]; exact setT_stV hs hcT
  have htv : ∀ u, isT u = true -> u ≠ frL a -> tv z.vals u = tv s.vals u := fun u hu hne => by rw [← hz, setT_tv hs hfT hf0 hu, if_neg hne]
  have htn : tv z.vals (frL a) = ct s (tv s.vals (ufX a i).a) := by rw [← hz, setT_tv hs hfT hf0 hfT, if_pos rfl]
  have hneF : ∀ f ∈ a.facts, f.a ≠ frL a /\ f.b ≠ frL a := fun f hf => by
   have := occ_fact ha hf
   refine ⟨fun e => ?_, fun e => ?_⟩
   ·rw [e, hfr.1] at this; cases this.1
   ·rw [e, hfr.1] at this; cases this.2
  have hneA : ∀ x ∈ a.atoms, x.a ≠ frL a /\ x.b ≠ frL a := fun f hf => by
   have := occ_atom ha hf
   refine ⟨fun e => ?_, fun e => ?_⟩
   ·rw [e, hfr.1] at this; cases this.1
   ·rw [e, hfr.1] at this; cases this.2
  have him : ∀ x ∈ a.atoms, imA (tv z.vals) x = imA (tv s.vals) x := fun x hx' => by
   have ht := atV_isT (List.all_eq_true.1 (asV_at ha) x hx')
   have hn := hneA x hx'
   unfold imA
   rw [htv _ ht.1 hn.1, htv _ ht.2 hn.2]
  have hacV : ∀ x, acV z x = acV s x := fun x => by
   rw [← hz]
   unfold acV
   rw [walk_setT, setT_ct]
  have hftp : ∀ x, ftp z x = ftp s x := fun x => by unfold ftp; rw [hacV]
  have hxm : ufX a i ∈ a.atoms := hp.mem_iff.2 (by simp)
  have hX := atV_isT hxT
  have hXn := hneA _ hxm
  have c1 : acV z (imA (tv z.vals) ⟨1, (ufX a i).a, frL a⟩) = some [tv s.vals (ufX a i).a] := by
   rw [hacV]
   unfold acV imA
   simp only
   rw [if_neg (by decide), htv _ hX.1 hXn.1, htn, if_pos rfl]
  have hwl : walk s (tv s.vals (ufX a i).b) 8 (ct s (tv s.vals (ufX a i).a)) = some ns := by
   refine sg_walk hsg2 8 (fun hm => hend (by rw [hns]; simp [hm])) ?_
   have := walk_len _ _ _ hw
   rw [hns] at this
   simp only [List.length_cons] at this
   omega
  have c2 : acV z (imA (tv z.vals) ⟨2, frL a, (ufX a i).b⟩) = some ns := by
   rw [hacV]
   unfold acV imA
   simp only
   rw [if_pos trivial, htv _ hX.2 hXn.2, htn]
   exact hwl
  rw [eF, hol_all hzs hF]
  have hcells : ((ufF' a i).atoms.flatMap fun x => ftp z (imA (tv z.vals) x)) = ftp s (imA (tv s.vals) (ufX a i)) ++ (woA a.atoms i).flatMap fun x => ftp s (imA (tv s.vals) x) := by
   show ((([⟨1, (ufX a i).a, frL a⟩, ⟨2, frL a, (ufX a i).b⟩] : List GAtom) ++ woA a.atoms i).flatMap fun x => ftp z (imA (tv z.vals) x)) = _
   rw [List.flatMap_append]
   have e1 : ([⟨1, (ufX a i).a, frL a⟩, ⟨2, frL a, (ufX a i).b⟩] : List GAtom).flatMap (fun x => ftp z (imA (tv z.vals) x)) = ftp s (imA (tv s.vals) (ufX a i)) := by
    simp only [List.flatMap_cons, List.flatMap_nil, List.append_nil]
    unfold ftp at hns ⊢
    rw [c1, c2, hns]; rfl
   rw [e1]
   congr 1
   rw [List.flatMap_def, List.flatMap_def]
   congr 1
   refine List.map_congr_left fun x hx' => ?_
   rw [hftp, him x (hp.mem_iff.2 (by simp [hx']))]
  refine ⟨fun f hf => ?_, fun x hx' => ?_, by rw [hcells]; exact (hflat.nodup_iff).1 f3, fun n hn => ?_⟩
  ·rcases List.mem_append.1 hf with hf | hf
   ·have ht := fV_isT (List.all_eq_true.1 (asV_facts ha).1 f hf)
    have hn := hneF f hf
    rw [htv _ ht.1 hn.1, htv _ ht.2 hn.2]
    exact f1 f hf
   ·rw [List.mem_singleton] at hf
    rw [hf]
    show (tv z.vals (ufX a i).a == tv z.vals (ufX a i).b) = false
    rw [htv _ hX.1 hXn.1, htv _ hX.2 hXn.2]
    exact beq_eq_false_iff_ne.2 hx
  ·rw [acO_V]
   have hx' : x = ⟨1, (ufX a i).a, frL a⟩ ∨ x = ⟨2, frL a, (ufX a i).b⟩ ∨ x ∈ woA a.atoms i := by
    have : x ∈ [⟨1, (ufX a i).a, frL a⟩, ⟨2, frL a, (ufX a i).b⟩] ++ woA a.atoms i := hx'
    simpa [or_assoc] using this
   rcases hx' with e | e | hm
   ·rw [e, c1]; rfl
   ·rw [e, c2]; rfl
   ·have hm' := hp.mem_iff.2 (show x ∈ ufX a i :: woA a.atoms i by simp [hm])
    rw [hacV, him x hm', ← acO_V]
    exact f2 x hm'
  ·rw [hcells, ← hflat.mem_iff, f4 n hn, ← hz]
   rfl
end
end Go.SE
namespace Go.SE
section
variable {a b c : GAsn}
end
end Go.SE
namespace Go.SE
section
variable {a : GAsn} {i : Int}
def boolAt (st : St) (k : Nat) : Bool :=
 match st.env k with
 | .s (.c (.d (.val (.bool b)))) => b
 | _ => false
def ufV (a : GAsn) (i : Int) (v : Nat) : Bool := stO (mdL a) (frL a) v && HOL (stL (mdL a) (frL a) v) (ufF a i)
def ufI (a : GAsn) (i : Int) : Bool := !(asV a && !(casesF a).isEmpty) || HOL (mdL a) (ufE a i)
def ufN (a : GAsn) (i : Int) (b : Bool) (n : Nat) : Bool := b || (!ufI a i && (List.range n).all fun v => !ufV a i v)
theorem ufN_zero : ufN a i (ufI a i) 0 = true := by unfold ufN; cases ufI a i <;> rfl
theorem ufN_f {n : Nat} (h : ufN a i false n = true) : ufI a i = false /\ ∀ v, v < n -> ufV a i v = false := by
 unfold ufN at h
 simp only [Bool.false_or, Bool.and_eq_true, Bool.not_eq_true', List.all_eq_true, List.mem_range] at h
 exact ⟨h.1, h.2⟩
theorem ufN_step {n : Nat} (h : ufN a i false n = true) : ufN a i (ufV a i n) (n + 1) = true := by
 obtain ⟨h1, h2⟩ := ufN_f h
 unfold ufN
 cases hv : ufV a i n with
 | true => rfl
 | false =>
  simp only [Bool.false_or, Bool.and_eq_true, Bool.not_eq_true', List.all_eq_true, List.mem_range]
  refine ⟨h1, fun v hv' => ?_⟩
  by_cases e : v = n
  ·rw [e]; exact hv
  ·exact h2 v (by omega)
theorem ufN_end (h : ufOk a i = true) (h2 : ufN a i false 9 = true) : False := by
 obtain ⟨h1, h3⟩ := ufN_f h2
 unfold ufI at h1
 rw [Bool.or_eq_false_iff, Bool.not_eq_false'] at h1
 have hh := hol_mdL h1.1
 rcases uf_hol h hh with he | ⟨v, hv, he⟩
 ·rw [he] at h1; cases h1.2
 ·obtain ⟨v0, v8⟩ := isT_iff.1 hv
  have := h3 v.toNat (by omega)
  obtain ⟨_, _, _, _, hfb, _⟩ := uf_all h
  have ha := (uf_all h).1
  have hfr : occ a (frL a) = false /\ 5 <= frL a /\ frL a <= 8 := by
   have : frOk (occ a) = true := by unfold frB at hfb; rw [ha] at hfb; exact hfb
   have := frT_not this
   unfold frL
   rw [ha]; exact this
  have ho : stO (mdL a) (frL a) v = true := by
   unfold stO
   rw [(hol_poss hh).1, isT_iff.2 ⟨by omega, hfr.2.2⟩, beq_eq_false_iff_ne.2 (by omega), hv]; rfl
  unfold ufV at this
  rw [show ((v.toNat : Nat) : Int) = v by omega] at this
  unfold stL at this
  rw [ho, cond_true, he] at this
  cases this
theorem stL_len (s : GState) (t v : Int) (h1 : s.vals.length <= 200) (h2 : s.heap.length <= 200) : (stL s t v).vals.length <= 200 /\ (stL s t v).heap.length <= 200 := by
 unfold stL setT
 cases stO s t v with
 | true => exact ⟨by simpa using h1, h2⟩
 | false => exact ⟨Nat.zero_le _, Nat.zero_le _⟩
end
end Go.SE
namespace Go.SE
section
variable {s : GState} {t v : Int}
theorem sto_1 (h : stV s = false) : stO s t v = false := by unfold stO; rw [h]; rfl
theorem sto_2 (h : isT t = false) : stO s t v = false := by unfold stO; rw [h]; simp
theorem sto_3 (h : t = 0) : stO s t v = false := by unfold stO; rw [h]; simp
theorem sto_4 (h : isT v = false) : stO s t v = false := by unfold stO; rw [h]; simp
theorem sto_y (h1 : stV s = true) (h2 : isT t = true) (h3 : ¬ t = 0) (h4 : isT v = true) : stO s t v = true := by unfold stO; rw [h1, h2, h4, beq_eq_false_iff_ne.2 h3]; rfl
theorem stl_n (h : stO s t v = false) : (⟨[], []⟩ : GState) = stL s t v := by unfold stL; rw [h]; rfl
theorem stl_y (h : stO s t v = true) : (⟨s.vals.set (t - 1).toNat v, s.heap⟩ : GState) = stL s t v := by unfold stL; rw [h]; rfl
theorem stv_len (h : stV s = true) : s.vals.length = 8 /\ s.heap.length = 8 := ⟨(stV_all h).1, (stV_all h).2.1⟩
end
end Go.SE
namespace Go.SE
section
variable {a : GAsn} {i : Int} {p : Nat × Bool}
theorem uf200 (h1 : a.facts.length <= 100) (h2 : a.atoms.length <= 100) : (ufE a i).facts.length <= 200 /\ (ufE a i).atoms.length <= 200 /\ (ufF a i).facts.length <= 200 /\ (ufF a i).atoms.length <= 200 := by
 have hw := woA_le (l := a.atoms) (i := i) h2
 unfold ufE ufF ufE' ufF'
 cases ufOk a i with
 | true =>
  simp only [cond_true, List.length_append, List.length_cons, List.length_nil]
  omega
 | false => simp
theorem uf_t {n : Nat} : ufN a i true n = true := by unfold ufN; rfl
theorem uf_i0 (h : (asV a && !(casesF a).isEmpty) = true) : ufN a i (HOL (mdL a) (ufE a i)) 0 = true := by
 have : HOL (mdL a) (ufE a i) = ufI a i := by unfold ufI; rw [h]; rfl
 rw [this]; exact ufN_zero
theorem uf_s1 (hp : p.2 = false) (h : ufN a i p.2 p.1 = true) (ho : stO (mdL a) (frL a) (p.1 : Int) = true) : ufN a i (HOL (stL (mdL a) (frL a) (p.1 : Int)) (ufF a i)) (p.1 + 1) = true := by
 rw [hp] at h
 have := ufN_step h
 unfold ufV at this
 rw [ho, Bool.true_and] at this
 exact this
theorem uf_s0 (hp : p.2 = false) (h : ufN a i p.2 p.1 = true) (ho : stO (mdL a) (frL a) (p.1 : Int) = false) : ufN a i false (p.1 + 1) = true := by
 rw [hp] at h
 have := ufN_step h
 unfold ufV at this
 rw [ho, Bool.false_and] at this
 exact this
theorem uf_eN (h : ufOk a i = true) (h2 : ENT (ufE a i) a = false) : False := by rw [ent_ufE h] at h2; cases h2
theorem uf_fN (h : ufOk a i = true) (h2 : ENT (ufF a i) a = false) : False := by rw [ent_ufF h] at h2; cases h2
theorem uf_last (h : ufOk a i = true) (hp : p.2 = false) (hn : ufN a i p.2 p.1 = true) (h9 : p.1 <= 9) (h8 : ¬ (p.1 : Int) <= 8) : False := by
 rw [hp, show p.1 = 9 by omega] at hn
 exact ufN_end h hn
theorem st200 {s : GState} {t v : Int} (h1 : s.vals.length <= 200) (h2 : s.heap.length <= 200) : (stL s t v).vals.length <= 200 := (stL_len s t v h1 h2).1
theorem st200h {s : GState} {t v : Int} (h1 : s.vals.length <= 200) (h2 : s.heap.length <= 200) : (stL s t v).heap.length <= 200 := (stL_len s t v h1 h2).2
end
end Go.SE
