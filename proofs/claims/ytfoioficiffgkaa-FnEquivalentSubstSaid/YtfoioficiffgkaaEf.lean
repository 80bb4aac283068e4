/-
  Parts of a symbolic engine over the program's code: how operations, regions, loops and calls are shown to keep contracts. No conditions.
-/
import Derived.Test.YtfoioficiffgkaaEe
set_option linter.unusedSimpArgs false
set_option linter.unusedVariables false
set_option linter.unusedSectionVars false

namespace Go.SE
open Go.RowKit
section
variable {a b c : GAsn} {s : GState} {f : GFact} {x y : Int}
theorem stL_of (h : starOk a b = true) : starL a b = starA a b /\ asV (starA a b) = true /\ asV a = true /\ asV b = true := by
 have h' := h
 unfold starOk at h'
 simp only [Bool.and_eq_true] at h'
 unfold starL
 rw [h]
 exact ⟨rfl, h'.2, h'.1.1, h'.1.2⟩
theorem en_cons (h2 : ENT a b = true) (h1 : (asV a && !(casesF a).isEmpty) = true) (h3 : (asV b && !(casesF b).isEmpty) = false) : False := by
 have hb := ent_v2 h2
 rw [hb, Bool.true_and, Bool.not_eq_false'] at h3
 have := ent_cons h2 h3
 rw [this] at h1
 simp at h1
theorem en_none (h2 : ENT a b = false) (h1 : (asV a && !(casesF a).isEmpty) = false) (ha : asV a = true) (hb : asV b = true) : False := by
 rw [ha, Bool.true_and, Bool.not_eq_false'] at h1
 rw [ent_none ha hb h1] at h2
 cases h2
theorem en_star (h : ENT a b = true) (h1 : starOk a c = true) (h2 : starOk b c = true) : ENT (starL a c) (starL b c) = true := by
 rw [(stL_of h1).1, (stL_of h2).1]
 exact ent_frame h (stL_of h1).2.1 (stL_of h2).2.1
theorem starL_bdF (h1 : a.facts.length <= 100) (h2 : b.facts.length <= 100) : (starL a b).facts.length <= 200 := Nat.le_trans (starL_lenF _ _) (by omega)
theorem starL_bdA (h1 : a.atoms.length <= 100) (h2 : b.atoms.length <= 100) : (starL a b).atoms.length <= 200 := Nat.le_trans (starL_lenA _ _) (by omega)
theorem starL_one (h1 : a.facts.length <= 100) : (starL a ⟨[f], []⟩).facts.length <= 200 := starL_bdF h1 (by show 1 <= 100; omega)
theorem starL_oneA (h1 : a.atoms.length <= 100) : (starL a ⟨[f], []⟩).atoms.length <= 200 := starL_bdA h1 (by show 0 <= 100; omega)
theorem en_fact (h : starOk b ⟨[f], []⟩ = true) (ha : asV a = true) : ENT a (starL b ⟨[f], []⟩) = (ENT a b && IMP a f) := by
 obtain ⟨h1, h2, h3, h4⟩ := st1_of h
 rw [h4]
 exact ent_fact ha h3 h1 h2
theorem en_fact1 (h : starOk b ⟨[f], []⟩ = true) (ha : asV a = true) (he : ENT a b = true) : ENT a (starL b ⟨[f], []⟩) = IMP a f := by rw [en_fact h ha, he, Bool.true_and]
theorem en_fact0 (h : starOk b ⟨[f], []⟩ = true) (ha : asV a = true) (he : ENT a b = false) : ENT a (starL b ⟨[f], []⟩) = false := by rw [en_fact h ha, he, Bool.false_and]
theorem v_rT {v : Int -> Int} {u : Int} (e : v x = v y) : v (rT u x y) = v u := by
 unfold rT
 split
 ·rename_i h; rw [← e, h]
 ·rfl
theorem fv_sub {v : Int -> Int} (e : v x = v y) (l : List GAtom) : fv v (l.map (sA x y)) = fv v l := by
 unfold fv filt
 rw [List.filter_map, List.map_map]
 have e1 : ((fun z : GAtom => z.kind == 1 || !(v z.a == v z.b)) ∘ sA x y) = fun z => z.kind == 1 || !(v z.a == v z.b) := by
  funext z
  show (z.kind == 1 || !(v (rT z.a x y) == v (rT z.b x y))) = _
  rw [v_rT e, v_rT e]
 rw [e1]
 refine List.map_congr_left fun z _ => ?_
 show (⟨z.kind, v (rT z.a x y), v (rT z.b x y)⟩ : GAtom) = ⟨z.kind, v z.a, v z.b⟩
 rw [v_rT e, v_rT e]
theorem en_sub (hi : IMP a ⟨true, x, y⟩ = true) (h1 : subOk a x y = true) (h2 : starOk (subL a x y) ⟨[⟨true, x, y⟩], []⟩ = true) :
  (ENT a (starL (subL a x y) ⟨[⟨true, x, y⟩], []⟩) && ENT (starL (subL a x y) ⟨[⟨true, x, y⟩], []⟩) a) = true := by
 obtain ⟨g1, g2, g3, g4⟩ := st1_of h2
 obtain ⟨ha, _, hv⟩ := imp_iff.1 hi
 have hs : subL a x y = subA a x y := by unfold subL; rw [h1]; rfl
 rw [g4]
 rw [hs] at g3 ⊢
 have hat : ∀ v : Int -> Int, v x = v y -> fv v (subA a x y).atoms = fv v a.atoms := fun v e => fv_sub e a.atoms
 have hfc : ∀ v : Int -> Int, v x = v y -> ∀ f : GFact, (v (sF x y f).a == v (sF x y f).b) = (v f.a == v f.b) := fun v e f => by
  show (v (rT f.a x y) == v (rT f.b x y)) = _
  rw [v_rT e, v_rT e]
 rw [Bool.and_eq_true]
 constructor
 ·refine ent_same ha g3 (fun v hp f hf => ?_) fun v hp => ?_
  ·have e : v x = v y := by simpa using hv v hp
   rcases List.mem_append.1 hf with hf | hf
   ·obtain ⟨f', hf', rfl⟩ := List.mem_map.1 hf
    rw [hfc v e]
    exact hp.facts f' hf'
   ·rw [List.mem_singleton] at hf
    rw [hf]
    show (v x == v y) = true
    rw [e]; simp
  ·have e : v x = v y := by simpa using hv v hp
   show (fv v (subA a x y).atoms).Perm _
   rw [hat v e]
 ·refine ent_same g3 ha (fun v hp f hf => ?_) fun v hp => ?_
  ·have e : v x = v y := by
    have := hp.facts ⟨true, x, y⟩ (List.mem_append.2 (.inr (by simp)))
    simpa using this
   have := hp.facts (sF x y f) (List.mem_append.2 (.inl (List.mem_map_of_mem hf)))
   rw [hfc v e] at this
   exact this
  ·have e : v x = v y := by
    have := hp.facts ⟨true, x, y⟩ (List.mem_append.2 (.inr (by simp)))
    simpa using this
   show List.Perm _ (fv v (subA a x y).atoms)
   rw [hat v e]
theorem en_refl : ENT a a = asV a := by
 cases h : asV a with
 | true => exact ent_refl h
 | false => unfold ENT; rw [h]; rfl
theorem en_refl0 (h : asV a = true) (h2 : ENT a a = false) : False := by rw [ent_refl h] at h2; cases h2
theorem rev_step {l : List GAtom} {i : Nat} (hi : 0 <= (l.length : Int) - 1 - (i : Int)) : l.reverse.take i ++ [l.getD ((l.length : Int) - 1 - (i : Int)).toNat ⟨0, 0, 0⟩] = l.reverse.take (i + 1) := by
 have h1 : i < l.reverse.length := by rw [List.length_reverse]; omega
 rw [List.take_succ_eq_append_getElem h1]
 congr 2
 rw [List.getElem_reverse, List.getD_eq_getElem?_getD, List.getElem?_eq_getElem (by omega), Option.getD_some]
 congr 1
 omega
theorem rev_asV {i : Nat} (h : asV a = true) (hi : ¬ 0 <= (a.atoms.length : Int) - 1 - (i : Int)) : (ENT a ⟨a.facts, a.atoms.reverse.take i⟩ && ENT ⟨a.facts, a.atoms.reverse.take i⟩ a) = true := by
 have e : a.atoms.reverse.take i = a.atoms.reverse := List.take_of_length_le (by rw [List.length_reverse]; omega)
 rw [e]
 have hb : asV ⟨a.facts, a.atoms.reverse⟩ = true := by
  unfold asV at h ⊢
  rw [List.length_reverse, List.all_reverse]
  exact h
 rw [Bool.and_eq_true]
 exact ⟨ent_sub h hb (fun _ h => h) (List.reverse_perm _), ent_sub hb h (fun _ h => h) (List.reverse_perm _).symm⟩
theorem rev_no {i : Nat} (h : asV a = true) (hi : ¬ 0 <= (a.atoms.length : Int) - 1 - (i : Int)) (h2 : (ENT a ⟨a.facts, a.atoms.reverse.take i⟩ && ENT ⟨a.facts, a.atoms.reverse.take i⟩ a) = false) : False := by
 rw [rev_asV h hi] at h2; cases h2
theorem rev_len {l : List GAtom} {i m : Nat} (h : l.length <= m) : (l.reverse.take i).length <= m := Nat.le_trans (List.length_take_le' ..) (by rw [List.length_reverse]; exact h)
theorem en_nf (h : asV a = true) : (ENT a (nfL a) && ENT (nfL a) a) = true := by
 have e : nfL a = nf a := by unfold nfL; rw [h]; rfl
 have hv := nf_val h
 rw [e, Bool.and_eq_true]
 have hfv : ∀ v : Int -> Int, fv v (nf a).atoms = fv v a.atoms := fun v => by
  unfold fv nf
  rw [nfA_filt]
 have hfc : ∀ v : Int -> Int, (∀ f ∈ (nf a).facts, (v f.a == v f.b) = f.eq) ↔ ∀ f ∈ a.facts, (v f.a == v f.b) = f.eq := fun v => by
  have := nfF_v (v := v) a.facts
  rw [Bool.eq_iff_iff, List.all_eq_true, List.all_eq_true] at this
  exact ⟨fun h f hf => by have := this.1 (fun f hf => by simpa using h f hf) f hf; simpa using this, fun h f hf => by have := this.2 (fun f hf => by simpa using h f hf) f hf; simpa using this⟩
 exact ⟨ent_same h hv (fun v hp => (hfc v).2 hp.facts) fun v _ => by rw [hfv], ent_same hv h (fun v hp => (hfc v).1 hp.facts) fun v _ => by rw [hfv]⟩
theorem sub1F (h1 : a.facts.length <= 100) : (starL (subL a x y) ⟨[f], []⟩).facts.length <= 200 := starL_one (Nat.le_trans (subL_lenF _ _ _) h1)
theorem sub1A (h1 : a.atoms.length <= 100) : (starL (subL a x y) ⟨[f], []⟩).atoms.length <= 200 := starL_oneA (Nat.le_trans (subL_lenA _ _ _) h1)
theorem subL200F (h1 : a.facts.length <= 100) : (subL a x y).facts.length <= 200 := Nat.le_trans (subL_lenF _ _ _) (by omega)
theorem subL200A (h1 : a.atoms.length <= 100) : (subL a x y).atoms.length <= 200 := Nat.le_trans (subL_lenA _ _ _) (by omega)
theorem nf200F (h1 : a.facts.length <= 100) : (nfL a).facts.length <= 200 := Nat.le_trans (nfL_len _).1 (by omega)
theorem nf200A (h1 : a.atoms.length <= 100) : (nfL a).atoms.length <= 200 := Nat.le_trans (nfL_len _).2 (by omega)
theorem md200V : (mdL a).vals.length <= 200 := Nat.le_trans (mdL_len _).1 (by decide)
theorem md200H : (mdL a).heap.length <= 200 := Nat.le_trans (mdL_len _).2 (by decide)
theorem rev200 {l : List GAtom} {i : Nat} (h : l.length <= 100) : (l.reverse.take i).length <= 200 := rev_len (by omega)
theorem fc200F (h1 : a.facts.length <= 100) : (fcL a).facts.length <= 200 := Nat.le_trans fcL_len.1 (by omega)
theorem fc200A (h1 : a.atoms.length <= 100) : (fcL a).atoms.length <= 200 := Nat.le_trans fcL_len.2 (by omega)
theorem en_mdN (h : ENT a b = true) (h1 : (asV a && !(casesF a).isEmpty) = true) (h2 : HOL (mdL a) b = false) : False := by
 rw [ent_hol h (hol_mdL h1)] at h2; cases h2
end
end Go.SE
