/-
  Parts of a symbolic engine over the program's code: how operations, regions, loops and calls are shown to keep contracts. No conditions.
-/
import Derived.Test.YtopjgjelkpkmmaaEe
import Derived.Test.YtopjgjelkpkmmaaEd
set_option linter.unusedSimpArgs false
set_option linter.unusedVariables false
set_option linter.unusedSectionVars false

namespace Go.SE
open Go.RowKit
inductive Sg (s : GState) (e : Int) : Int -> List Int -> Prop
 | nil : Sg s e e []
 | step {q : Int} {ns : List Int} : al s q = true -> Sg s e (ct s q) ns -> Sg s e q (q :: ns)
def acV (s : GState) (x : GAtom) : Option (List Int) := if x.kind = 2 then walk s x.b 8 x.a else if ct s x.a = x.b then some [x.a] else none
def ftp (s : GState) (x : GAtom) : List Int := (acV s x).getD []
section
variable {s : GState} {q e m : Int} {ns ms : List Int} {a b : GAsn} {L G : List GAtom} {p : List GAtom} {f : GAtom -> List GAtom} {g : GAtom}
theorem Sg.cat (h : Sg s m q ns) (h2 : Sg s e m ms) : Sg s e q (ns ++ ms) := by
 induction h with
 | nil => exact h2
 | step h1 _ ih => exact .step h1 ih
theorem Sg.al (h : Sg s e q ns) : ∀ n ∈ ns, al s n = true := by
 induction h with
 | nil => intro n hn; cases hn
 | step h1 _ ih =>
  intro n hn
  rcases List.mem_cons.1 hn with e | hn
  ·rw [e]; exact h1
  ·exact ih n hn
theorem Pth.first {L : List GAtom} {y q : Int} {p : List GAtom} (h : Pth L y q p) {x : GAtom} (hx : x ∈ p) (e : x.a = y) : q = y := by
 induction h with
 | last h1 h2 => rw [List.mem_singleton] at hx; rw [hx] at e; exact e
 | @step x0 p h1 h2 h3 ih =>
  rcases List.mem_cons.1 hx with e2 | hx
  ·rw [e2] at e; exact e
  ·exact (h2 (ih hx)).elim
structure Hp (s : GState) (L : List GAtom) : Prop where
 pos : Pos 0 L
 ne : ∀ x ∈ L, x.kind = 2 -> x.a ≠ x.b
 vb : ∀ x ∈ L, 0 <= x.b
 ac : ∀ x ∈ L, (acV s x).isSome = true
 nd : (L.flatMap (ftp s)).Nodup
theorem Hp.own (h : Hp s L) {x x' : GAtom} (hx : x ∈ L) (hx' : x' ∈ L) {n : Int} (h1 : n ∈ ftp s x) (h2 : n ∈ ftp s x') : x = x' := by
 have hd := h.nd
 unfold List.Nodup at hd
 rw [List.pairwise_flatMap] at hd
 have key : ∀ {l : List GAtom}, (l.Pairwise fun x x' => ∀ n ∈ ftp s x, ∀ n' ∈ ftp s x', n ≠ n') -> x ∈ l -> x' ∈ l -> x = x' := by
  intro l hl a1 a2
  induction l with
  | nil => cases a1
  | cons a l ih =>
   rw [List.pairwise_cons] at hl
   rcases List.mem_cons.1 a1 with e1 | a3 <;> rcases List.mem_cons.1 a2 with e2 | a4
   ·rw [e1, e2]
   ·rw [e1] at h1; exact (hl.1 _ a4 n h1 n h2 rfl).elim
   ·rw [e2] at h2; exact (hl.1 _ a3 n h2 n h1 rfl).elim
   ·exact ih hl.2 a3 a4
 exact key hd.2 hx hx'
end
end Go.SE

namespace Go.SE
open Go.RowKit
def woF (l : List GAtom) (i k : Int) (n : Nat) : List GAtom := ((List.range n).filter fun (j : Nat) => !((j : Int) == i) && !((j : Int) == k)).map fun j => l.getD j nA
def foldA (a : GAsn) (i k : Nat) : GAsn := ⟨a.facts, ⟨2, (a.atoms.getD i nA).a, (a.atoms.getD k nA).b⟩ :: woF a.atoms i k a.atoms.length⟩
def fcOk (a : GAsn) (i k : Nat) : Bool := !(i == k) && (((a.atoms.getD i nA).b == (a.atoms.getD k nA).a) && ENT a (foldA a i k))
def fcR (a : GAsn) (i : Nat) : Option Nat := (List.range a.atoms.length).find? (fcOk a i)
def fcI (a : GAsn) : Option Nat := (List.range a.atoms.length).find? fun i => (fcR a i).isSome
def fcO (a : GAsn) : Option GAsn := cond (asV a) ((fcI a).bind fun i => (fcR a i).map fun k => foldA a i k) none
def fcL (a : GAsn) : GAsn := (fcO a).getD ⟨[], []⟩
def fcB (a : GAsn) : Bool := (fcO a).isSome
def noK (a : GAsn) (i k : Nat) : Bool := (List.range k).all fun j => !fcOk a i j
def noI (a : GAsn) (i : Nat) : Bool := (List.range i).all fun j => !(fcR a j).isSome
section
variable {a : GAsn} {l : List GAtom} {i k : Int} {n : Nat}
theorem woF_go (h1 : ¬ (n : Int) = i) (h2 : ¬ (n : Int) = k) : woF l i k n ++ [l.getD n ⟨0, 0, 0⟩] = woF l i k (n + 1) := by
 unfold woF
 rw [List.range_succ, List.filter_append, List.map_append]
 simp [h1, h2]
theorem woF_skip (h : (n : Int) = i ∨ (n : Int) = k) : woF l i k (n + 1) = woF l i k n := by
 unfold woF
 rw [List.range_succ, List.filter_append, List.map_append]
 have : (!((n : Int) == i) && !((n : Int) == k)) = false := by
  rcases h with h | h <;> simp [h]
 simp [this]
theorem woF_len : (woF l i k n).length <= n := by
 unfold woF
 rw [List.length_map]
 exact Nat.le_trans (List.length_filter_le _ _) (by simp)
theorem noK_zero {i : Nat} : noK a i 0 = true := rfl
theorem noI_zero : noI a 0 = true := rfl
theorem noK_step {i k : Nat} (h : noK a i k = true) (h2 : fcOk a i k = false) : noK a i (k + 1) = true := by
 unfold noK at h ⊢; rw [List.range_succ, List.all_append, h]; simp [h2]
theorem noK_same {i k : Nat} (h : noK a i k = true) (e : i = k) : noK a i (k + 1) = true := noK_step h (by unfold fcOk; simp [e])
theorem noK_apart {i k : Nat} (h : noK a i k = true) (e : ¬ (a.atoms.getD i ⟨0, 0, 0⟩).b = (a.atoms.getD k ⟨0, 0, 0⟩).a) : noK a i (k + 1) = true := noK_step h (by unfold fcOk; rw [beq_eq_false_iff_ne.2 e]; simp)
theorem noK_no {i k : Nat} (h : noK a i k = true) (e : ENT a (foldA a i k) = false) : noK a i (k + 1) = true := noK_step h (by unfold fcOk; rw [e]; simp)
theorem fcR_none {i k : Nat} (h : noK a i k = true) (hk : ¬ k < a.atoms.length) (hk2 : k <= a.atoms.length) : fcR a i = none := by
 have : k = a.atoms.length := by omega
 subst this
 unfold fcR
 rw [List.find?_range_eq_none]
 intro j hj
 have := List.all_eq_true.1 h j (List.mem_range.2 hj)
 simpa using this
theorem noI_step {i k : Nat} (h : noI a i = true) (h2 : noK a i k = true) (hk : ¬ k < a.atoms.length) (hk2 : k <= a.atoms.length) : noI a (i + 1) = true := by
 unfold noI at h ⊢; rw [List.range_succ, List.all_append, h]; simp [fcR_none h2 hk hk2]
theorem fcR_some {i k : Nat} (h : noK a i k = true) (hk : k < a.atoms.length) (h1 : fcOk a i k = true) : fcR a i = some k := by
 unfold fcR
 rw [List.find?_range_eq_some]
 refine ⟨h1, List.mem_range.2 hk, fun j hj => ?_⟩
 have := List.all_eq_true.1 h j (List.mem_range.2 hj)
 simpa using this
theorem fcO_some {i k : Nat} (ha : asV a = true) (hi : noI a i = true) (hil : i < a.atoms.length) (h : noK a i k = true) (hk : k < a.atoms.length) (h1 : fcOk a i k = true) : fcO a = some (foldA a i k) := by
 have hR := fcR_some h hk h1
 have hI : fcI a = some i := by
  unfold fcI
  rw [List.find?_range_eq_some]
  refine ⟨by rw [hR]; rfl, List.mem_range.2 hil, fun j hj => ?_⟩
  have := List.all_eq_true.1 hi j (List.mem_range.2 hj)
  simpa using this
 unfold fcO
 rw [ha, hI, cond_true]
 simp [hR]
theorem fcO_none {i : Nat} (hi : noI a i = true) (hk : ¬ i < a.atoms.length) (hk2 : i <= a.atoms.length) : fcO a = none := by
 have : i = a.atoms.length := by omega
 subst this
 have : fcI a = none := by
  unfold fcI
  rw [List.find?_range_eq_none]
  intro j hj
  have := List.all_eq_true.1 hi j (List.mem_range.2 hj)
  simpa using this
 unfold fcO
 rw [this]
 cases asV a <;> rfl
theorem fo_bad (h : asV a = false) : fcL a = ⟨[], []⟩ /\ fcB a = false := by unfold fcL fcB fcO; rw [h]; exact ⟨rfl, rfl⟩
theorem fo_end {i : Nat} (hi : noI a i = true) (hk : ¬ i < a.atoms.length) (hk2 : i <= a.atoms.length) : fcL a = ⟨[], []⟩ /\ fcB a = false := by unfold fcL fcB; rw [fcO_none hi hk hk2]; exact ⟨rfl, rfl⟩
theorem fo_hit {i k : Nat} (ha : asV a = true) (hi : noI a i = true) (hil : i < a.atoms.length) (h : noK a i k = true) (hk : k < a.atoms.length) (e1 : ¬ (i : Int) = (k : Int)) (e2 : (a.atoms.getD i ⟨0, 0, 0⟩).b = (a.atoms.getD k ⟨0, 0, 0⟩).a) (e3 : ENT a (foldA a i k) = true) :
  fcL a = foldA a i k /\ fcB a = true := by
 have : fcOk a i k = true := by
  unfold fcOk
  rw [e3, beq_eq_false_iff_ne.2 (show i ≠ k by omega)]
  simp only [Bool.not_false, Bool.true_and, Bool.and_true, beq_iff_eq]
  exact e2
 unfold fcL fcB
 rw [fcO_some ha hi hil h hk this]
 exact ⟨rfl, rfl⟩
theorem foR_no {i k : Nat} (h : noK a i k = true) (e : ENT a ⟨a.facts, ⟨2, (a.atoms.getD i ⟨0, 0, 0⟩).a, (a.atoms.getD k ⟨0, 0, 0⟩).b⟩ :: woF a.atoms i k a.atoms.length⟩ = false) : noK a i (k + 1) = true := noK_no h e
theorem foR_hit {i k : Nat} (ha : asV a = true) (hi : noI a i = true) (hil : i < a.atoms.length) (h : noK a i k = true) (hk : k < a.atoms.length) (e1 : ¬ i = k) (e2 : (a.atoms.getD i ⟨0, 0, 0⟩).b = (a.atoms.getD k ⟨0, 0, 0⟩).a)
  (e3 : ENT a ⟨a.facts, ⟨2, (a.atoms.getD i ⟨0, 0, 0⟩).a, (a.atoms.getD k ⟨0, 0, 0⟩).b⟩ :: woF a.atoms i k a.atoms.length⟩ = true) :
  ⟨a.facts, ⟨2, (a.atoms.getD i ⟨0, 0, 0⟩).a, (a.atoms.getD k ⟨0, 0, 0⟩).b⟩ :: woF a.atoms i k a.atoms.length⟩ = fcL a /\ true = fcB a := by
 obtain ⟨h1, h2⟩ := fo_hit ha hi hil h hk (by omega) e2 e3
 exact ⟨h1.symm, h2.symm⟩
theorem fo_len6 (ha : asV a = true) : a.facts.length <= 12 /\ a.atoms.length <= 6 := ⟨(asV_facts ha).2.1, (asV_facts ha).2.2.2⟩
theorem woF_bd {q : Int} {m : Nat} (h : n <= m) : (woF l i q n).length <= m := Nat.le_trans woF_len h
theorem fo_spec (h : fcB a = true) : ∃ i k : Nat, i < a.atoms.length /\ k < a.atoms.length /\ i ≠ k /\ fcL a = foldA a i k /\ ENT a (foldA a i k) = true := by
 unfold fcB at h
 obtain ⟨b, hb⟩ := Option.isSome_iff_exists.1 h
 have hb' := hb
 unfold fcO at hb
 cases ha : asV a with
 | false => rw [ha] at hb; cases hb
 | true =>
  rw [ha, cond_true] at hb
  cases hI : fcI a with
  | none => rw [hI] at hb; cases hb
  | some i =>
   rw [hI] at hb
   have hb : (fcR a i).map (fun k => foldA a i k) = some b := hb
   cases hR : fcR a i with
   | none => rw [hR] at hb; cases hb
   | some k =>
    rw [hR] at hb
    injection hb with hb
    unfold fcR at hR
    obtain ⟨h1, h2, _⟩ := List.find?_range_eq_some.1 hR
    unfold fcI at hI
    obtain ⟨_, h4, _⟩ := List.find?_range_eq_some.1 hI
    unfold fcOk at h1
    simp only [Bool.and_eq_true, Bool.not_eq_true', beq_eq_false_iff_ne, ne_eq] at h1
    refine ⟨i, k, List.mem_range.1 h4, List.mem_range.1 h2, h1.1, ?_, h1.2.2⟩
    unfold fcL
    rw [hb', ← hb]
    rfl
theorem filter_two : ∀ (n i k : Nat), i < n -> k < n -> i ≠ k -> ((List.range n).filter fun (j : Nat) => !((j : Int) == (i : Int)) && !((j : Int) == (k : Int))).length = n - 2 := by
 intro n i k hi hk hne
 have h1 : ∀ (n i : Nat), ((List.range n).filter fun (j : Nat) => !((j : Int) == (i : Int))).length = if i < n then n - 1 else n := by
  intro n i
  induction n with
  | zero => rfl
  | succ n ih =>
   rw [List.range_succ, List.filter_append, List.length_append, ih]
   by_cases e : n = i
   ·subst e; simp
   ·have : ¬ (n : Int) = (i : Int) := by omega
    simp only [List.filter_cons, beq_eq_false_iff_ne.2 this, Bool.not_false, if_true, List.filter_nil, List.length_cons, List.length_nil]
    split <;> split <;> omega
 have h2 : ∀ n : Nat, ((List.range n).filter fun (j : Nat) => !((j : Int) == (i : Int)) && !((j : Int) == (k : Int))).length = if i < n then (if k < n then n - 2 else n - 1) else (if k < n then n - 1 else n) := by
  intro n
  induction n with
  | zero => rfl
  | succ n ih =>
   rw [List.range_succ, List.filter_append, List.length_append, ih]
   by_cases e : n = i
   ·subst e
    have : (k < n + 1) ↔ k < n := by omega
    simp only [this]
    simp
    all_goals (split <;> omega)
   ·have e' : ¬ (n : Int) = (i : Int) := by omega
    by_cases e2 : n = k
    ·subst e2
     have : (i < n + 1) ↔ i < n := by omega
     simp only [this]
     simp
     all_goals (split <;> omega)
    ·have e2' : ¬ (n : Int) = (k : Int) := by omega
     simp only [List.filter_cons, beq_eq_false_iff_ne.2 e', beq_eq_false_iff_ne.2 e2', Bool.not_false, Bool.and_self, if_true, List.filter_nil, List.length_cons, List.length_nil]
     split <;> split <;> split <;> split <;> omega
 rw [h2, if_pos hi, if_pos hk]
theorem fo_len (h : fcB a = true) : (fcL a).atoms.length = a.atoms.length - 1 := by
 obtain ⟨i, k, h1, h2, h3, h4, _⟩ := fo_spec h
 rw [h4]
 unfold foldA woF
 simp only [List.length_cons, List.length_map]
 rw [filter_two _ _ _ h1 h2 h3]
 omega
theorem fcL_len : (fcL a).facts.length <= a.facts.length /\ (fcL a).atoms.length <= a.atoms.length := by
 cases h : fcB a with
 | true =>
  obtain ⟨i, k, h1, h2, h3, h4, _⟩ := fo_spec h
  have := fo_len h
  have e : (fcL a).facts = a.facts := by rw [h4]; rfl
  exact ⟨by rw [e]; exact Nat.le_refl _, by omega⟩
 | false =>
  unfold fcB at h
  have : fcO a = none := by simpa using h
  unfold fcL
  rw [this]
  exact ⟨Nat.zero_le _, Nat.zero_le _⟩
end
end Go.SE

namespace Go.SE
open Go.RowKit
section
variable {a b c : GAsn} {s : GState} {f : GFact} {x y : Int}
theorem stL_of (h : starOk a b = true) : starL a b = starA a b /\ asV (starA a b) = true /\ asV a = true /\ asV b = true := by
 have h' := h
 unfold starOk at h'
 simp only [Bool.and_eq_true] at h'
 unfold starL
 rw [h]
 exact ⟨rfl, h'.2, h'.1.1, h'.1.2⟩
theorem starL_bdF (h1 : a.facts.length <= 100) (h2 : b.facts.length <= 100) : (starL a b).facts.length <= 200 := Nat.le_trans (starL_lenF _ _) (by omega)
theorem starL_bdA (h1 : a.atoms.length <= 100) (h2 : b.atoms.length <= 100) : (starL a b).atoms.length <= 200 := Nat.le_trans (starL_lenA _ _) (by omega)
end
end Go.SE

namespace Go.SE
open Go.RowKit
abbrev hn (a : GAsn) : Nat -> Bool := hz a fun _ => false
def cn (a : GAsn) (vs : List Int) : List Int := canon (hn a) (tv vs)
section
variable {a : GAsn} {vs : List Int} {i j : Nat} {x : Int}
end
end Go.SE

namespace Go.SE
open Go.RowKit
section
variable {a : GAsn} {i : Int}
end
end Go.SE

namespace Go.SE
open Go.RowKit
section
variable {a : GAsn} {s : GState} {i : Int}
end
end Go.SE
namespace Go.SE
section
variable {a b c : GAsn}
end
end Go.SE
namespace Go.SE
section
variable {a : GAsn} {i : Int}
end
end Go.SE
namespace Go.SE
section
variable {s : GState} {t v : Int}
end
end Go.SE
namespace Go.SE
section
variable {a : GAsn} {i : Int} {p : Nat × Bool}
end
end Go.SE

namespace Go.SE
open Go.RowKit
def pkS (a : GAsn) (m : Int) : GAsn := ⟨[], pkA m a.atoms⟩
def FRA (m : Int) (b a : GAsn) : Bool := starOk b (pkS a m) && ENT a (starL b (pkS a m))
def frmI (a b : GAsn) : Int := lmI (fun m => FRA m b a) (a.atoms.length : Int)
def frmB (a b : GAsn) : Bool := asV a && (asV b && lmB (fun m => FRA m b a) (a.atoms.length : Int))
def frmL (a b : GAsn) : GAsn := cond (frmB a b) (pkS a (frmI a b)) ⟨[], []⟩
section
variable {a b : GAsn} {m : Int}
theorem pkA_mem {l : List GAtom} : ∀ x ∈ pkA m l, x ∈ l := by
 intro x hx
 unfold pkA pk at hx
 obtain ⟨i, hi, rfl⟩ := List.mem_map.1 hx
 have := List.mem_range.1 (List.mem_filter.1 hi).1
 rw [List.getD_eq_getElem?_getD, List.getElem?_eq_getElem this]
 exact List.getElem_mem _
theorem pkA_le {l : List GAtom} : (pkA m l).length <= l.length := pk_len m l _
theorem pkS_val (ha : asV a = true) : asV (pkS a m) = true := by
 have hA := asV_facts ha
 unfold asV fsV pkS
 have h1 : (pkA m a.atoms).length <= 6 := Nat.le_trans pkA_le hA.2.2.2
 have h2 : (pkA m a.atoms).all atV = true := List.all_eq_true.2 fun x hx => List.all_eq_true.1 hA.2.2.1 x (pkA_mem x hx)
 simp only [List.length_nil, List.all_nil, h1, h2, decide_true]
 rfl
theorem fra_eq (ha : asV a = true) (hb : asV b = true) : (asV (starA b (pkS a m)) && ENT a (starA b (pkS a m))) = FRA m b a := by
 unfold FRA starL
 have : starOk b (pkS a m) = asV (starA b (pkS a m)) := by unfold starOk; rw [hb, pkS_val ha]; rfl
 rw [this]
 cases h : asV (starA b (pkS a m)) <;> rfl
theorem fra_ok (h : FRA m b a = true) : starOk b (pkS a m) = true /\ ENT a (starL b (pkS a m)) = true := by
 unfold FRA at h
 rwa [Bool.and_eq_true] at h
end
end Go.SE
namespace Go.SE
section
variable {a b : GAsn}
def frN (a b : GAsn) (i : Nat) : Bool := (List.range i).all fun m => !FRA m b a
theorem frN_zero : frN a b 0 = true := rfl
theorem frN_get {i : Nat} (h : frN a b i = true) : ∀ j : Nat, j < i -> FRA j b a = false := fun j hj => by
 have := List.all_eq_true.1 h j (List.mem_range.2 hj)
 simpa using this
theorem frN_step {i : Nat} (h : frN a b i = true) (h2 : FRA i b a = false) : frN a b (i + 1) = true := by
 unfold frN at h ⊢; rw [List.range_succ, List.all_append, h]; simp [h2]
theorem pkTop_eq (ha : asV a = true) : pkTop a = 2 ^ a.atoms.length /\ pkTop a <= 64 /\ 1 <= pkTop a := by
 have h := (asV_facts ha).2.2.2
 unfold pkTop
 have : ∀ k : Nat, k <= 6 -> IntKind.wrap .i64 ((1 : Int) * 2 ^ (min k (IntKind.bits .i64))) = 2 ^ k /\ IntKind.wrap .i64 ((1 : Int) * 2 ^ (min k (IntKind.bits .i64))) <= 64 /\ 1 <= IntKind.wrap .i64 ((1 : Int) * 2 ^ (min k (IntKind.bits .i64))) := by decide
 exact this _ h
theorem frm_found {i : Nat} (ha : asV a = true) (hb : asV b = true) (h : frN a b i = true) (hi : (i : Int) < pkTop a) (hf : FRA i b a = true) : pkS a i = frmL a b /\ true = frmB a b := by
 rw [(pkTop_eq ha).1] at hi
 obtain ⟨h1, h2⟩ := lm_found (acc := fun m => FRA m b a) (n := (a.atoms.length : Int)) (m := i) (by rw [Int.toNat_natCast]; exact hi) (frN_get h) hf
 have hB : frmB a b = true := by unfold frmB; rw [ha, hb, ← h2]; rfl
 unfold frmL
 rw [hB, cond_true]
 unfold frmI
 rw [← h1]
 exact ⟨rfl, rfl⟩
theorem frm_none {i : Nat} (ha : asV a = true) (hb : asV b = true) (h : frN a b i = true) (hi : ¬ (i : Int) < pkTop a) : (⟨[], []⟩ : GAsn) = frmL a b /\ false = frmB a b := by
 rw [(pkTop_eq ha).1] at hi
 obtain ⟨h1, h2⟩ := lm_none (acc := fun m => FRA m b a) (n := (a.atoms.length : Int)) (m := i) (by rw [Int.toNat_natCast]; exact hi) (frN_get h)
 have hB : frmB a b = false := by unfold frmB; rw [ha, hb, ← h2]; rfl
 unfold frmL
 rw [hB]
 exact ⟨rfl, rfl⟩
theorem frm_no1 (ha : asV a = false) : (⟨[], []⟩ : GAsn) = frmL a b /\ false = frmB a b := by
 have hB : frmB a b = false := by unfold frmB; rw [ha]; rfl
 unfold frmL; rw [hB]; exact ⟨rfl, rfl⟩
theorem frm_no2 (hb : asV b = false) : (⟨[], []⟩ : GAsn) = frmL a b /\ false = frmB a b := by
 have hB : frmB a b = false := by unfold frmB; rw [hb]; simp
 unfold frmL; rw [hB]; exact ⟨rfl, rfl⟩
end
end Go.SE
namespace Go.SE
section
variable {a b : GAsn} {m : Int}
theorem fra_y (h : starOk b ⟨[], pkA m a.atoms⟩ = true) : ENT a (starL b ⟨[], pkA m a.atoms⟩) = FRA m b a := by
 unfold FRA pkS
 rw [h, Bool.true_and]
theorem fra_n (h : starOk b ⟨[], pkA m a.atoms⟩ = false) : false = FRA m b a := by
 unfold FRA pkS
 rw [h, Bool.false_and]
theorem pk200 {k : Nat} (h : a.atoms.length <= k) : (pkA m a.atoms).length <= k := Nat.le_trans pkA_le h
theorem star_pkF (hb : b.facts.length <= 100) : (starL b ⟨[], pkA m a.atoms⟩).facts.length <= 200 := starL_bdF hb (by show 0 <= 100; omega)
theorem star_pkA (hb : b.atoms.length <= 100) (ha : a.atoms.length <= 100) : (starL b ⟨[], pkA m a.atoms⟩).atoms.length <= 200 := starL_bdA hb (pk200 ha)
theorem frm_n (ha : asV a = true) (hb : asV b = true) (h : lmB (fun m => FRA m b a) (a.atoms.length : Int) = false) : (⟨[], []⟩ : GAsn) = frmL a b /\ false = frmB a b := by
 have hB : frmB a b = false := by unfold frmB; rw [h]; simp
 unfold frmL; rw [hB]; exact ⟨rfl, rfl⟩
theorem frm_y (ha : asV a = true) (hb : asV b = true) (h : lmB (fun m => FRA m b a) (a.atoms.length : Int) = true) : (⟨[], pkA (lmI (fun m => FRA m b a) (a.atoms.length : Int)) a.atoms⟩ : GAsn) = frmL a b /\ true = frmB a b := by
 have hB : frmB a b = true := by unfold frmB; rw [ha, hb, h]; rfl
 unfold frmL; rw [hB]; exact ⟨rfl, rfl⟩
theorem fra_c : starA b (pkS a m) = ⟨b.facts, b.atoms ++ pkA m a.atoms⟩ := by unfold starA pkS; simp
theorem fra_a (ha : asV a = true) (hb : asV b = true) {i : Nat} (h : frN a b i = true) (h1 : asV ⟨b.facts, b.atoms ++ pkA i a.atoms⟩ = false) : frN a b (i + 1) = true :=
 frN_step h (by rw [← fra_eq ha hb, fra_c, h1]; rfl)
theorem fra_b (ha : asV a = true) (hb : asV b = true) {i : Nat} (h : frN a b i = true) (h2 : ENT a ⟨b.facts, b.atoms ++ pkA i a.atoms⟩ = false) : frN a b (i + 1) = true :=
 frN_step h (by rw [← fra_eq ha hb, fra_c, h2, Bool.and_false])
theorem frm_f (ha : asV a = true) (hb : asV b = true) {i : Nat} (h : frN a b i = true) (hi : (i : Int) < pkTop a) (h1 : asV ⟨b.facts, b.atoms ++ pkA i a.atoms⟩ = true) (h2 : ENT a ⟨b.facts, b.atoms ++ pkA i a.atoms⟩ = true) : (⟨[], pkA i a.atoms⟩ : GAsn) = frmL a b /\ true = frmB a b :=
 frm_found ha hb h hi (by rw [← fra_eq ha hb, fra_c, h1, h2]; rfl)
theorem app_pk (hb : b.atoms.length <= 100) (ha : a.atoms.length <= 100) : (b.atoms ++ pkA m a.atoms).length <= 200 := by
 rw [List.length_append]
 have := pkA_le (l := a.atoms) (m := m)
 omega
theorem pkTop_w : IntKind.wrap .i64 (1 * 2 ^ min a.atoms.length (IntKind.bits .i64)) = pkTop a := rfl
end
end Go.SE

namespace Go.SE
open Go.RowKit
section
variable {P : Program} {E : Ty -> TypeId} {tab : TypeId -> Option TI} {w0 : World} {M : MM} {n : Nat} {o : Oper} {st : St} {a : Act} {w : World}
end
end Go.SE

namespace Go.SE
open Go.RowKit
def ufrR (a p q : GAsn) : GAsn := ⟨a.facts ++ q.facts, q.atoms ++ (frmL a p).atoms⟩
def ufrB (a p q : GAsn) : Bool := frmB a p && (asV q && asV (ufrR a p q))
def ufrL (a p q : GAsn) : GAsn := cond (ufrB a p q) (ufrR a p q) ⟨[], []⟩
section
variable {a b p q : GAsn} {m : Int}
theorem frmL_facts : (frmL a b).facts = [] := by unfold frmL; cases frmB a b <;> rfl
theorem frmL_len : (frmL a b).facts.length = 0 /\ (frmL a b).atoms.length <= a.atoms.length := by
 rw [frmL_facts]
 refine ⟨rfl, ?_⟩
 unfold frmL
 cases frmB a b with
 | true => exact pkA_le
 | false => exact Nat.zero_le _
theorem lm_spec {acc : Int -> Bool} {n : Int} (h : lmB acc n = true) : ∃ i : Nat, lmI acc n = (i : Int) /\ i < 2 ^ n.toNat /\ acc i = true /\ ∀ j : Nat, j < i -> acc j = false := by
 unfold lmB at h
 obtain ⟨i, hi⟩ := Option.isSome_iff_exists.1 h
 have hi' := hi
 unfold lmO at hi
 obtain ⟨h1, h2, h3⟩ := List.find?_range_eq_some.1 hi
 refine ⟨i, by unfold lmI; rw [hi']; rfl, List.mem_range.1 h2, h1, fun j hj => ?_⟩
 have := h3 j hj
 simpa using this
theorem frm_spec (h : frmB a b = true) : asV a = true /\ asV b = true /\ asV (frmL a b) = true /\ asV (starA b (frmL a b)) = true /\ ENT a (starA b (frmL a b)) = true := by
 have h' := h
 unfold frmB at h'
 simp only [Bool.and_eq_true] at h'
 obtain ⟨ha, hb, hl⟩ := h'
 obtain ⟨i, hi, _, hacc, _⟩ := lm_spec hl
 have e : frmL a b = pkS a i := by unfold frmL frmI; rw [h, cond_true, hi]
 obtain ⟨h1, h2⟩ := fra_ok hacc
 rw [e]
 have h3 := stL_of h1
 rw [h3.1] at h2
 exact ⟨ha, hb, pkS_val ha, h3.2.1, h2⟩
theorem mbit0 : ∀ i : Nat, mbit 0 i = false := fun i => by
 unfold mbit
 rw [Int.zero_fdiv]
 decide
theorem pkA0 {l : List GAtom} : pkA 0 l = [] := by
 unfold pkA pk
 rw [List.filter_eq_nil_iff.2 fun i _ => by rw [mbit0]; simp]
 rfl
theorem fra0 (h : ENT a b = true) : FRA 0 b a = true := by
 have hb := ent_v2 h
 have e : pkS a 0 = ⟨[], []⟩ := by unfold pkS; rw [pkA0]
 have e2 : starA b ⟨[], []⟩ = b := by unfold starA; simp
 have ho : starOk b ⟨[], []⟩ = true := by unfold starOk; rw [e2, hb]; rfl
 unfold FRA
 rw [e, ho, (stL_of ho).1, e2, h]; rfl
theorem frm_ent (h : ENT a b = true) : frmB a b = true /\ frmL a b = ⟨[], []⟩ := by
 have ha := ent_v1 h
 have hb := ent_v2 h
 have hf := fra0 h
 obtain ⟨h1, h2⟩ := lm_found (acc := fun m => FRA m b a) (n := (a.atoms.length : Int)) (m := 0) (by have := (pkTop_eq ha).2.2; rw [(pkTop_eq ha).1] at this; rw [Int.toNat_natCast]; omega) (fun j hj => absurd hj (Nat.not_lt_zero _)) hf
 have hB : frmB a b = true := by unfold frmB; rw [ha, hb, ← h2]; rfl
 refine ⟨hB, ?_⟩
 unfold frmL frmI
 rw [hB, cond_true, ← h1]
 show pkS a 0 = _
 unfold pkS; rw [pkA0]
theorem frm_self (ha : asV a = true) : frmB a a = true /\ (frmL a a).atoms.length = 0 := by
 obtain ⟨h1, h2⟩ := frm_ent (ent_refl ha)
 exact ⟨h1, by rw [h2]; rfl⟩
theorem frm_entA (h : ENT a b = true) : (frmL a b).atoms.length = 0 := by rw [(frm_ent h).2]; rfl
theorem ufr_all (h : ufrB a p q = true) : frmB a p = true /\ asV q = true /\ asV (ufrR a p q) = true /\ ufrL a p q = ufrR a p q := by
 have h' := h
 unfold ufrB at h'
 simp only [Bool.and_eq_true] at h'
 exact ⟨h'.1, h'.2.1, h'.2.2, by unfold ufrL; rw [h]; rfl⟩
theorem ent_facts {c : GAsn} (h : ENT a c = true) (hv : asV ⟨a.facts ++ c.facts, c.atoms⟩ = true) : ENT a ⟨a.facts ++ c.facts, c.atoms⟩ = true := by
 obtain ⟨ha, hc, h⟩ := ent_iff.1 h
 refine ent_iff.2 ⟨ha, hv, fun v hp => ⟨fun f hf => ?_, (h v hp).mt⟩⟩
 rcases List.mem_append.1 hf with hf | hf
 ·exact hp.facts f hf
 ·exact (h v hp).facts f hf
theorem ufr_star : starA q (frmL a p) = ⟨q.facts, q.atoms ++ (frmL a p).atoms⟩ := by unfold starA; rw [frmL_facts, List.append_nil]
theorem ufr_ent (h : ufrB a p q = true) (he : ENT p q = true) : ENT a (ufrL a p q) = true := by
 obtain ⟨hf, hq, hv, e⟩ := ufr_all h
 obtain ⟨ha, hp, hF, hs, hE⟩ := frm_spec hf
 rw [e]
 have hsq : asV (starA q (frmL a p)) = true := by
  rw [ufr_star]
  have := asV_facts hv
  have hq' := asV_facts hq
  unfold asV fsV
  rw [hq'.1, decide_eq_true hq'.2.1, decide_eq_true (show (q.atoms ++ (frmL a p).atoms).length <= 6 from this.2.2.2), show (q.atoms ++ (frmL a p).atoms).all atV = true from this.2.2.1]
  rfl
 have h2 := ent_trans hE (ent_frame he hs hsq)
 rw [ufr_star] at h2
 exact ent_facts h2 hv
theorem ufr_same (h : ufrB a p p = true) : ENT a (ufrL a p p) = true := ufr_ent h (ent_refl (ufr_all h).2.1)
theorem ufr_len (h : ufrB a p q = true) : (ufrL a p q).atoms.length = q.atoms.length + (frmL a p).atoms.length := by
 rw [(ufr_all h).2.2.2]
 unfold ufrR
 simp
theorem ufrL_le : (ufrL a p q).facts.length <= a.facts.length + q.facts.length /\ (ufrL a p q).atoms.length <= q.atoms.length + a.atoms.length := by
 have := frmL_len (a := a) (b := p)
 unfold ufrL ufrR
 cases ufrB a p q with
 | true => simp; omega
 | false => simp
theorem mbits : ∀ n : Nat, n <= 6 -> ∀ m : Nat, m < 64 -> ∀ i : Nat, i < 6 -> m < 2 ^ n -> i < n -> mbit ((2 ^ n : Int) - 1 - m) i = !mbit m i := by decide +kernel
theorem pk_two {l : List GAtom} (hl : l.length <= 6) {m : Int} (h0 : 0 <= m) (h1 : m < 2 ^ l.length) : (pkA m l ++ pkA ((2 ^ l.length : Int) - 1 - m) l).Perm l := by
 have hm : m.toNat < 64 := by
  have : ∀ k : Nat, k <= 6 -> (2 : Int) ^ k <= 64 := by decide
  have := this _ hl
  omega
 have e : ((2 ^ l.length : Nat) : Int) = 2 ^ l.length := by push_cast; rfl
 have hb : ∀ i, i < l.length -> mbit ((2 ^ l.length : Int) - 1 - m) i = !mbit m i := fun i hi => by
  have := mbits l.length hl m.toNat hm i (by omega) (by omega) hi
  rw [show ((m.toNat : Nat) : Int) = m by omega] at this
  exact this
 unfold pkA pk
 rw [← List.map_append]
 have e2 : (List.range l.length).filter (mbit ((2 ^ l.length : Int) - 1 - m)) = (List.range l.length).filter fun i => !mbit m i := List.filter_congr fun i hi => hb i (List.mem_range.1 hi)
 rw [e2]
 have e3 : (List.range l.length).map (fun j => l.getD j ⟨0, 0, 0⟩) = l := by
  apply List.ext_getElem
  ·simp
  ·intro i h1 h2
   simp only [List.getElem_map, List.getElem_range]
   rw [List.getD_eq_getElem?_getD, List.getElem?_eq_getElem h2]; rfl
 exact ((List.filter_append_perm (mbit m) (List.range l.length)).map _).trans (.of_eq e3)
end
end Go.SE
namespace Go.SE
section
variable {a p q : GAsn}
theorem ufr_1 (h : frmB a p = false) : (⟨[], []⟩ : GAsn) = ufrL a p q /\ false = ufrB a p q := by
 have : ufrB a p q = false := by unfold ufrB; rw [h]; rfl
 unfold ufrL; rw [this]; exact ⟨rfl, rfl⟩
theorem ufr_2 (h : asV q = false) : (⟨[], []⟩ : GAsn) = ufrL a p q /\ false = ufrB a p q := by
 have : ufrB a p q = false := by unfold ufrB; rw [h]; simp
 unfold ufrL; rw [this]; exact ⟨rfl, rfl⟩
theorem ufr_3 (h : asV ⟨a.facts ++ q.facts, q.atoms ++ (frmL a p).atoms⟩ = false) : (⟨[], []⟩ : GAsn) = ufrL a p q /\ false = ufrB a p q := by
 have h : asV (ufrR a p q) = false := h
 have : ufrB a p q = false := by unfold ufrB; rw [h]; simp
 unfold ufrL; rw [this]; exact ⟨rfl, rfl⟩
theorem ufr_4 (h1 : frmB a p = true) (h2 : asV q = true) (h : asV ⟨a.facts ++ q.facts, q.atoms ++ (frmL a p).atoms⟩ = true) : (⟨a.facts ++ q.facts, q.atoms ++ (frmL a p).atoms⟩ : GAsn) = ufrL a p q /\ true = ufrB a p q := by
 have h : asV (ufrR a p q) = true := h
 have : ufrB a p q = true := by unfold ufrB; rw [h1, h2, h]; rfl
 unfold ufrL; rw [this]; exact ⟨rfl, rfl⟩
theorem frm_len6 (h : frmB a p = true) : a.facts.length <= 12 /\ a.atoms.length <= 6 /\ p.facts.length <= 12 /\ p.atoms.length <= 6 /\ (frmL a p).atoms.length <= 6 := by
 obtain ⟨ha, hp, hf, _⟩ := frm_spec h
 exact ⟨(fo_len6 ha).1, (fo_len6 ha).2, (fo_len6 hp).1, (fo_len6 hp).2, (fo_len6 hf).2⟩
end
end Go.SE

namespace Go.SE
section
variable {a b p q : GAsn} {m n : Int}
theorem frm200F : (frmL a b).facts.length <= 200 := by rw [frmL_len.1]; omega
theorem frm200A (h : a.atoms.length <= 100) : (frmL a b).atoms.length <= 200 := by have := (frmL_len (a := a) (b := b)).2; omega
theorem ufr200F (h : a.facts.length <= 100) (hq : q.facts.length <= 100) : (ufrL a p q).facts.length <= 200 := by have := (ufrL_le (a := a) (p := p) (q := q)).1; omega
theorem ufr200A (h : a.atoms.length <= 100) (hq : q.atoms.length <= 100) : (ufrL a p q).atoms.length <= 200 := by have := (ufrL_le (a := a) (p := p) (q := q)).2; omega
theorem frs_1 (ha : asV a = true) (h : frmB a a = false) : False := by rw [(frm_self ha).1] at h; cases h
theorem frs_2 (ha : asV a = true) : ((frmL a a).atoms.length : Int) = 0 := by rw [(frm_self ha).2]; rfl
theorem fre_1 (h : ENT a b = true) (h2 : frmB a b = false) : False := by rw [(frm_ent h).1] at h2; cases h2
theorem fre_2 (h : ENT a b = true) (h2 : ¬ ((frmL a b).atoms.length : Int) = 0) : False := h2 (by rw [frm_entA h]; rfl)
theorem uf_bd (hq : q.atoms.length <= 100) (h : a.atoms.length <= 100) : (q.atoms.length : Int) + ((frmL a p).atoms.length : Int) <= 9223372036854775807 := by
 have := (frmL_len (a := a) (b := p)).2
 omega
theorem uf_lenN (h2 : ¬ ((ufrL a p q).atoms.length : Int) = (q.atoms.length : Int) + ((frmL a p).atoms.length : Int)) (h : ufrB a p q = true) : False := by
 rw [ufr_len h] at h2; exact h2 (by push_cast; rfl)
theorem uf_sameN (h : ufrB a p p = true) (h2 : ENT a (ufrL a p p) = false) : False := by rw [ufr_same h] at h2; cases h2
theorem uf_frmN (h : ufrB a p q = true) (h2 : frmB a p = false) : False := by rw [(ufr_all h).1] at h2; cases h2
theorem pkl200F : (pkL a m).facts.length <= 200 := by rw [(pkL_len a m).1]; omega
theorem pkl200A (h : a.atoms.length <= 100) : (pkL a m).atoms.length <= 200 := by have := (pkL_len a m).2; omega
theorem stp200F : (starL (pkL a m) (pkL b n)).facts.length <= 200 := starL_bdF (by rw [(pkL_len _ _).1]; omega) (by rw [(pkL_len _ _).1]; omega)
theorem stp200A (ha : a.atoms.length <= 100) (hb : b.atoms.length <= 100) : (starL (pkL a m) (pkL b n)).atoms.length <= 200 := starL_bdA (Nat.le_trans (pkL_len _ _).2 ha) (Nat.le_trans (pkL_len _ _).2 hb)
def pkC (a : GAsn) (m : Int) : Int := pkTop a - 1 - m
theorem pkC_w : pkTop a - 1 - m = pkC a m := rfl
theorem pkOk_all (h : pkOk a m = true) : asV a = true /\ 0 <= m /\ m < pkTop a /\ a.facts.length <= 12 /\ a.atoms.length <= 6 /\ pkTop a = 2 ^ a.atoms.length /\ pkTop a <= 64 /\ 1 <= pkTop a := by
 unfold pkOk at h
 simp only [Bool.and_eq_true, Bool.not_eq_true', decide_eq_false_iff_not] at h
 obtain ⟨⟨ha, h0⟩, h1⟩ := h
 exact ⟨ha, by omega, by omega, (fo_len6 ha).1, (fo_len6 ha).2, pkTop_eq ha⟩
theorem pkT_1 (h : pkOk a m = true) : -9223372036854775808 <= pkTop a - 1 := by have := pkOk_all h; omega
theorem pkT_2 (h : pkOk a m = true) : pkTop a - 1 <= 9223372036854775807 := by have := pkOk_all h; omega
theorem pkT_3 (h : pkOk a m = true) : -9223372036854775808 <= pkC a m := by have := pkOk_all h; unfold pkC; omega
theorem pkT_4 (h : pkOk a m = true) : pkC a m <= 9223372036854775807 := by have := pkOk_all h; unfold pkC; omega
theorem pkT_ok (h : pkOk a m = true) : pkOk a (pkC a m) = true := by
 have := pkOk_all h
 unfold pkOk pkC
 rw [this.1]
 simp only [Bool.true_and, Bool.and_eq_true, Bool.not_eq_true', decide_eq_false_iff_not]
 omega
theorem pkT_okN (h2 : pkOk a (pkC a m) = false) (h : pkOk a m = true) : False := by rw [pkT_ok h] at h2; cases h2
theorem asV_bare {l : List GAtom} (h : l.all atV = true) (hl : l.length <= 6) : asV ⟨[], l⟩ = true := by
 unfold asV fsV
 rw [h, decide_eq_true hl]
 rfl
theorem pkV (ha : asV a = true) : asV ⟨[], pkA m a.atoms⟩ = true :=
 asV_bare (List.all_eq_true.2 fun x hx => List.all_eq_true.1 (asV_facts ha).2.2.1 x (pkA_mem x hx)) (Nat.le_trans pkA_le (asV_facts ha).2.2.2)
theorem pk_perm (h : pkOk a m = true) : (pkA m a.atoms ++ pkA (pkC a m) a.atoms).Perm a.atoms := by
 have ha := pkOk_all h
 have := pk_two (l := a.atoms) ha.2.2.2.2.1 (m := m) ha.2.1 (by have := ha.2.2.1; rw [ha.2.2.2.2.2.1] at this; exact this)
 unfold pkC
 rw [ha.2.2.2.2.2.1]
 exact this
theorem pk_star (h : pkOk a m = true) : starL (pkL a m) (pkL a (pkC a m)) = ⟨[], pkA m a.atoms ++ pkA (pkC a m) a.atoms⟩ /\ starOk (pkL a m) (pkL a (pkC a m)) = true /\ asV ⟨[], pkA m a.atoms ++ pkA (pkC a m) a.atoms⟩ = true /\ asV ⟨[], a.atoms⟩ = true := by
 have ha := (pkOk_all h).1
 have hp := pk_perm h
 have e1 : pkL a m = ⟨[], pkA m a.atoms⟩ := by unfold pkL; rw [h]; rfl
 have e2 : pkL a (pkC a m) = ⟨[], pkA (pkC a m) a.atoms⟩ := by unfold pkL; rw [pkT_ok h]; rfl
 have hs : starA (pkL a m) (pkL a (pkC a m)) = ⟨[], pkA m a.atoms ++ pkA (pkC a m) a.atoms⟩ := by rw [e1, e2]; rfl
 have hv : asV ⟨[], pkA m a.atoms ++ pkA (pkC a m) a.atoms⟩ = true :=
  asV_bare (List.all_eq_true.2 fun x hx => List.all_eq_true.1 (asV_facts ha).2.2.1 x (hp.mem_iff.1 hx)) (by rw [hp.length_eq]; exact (asV_facts ha).2.2.2)
 have ho : starOk (pkL a m) (pkL a (pkC a m)) = true := by
  unfold starOk
  rw [hs, hv, e1, e2, pkV ha, pkV ha]; rfl
 refine ⟨?_, ho, hv, asV_bare (asV_facts ha).2.2.1 (asV_facts ha).2.2.2⟩
 unfold starL; rw [ho]; exact hs
theorem pk_so (h2 : starOk (pkL a m) (pkL a (pkC a m)) = false) (h : pkOk a m = true) : False := by rw [(pk_star h).2.1] at h2; cases h2
theorem pk_ln (h2 : ¬ (starL (pkL a m) (pkL a (pkC a m))).atoms.length = a.atoms.length) (h : pkOk a m = true) : False := by
 rw [(pk_star h).1] at h2
 exact h2 (pk_perm h).length_eq
theorem pk_eq (h : pkOk a m = true) : (ENT (starL (pkL a m) (pkL a (pkC a m))) ⟨[], a.atoms⟩ && ENT ⟨[], a.atoms⟩ (starL (pkL a m) (pkL a (pkC a m)))) = true := by
 obtain ⟨e, _, hv, hw⟩ := pk_star h
 rw [e, ent_sub hv hw (fun f hf => by cases hf) (pk_perm h).symm, ent_sub hw hv (fun f hf => by cases hf) (pk_perm h)]
 rfl
end
end Go.SE
