/-
  Parts of a symbolic engine over the program's code: how operations, regions, loops and calls are shown to keep contracts. No conditions.
-/
import Derived.Test.YtcnjahaoecngbaaEe
set_option linter.unusedSimpArgs false
set_option linter.unusedVariables false
set_option linter.unusedSectionVars false

namespace Go.SE
def szA (a : GAsn) (left : Int) : Int := if sz1 left a.facts.length < 0 then -1 else sz1 (sz1 left a.facts.length) a.atoms.length

/-! ## marks -/
def fF (n : Int) (j : Nat) : GFact := ⟨Int.tmod (n + 3 * j) 3 == 0, n + 3 * j + 1, n + 3 * j + 2⟩
def fG (n : Int) (j : Nat) : GAtom := ⟨n + 3 * j, n + 3 * j + 1, n + 3 * j + 2⟩
def fI (n : Int) (j : Nat) : Int := n + j
def mkF (l : List GFact) (n : Int) : List GFact := (List.range l.length).map (fF n)
def mkG (l : List GAtom) (n : Int) : List GAtom := (List.range l.length).map (fG n)
def mkI (l : List Int) (n : Int) : List Int := (List.range l.length).map (fI n)
def mkU {α : Type} (g : Nat → α) (l : List α) (i : Nat) : List α := (List.range i).map g ++ l.drop i
theorem mkU_len {α : Type} {g : Nat → α} {l : List α} {i : Nat} (h : i ≤ l.length) : (mkU g l i).length = l.length := by simp [mkU]; omega
theorem mkU_get {α : Type} {g : Nat → α} {l : List α} {i : Nat} {d : α} (h : i < l.length) : (mkU g l i).getD i d = l.getD i d := by
  unfold mkU
  rw [List.getD_eq_getElem?_getD, List.getD_eq_getElem?_getD, List.getElem?_append_right (by simp)]
  simp
theorem mkU_set {α : Type} {g : Nat → α} {l : List α} {i : Nat} (h : i < l.length) : (mkU g l i).set i (g i) = mkU g l (i + 1) := by
  unfold mkU
  have e2 : l.drop i = l[i] :: l.drop (i + 1) := List.drop_eq_getElem_cons h
  rw [List.set_append_right _ _ (by simp), List.range_succ, List.length_map, List.length_range, Nat.sub_self, e2, List.set_cons_zero, List.map_append, List.append_assoc]
  rfl
theorem mkU_gs {α : Type} {g : Nat → α} {l : List α} {i : Nat} {y d : α} (h : i < l.length) : ((mkU g l i).set i y).getD i d = y := getD_set_self (by rw [mkU_len (Nat.le_of_lt h)]; exact h)
theorem mkU_sl {α : Type} {g : Nat → α} {l : List α} {i j : Nat} {y : α} (h : i ≤ l.length) : ((mkU g l i).set j y).length = l.length := by rw [List.length_set, mkU_len h]
theorem set3_len {α : Type} {l : List α} {i j : Nat} {x y : α} : ((l.set i x).set j y).length = l.length := by simp
theorem mkU_zero {α : Type} {g : Nat → α} {l : List α} : mkU g l 0 = l := by simp [mkU]
theorem mkU_full {α : Type} {g : Nat → α} {l : List α} {i : Nat} (h : i ≤ l.length) (h2 : ¬ i < l.length) : mkU g l i = (List.range l.length).map g := by
  have : i = l.length := by omega
  subst this; simp [mkU]
def hdF (l : List GFact) (n : Int) : Int := cond (decide (l = mkF l n)) (n + 3 * l.length) (-1)
def hdG (l : List GAtom) (n : Int) : Int := cond (decide (l = mkG l n)) (n + 3 * l.length) (-1)
def hdI (l : List Int) (n : Int) : Int := cond (decide (l = mkI l n)) (n + l.length) (-1)
def hdA (a : GAsn) (n : Int) : Int := if hdF a.facts n < 0 then -1 else if hdG a.atoms (hdF a.facts n) < 0 then -1 else hdG a.atoms (hdF a.facts n)
/-- the first i elements are as they were marked -/
def hdI' {α : Type} (g : Nat → α) (l : List α) (i : Nat) : Prop := l.take i = (List.range i).map g
theorem hd_zero {α : Type} (g : Nat → α) (l : List α) : hdI' g l 0 := by simp [hdI']
theorem hd_step {α : Type} {g : Nat → α} {l : List α} {i : Nat} {d : α} (h : hdI' g l i) (hi : i < l.length) (e : l.getD i d = g i) : hdI' g l (i + 1) := by
  unfold hdI' at *
  rw [take_snoc d hi, h, e, List.range_succ, List.map_append]; rfl
theorem hd_full {α : Type} {g : Nat → α} {l : List α} {i : Nat} (h : hdI' g l i) (hi : i ≤ l.length) (h2 : ¬ i < l.length) : l = (List.range l.length).map g := by
  have : i = l.length := by omega
  subst this
  unfold hdI' at h
  rw [List.take_length] at h
  exact h
theorem hd_not {α : Type} {g : Nat → α} {l : List α} {i : Nat} {d : α} (hi : i < l.length) (e : l.getD i d ≠ g i) : l ≠ (List.range l.length).map g := by
  intro h
  apply e
  have h2 : l.getD i d = ((List.range l.length).map g).getD i d := by rw [← h]
  rw [h2, List.getD_eq_getElem?_getD]
  simp [hi]
theorem hdF_mk (l : List GFact) (n : Int) : hdF (mkF l n) n = n + 3 * l.length := by
  have : (mkF l n).length = l.length := by simp [mkF]
  unfold hdF; rw [this]
  have e : mkF (mkF l n) n = mkF l n := by unfold mkF; simp
  rw [e]; simp
theorem hdG_mk (l : List GAtom) (n : Int) : hdG (mkG l n) n = n + 3 * l.length := by
  have : (mkG l n).length = l.length := by simp [mkG]
  unfold hdG; rw [this]
  have e : mkG (mkG l n) n = mkG l n := by unfold mkG; simp
  rw [e]; simp
theorem hdI_mk (l : List Int) (n : Int) : hdI (mkI l n) n = n + l.length := by
  have : (mkI l n).length = l.length := by simp [mkI]
  unfold hdI; rw [this]
  have e : mkI (mkI l n) n = mkI l n := by unfold mkI; simp
  rw [e]; simp
theorem hdA_mk (f : List GFact) (x : List GAtom) (n : Int) (hn : 0 ≤ n) : hdA ⟨mkF f n, mkG x (n + 3 * f.length)⟩ n = n + 3 * f.length + 3 * x.length := by
  unfold hdA
  simp only [hdF_mk, hdG_mk]
  rw [if_neg (by omega), if_neg (by omega)]
theorem mkF_len (l : List GFact) (n : Int) : (mkF l n).length = l.length := by simp [mkF]
theorem mkG_len (l : List GAtom) (n : Int) : (mkG l n).length = l.length := by simp [mkG]
theorem mkI_len (l : List Int) (n : Int) : (mkI l n).length = l.length := by simp [mkI]
theorem hdF_le (l : List GFact) (n : Int) (hn : 0 ≤ n) : -1 ≤ hdF l n ∧ hdF l n ≤ n + 3 * l.length := by unfold hdF; cases decide (l = mkF l n) <;> simp <;> omega
theorem hdG_le (l : List GAtom) (n : Int) (hn : 0 ≤ n) : -1 ≤ hdG l n ∧ hdG l n ≤ n + 3 * l.length := by unfold hdG; cases decide (l = mkG l n) <;> simp <;> omega

/-! ## choices of atoms -/
def mbit (mask : Int) (i : Nat) : Bool := bits .and .i64 (Int.fdiv mask (2 ^ (min i (IntKind.bits .i64)))) (1 : Int) == (1 : Int)
def pk (mask : Int) (l : List GAtom) (i : Nat) : List GAtom := ((List.range i).filter (mbit mask)).map fun j => l.getD j ⟨0, 0, 0⟩
def pkA (mask : Int) (l : List GAtom) : List GAtom := pk mask l l.length
theorem pk_step (mask : Int) (l : List GAtom) (i : Nat) : pk mask l (i + 1) = cond (mbit mask i) (pk mask l i ++ [l.getD i ⟨0, 0, 0⟩]) (pk mask l i) := by
  unfold pk
  rw [List.range_succ, List.filter_append, List.map_append]
  cases h : mbit mask i <;> simp [h]
theorem pk_len (mask : Int) (l : List GAtom) (i : Nat) : (pk mask l i).length ≤ i := by
  unfold pk
  rw [List.length_map]
  exact Nat.le_trans (List.length_filter_le _ _) (by simp)
def pkTop (a : GAsn) : Int := IntKind.wrap .i64 ((1 : Int) * 2 ^ (min a.atoms.length (IntKind.bits .i64)))
def pkOk (a : GAsn) (mask : Int) : Bool := asV a && !(decide (mask < 0)) && !(decide (pkTop a ≤ mask))
def pkL (a : GAsn) (mask : Int) : GAsn := cond (pkOk a mask) ⟨[], pkA mask a.atoms⟩ ⟨[], []⟩
theorem pkL_len (a : GAsn) (mask : Int) : (pkL a mask).facts.length = 0 ∧ (pkL a mask).atoms.length ≤ a.atoms.length := by
  unfold pkL pkA; cases pkOk a mask <;> simp [pk_len]

/-! ## lists of flags -/
def flU (l : List Bool) (i : Nat) : List Int := ((List.range i).filter fun j => l.getD j false).map Int.ofNat
def flL (l : List Bool) : List Int := flU l l.length
theorem flU_step (l : List Bool) (i : Nat) : flU l (i + 1) = cond (l.getD i false) (flU l i ++ [(i : Int)]) (flU l i) := by
  unfold flU
  rw [List.range_succ, List.filter_append, List.map_append]
  cases h : l.getD i false
  · simp only [List.filter_cons, h]; simp
  · simp only [List.filter_cons, h]; simp
theorem flU_len (l : List Bool) (i : Nat) : (flU l i).length ≤ i := by
  unfold flU
  rw [List.length_map]
  exact Nat.le_trans (List.length_filter_le _ _) (by simp)
theorem flL_fl9 (p : Int → Bool) : flL (fl9 p) = terms9.filter p := by
  have h1 : terms9 = (List.range 9).map Int.ofNat := rfl
  rw [h1, List.filter_map]
  unfold flL flU
  rw [fl9_len]
  refine congrArg (List.map Int.ofNat) (List.filter_congr fun j hj => ?_)
  have hj : j < 9 := List.mem_range.1 hj
  have := fl9_get (p := p) (t := (j : Int)) (isT_iff.2 ⟨by omega, by omega⟩)
  simpa using this
theorem terms_fl {a : GAsn} (h : asV a = true) : flL (fl9 (occ a)) = terms a := by rw [flL_fl9]; simp [terms, h]

/-! ## normal forms -/
def nsw (f : GFact) : GFact := cond (decide (f.b < f.a)) ⟨f.eq, f.b, f.a⟩ f
def nfS (acc : List GFact) (f : GFact) : List GFact := cond (f.eq && (f.a == f.b)) acc (cond (acc.contains (nsw f)) acc (acc ++ [nsw f]))
def nfF (l : List GFact) : List GFact := l.foldl nfS []
def nfA (l : List GAtom) : List GAtom := l.filter fun x => !(x.kind == 2) || !(x.a == x.b)
def nf (a : GAsn) : GAsn := ⟨nfF a.facts, nfA a.atoms⟩
def nfL (a : GAsn) : GAsn := cond (asV a) (nf a) ⟨[], []⟩
theorem nfF_step {l : List GFact} {i : Nat} {d : GFact} (h : i < l.length) : nfF (l.take (i + 1)) = nfS (nfF (l.take i)) (l.getD i d) := by
  unfold nfF; rw [take_snoc d h, List.foldl_append]; rfl
theorem nfA_step {l : List GAtom} {i : Nat} {d : GAtom} (h : i < l.length) : nfA (l.take (i + 1)) = cond (!((l.getD i d).kind == 2) || !((l.getD i d).a == (l.getD i d).b)) (nfA (l.take i) ++ [l.getD i d]) (nfA (l.take i)) := by
  unfold nfA; rw [take_snoc d h, List.filter_append]
  cases hh : (!((l.getD i d).kind == 2) || !((l.getD i d).a == (l.getD i d).b)) <;> simp only [List.filter_cons, hh] <;> simp
theorem nfS_len (acc : List GFact) (f : GFact) : (nfS acc f).length ≤ acc.length + 1 := by
  unfold nfS; cases (f.eq && (f.a == f.b)) <;> cases (acc.contains (nsw f)) <;> simp
theorem nfF_len (l : List GFact) : (nfF l).length ≤ l.length := by
  have key : ∀ (l : List GFact) (acc : List GFact), (l.foldl nfS acc).length ≤ acc.length + l.length := by
    intro l
    induction l with
    | nil => intro acc; simp
    | cons f l ih => intro acc; have := ih (nfS acc f); have := nfS_len acc f; simp only [List.foldl_cons, List.length_cons]; omega
  have := key l []
  simpa [nfF] using this
theorem nfA_len (l : List GAtom) : (nfA l).length ≤ l.length := List.length_filter_le _ _
theorem nfL_len (a : GAsn) : (nfL a).facts.length ≤ a.facts.length ∧ (nfL a).atoms.length ≤ a.atoms.length := by
  unfold nfL nf; cases asV a <;> simp [nfF_len, nfA_len]
theorem fact_has_step {l : List GFact} {i : Nat} {g d : GFact} (h : i < l.length) : (l.take (i + 1)).contains g = ((l.take i).contains g || ((l.getD i d).eq == g.eq && ((l.getD i d).a == g.a && ((l.getD i d).b == g.b && true)))) := by
  have e : ((l.getD i d).eq == g.eq && ((l.getD i d).a == g.a && ((l.getD i d).b == g.b && true))) = decide (l.getD i d = g) := by
    rw [Bool.and_true]; exact fact_beq _ _
  rw [e, take_snoc d h, Bool.eq_iff_iff]
  simp only [List.contains_iff_mem, List.mem_append, List.mem_singleton, Bool.or_eq_true, decide_eq_true_eq]
  exact or_congr Iff.rfl eq_comm
theorem asV_kind {a : GAsn} (h : asV a = true) {i : Nat} {d : GAtom} (hi : i < a.atoms.length) : (a.atoms.getD i d).kind = 1 ∨ (a.atoms.getD i d).kind = 2 := by
  have := all_get (d := d) (asV_facts h).2.2.1 hi
  unfold atV at this
  simp only [Bool.and_eq_true, Bool.or_eq_true, beq_iff_eq] at this
  exact this.1.1
/-- a fact that lies in a block -/
def factAt (st : St) (id : Nat) : GFact :=
  match st.mem id with
  | some (.blk [.d (.val (.bool e)), .d (.val (.int .i64 a)), .d (.val (.int .i64 b))]) => ⟨e, a, b⟩
  | _ => ⟨false, 0, 0⟩
end Go.SE
