/-
  Parts of a symbolic engine over the program's code: how operations, regions, loops and calls are shown to keep contracts. No conditions.
-/
import Derived.Test.YtopjgjelkpkmmaaEd
import Derived.Test.YtopjgjelkpkmmaaEe
set_option linter.unusedSimpArgs false
set_option linter.unusedVariables false
set_option linter.unusedSectionVars false

namespace Go.SE
open Go.RowKit
def asnBlk (st : St) (id : Nat) : Option GAsn :=
 match st.mem id with
 | some (.blk [.d (.arr .fact f), .d (.arr .atom x)]) => some ⟨f, x⟩
 | _ => none
structure ClC where
 pre : Int -> GAsn -> GAsn -> Prop
 acc : Int -> GAsn -> GAsn -> Bool
def ClC.con (c : ClC) : Con := ⟨[.int, .pasn, .pasn], [.bool], fun (m, a, b, _) => c.pre m a b, .inl fun (m, a, b, _) => (c.acc m a b, ()), fun _ => 0⟩
def ptCl (c : ClC) : PT := fun args _ st k =>
 match args with
 | [.c (.d (.val (.int .i64 m))), .c (.ptr i1 0), .c (.ptr i2 0)] => match asnBlk st i1, asnBlk st i2 with
  | some a, some b => c.pre m a b /\ k (sv (.bool (c.acc m a b))) st
  | _, _ => False
 | _ => False
section
variable {P : Program} {E : Ty -> TypeId} {w0 : World} {M : MM} {n : Nat} {st : St} {w : World} {g : G}
theorem asnBlk_mem {id : Nat} {a : GAsn} (h : asnBlk st id = some a) : st.mem id = some (.blk [.d (.arr .fact a.facts), .d (.arr .atom a.atoms)]) := by
 unfold asnBlk at h
 split at h
 ·rename_i f x hm
  injection h with h
  subst h
  exact hm
 ·cases h
theorem Good.same (hg : Good E w0 M g st w) (hcl : MCl st) {w' : World} (hx : Ext (fun _ => False) w w') : Good E w0 M g st w' := by
 have hg0 : Good E w0 M g { st with env := fun _ => junk } w := hg.env rfl rfl rfl rfl
 have hcl0 : Cl { st with env := fun _ => junk } := ⟨(fun x id hid => by cases hid), hcl⟩
 have hm : ∀ b, b < w.heap.size -> w'.heap[b]? = w.heap[b]? := fun b hb => hx.block b hb fun h => h
 have := hg0.extend hcl0 (w' := w') (g' := g) [] (hg.ext.trans ⟨hx.os, hx.tape, hx.output, hx.size, fun b hb _ => hm b hb⟩) hm (fun _ _ h => h) (fun _ _ h => .inl h) (fun _ _ => ⟨rfl, rfl⟩) rfl (fun p hp => by cases hp) (fun _ _ hp => by cases hp) (fun _ _ hp => by cases hp) (fun _ _ _ _ hp => by cases hp)
 exact this.env rfl rfl rfl rfl
theorem rp_R {ro' : Nat -> Option (Array Value)} {ρ b1 : Nat} {a : GAsn} {vs1 : Array Value} (hro : ∀ b vs, g.ro b = some vs -> ro' b = some vs) (h1 : ro' b1 = some vs1) (hc : Cells g [.d (.arr .fact a.facts), .d (.arr .atom a.atoms)] vs1) :
  (AK.enc .pasn a).R (argG ro' ρ) (.pointer (some ⟨b1, 0, none⟩)) := by
 refine ⟨b1, 0, vs1, h1, by decide, by show 0 < 1; omega, fun k c hk => ?_, rfl⟩
 have hf : flat .asn [a] = [.arr .fact a.facts, .arr .atom a.atoms] := rfl
 rw [hf] at hk
 have hj : ([.d (.arr .fact a.facts), .d (.arr .atom a.atoms)] : List CV)[k]? = some (.d c) := by
  match k with
  | 0 => simp at hk ⊢; exact hk
  | 1 => simp at hk ⊢; exact hk
  | k + 2 => simp at hk
 obtain ⟨u, hu, hr⟩ := hc.2 k _ hj
 exact ⟨u, by rw [Nat.zero_add]; exact hu, DR.mono hro hr⟩
theorem ptCl_ok {f : FuncId} {c : ClC} (hF : FnOk P E f c.con) : PTOk P E f (ptCl c) := by
 refine ⟨hF.fn, ?_⟩
 intro w0 M g st w args vs base k hg hcl hrefs hargs hv
 unfold ptCl at hv
 split at hv
 ·rename_i m i1 i2
  split at hv
  ·rename_i a b ha hb
   obtain ⟨hpre, hk⟩ := hv
   obtain ⟨b1, vs1, ty1, hκ1, hh1, hc1⟩ := hg.res i1 _ (asnBlk_mem ha)
   obtain ⟨b2, vs2, ty2, hκ2, hh2, hc2⟩ := hg.res i2 _ (asnBlk_mem hb)
   let ro' : Nat -> Option (Array Value) := fun b => if b = b1 then some vs1 else if b = b2 then some vs2 else g.ro b
   have hro : ∀ b vs, g.ro b = some vs -> ro' b = some vs := by
    intro b vs hb
    obtain ⟨ty, fz, hq⟩ := hg.ro b vs hb
    show (if b = b1 then some vs1 else if b = b2 then some vs2 else g.ro b) = some vs
    by_cases e1 : b = b1
    ·subst e1
     rw [if_pos rfl]
     rw [hh1] at hq
     injection hq with hq
     injection hq with hq
     rw [hq]
    ·rw [if_neg e1]
     by_cases e2 : b = b2
     ·subst e2
      rw [if_pos rfl]
      rw [hh2] at hq
      injection hq with hq
      injection hq with hq
      rw [hq]
     ·rw [if_neg e2]; exact hb
   have hin : ROin w ro' := by
    intro b vs hb
    have hb : (if b = b1 then some vs1 else if b = b2 then some vs2 else g.ro b) = some vs := hb
    by_cases e1 : b = b1
    ·subst e1
     rw [if_pos rfl] at hb
     injection hb with hb
     subst hb
     exact ⟨_, _, hh1⟩
    ·rw [if_neg e1] at hb
     by_cases e2 : b = b2
     ·subst e2
      rw [if_pos rfl] at hb
      injection hb with hb
      subst hb
      exact ⟨_, _, hh2⟩
     ·rw [if_neg e2] at hb; exact hg.ro b vs hb
   have r1 : ro' b1 = some vs1 := if_pos rfl
   have r2 : ro' b2 = some vs2 := by
    show (if b2 = b1 then some vs1 else if b2 = b2 then some vs2 else g.ro b2) = some vs2
    by_cases e : b2 = b1
    ·subst e
     rw [if_pos rfl]
     rw [hh1] at hh2
     injection hh2 with hh2
     injection hh2 with hh2
     rw [hh2]
    ·rw [if_neg e, if_pos rfl]
   obtain ⟨v0, hv0, hr0⟩ := hargs.2 0 _ rfl
   obtain ⟨v1, hv1, b1', hb1, e1⟩ := hargs.2 1 _ rfl
   obtain ⟨v2, hv2, b2', hb2, e2⟩ := hargs.2 2 _ rfl
   rw [hκ1] at hb1
   rw [hκ2] at hb2
   injection hb1 with hb1; injection hb1 with hb1; injection hb1 with hb1; subst hb1
   injection hb2 with hb2; injection hb2 with hb2; injection hb2 with hb2; subst hb2
   have hA : ArgsR (argG ro' g.ρ) (encs c.con.aks (m, a, b, ())) vs := by
    refine ⟨hargs.1, fun j s hj => ?_⟩
    match j with
    | 0 =>
     injection hj with hj
     subst hj
     exact ⟨v0, hv0, DR.mono hro hr0⟩
    | 1 =>
     injection hj with hj
     subst hj
     exact ⟨v1, hv1, by rw [e1]; exact rp_R hro r1 hc1⟩
    | 2 =>
     injection hj with hj
     subst hj
     exact ⟨v2, hv2, by rw [e2]; exact rp_R hro r2 hc2⟩
    | j + 3 => cases hj
   have hcall := hF.call w ro' g.ρ 0 (m, a, b, ()) vs 0 hpre hin (fun h => by cases h) hA
   refine Calls.mono hcall fun e w' he => ?_
   obtain ⟨v, r, g', rfl, hpost, hx, _, hres, _⟩ := he
   have hx' : Ext (fun _ => False) w w' := ⟨hx.os, hx.tape, hx.output, hx.size, fun b hb _ => hx.block b hb fun h => by cases h.1⟩
   have hr : r = (c.acc m a b, ()) := hpost
   subst hr
   refine ⟨v, sv (.bool (c.acc m a b)), st, g, rfl, hk, hg.same hcl hx', ?_, fun id hid => (by cases hid), hcl, fun id h => ⟨h, rfl, rfl⟩, fun _ _ h => h, rfl⟩
   have hv : (S0.c (.d (.val (.bool (c.acc m a b))))).R g' v := hres.val
   cases hv with
   | val _ h => exact .val _ h
  ·exact hv.elim
 ·exact hv.elim
end
end Go.SE
namespace Go.SE
open Go.RowKit
def lmO (acc : Int -> Bool) (n : Int) : Option Nat := (List.range (2 ^ n.toNat)).find? fun m => acc (m : Int)
def lmI (acc : Int -> Bool) (n : Int) : Int := (((lmO acc n).getD 0 : Nat) : Int)
def lmB (acc : Int -> Bool) (n : Int) : Bool := (lmO acc n).isSome
def ptLM (f : FuncId) (c : ClC) : PT := fun args _ st k =>
 match args with
 | [.c (.d (.val (.int .i64 n))), .c (.fn f' [i1, i2])] => match asnBlk st i1, asnBlk st i2 with
  | some a, some b => f' = f /\ st.rd = none /\ (0 <= n /\ n <= 62) /\ (∀ m : Int, 0 <= m -> m < 2 ^ n.toNat -> c.pre m a b) /\
    k (.tup [.c (.d (.val (.int .i64 (lmI (fun m => c.acc m a b) n)))), .c (.d (.val (.bool (lmB (fun m => c.acc m a b) n))))]) st
  | _, _ => False
 | _ => False
section
variable {P : Program} {E : Ty -> TypeId} {w0 : World} {M : MM} {st : St} {w : World} {g : G}
theorem Good.agree {st' : St} (h : Good E w0 M g st' w) (hm : st'.mem = st.mem) (hs : ∀ j, (st.mem j).isSome = true -> st'.sp j = st.sp j /\ st'.fr j = st.fr j) (hrd : st'.rd = st.rd) : Good E w0 M g st w := by
 have hs' : ∀ j r, st.mem j = some r -> st'.sp j = st.sp j /\ st'.fr j = st.fr j := fun j r hj => hs j (by rw [hj]; rfl)
 refine ⟨h.ext, h.ro, ?_, ?_, ?_, ?_, ?_, ?_, h.roo, h.rho, ?_, ?_⟩
 ·intro id r hr; exact h.res id r (by rw [hm]; exact hr)
 ·intro i j r s hi hj hne hr hl b h1 h2
  obtain ⟨f, t, xs, ys, e1, e2, e3⟩ := h.sep i j r s (by rw [hm]; exact hi) (by rw [hm]; exact hj) hne hr hl b h1 h2
  rw [(hs' i r hi).1, (hs' j s hj).1] at e3
  exact ⟨f, t, xs, ys, e1, e2, e3⟩
 ·intro id r hr; exact h.fresh id r (by rw [hm]; exact hr)
 ·intro id r hr hl b hb
  have := h.wro id r (by rw [hm]; exact hr) hl b hb
  rw [(hs' id r hr).1, (hs' id r hr).2] at this
  exact this
 ·intro n hn
  obtain ⟨h1, h2, h3⟩ := h.rd n (by rw [hrd]; exact hn)
  exact ⟨h1, h2, fun id r hr => h3 id r (by rw [hm]; exact hr)⟩
 ·intro hn; exact h.rds (by rw [hrd]; exact hn)
 ·intro id v hv
  have := h.pin id v hv
  rw [hm] at this
  exact this
 ·refine ⟨fun id n hn => ?_, h.keep.2⟩
  have := h.keep.1 id n hn
  rw [hm] at this
  exact this
theorem lm_found {acc : Int -> Bool} {n : Int} {m : Nat} (hm : (m : Int) < 2 ^ n.toNat) (h : ∀ j : Nat, j < m -> acc j = false) (ha : acc m = true) : (m : Int) = lmI acc n /\ true = lmB acc n := by
 have : lmO acc n = some m := by
  unfold lmO
  rw [List.find?_range_eq_some]
  refine ⟨ha, List.mem_range.2 ?_, fun j hj => by rw [h j hj]; rfl⟩
  have e : ((2 ^ n.toNat : Nat) : Int) = 2 ^ n.toNat := by push_cast; rfl
  omega
 unfold lmI lmB
 rw [this]
 exact ⟨rfl, rfl⟩
theorem lm_none {acc : Int -> Bool} {n : Int} {m : Nat} (hm : ¬ (m : Int) < 2 ^ n.toNat) (h : ∀ j : Nat, j < m -> acc j = false) : (0 : Int) = lmI acc n /\ false = lmB acc n := by
 have : lmO acc n = none := by
  unfold lmO
  rw [List.find?_range_eq_none]
  intro j hj
  have e : ((2 ^ n.toNat : Nat) : Int) = 2 ^ n.toNat := by push_cast; rfl
  rw [h j (by omega)]; rfl
 unfold lmI lmB
 rw [this]
 exact ⟨rfl, rfl⟩
theorem pow62 {n : Int} (h0 : 0 <= n) (h : n <= 62) : IntKind.i64.wrap (1 * 2 ^ min n.toNat IntKind.i64.bits) = 2 ^ n.toNat /\ (2 : Int) ^ n.toNat <= 4611686018427387904 /\ (0 : Int) < 2 ^ n.toNat := by
 have hn : n.toNat <= 62 := by omega
 have : ∀ k : Nat, k <= 62 -> IntKind.i64.wrap (1 * 2 ^ min k IntKind.i64.bits) = 2 ^ k /\ (2 : Int) ^ k <= 4611686018427387904 /\ (0 : Int) < 2 ^ k := by decide
 exact this _ hn
end
end Go.SE

namespace Go.SE
open Go.RowKit
def pkS (a : GAsn) (m : Int) : GAsn := ⟨[], pkA m a.atoms⟩
def FRA (m : Int) (b a : GAsn) : Bool := starOk b (pkS a m) && ENT a (starL b (pkS a m))
def frmI (a b : GAsn) : Int := lmI (fun m => FRA m b a) (a.atoms.length : Int)
def frmB (a b : GAsn) : Bool := asV a && (asV b && lmB (fun m => FRA m b a) (a.atoms.length : Int))
def frmL (a b : GAsn) : GAsn := cond (frmB a b) (pkS a (frmI a b)) ⟨[], []⟩
section
variable {a b : GAsn} {m : Int}
theorem pkA_mem {l : List GAtom} : ∀ x ∈ pkA m l, x ∈ l := by
 intro x hx
 unfold pkA pk at hx
 obtain ⟨i, hi, rfl⟩ := List.mem_map.1 hx
 have := List.mem_range.1 (List.mem_filter.1 hi).1
 rw [List.getD_eq_getElem?_getD, List.getElem?_eq_getElem this]
 exact List.getElem_mem _
theorem pkA_le {l : List GAtom} : (pkA m l).length <= l.length := pk_len m l _
theorem pkS_val (ha : asV a = true) : asV (pkS a m) = true := by
 have hA := asV_facts ha
 unfold asV fsV pkS
 have h1 : (pkA m a.atoms).length <= 6 := Nat.le_trans pkA_le hA.2.2.2
 have h2 : (pkA m a.atoms).all atV = true := List.all_eq_true.2 fun x hx => List.all_eq_true.1 hA.2.2.1 x (pkA_mem x hx)
 simp only [List.length_nil, List.all_nil, h1, h2, decide_true]
 rfl
theorem fra_eq (ha : asV a = true) (hb : asV b = true) : (asV (starA b (pkS a m)) && ENT a (starA b (pkS a m))) = FRA m b a := by
 unfold FRA starL
 have : starOk b (pkS a m) = asV (starA b (pkS a m)) := by unfold starOk; rw [hb, pkS_val ha]; rfl
 rw [this]
 cases h : asV (starA b (pkS a m)) <;> rfl
theorem fra_ok (h : FRA m b a = true) : starOk b (pkS a m) = true /\ ENT a (starL b (pkS a m)) = true := by
 unfold FRA at h
 rwa [Bool.and_eq_true] at h
end
end Go.SE
namespace Go.SE
section
variable {a b : GAsn}
def frN (a b : GAsn) (i : Nat) : Bool := (List.range i).all fun m => !FRA m b a
theorem frN_zero : frN a b 0 = true := rfl
theorem frN_get {i : Nat} (h : frN a b i = true) : ∀ j : Nat, j < i -> FRA j b a = false := fun j hj => by
 have := List.all_eq_true.1 h j (List.mem_range.2 hj)
 simpa using this
theorem frN_step {i : Nat} (h : frN a b i = true) (h2 : FRA i b a = false) : frN a b (i + 1) = true := by
 unfold frN at h ⊢; rw [List.range_succ, List.all_append, h]; simp [h2]
theorem pkTop_eq (ha : asV a = true) : pkTop a = 2 ^ a.atoms.length /\ pkTop a <= 64 /\ 1 <= pkTop a := by
 have h := (asV_facts ha).2.2.2
 unfold pkTop
 have : ∀ k : Nat, k <= 6 -> IntKind.wrap .i64 ((1 : Int) * 2 ^ (min k (IntKind.bits .i64))) = 2 ^ k /\ IntKind.wrap .i64 ((1 : Int) * 2 ^ (min k (IntKind.bits .i64))) <= 64 /\ 1 <= IntKind.wrap .i64 ((1 : Int) * 2 ^ (min k (IntKind.bits .i64))) := by decide
 exact this _ h
theorem frm_found {i : Nat} (ha : asV a = true) (hb : asV b = true) (h : frN a b i = true) (hi : (i : Int) < pkTop a) (hf : FRA i b a = true) : pkS a i = frmL a b /\ true = frmB a b := by
 rw [(pkTop_eq ha).1] at hi
 obtain ⟨h1, h2⟩ := lm_found (acc := fun m => FRA m b a) (n := (a.atoms.length : Int)) (m := i) (by rw [Int.toNat_natCast]; exact hi) (frN_get h) hf
 have hB : frmB a b = true := by unfold frmB; rw [ha, hb, ← h2]; rfl
 unfold frmL
 rw [hB, cond_true]
 unfold frmI
 rw [← h1]
 exact ⟨rfl, rfl⟩
theorem frm_none {i : Nat} (ha : asV a = true) (hb : asV b = true) (h : frN a b i = true) (hi : ¬ (i : Int) < pkTop a) : (⟨[], []⟩ : GAsn) = frmL a b /\ false = frmB a b := by
 rw [(pkTop_eq ha).1] at hi
 obtain ⟨h1, h2⟩ := lm_none (acc := fun m => FRA m b a) (n := (a.atoms.length : Int)) (m := i) (by rw [Int.toNat_natCast]; exact hi) (frN_get h)
 have hB : frmB a b = false := by unfold frmB; rw [ha, hb, ← h2]; rfl
 unfold frmL
 rw [hB]
 exact ⟨rfl, rfl⟩
theorem frm_no1 (ha : asV a = false) : (⟨[], []⟩ : GAsn) = frmL a b /\ false = frmB a b := by
 have hB : frmB a b = false := by unfold frmB; rw [ha]; rfl
 unfold frmL; rw [hB]; exact ⟨rfl, rfl⟩
theorem frm_no2 (hb : asV b = false) : (⟨[], []⟩ : GAsn) = frmL a b /\ false = frmB a b := by
 have hB : frmB a b = false := by unfold frmB; rw [hb]; simp
 unfold frmL; rw [hB]; exact ⟨rfl, rfl⟩
end
end Go.SE
namespace Go.SE
section
variable {a b : GAsn} {m : Int}
theorem fra_y (h : starOk b ⟨[], pkA m a.atoms⟩ = true) : ENT a (starL b ⟨[], pkA m a.atoms⟩) = FRA m b a := by
 unfold FRA pkS
 rw [h, Bool.true_and]
theorem fra_n (h : starOk b ⟨[], pkA m a.atoms⟩ = false) : false = FRA m b a := by
 unfold FRA pkS
 rw [h, Bool.false_and]
theorem pk200 {k : Nat} (h : a.atoms.length <= k) : (pkA m a.atoms).length <= k := Nat.le_trans pkA_le h
theorem star_pkF (hb : b.facts.length <= 100) : (starL b ⟨[], pkA m a.atoms⟩).facts.length <= 200 := starL_bdF hb (by show 0 <= 100; omega)
theorem star_pkA (hb : b.atoms.length <= 100) (ha : a.atoms.length <= 100) : (starL b ⟨[], pkA m a.atoms⟩).atoms.length <= 200 := starL_bdA hb (pk200 ha)
theorem frm_n (ha : asV a = true) (hb : asV b = true) (h : lmB (fun m => FRA m b a) (a.atoms.length : Int) = false) : (⟨[], []⟩ : GAsn) = frmL a b /\ false = frmB a b := by
 have hB : frmB a b = false := by unfold frmB; rw [h]; simp
 unfold frmL; rw [hB]; exact ⟨rfl, rfl⟩
theorem frm_y (ha : asV a = true) (hb : asV b = true) (h : lmB (fun m => FRA m b a) (a.atoms.length : Int) = true) : (⟨[], pkA (lmI (fun m => FRA m b a) (a.atoms.length : Int)) a.atoms⟩ : GAsn) = frmL a b /\ true = frmB a b := by
 have hB : frmB a b = true := by unfold frmB; rw [ha, hb, h]; rfl
 unfold frmL; rw [hB]; exact ⟨rfl, rfl⟩
theorem fra_c : starA b (pkS a m) = ⟨b.facts, b.atoms ++ pkA m a.atoms⟩ := by unfold starA pkS; simp
theorem fra_a (ha : asV a = true) (hb : asV b = true) {i : Nat} (h : frN a b i = true) (h1 : asV ⟨b.facts, b.atoms ++ pkA i a.atoms⟩ = false) : frN a b (i + 1) = true :=
 frN_step h (by rw [← fra_eq ha hb, fra_c, h1]; rfl)
theorem fra_b (ha : asV a = true) (hb : asV b = true) {i : Nat} (h : frN a b i = true) (h2 : ENT a ⟨b.facts, b.atoms ++ pkA i a.atoms⟩ = false) : frN a b (i + 1) = true :=
 frN_step h (by rw [← fra_eq ha hb, fra_c, h2, Bool.and_false])
theorem frm_f (ha : asV a = true) (hb : asV b = true) {i : Nat} (h : frN a b i = true) (hi : (i : Int) < pkTop a) (h1 : asV ⟨b.facts, b.atoms ++ pkA i a.atoms⟩ = true) (h2 : ENT a ⟨b.facts, b.atoms ++ pkA i a.atoms⟩ = true) : (⟨[], pkA i a.atoms⟩ : GAsn) = frmL a b /\ true = frmB a b :=
 frm_found ha hb h hi (by rw [← fra_eq ha hb, fra_c, h1, h2]; rfl)
theorem app_pk (hb : b.atoms.length <= 100) (ha : a.atoms.length <= 100) : (b.atoms ++ pkA m a.atoms).length <= 200 := by
 rw [List.length_append]
 have := pkA_le (l := a.atoms) (m := m)
 omega
theorem pkTop_w : IntKind.wrap .i64 (1 * 2 ^ min a.atoms.length (IntKind.bits .i64)) = pkTop a := rfl
end
end Go.SE

namespace Go.SE
open Go.RowKit
section
variable {P : Program} {E : Ty -> TypeId} {tab : TypeId -> Option TI} {w0 : World} {M : MM} {n : Nat} {o : Oper} {st : St} {a : Act} {w : World}
def opensX (fo : Nat) : List Oper -> Option (Nat × Nat × List Oper)
 | ⟨some d1, .move (.tmp 0), _, _, _, none⟩ :: ⟨some d2, .call ⟨.value (.func f), args, _⟩, _, _, _, none⟩ :: l =>
  match args.toList with
  | [.tmp e1] => if e1 = d1 /\ f = fo then some (d1, d2, l) else none
  | _ => none
 | _ => none
theorem opensX_some {fo : Nat} {l l2 : List Oper} {d1 d2 : Nat} (h : opensX fo l = some (d1, d2, l2)) : ∃ o1 o2 args tys, l = o1 :: o2 :: l2 /\ o1.dst = some d1 /\ o1.op = .move (.tmp 0) /\ o1.guard = none /\
  o2.dst = some d2 /\ o2.op = .call ⟨.value (.func fo), args, tys⟩ /\ args.toList = [.tmp d1] /\ o2.guard = none := by
 unfold opensX at h
 split at h
 ·split at h
  ·rename_i ha
   split at h
   ·rename_i e
    obtain ⟨rfl, rfl⟩ := e
    injection h with h
    injection h with h1 h
    injection h with h2 h3
    subst h1 h2 h3
    exact ⟨_, _, _, _, rfl, rfl, rfl, rfl, rfl, rfl, ha, rfl⟩
   ·cases h
  ·cases h
 ·cases h
def openSX (d1 d2 : Nat) (st : St) : St :=
 { st with env := upd (upd st.env d1 (st.env 0)) d2 (.s (.c .rdr)), rd := some 0 }
def openKX (tab : TypeId -> Option TI) (K : FuncId -> Option Con) (pts : FuncId -> Option PT) (hp : Nat -> Bool) (anns : Nat -> St -> Option Ann) (perm : Nat -> List (List Nat)) (gl : List Nat × List Nat) (n : Nat) (ops : Array Oper) (rest : Code) (Q : XK -> St -> Prop) (st1 : St) : Option (Nat × Nat × List Oper) -> Prop
 | some (d1, d2, l) => (d1 < n /\ d2 < n /\ d1 ≠ 0) /\ st1.rd = none /\ gcB gl.1 gl.2 st1 = true /\ (noREB st1.env gl.1 && noRMB st1.mem gl.2) = true /\ openA ((gcSt (fun _ => none) gl.1 gl.2 st1).env 0) /\
   vcOpsP tab K pts ops l (openSX d1 d2 (gcSt (fun _ => none) gl.1 gl.2 st1)) fun st' => vcQ tab K pts hp (fun _ => none) anns perm rest st' Q
 | none => False
def vcOpenX (tab : TypeId -> Option TI) (K : FuncId -> Option Con) (pts : FuncId -> Option PT) (hp : Nat -> Bool) (anns : Nat -> St -> Option Ann) (perm : Nat -> List (List Nat)) (gl : List Nat × List Nat) (fo n : Nat) : Code -> St -> (XK -> St -> Prop) -> Prop
 | .seq c0 (.seq (.region _ ops false) rest), st, Q => vcQ tab K pts hp (fun _ => none) anns perm c0 st (seqK (fun st1 => openKX tab K pts hp anns perm gl n ops rest Q st1 (opensX fo ops.toList)) Q)
 | _, _, _ => False
theorem draw_fnX {K : FuncId -> Option Con} {pts : FuncId -> Option PT} {hp : Nat -> Bool} {gl : List Nat × List Nat} (ht : TabOk P E tab) (hmix : P.follows .mixedOrders = true) (hKA : KAll P E K) (hPA : PAll P E pts) {perm : Nat -> List (List Nat)} {fo : FuncId} (hopen : OpenOk P fo)
  (hfo : ∃ fn c, P.funcs[fo]? = some fn /\ (fn.name == "runtime.NumGoroutine") = false /\ fn.body = some c) {f : FuncId} {fn : Func} {con : Con} (hf : P.funcs[f]? = some fn) (hb : fn.body = some (bodyOf fn))
  (hname : (fn.name == "runtime.NumGoroutine") = false) (hn : con.aks.length <= fn.ntmps) (hok : codeOkP tab K hp perm fn.ntmps (bodyOf fn) = true) (hrd : hasRdr con.aks = false) (hrk : noRk con.rks = true) {anns : Args con.aks -> Nat -> St -> Option Ann}
  (hvc : ∀ x, con.pre x -> vcOpenX tab K pts hp (anns x) perm gl fo fn.ntmps (bodyOf fn) (entry (encs con.aks x) none) (retOk tab con fn.results.toList x 0)) (htot : ∀ x, con.pre x -> ∃ r, con.post x r) : FnOk P E f con := by
 refine ⟨⟨fn, _, hf, hname, hb⟩, ?_, htot⟩
 intro w0 ro0 ρ k x vs id0 hpre hin _ hargs
 have hlen : vs.length = con.aks.length := by
  rw [hargs.1]
  have : ∀ (ks : List AK) (x : Args ks), (encs ks x).length = ks.length := by
   intro ks
   induction ks with
   | nil => intro x; rfl
   | cons k ks ih => intro x; obtain ⟨x, xs⟩ := x; simp [encs, ih]
  exact this _ _
 refine calls_of_wp hf hb ?_
 -- the end
 have fin : ∀ (ρ' : Nat) (st' : St) (a' : Act) (w' : World), Rel E w0 (MOf false ρ' ro0) fn.ntmps st' a' w' -> retOk tab con fn.results.toList x 0 .ret st' ->
   a'.defers = [] /\ ∃ v, (results fn a'.tmps).run P w' = .ok v w' /\ ∃ v1 r g, Ending.returned v = .returned v1 /\ con.post x r /\ Ext (fun b => hasRdr con.aks = true /\ b = ρ) w0 w' /\ g.ρ = ρ /\ ResOk E w0 w' ro0 con.rks id0 r v1 g /\ (hasRdr con.aks = true -> RdStep w0 w' ρ (k + con.cost x)) := by
  intro ρ' st' a' w' hr hv
  have hr' : Rel E w0 (MOf (hasRdr con.aks) ρ' ro0) fn.ntmps st' a' w' := by rw [hrd]; exact hr
  obtain ⟨v, h1, r, g, h2, h3, h4, h5, h6⟩ := exit_ok (k := 0) id0 ht hin (fun h => by rw [hrd] at h; cases h) hr' hv
  refine ⟨hr.defers, v, h1, v, r, { g with ρ := ρ }, rfl, h2, ⟨h3.os, h3.tape, h3.output, h3.size, fun c hc _ => h3.block c hc fun ⟨h, _⟩ => by rw [hrd] at h; cases h⟩, rfl, ⟨h5.ro, h5.ro', ?_, ?_, h5.new, h5.dist⟩, fun h => by rw [hrd] at h; cases h⟩
  ·exact S.R.rho (pack1_noR (ress_noR _ _ _ hrk)) h5.val
  ·intro id q hq
   have := h5.res id q hq
   obtain ⟨_, _, f', t, xs, e⟩ := ress_range _ _ _ _ _ hq
   subst e
   exact this
 have hv0 := hvc x hpre
 revert hok hv0
 generalize bodyOf fn = body
 intro hok hv0
 unfold vcOpenX at hv0
 split at hv0
 ·rename_i c0 rid ops rest
  simp only [codeOkP, Bool.and_eq_true] at hok
  have hrel : Rel E w0 (MOf false ρ ro0) fn.ntmps (entry (encs con.aks x) (rdOf false 0)) { tmps := vs.toArray ++ Array.replicate (fn.ntmps - vs.toArray.size) undef, defers := [] } w0 := entry_rel hin (fun h => by cases h) hargs (by omega)
  refine wp_seq (codeQ_sound ht hKA hPA hmix (draw_sound ht (tab_small ht) hKA hmix _ _ _) OOk.none c0 _ _ _ _ _ hok.1 hrel hv0 ?_)
  intro xk st1 a1 w1 hr1 hk1
  cases xk with
  | exit id => exact hk1.elim
  | ret => exact fin ρ st1 a1 w1 hr1 hk1
  | normal =>
   have hk1 : openKX tab K pts hp (anns x) perm gl fn.ntmps ops rest (retOk tab con fn.results.toList x 0) st1 (opensX fo ops.toList) := hk1
   unfold openKX at hk1
   split at hk1
   ·rename_i e1' e2' l2 hd
    obtain ⟨d, hde⟩ : ∃ d : Nat × Nat, d = (e1', e2') := ⟨_, rfl⟩
    have hd1' : e1' = d.1 := by rw [hde]
    have hd2' : e2' = d.2 := by rw [hde]
    subst hd1' hd2'
    clear hde
    obtain ⟨⟨hd1, hd2, hd0⟩, hrd1, hgc, hnr, hA, hvr⟩ := hk1
    simp only [Bool.and_eq_true] at hnr
    have hno := noR_gc hnr.1 hnr.2
    unfold gcB at hgc
    simp only [Bool.and_eq_true] at hgc
    replace hr1 := hr1.gc (OOk.none (ρ := ρ) (ro0 := ro0)) (live := gl.1) (ids := gl.2) ⟨closedEB_ok hgc.1, closedMB_ok hgc.2, fun j hj => (by cases hj)⟩
    replace hrd1 : (gcSt (fun _ => none) gl.1 gl.2 st1).rd = none := hrd1
    generalize gcSt (fun _ => none) gl.1 gl.2 st1 = st1 at hr1 hrd1 hno hA hvr
    obtain ⟨o1, o2, args, tys, hl, e1, e2, e3, e4, e5, e6, e7⟩ := opensX_some hd
    refine wp_seq (wp_region_list ?_)
    have hops := opsOk_mem (show opsOk fn.ntmps ops.toList = true from hok.2.1.1)
    rw [hl] at hops ⊢
    -- the text
    unfold wpList
    rw [if_pos (by simp [Region.wanted, e3])]
    refine .inl ?_
    unfold Oper.wp
    rw [show (execOp a1.eval o1).run P w1 = .ok (.value (a1.eval (.tmp 0))) w1 by simp [execOp, e2], Oper.upon_value, e1]
    have hS : ∃ code, st1.env 0 = .s (.c (.d (.arr .u8 code))) := by
     unfold openA at hA
     split at hA
     ·rename_i c hc; exact ⟨c, hc⟩
     ·exact hA.elim
    obtain ⟨code, henv0⟩ := hS
    have hev : a1.eval (.tmp 0) = a1.tmps.getD 0 undef := rfl
    have hr2 := hr1.put1 hd1 (s := st1.env 0) (v := a1.eval (.tmp 0)) (fun g _ henv => henv 0) (fun id hid => hr1.cl.1 0 id hid)
    have hno2 : NoR { st1 with env := upd st1.env d.1 (st1.env 0) } := ⟨fun y => by
     show noRS (upd st1.env d.1 (st1.env 0) y) = true
     by_cases e : y = d.1
     ·subst e; rw [upd_same]; exact hno.1 0
     ·rw [upd_ne _ _ e]; exact hno.1 y, hno.2⟩
    generalize ha2 : a1.put (some d.1) (a1.eval (.tmp 0)) = a2 at hr2 ⊢
    -- the call
    unfold wpList
    rw [if_pos (by simp [Region.wanted, e7])]
    refine .inl ?_
    obtain ⟨fn', c', hf', hname', hbody'⟩ := hfo
    unfold Oper.wp
    rw [run_call hf' hname' hbody' e5, Oper.upon_enter]
    obtain ⟨g, hg, henv⟩ := hr2.good
    have hargv : args.map a2.eval = #[a2.tmps.getD d.1 undef] := by
     apply Array.ext'
     rw [Array.toList_map, e6]
     rfl
    rw [hargv]
    have hdr : DR g.ro (.arr .u8 code) (a2.tmps.getD d.1 undef) := by
     have h1 := henv d.1
     have h2 : ({ st1 with env := upd st1.env d.1 (st1.env 0) } : St).env d.1 = .s (.c (.d (.arr .u8 code))) := by
      show upd st1.env d.1 (st1.env 0) d.1 = _
      rw [upd_same]; exact henv0
     rw [h2] at h1
     exact h1
    refine Calls.mono (hopen w1 g.ro code _ hg.ro hdr) fun e w2 he => ?_
    obtain ⟨b, ro', rfl, q1, q2, q3, q4, q5⟩ := he
    have hr3 := rel_open hr2 hg henv hrd1 hno2 q1 q2 q3 q4 q5
    rw [e4]
    have hr4 := hr3.put1 hd2 (s := .s (.c .rdr)) (v := .pointer (some ⟨b, 0, none⟩)) (fun g' hg' _ => by
     show _ = _
     rw [hg'.rho]; rfl) (fun id hid => by simp [S.refs, S0.refs, CV.refs] at hid)
    refine seqP_sound ht hKA hPA (k := fun st' => vcQ tab K pts hp (fun _ => none) (anns x) perm rest st' (retOk tab con fn.results.toList x 0)) (fun st' a' w' hr' hk' => ?_) l2 _ _ _ (fun o ho => hops o (by simp [ho])) hr4 hvr
    refine codeQ_sound ht hKA hPA hmix (draw_sound ht (tab_small ht) hKA hmix _ _ _) OOk.none rest _ _ _ (retOk tab con fn.results.toList x 0) _ hok.2.2 hr' hk' ?_
    intro xk st' a' w' hr hk
    cases xk with
    | normal => exact fin b st' a' w' hr hk
    | ret => exact fin b st' a' w' hr hk
    | exit id => exact hk.elim
   ·exact hk1.elim
 ·exact hv0.elim
end
end Go.SE

namespace Go.SE
open Go.RowKit
def ufrR (a p q : GAsn) : GAsn := ⟨a.facts ++ q.facts, q.atoms ++ (frmL a p).atoms⟩
def ufrB (a p q : GAsn) : Bool := frmB a p && (asV q && asV (ufrR a p q))
def ufrL (a p q : GAsn) : GAsn := cond (ufrB a p q) (ufrR a p q) ⟨[], []⟩
section
variable {a b p q : GAsn} {m : Int}
theorem frmL_facts : (frmL a b).facts = [] := by unfold frmL; cases frmB a b <;> rfl
theorem frmL_len : (frmL a b).facts.length = 0 /\ (frmL a b).atoms.length <= a.atoms.length := by
 rw [frmL_facts]
 refine ⟨rfl, ?_⟩
 unfold frmL
 cases frmB a b with
 | true => exact pkA_le
 | false => exact Nat.zero_le _
theorem lm_spec {acc : Int -> Bool} {n : Int} (h : lmB acc n = true) : ∃ i : Nat, lmI acc n = (i : Int) /\ i < 2 ^ n.toNat /\ acc i = true /\ ∀ j : Nat, j < i -> acc j = false := by
 unfold lmB at h
 obtain ⟨i, hi⟩ := Option.isSome_iff_exists.1 h
 have hi' := hi
 unfold lmO at hi
 obtain ⟨h1, h2, h3⟩ := List.find?_range_eq_some.1 hi
 refine ⟨i, by unfold lmI; rw [hi']; rfl, List.mem_range.1 h2, h1, fun j hj => ?_⟩
 have := h3 j hj
 simpa using this
theorem frm_spec (h : frmB a b = true) : asV a = true /\ asV b = true /\ asV (frmL a b) = true /\ asV (starA b (frmL a b)) = true /\ ENT a (starA b (frmL a b)) = true := by
 have h' := h
 unfold frmB at h'
 simp only [Bool.and_eq_true] at h'
 obtain ⟨ha, hb, hl⟩ := h'
 obtain ⟨i, hi, _, hacc, _⟩ := lm_spec hl
 have e : frmL a b = pkS a i := by unfold frmL frmI; rw [h, cond_true, hi]
 obtain ⟨h1, h2⟩ := fra_ok hacc
 rw [e]
 have h3 := stL_of h1
 rw [h3.1] at h2
 exact ⟨ha, hb, pkS_val ha, h3.2.1, h2⟩
theorem mbit0 : ∀ i : Nat, mbit 0 i = false := fun i => by
 unfold mbit
 rw [Int.zero_fdiv]
 decide
theorem pkA0 {l : List GAtom} : pkA 0 l = [] := by
 unfold pkA pk
 rw [List.filter_eq_nil_iff.2 fun i _ => by rw [mbit0]; simp]
 rfl
theorem fra0 (h : ENT a b = true) : FRA 0 b a = true := by
 have hb := ent_v2 h
 have e : pkS a 0 = ⟨[], []⟩ := by unfold pkS; rw [pkA0]
 have e2 : starA b ⟨[], []⟩ = b := by unfold starA; simp
 have ho : starOk b ⟨[], []⟩ = true := by unfold starOk; rw [e2, hb]; rfl
 unfold FRA
 rw [e, ho, (stL_of ho).1, e2, h]; rfl
theorem frm_ent (h : ENT a b = true) : frmB a b = true /\ frmL a b = ⟨[], []⟩ := by
 have ha := ent_v1 h
 have hb := ent_v2 h
 have hf := fra0 h
 obtain ⟨h1, h2⟩ := lm_found (acc := fun m => FRA m b a) (n := (a.atoms.length : Int)) (m := 0) (by have := (pkTop_eq ha).2.2; rw [(pkTop_eq ha).1] at this; rw [Int.toNat_natCast]; omega) (fun j hj => absurd hj (Nat.not_lt_zero _)) hf
 have hB : frmB a b = true := by unfold frmB; rw [ha, hb, ← h2]; rfl
 refine ⟨hB, ?_⟩
 unfold frmL frmI
 rw [hB, cond_true, ← h1]
 show pkS a 0 = _
 unfold pkS; rw [pkA0]
theorem frm_self (ha : asV a = true) : frmB a a = true /\ (frmL a a).atoms.length = 0 := by
 obtain ⟨h1, h2⟩ := frm_ent (ent_refl ha)
 exact ⟨h1, by rw [h2]; rfl⟩
theorem frm_entA (h : ENT a b = true) : (frmL a b).atoms.length = 0 := by rw [(frm_ent h).2]; rfl
theorem ufr_all (h : ufrB a p q = true) : frmB a p = true /\ asV q = true /\ asV (ufrR a p q) = true /\ ufrL a p q = ufrR a p q := by
 have h' := h
 unfold ufrB at h'
 simp only [Bool.and_eq_true] at h'
 exact ⟨h'.1, h'.2.1, h'.2.2, by unfold ufrL; rw [h]; rfl⟩
theorem ent_facts {c : GAsn} (h : ENT a c = true) (hv : asV ⟨a.facts ++ c.facts, c.atoms⟩ = true) : ENT a ⟨a.facts ++ c.facts, c.atoms⟩ = true := by
 obtain ⟨ha, hc, h⟩ := ent_iff.1 h
 refine ent_iff.2 ⟨ha, hv, fun v hp => ⟨fun f hf => ?_, (h v hp).mt⟩⟩
 rcases List.mem_append.1 hf with hf | hf
 ·exact hp.facts f hf
 ·exact (h v hp).facts f hf
theorem ufr_star : starA q (frmL a p) = ⟨q.facts, q.atoms ++ (frmL a p).atoms⟩ := by unfold starA; rw [frmL_facts, List.append_nil]
theorem ufr_ent (h : ufrB a p q = true) (he : ENT p q = true) : ENT a (ufrL a p q) = true := by
 obtain ⟨hf, hq, hv, e⟩ := ufr_all h
 obtain ⟨ha, hp, hF, hs, hE⟩ := frm_spec hf
 rw [e]
 have hsq : asV (starA q (frmL a p)) = true := by
  rw [ufr_star]
  have := asV_facts hv
  have hq' := asV_facts hq
  unfold asV fsV
  rw [hq'.1, decide_eq_true hq'.2.1, decide_eq_true (show (q.atoms ++ (frmL a p).atoms).length <= 6 from this.2.2.2), show (q.atoms ++ (frmL a p).atoms).all atV = true from this.2.2.1]
  rfl
 have h2 := ent_trans hE (ent_frame he hs hsq)
 rw [ufr_star] at h2
 exact ent_facts h2 hv
theorem ufr_same (h : ufrB a p p = true) : ENT a (ufrL a p p) = true := ufr_ent h (ent_refl (ufr_all h).2.1)
theorem ufr_len (h : ufrB a p q = true) : (ufrL a p q).atoms.length = q.atoms.length + (frmL a p).atoms.length := by
 rw [(ufr_all h).2.2.2]
 unfold ufrR
 simp
theorem ufrL_le : (ufrL a p q).facts.length <= a.facts.length + q.facts.length /\ (ufrL a p q).atoms.length <= q.atoms.length + a.atoms.length := by
 have := frmL_len (a := a) (b := p)
 unfold ufrL ufrR
 cases ufrB a p q with
 | true => simp; omega
 | false => simp
theorem mbits : ∀ n : Nat, n <= 6 -> ∀ m : Nat, m < 64 -> ∀ i : Nat, i < 6 -> m < 2 ^ n -> i < n -> mbit ((2 ^ n : Int) - 1 - m) i = !mbit m i := by decide +kernel
theorem pk_two {l : List GAtom} (hl : l.length <= 6) {m : Int} (h0 : 0 <= m) (h1 : m < 2 ^ l.length) : (pkA m l ++ pkA ((2 ^ l.length : Int) - 1 - m) l).Perm l := by
 have hm : m.toNat < 64 := by
  have : ∀ k : Nat, k <= 6 -> (2 : Int) ^ k <= 64 := by decide
  have := this _ hl
  omega
 have e : ((2 ^ l.length : Nat) : Int) = 2 ^ l.length := by push_cast; rfl
 have hb : ∀ i, i < l.length -> mbit ((2 ^ l.length : Int) - 1 - m) i = !mbit m i := fun i hi => by
  have := mbits l.length hl m.toNat hm i (by omega) (by omega) hi
  rw [show ((m.toNat : Nat) : Int) = m by omega] at this
  exact this
 unfold pkA pk
 rw [← List.map_append]
 have e2 : (List.range l.length).filter (mbit ((2 ^ l.length : Int) - 1 - m)) = (List.range l.length).filter fun i => !mbit m i := List.filter_congr fun i hi => hb i (List.mem_range.1 hi)
 rw [e2]
 have e3 : (List.range l.length).map (fun j => l.getD j ⟨0, 0, 0⟩) = l := by
  apply List.ext_getElem
  ·simp
  ·intro i h1 h2
   simp only [List.getElem_map, List.getElem_range]
   rw [List.getD_eq_getElem?_getD, List.getElem?_eq_getElem h2]; rfl
 exact ((List.filter_append_perm (mbit m) (List.range l.length)).map _).trans (.of_eq e3)
end
end Go.SE
namespace Go.SE
section
variable {a p q : GAsn}
end
end Go.SE

namespace Go.SE
section
variable {a b p q : GAsn} {m n : Int}
theorem frm200F : (frmL a b).facts.length <= 200 := by rw [frmL_len.1]; omega
theorem frm200A (h : a.atoms.length <= 100) : (frmL a b).atoms.length <= 200 := by have := (frmL_len (a := a) (b := b)).2; omega
theorem ufr200F (h : a.facts.length <= 100) (hq : q.facts.length <= 100) : (ufrL a p q).facts.length <= 200 := by have := (ufrL_le (a := a) (p := p) (q := q)).1; omega
theorem ufr200A (h : a.atoms.length <= 100) (hq : q.atoms.length <= 100) : (ufrL a p q).atoms.length <= 200 := by have := (ufrL_le (a := a) (p := p) (q := q)).2; omega
theorem frs_1 (ha : asV a = true) (h : frmB a a = false) : False := by rw [(frm_self ha).1] at h; cases h
theorem frs_2 (ha : asV a = true) : ((frmL a a).atoms.length : Int) = 0 := by rw [(frm_self ha).2]; rfl
theorem fre_1 (h : ENT a b = true) (h2 : frmB a b = false) : False := by rw [(frm_ent h).1] at h2; cases h2
theorem fre_2 (h : ENT a b = true) (h2 : ¬ ((frmL a b).atoms.length : Int) = 0) : False := h2 (by rw [frm_entA h]; rfl)
theorem uf_bd (hq : q.atoms.length <= 100) (h : a.atoms.length <= 100) : (q.atoms.length : Int) + ((frmL a p).atoms.length : Int) <= 9223372036854775807 := by
 have := (frmL_len (a := a) (b := p)).2
 omega
theorem uf_lenN (h2 : ¬ ((ufrL a p q).atoms.length : Int) = (q.atoms.length : Int) + ((frmL a p).atoms.length : Int)) (h : ufrB a p q = true) : False := by
 rw [ufr_len h] at h2; exact h2 (by push_cast; rfl)
theorem uf_sameN (h : ufrB a p p = true) (h2 : ENT a (ufrL a p p) = false) : False := by rw [ufr_same h] at h2; cases h2
theorem uf_frmN (h : ufrB a p q = true) (h2 : frmB a p = false) : False := by rw [(ufr_all h).1] at h2; cases h2
theorem pkl200F : (pkL a m).facts.length <= 200 := by rw [(pkL_len a m).1]; omega
theorem pkl200A (h : a.atoms.length <= 100) : (pkL a m).atoms.length <= 200 := by have := (pkL_len a m).2; omega
theorem stp200F : (starL (pkL a m) (pkL b n)).facts.length <= 200 := starL_bdF (by rw [(pkL_len _ _).1]; omega) (by rw [(pkL_len _ _).1]; omega)
theorem stp200A (ha : a.atoms.length <= 100) (hb : b.atoms.length <= 100) : (starL (pkL a m) (pkL b n)).atoms.length <= 200 := starL_bdA (Nat.le_trans (pkL_len _ _).2 ha) (Nat.le_trans (pkL_len _ _).2 hb)
def pkC (a : GAsn) (m : Int) : Int := pkTop a - 1 - m
theorem pkC_w : pkTop a - 1 - m = pkC a m := rfl
theorem pkOk_all (h : pkOk a m = true) : asV a = true /\ 0 <= m /\ m < pkTop a /\ a.facts.length <= 12 /\ a.atoms.length <= 6 /\ pkTop a = 2 ^ a.atoms.length /\ pkTop a <= 64 /\ 1 <= pkTop a := by
 unfold pkOk at h
 simp only [Bool.and_eq_true, Bool.not_eq_true', decide_eq_false_iff_not] at h
 obtain ⟨⟨ha, h0⟩, h1⟩ := h
 exact ⟨ha, by omega, by omega, (fo_len6 ha).1, (fo_len6 ha).2, pkTop_eq ha⟩
theorem pkT_1 (h : pkOk a m = true) : -9223372036854775808 <= pkTop a - 1 := by have := pkOk_all h; omega
theorem pkT_2 (h : pkOk a m = true) : pkTop a - 1 <= 9223372036854775807 := by have := pkOk_all h; omega
theorem pkT_3 (h : pkOk a m = true) : -9223372036854775808 <= pkC a m := by have := pkOk_all h; unfold pkC; omega
theorem pkT_4 (h : pkOk a m = true) : pkC a m <= 9223372036854775807 := by have := pkOk_all h; unfold pkC; omega
theorem pkT_ok (h : pkOk a m = true) : pkOk a (pkC a m) = true := by
 have := pkOk_all h
 unfold pkOk pkC
 rw [this.1]
 simp only [Bool.true_and, Bool.and_eq_true, Bool.not_eq_true', decide_eq_false_iff_not]
 omega
theorem pkT_okN (h2 : pkOk a (pkC a m) = false) (h : pkOk a m = true) : False := by rw [pkT_ok h] at h2; cases h2
theorem asV_bare {l : List GAtom} (h : l.all atV = true) (hl : l.length <= 6) : asV ⟨[], l⟩ = true := by
 unfold asV fsV
 rw [h, decide_eq_true hl]
 rfl
theorem pkV (ha : asV a = true) : asV ⟨[], pkA m a.atoms⟩ = true :=
 asV_bare (List.all_eq_true.2 fun x hx => List.all_eq_true.1 (asV_facts ha).2.2.1 x (pkA_mem x hx)) (Nat.le_trans pkA_le (asV_facts ha).2.2.2)
theorem pk_perm (h : pkOk a m = true) : (pkA m a.atoms ++ pkA (pkC a m) a.atoms).Perm a.atoms := by
 have ha := pkOk_all h
 have := pk_two (l := a.atoms) ha.2.2.2.2.1 (m := m) ha.2.1 (by have := ha.2.2.1; rw [ha.2.2.2.2.2.1] at this; exact this)
 unfold pkC
 rw [ha.2.2.2.2.2.1]
 exact this
theorem pk_star (h : pkOk a m = true) : starL (pkL a m) (pkL a (pkC a m)) = ⟨[], pkA m a.atoms ++ pkA (pkC a m) a.atoms⟩ /\ starOk (pkL a m) (pkL a (pkC a m)) = true /\ asV ⟨[], pkA m a.atoms ++ pkA (pkC a m) a.atoms⟩ = true /\ asV ⟨[], a.atoms⟩ = true := by
 have ha := (pkOk_all h).1
 have hp := pk_perm h
 have e1 : pkL a m = ⟨[], pkA m a.atoms⟩ := by unfold pkL; rw [h]; rfl
 have e2 : pkL a (pkC a m) = ⟨[], pkA (pkC a m) a.atoms⟩ := by unfold pkL; rw [pkT_ok h]; rfl
 have hs : starA (pkL a m) (pkL a (pkC a m)) = ⟨[], pkA m a.atoms ++ pkA (pkC a m) a.atoms⟩ := by rw [e1, e2]; rfl
 have hv : asV ⟨[], pkA m a.atoms ++ pkA (pkC a m) a.atoms⟩ = true :=
  asV_bare (List.all_eq_true.2 fun x hx => List.all_eq_true.1 (asV_facts ha).2.2.1 x (hp.mem_iff.1 hx)) (by rw [hp.length_eq]; exact (asV_facts ha).2.2.2)
 have ho : starOk (pkL a m) (pkL a (pkC a m)) = true := by
  unfold starOk
  rw [hs, hv, e1, e2, pkV ha, pkV ha]; rfl
 refine ⟨?_, ho, hv, asV_bare (asV_facts ha).2.2.1 (asV_facts ha).2.2.2⟩
 unfold starL; rw [ho]; exact hs
theorem pk_so (h2 : starOk (pkL a m) (pkL a (pkC a m)) = false) (h : pkOk a m = true) : False := by rw [(pk_star h).2.1] at h2; cases h2
theorem pk_ln (h2 : ¬ (starL (pkL a m) (pkL a (pkC a m))).atoms.length = a.atoms.length) (h : pkOk a m = true) : False := by
 rw [(pk_star h).1] at h2
 exact h2 (pk_perm h).length_eq
theorem pk_eq (h : pkOk a m = true) : (ENT (starL (pkL a m) (pkL a (pkC a m))) ⟨[], a.atoms⟩ && ENT ⟨[], a.atoms⟩ (starL (pkL a m) (pkL a (pkC a m)))) = true := by
 obtain ⟨e, _, hv, hw⟩ := pk_star h
 rw [e, ent_sub hv hw (fun f hf => by cases hf) (pk_perm h).symm, ent_sub hw hv (fun f hf => by cases hf) (pk_perm h)]
 rfl
end
end Go.SE
