/-
  Parts of a symbolic engine over the program's code: how operations, regions, loops and calls are shown to keep contracts. No conditions.
-/
import Derived.Carry
import Derived.ReadAgain
import Derived.ChangeSame
import Derived.JoinedOf
import Derived.SizedLaws
import Derived.Test.YtopjgjelkpkmmaaEb
set_option linter.unusedSimpArgs false
set_option linter.unusedVariables false
set_option linter.unusedSectionVars false

namespace Go.SE
section
variable {tab : TypeId -> Option TI} {K : FuncId -> Option Con} {st st' : St} {o : Oper} {ops : Array Oper}
def trStep (tab : TypeId -> Option TI) (K : FuncId -> Option Con) (ops : Array Oper) (o : Oper) (st : St) : Option Tr :=
 match o.guard with
 | none => trOp tab K o st
 | some (j, want) => match gslot ops j with
  | none => none
  | some g => match st.env g with
   | .s (.c (.d (.val (.bool b)))) => match b == want with
    | true => trOp tab K o st
    | false => some (.one (.tup []))
   | .tup [] => some (.one (.tup []))
   | _ => none
theorem app_one2 (dst : Option Nat) (v : S) (r : Unit) : st.app dst (.one v) r = St.put st dst v := by
 have e : Option.map (fun x => x + 0) st.rd = st.rd := by cases st.rd <;> rfl
 cases dst <;> simp only [St.app, St.put, adds, sets, e]
theorem vcStep_tr {k : St -> Prop} : vcStep tab K ops o st k ↔ vcTr o.dst st k (trStep tab K ops o st) := by
 unfold trStep
 cases ho : o.guard with
 | none => rw [vcStep_none ho]; rfl
 | some gw =>
  obtain ⟨j, want⟩ := gw
  cases hg : gslot ops j with
  | none => simp only [vcStep, ho, hg]; exact Iff.rfl
  | some g =>
   simp only [hg]
   split
   ·rename_i b he
    rw [vcStep_some ho hg he]
    unfold vcGuard
    by_cases e : b = want
    ·subst e
     rw [if_pos rfl]
     simp only [beq_self_eq_true]
     exact Iff.rfl
    ·have : (b == want) = false := by simpa using e
     rw [if_neg e, this]
     constructor
     ·intro h; exact ⟨trivial, by show k (st.app o.dst (.one (.tup [])) ()); rw [app_one2]; exact h⟩
     ·intro h
      have h2 : k (st.app o.dst (.one (.tup [])) ()) := h.2
      rw [app_one2] at h2; exact h2
   ·rename_i he
    rw [vcStep_pass ho hg he]
    constructor
    ·intro h; exact ⟨trivial, by show k (st.app o.dst (.one (.tup [])) ()); rw [app_one2]; exact h⟩
    ·intro h
     have h2 : k (st.app o.dst (.one (.tup [])) ()) := h.2
     rw [app_one2] at h2; exact h2
   ·simp only [vcStep, ho, hg]
    exact Iff.rfl
structure AgO (K : FuncId -> Option Con) (tab : TypeId -> Option TI) (ops : Array Oper) (o : Oper) (st st' : St) : Prop where
 x : ∀ x ∈ opnds o, AgX st st' x
 sf : clsOf K tab o = 3 -> ∀ x ∈ opnds o, AgS st st' x
 s5 : clsOf K tab o = 5 -> ∀ x ∈ opnds o, ∀ id ∈ (ev st x).refs, st'.sp id = st.sp id
 rd : clsOf K tab o = 2 -> st'.rd = st.rd
 n : clsOf K tab o ≠ 0 -> AgN st st' (o.dst.getD 0)
 g : ∀ j want g, o.guard = some (j, want) -> gslot ops j = some g -> st'.env g = st.env g
theorem trStep_ag (hs : TabSmall tab) (hc : clsOf K tab o ≠ 4) (h : AgO K tab ops o st st') : trStep tab K ops o st' = trStep tab K ops o st := by
 have e := trOp_ag (K := K) hs hc h.x h.sf h.s5 h.rd h.n
 unfold trStep
 cases ho : o.guard with
 | none => exact e
 | some gw =>
  obtain ⟨j, want⟩ := gw
  simp only
  cases hg : gslot ops j with
  | none => rfl
  | some g =>
   simp only
   rw [h.g j want g ho hg, e]
theorem trStep_nice (hs : TabSmall tab) (hc : clsOf K tab o ≠ 4) {t : Tr} (htr : trStep tab K ops o st = some t) : Nice st (o.dst.getD 0) (clsOf K tab o) (opnds o) t := by
 have sk : Nice st (o.dst.getD 0) (clsOf K tab o) (opnds o) (.one (.tup [])) := Nice.plain fun _ id hid => by cases hid
 unfold trStep at htr
 split at htr
 ·exact trOp_nice hs hc htr
 ·split at htr
  ·cases htr
  ·split at htr
   ·split at htr
    ·exact trOp_nice hs hc htr
    ·injection htr with htr; subst htr; exact sk
   ·injection htr with htr; subst htr; exact sk
   ·cases htr
theorem out_con (hK : KTot K) {f : FuncId} {con : Con} (hf : K f = some con) {x : Args con.aks} (hp : con.pre x) {pre : Prop} {val : Args con.rks -> S} {news : Args con.rks -> List (Nat × Res)} {fl fz : List Nat} {wr : Option ((Nat -> Option Res) -> Nat -> Option Res)} {c : Nat} :
  ∃ r, Out { R := Args con.rks, pre, post := con.post x, val, news, fl, fz, wr, cost := c, det := con.det x } r := by
 have key : ∀ d, con.det x = d -> ∃ r, con.det x = some r ∨ (con.det x = none /\ con.post x r) := by
  intro d hd
  cases d with
  | some r => exact ⟨r, .inl hd⟩
  | none =>
   obtain ⟨r, hr⟩ := hK f con hf x hp
   exact ⟨r, .inr ⟨hd, hr⟩⟩
 exact key _ rfl
theorem out_map {α : Type} {x : Option α} {f : α -> Tr} {t : Tr} (h : x.map f = some t) (hf : ∀ a, ∃ r, Out (f a) r) : ∃ r, Out t r := by
 cases x with
 | none => cases h
 | some a => injection h with h; subst h; exact hf a
theorem out_one {v : S} {p : Prop} {l : List (Nat × Res)} : ∃ r, Out (.one v p l) r := ⟨(), .inl rfl⟩
theorem out_gen {v : S} {p : Prop} {l : List (Nat × Res)} {fl fz : List Nat} {w : Option ((Nat -> Option Res) -> Nat -> Option Res)} : ∃ r, Out (.gen v p l fl fz w) r := ⟨(), .inl rfl⟩
theorem out_write {p : Prop} {w : (Nat -> Option Res) -> Nat -> Option Res} {fz : List Nat} : ∃ r, Out (.write p w fz) r := ⟨(), .inl rfl⟩
theorem out_ex (hK : KTot K) {t : Tr} (h : trOp tab K o st = some t) (hp : t.pre) : ∃ r, Out t r := by
 unfold trOp at h
 split at h
 all_goals first
  | (unfold trMove at h) | (unfold trPick at h) | (unfold trAlloc at h) | (unfold trBox at h) | (unfold trBuild at h) | (unfold trBuildSlice at h) | (unfold trLoad at h) | (unfold trStore at h)
  | (unfold trNilCheck at h) | (unfold trBin at h) | (unfold trUn at h) | (unfold trConvert at h) | (unfold trFieldAddr at h) | (unfold trField at h) | (unfold trIndexAddr at h) | (unfold trIndex at h)
  | (unfold trSlice at h) | (unfold trMakeSlice at h) | (unfold trExtract at h) | (unfold trMakeFunc at h) | (unfold trFn trCall at h) | skip
 all_goals repeat' split at h
 all_goals first
  | cases h; done
  | (injection h with h; subst h; exact out_one)
  | (injection h with h; subst h; exact out_gen)
  | (injection h with h; subst h; exact out_write)
  | (injection h with h; subst h; exact out_con hK ‹_› hp.1)
  | exact out_map h fun _ => out_one
  | (unfold trLen at h; repeat' split at h
     all_goals first
      | cases h; done
      | (injection h with h; subst h; exact out_one))
  | (unfold trAppend at h; repeat' split at h
     all_goals first
      | cases h; done
      | (injection h with h; subst h; exact out_gen))
  | (unfold trCopy at h; repeat' split at h
     all_goals first
      | cases h; done
      | (injection h with h; subst h; exact out_gen))
theorem trStep_out (hK : KTot K) {t : Tr} (htr : trStep tab K ops o st = some t) (hp : t.pre) : ∃ r, Out t r := by
 unfold trStep at htr
 split at htr
 ·exact out_ex hK htr hp
 ·split at htr
  ·cases htr
  ·split at htr
   ·split at htr
    ·exact out_ex hK htr hp
    ·injection htr with htr; subst htr; exact out_one
   ·injection htr with htr; subst htr; exact out_one
   ·cases htr
theorem Cl.app (hcl : Cl st) {dst : Option Nat} {d c : Nat} {xs : List Operand} {t : Tr} (hn : Nice st d c xs t) (r : t.R) : Cl (st.app dst t r) := by
 have emem : (st.app dst t r).mem = adds st.mem (t.news r) := by simp only [St.app, hn.wr]
 have up : ∀ id, (st.mem id).isSome = true ∨ (∃ q, (id, q) ∈ t.news r) -> ((st.app dst t r).mem id).isSome = true := by
  intro id h
  rw [emem]
  rcases h with h | ⟨q, h⟩
  ·exact adds_isSome h
  ·exact adds_new h
 constructor
 ·intro x id hid
  cases dst with
  | none => exact up id (.inl (hcl.1 x id hid))
  | some e =>
   have ee : (st.app (some e) t r).env x = if x = e then t.val r else st.env x := rfl
   rw [ee] at hid
   split at hid
   ·exact up id (hn.val hcl r id hid)
   ·exact up id (.inl (hcl.1 x id hid))
 ·intro j q hj id hid
  rw [emem] at hj
  rcases adds_cases hj with hj | hj
  ·exact up id (hn.new hcl r (j, q) hj id hid)
  ·exact up id (.inl (hcl.2 j q hj id hid))
theorem ev_app {x : Operand} {dst : Option Nat} {t : Tr} {r : t.R} (h : ∀ e, dst = some e -> x ≠ .tmp e) : ev (st.app dst t r) x = ev st x := by
 cases x with
 | tmp a =>
  cases dst with
  | none => rfl
  | some e =>
   show (if a = e then t.val r else st.env a) = st.env a
   rw [if_neg fun h1 => h e rfl (by rw [h1])]
 | _ => rfl
theorem ag_after {x y : Oper} (hcl : Cl st) (hy4 : clsOf K tab y ≠ 4) (hdx : dstOk K tab x = true) (hdy : dstOk K tab y = true)
  (hap : ∀ d, x.dst = some d -> d ∉ y.looksAt ops) (hdd : ∀ d, x.dst = some d -> y.dst ≠ some d) (hclash : clash (clsOf K tab x) (clsOf K tab y) = false) {t : Tr} (hn : Nice st (x.dst.getD 0) (clsOf K tab x) (opnds x) t) (hp : t.pre) (r : t.R) :
  AgO K tab ops y st (st.app x.dst t r) := by
 have emem : (st.app x.dst t r).mem = adds st.mem (t.news r) := by simp only [St.app, hn.wr]
 have hold : ∀ id, (st.mem id).isSome = true -> (st.app x.dst t r).mem id = st.mem id := by
  intro id hid
  rw [emem]
  refine adds_old fun p hpm e => ?_
  have := hn.fre hp r p hpm
  rw [e] at this
  rw [this] at hid; cases hid
 have hlook : ∀ z ∈ opnds y, ∀ e, x.dst = some e -> z ≠ .tmp e := by
  intro z hz e he hze
  refine hap e he ?_
  unfold Oper.looksAt
  simp only [List.mem_append]
  refine .inl (List.mem_filterMap.2 ⟨z, hz, by rw [hze]⟩)
 have hc4 : clsOf K tab x ≠ 4 := by
  intro e
  rw [e] at hclash
  cases h : clsOf K tab y <;> simp [clash] at hclash
 refine ⟨fun z hz => ⟨ev_app (hlook z hz), fun id hid => hold id (ev_refs hcl z id hid)⟩, ?_, ?_, ?_, fun hy0 => ⟨rfl, ?_⟩, ?_⟩
 ·intro h3 z hz id hid
  have : ∀ id, ¬ (id ∈ t.fl ∨ id ∈ t.fz) := fun id h => by
   rcases (hn.spfr id h).1 with this | ⟨this, _⟩ <;> rw [this, h3] at hclash <;> simp [clash] at hclash
  have e1 : t.fl = [] := List.eq_nil_iff_forall_not_mem.2 fun id h => this id (.inl h)
  have e2 : t.fz = [] := List.eq_nil_iff_forall_not_mem.2 fun id h => this id (.inr h)
  constructor
  ·show sets st.sp t.fl id = _; rw [e1]; rfl
  ·show sets st.fr t.fz id = _; rw [e2]; rfl
 ·intro h5 z hz id hid
  have e1 : t.fl = [] := List.eq_nil_iff_forall_not_mem.2 fun id h => by
   rcases (hn.spfr id (.inl h)).1 with this | ⟨_, this⟩
   ·rw [this, h5] at hclash
    simp [clash] at hclash
   ·rw [this] at h; cases h
  show sets st.sp t.fl id = _; rw [e1]; rfl
 ·intro h2
  have hx2 : clsOf K tab x ≠ 2 := fun e => by rw [e, h2] at hclash; simp [clash] at hclash
  show st.rd.map (· + t.cost) = st.rd
  rw [hn.cost hx2]
  cases st.rd <;> rfl
 ·intro j hj
  rw [emem]
  refine adds_old fun p hpm e => ?_
  obtain ⟨i, hi, hpi⟩ := hn.ids r p hpm
  rw [hpi] at e
  have hxd : x.dst.isSome = true := by
   cases hx : x.dst with
   | some _ => rfl
   | none =>
    simp only [dstOk, hx] at hdx
    have h0 : clsOf K tab x = 0 := by simpa using hdx
    rw [hn.none h0 r] at hpm; cases hpm
  obtain ⟨dx, hdx'⟩ := Option.isSome_iff_exists.1 hxd
  rw [hdx'] at e
  cases hyd : y.dst with
  | none =>
   simp only [dstOk, hyd] at hdy
   exact (hy0 (by simpa using hdy)).elim
  | some dy =>
   rw [hyd] at e
   have : @Eq Nat dx dy := by unfold nid at e; simp at e; omega
   exact hdd dx hdx' (by rw [hyd, this])
 ·intro j want g hg hs
  have hgl : g ∈ y.looksAt ops := by
   unfold Oper.looksAt
   simp only [List.mem_append]
   refine .inr ?_
   rw [hg]
   simp only [gslot] at hs
   simp [hs]
  cases hxd : x.dst with
  | none => rfl
  | some e =>
   show (if g = e then t.val r else st.env g) = st.env g
   rw [if_neg fun h1 => hap e hxd (by rw [← h1]; exact hgl)]
end
end Go.SE

namespace Go.SE
section
variable {tab : TypeId -> Option TI} {K : FuncId -> Option Con} {st st' : St} {ops : Array Oper}
theorem upd_swap {α : Type} (f : Nat -> α) {a b : Nat} (u v : α) (h : a ≠ b) : upd (upd f a u) b v = upd (upd f b v) a u := by
 funext j
 unfold upd
 by_cases h1 : j = b
 ·subst h1
  rw [if_pos rfl, if_neg (Ne.symm h), if_pos rfl]
 ·rw [if_neg h1, if_neg h1]
theorem adds_get_of {m m' : Nat -> Option Res} {k : Nat} (h : m k = m' k) : ∀ (l : List (Nat × Res)), adds m l k = adds m' l k := by
 intro l
 induction l generalizing m m' with
 | nil => exact h
 | cons p l ih =>
  obtain ⟨a, r⟩ := p
  refine ih ?_
  unfold upd
  split
  ·rfl
  ·exact h
theorem adds_swap (m : Nat -> Option Res) {l1 l2 : List (Nat × Res)} (h : ∀ p ∈ l1, ∀ q ∈ l2, p.1 ≠ q.1) : adds (adds m l1) l2 = adds (adds m l2) l1 := by
 funext k
 by_cases h1 : ∃ p ∈ l1, p.1 = k
 ·obtain ⟨p, hp, rfl⟩ := h1
  rw [adds_old fun q hq e => h p hp q hq e.symm]
  exact (adds_get_of (adds_old fun q hq e => h p hp q hq e.symm) l1).symm
 ·have e1 : adds (adds m l2) l1 k = adds m l2 k := adds_old fun p hp e => h1 ⟨p, hp, e⟩
  rw [e1]
  exact adds_get_of (adds_old fun p hp e => h1 ⟨p, hp, e⟩) l2
theorem sets_swap (f : Nat -> Bool) (l1 l2 : List Nat) : sets (sets f l1) l2 = sets (sets f l2) l1 := by
 funext k
 simp only [sets_get]
 cases f k <;> cases l1.contains k <;> cases l2.contains k <;> rfl
theorem app_swap {dx dy : Option Nat} {d1 d2 c1 c2 : Nat} {xs ys : List Operand} {tx ty : Tr} (hx : Nice st d1 c1 xs tx) (hy : Nice st d2 c2 ys ty) (rx : tx.R) (ry : ty.R) (hd : ∀ d, dx = some d -> dy ≠ some d) (hn : ∀ p ∈ tx.news rx, ∀ q ∈ ty.news ry, p.1 ≠ q.1) :
  (st.app dx tx rx).app dy ty ry = (st.app dy ty ry).app dx tx rx := by
 have e1 : ((st.app dx tx rx).app dy ty ry).env = ((st.app dy ty ry).app dx tx rx).env := by
  cases dx with
  | none => cases dy <;> rfl
  | some a =>
   cases dy with
   | none => rfl
   | some b => exact upd_swap _ _ _ fun h => hd a rfl (by rw [h])
 have e2 : ((st.app dx tx rx).app dy ty ry).mem = ((st.app dy ty ry).app dx tx rx).mem := by
  simp only [St.app, hx.wr, hy.wr]
  exact adds_swap _ hn
 have e3 : ((st.app dx tx rx).app dy ty ry).sp = ((st.app dy ty ry).app dx tx rx).sp := sets_swap _ _ _
 have e4 : ((st.app dx tx rx).app dy ty ry).fr = ((st.app dy ty ry).app dx tx rx).fr := sets_swap _ _ _
 have e5 : ((st.app dx tx rx).app dy ty ry).rd = ((st.app dy ty ry).app dx tx rx).rd := by
  show Option.map (· + ty.cost) (Option.map (· + tx.cost) st.rd) = Option.map (· + tx.cost) (Option.map (· + ty.cost) st.rd)
  cases st.rd with
  | none => rfl
  | some n => simp only [Option.map_some]; rw [Nat.add_right_comm]
 have ext : ∀ a b : St, a.env = b.env -> a.mem = b.mem -> a.sp = b.sp -> a.fr = b.fr -> a.base = b.base -> a.rd = b.rd -> a = b := by
  intro a b h1 h2 h3 h4 h5 h6
  cases a; cases b; simp only at *; subst h1 h2 h3 h4 h5 h6; rfl
 exact ext _ _ e1 e2 e3 e4 rfl e5
def Free2 (K : FuncId -> Option Con) (tab : TypeId -> Option TI) (ops : Array Oper) (x y : Oper) : Prop := x.apart ops y = true /\ clash (clsOf K tab x) (clsOf K tab y) = false /\ dstOk K tab x = true /\ dstOk K tab y = true
theorem clash_cls {a b : Nat} (h : clash a b = false) : a ≠ 4 /\ b ≠ 4 /\ clash b a = false := by
 unfold clash at h ⊢
 simp only [Bool.or_eq_false_iff, Bool.and_eq_false_iff, beq_eq_false_iff_ne] at h ⊢
 omega
theorem commute (hs : TabSmall tab) (hK : KTot K) (hcl : Cl st) {x y : Oper} (hf : Free2 K tab ops x y) {k : St -> Prop} (h : vcStep tab K ops x st fun s => vcStep tab K ops y s k) : vcStep tab K ops y st fun s => vcStep tab K ops x s k := by
 obtain ⟨hap, hclash, hdx, hdy⟩ := hf
 obtain ⟨ha1, ha2, ha3⟩ := Oper.apart_spec hap
 obtain ⟨hx4, hy4, hclash'⟩ := clash_cls hclash
 have hdd' : ∀ d, y.dst = some d -> x.dst ≠ some d := fun d h1 h2 => ha2 d h2 h1
 simp only [vcStep_tr] at h ⊢
 cases htx : trStep tab K ops x st with
 | none => rw [htx] at h; exact h.elim
 | some tx =>
  rw [htx, vcTr_iff] at h
  obtain ⟨hpx, h⟩ := h
  have hnx := trStep_nice hs hx4 htx
  obtain ⟨rx0, hrx0⟩ := trStep_out hK htx hpx
  have hy : ∀ rx, trStep tab K ops y (st.app x.dst tx rx) = trStep tab K ops y st := fun rx => trStep_ag hs hy4 (ag_after hcl hy4 hdx hdy ha1 ha2 hclash hnx hpx rx)
  have h' : ∀ rx, Out tx rx -> vcTr y.dst (st.app x.dst tx rx) k (trStep tab K ops y st) := fun rx hrx => by rw [← hy rx]; exact h rx hrx
  cases hty : trStep tab K ops y st with
  | none => have := h' rx0 hrx0; rw [hty] at this; exact this.elim
  | some ty =>
   simp only [hty, vcTr_iff] at h'
   have hpy := (h' rx0 hrx0).1
   have hny := trStep_nice hs hy4 hty
   rw [vcTr_iff]
   refine ⟨hpy, fun ry hry => ?_⟩
   have hx : trStep tab K ops x (st.app y.dst ty ry) = trStep tab K ops x st := trStep_ag hs hx4 (ag_after hcl hx4 hdy hdx ha3 hdd' hclash' hny hpy ry)
   rw [hx, htx, vcTr_iff]
   refine ⟨hpx, fun rx hrx => ?_⟩
   rw [← app_swap hnx hny rx ry ha2 ?_]
   ·exact (h' rx hrx).2 ry hry
   ·intro p hp q hq e
    obtain ⟨i, hi, hpi⟩ := hnx.ids rx p hp
    obtain ⟨j, hj, hqj⟩ := hny.ids ry q hq
    have hxd : x.dst.isSome = true := by
     cases hx : x.dst with
     | some _ => rfl
     | none =>
      simp only [dstOk, hx] at hdx
      rw [hnx.none (by simpa using hdx) rx] at hp; cases hp
    have hyd : y.dst.isSome = true := by
     cases hy : y.dst with
     | some _ => rfl
     | none =>
      simp only [dstOk, hy] at hdy
      rw [hny.none (by simpa using hdy) ry] at hq; cases hq
    obtain ⟨a, ha⟩ := Option.isSome_iff_exists.1 hxd
    obtain ⟨b, hb⟩ := Option.isSome_iff_exists.1 hyd
    rw [hpi, hqj, ha, hb] at e
    have : @Eq Nat a b := by unfold nid at e; simp at e; omega
    exact ha2 a ha (by rw [hb, this])
theorem vcOp_extract {o : Oper} {z : Operand} {n : Nat} (ho : o.op = .extract z n) {k : St -> Prop} : vcOp tab K o st k = vcTr o.dst st k (trExtract st z n) := by
 unfold vcOp trOp
 rw [ho]
theorem vcOp_store {o : Oper} {ty : TypeId} {p v : Operand} (ho : o.op = .store ty p v) {k : St -> Prop} : vcOp tab K o st k = vcTr o.dst st k (trStore tab st ty p v) := by
 unfold vcOp trOp
 rw [ho]
theorem notSpent_put {d : Option Nat} {s : S} : ∀ ids : List Nat, notSpent (St.put st d s) ids = notSpent st ids := by
 intro ids
 induction ids with
 | nil => rfl
 | cons i l ih =>
  unfold notSpent
  rw [ih]
  cases d <;> rfl
theorem trStore_put {ty : TypeId} {p v : Operand} {d : Nat} {s : S} (h1 : p ≠ .tmp d) (h2 : v ≠ .tmp d) : trStore tab (St.put st (some d) s) ty p v = trStore tab st ty p v := by
 have e : ∀ z : Operand, z ≠ .tmp d -> ev (St.put st (some d) s) z = ev st z := fun z hz => by
  cases z with
  | tmp a =>
   show (if a = d then s else st.env a) = st.env a
   rw [if_neg fun e => hz (by rw [e])]
  | _ => rfl
 unfold trStore
 rw [e p h1, e v h2]
 simp only [notSpent_put]
 rfl
theorem commute_late {x y : Oper} (hap : x.apart ops y = true) (hl : lateP x y = true) {k : St -> Prop} (h : vcStep tab K ops x st fun s => vcStep tab K ops y s k) : vcStep tab K ops y st fun s => vcStep tab K ops x s k := by
 obtain ⟨ha1, ha2, ha3⟩ := Oper.apart_spec hap
 unfold lateP at hl
 split at hl
 ·rename_i z n ty p v e1 e2 e3 e4 e5
  simp only [vcStep_none e2, vcStep_none e4, vcOp_extract e1, vcOp_store e3] at h ⊢
  rw [e5] at h ⊢
  have hlook : ∀ q ∈ opnds y, ∀ d, x.dst = some d -> q ≠ .tmp d := by
   intro q hq d hd hqd
   refine ha1 d hd ?_
   unfold Oper.looksAt
   simp only [List.mem_append]
   exact .inl (List.mem_filterMap.2 ⟨q, hq, by rw [hqd]⟩)
  cases hx : trExtract st z n with
  | none => rw [hx] at h; exact h.elim
  | some tx =>
   obtain ⟨s, rfl⟩ : ∃ s, tx = Tr.one (.s s) := by
    unfold trExtract at hx
    split at hx
    ·split at hx
     ·injection hx with hx; exact ⟨_, hx.symm⟩
     ·cases hx
    ·cases hx
   rw [hx, vcTr_iff] at h
   have h := h.2 () (.inl rfl)
   rw [app_one2] at h
   have est : trStore tab (St.put st x.dst (.s s)) ty p v = trStore tab st ty p v := by
    cases hd : x.dst with
    | none => rfl
    | some d => exact trStore_put (hlook p (by simp [opnds, e3, Op.operands]) d hd) (hlook v (by simp [opnds, e3, Op.operands]) d hd)
   rw [est] at h
   cases hs : trStore tab st ty p v with
   | none => rw [hs] at h; exact h.elim
   | some ts =>
    rw [hs, vcTr_iff] at h
    rw [vcTr_iff]
    refine ⟨h.1, fun r hr => ?_⟩
    have ex : trExtract (st.app none ts r) z n = some (Tr.one (.s s)) := by
     rw [← hx]
     unfold trExtract
     rw [show ev (st.app none ts r) z = ev st z from by cases z <;> rfl]
    rw [ex, vcTr_iff]
    refine ⟨trivial, fun u _ => ?_⟩
    rw [app_one2]
    have e : (St.put st x.dst (.s s)).app none ts r = St.put (st.app none ts r) x.dst (.s s) := by cases x.dst <;> rfl
    rw [← e]
    exact h.2 r hr
 ·cases hl
theorem vcStep_monoCl (hs : TabSmall tab) (hcl : Cl st) {x : Oper} (hx : clsOf K tab x ≠ 4) {k k' : St -> Prop} (hk : ∀ s, Cl s -> k s -> k' s) (h : vcStep tab K ops x st k) : vcStep tab K ops x st k' := by
 rw [vcStep_tr] at h ⊢
 cases htx : trStep tab K ops x st with
 | none => rw [htx] at h; exact h.elim
 | some tx =>
  rw [htx, vcTr_iff] at h
  rw [vcTr_iff]
  exact ⟨h.1, fun r hr => hk _ (hcl.app (trStep_nice hs hx htx) r) (h.2 r hr)⟩
def Free3 (K : FuncId -> Option Con) (tab : TypeId -> Option TI) (ops : Array Oper) (x y : Oper) : Prop := Free2 K tab ops x y ∨ (x.apart ops y = true /\ lateP x y = true)
theorem late_cls {x y : Oper} (h : lateP x y = true) : clsOf K tab x ≠ 4 := by
 unfold lateP at h
 split at h
 ·rename_i e1 e2 e3 e4 e5
  unfold clsOf
  rw [e1]
  show (0 : Nat) ≠ 4; decide
 ·cases h
theorem extract (hs : TabSmall tab) (hK : KTot K) {y : Oper} {l2 : List Oper} {k : St -> Prop} : ∀ {l1 : List Oper} {st : St}, Cl st -> (∀ x ∈ l1, Free3 K tab ops x y) -> vcOps tab K ops (l1 ++ y :: l2) st k -> vcStep tab K ops y st fun s => vcOps tab K ops (l1 ++ l2) s k := by
 intro l1
 induction l1 with
 | nil => intro st _ _ h; exact h
 | cons x l1 ih =>
  intro st hcl hf h
  have hfx := hf x (by simp)
  have h1 : vcStep tab K ops x st fun s => vcStep tab K ops y s fun s' => vcOps tab K ops (l1 ++ l2) s' k :=
   vcStep_monoCl hs hcl (hfx.elim (fun h => (clash_cls h.2.1).1) fun h => late_cls h.2) (fun s hc hh => ih hc (fun z hz => hf z (by simp [hz])) hh) h
  rcases hfx with hfx | ⟨h2, h3⟩
  ·exact commute hs hK hcl hfx h1
  ·exact commute_late h2 h3 h1
end
end Go.SE

namespace Go.SE
section
variable {P : Program} {E : Ty -> TypeId} {tab : TypeId -> Option TI} {K : FuncId -> Option Con} {ops : Array Oper}
theorem pickOps_append (l1 l2 : List Nat) : pickOps ops (l1 ++ l2) = pickOps ops l1 ++ pickOps ops l2 := by
 induction l1 with
 | nil => rfl
 | cons i l ih =>
  simp only [List.cons_append, pickOps]
  split
  ·rw [ih]; rfl
  ·exact ih
theorem pickOps_mem {l : List Nat} {o : Oper} (h : o ∈ pickOps ops l) : ∃ i ∈ l, ops[i]? = some o := by
 induction l with
 | nil => cases h
 | cons i l ih =>
  simp only [pickOps] at h
  split at h
  ·rename_i o' ho
   rcases List.mem_cons.1 h with rfl | h
   ·exact ⟨i, by simp, ho⟩
   ·obtain ⟨j, hj, e⟩ := ih h; exact ⟨j, by simp [hj], e⟩
  ·obtain ⟨j, hj, e⟩ := ih h; exact ⟨j, by simp [hj], e⟩
theorem pickOps_all (ops : Array Oper) : pickOps ops (List.range ops.size) = ops.toList := by
 have main : ∀ n, n <= ops.size -> pickOps ops (List.range n) = ops.toList.take n := by
  intro n
  induction n with
  | zero => intro _; rfl
  | succ n ih =>
   intro h
   rw [List.range_succ, pickOps_append, ih (by omega)]
   have hn : n < ops.toList.length := by simp; omega
   have e : ops[n]? = some ops.toList[n] := by simp
   simp only [pickOps, e]
   rw [List.take_succ_eq_append_getElem hn]
 rw [main ops.size (Nat.le_refl _), List.take_of_length_le (by simp)]
def Closed (ops : Array Oper) (listed : Array Bool) : Prop :=
 ∀ j o, ops[j]? = some o -> listed.getD j false = true -> ∀ e ∈ o.after.toList, Region.binds .any e = true -> listed.getD e.on false = true
theorem before_listed {bf : Array Nat} (hc : certOk ops bf = true) {listed : Array Bool} (hcl : Closed ops listed) : ∀ (i : Nat) (o : Oper), ops[i]? = some o -> (∀ e ∈ o.after.toList, Region.binds .any e = true -> listed.getD e.on false = true) ->
  ∀ j, j < ops.size -> (bf.getD i 0).testBit j = true -> listed.getD j false = true := by
 intro i
 induction i using Nat.strongRecOn with
 | _ i ih =>
  intro o ho hr j hj hb
  unfold certOk at hc
  rw [List.all_eq_true] at hc
  have hi : i < ops.size := (Array.getElem?_eq_some_iff.1 ho).1
  have h1 := hc i (List.mem_range.2 hi)
  rw [List.all_eq_true] at h1
  have h2 := h1 j (List.mem_range.2 hj)
  rw [hb] at h2
  simp only [Bool.not_true, Bool.false_or, ho, List.any_eq_true, Bool.and_eq_true, decide_eq_true_eq, Bool.or_eq_true, beq_iff_eq] at h2
  obtain ⟨e, he, ⟨hbe, hlt⟩, h3⟩ := h2
  have hl := hr e he hbe
  rcases h3 with h3 | h3
  ·rw [← h3]; exact hl
  ·cases hoe : ops[e.on]? with
   | none =>
    have := Array.getElem?_eq_none_iff.1 hoe
    omega
   | some oe => exact ih e.on hlt oe hoe (hcl e.on oe hoe hl) j hj h3
theorem ready_iff {listed : Array Bool} {i : Nat} : i ∈ Region.ready .any ops listed ↔ i < ops.size /\ listed.getD i true = false /\ ∃ o, ops[i]? = some o /\ ∀ e ∈ o.after.toList, Region.binds .any e = true -> listed.getD e.on false = true := by
 unfold Region.ready
 rw [List.mem_filter, List.mem_range]
 constructor
 ·rintro ⟨h1, h2⟩
  simp only [Bool.and_eq_true, Bool.not_eq_true'] at h2
  obtain ⟨h2, h3⟩ := h2
  refine ⟨h1, h2, ?_⟩
  cases ho : ops[i]? with
  | none => rw [ho] at h3; cases h3
  | some o =>
   rw [ho] at h3
   refine ⟨o, rfl, fun e he hb => ?_⟩
   simp only [Option.map_some, Option.getD_some] at h3
   have := (Array.all_eq_true'.1 h3) e (by simpa using he)
   simpa [hb] using this
 ·rintro ⟨h1, h2, o, ho, h3⟩
  refine ⟨h1, ?_⟩
  simp only [Bool.and_eq_true, Bool.not_eq_true']
  refine ⟨h2, ?_⟩
  rw [ho]
  simp only [Option.map_some, Option.getD_some]
  refine Array.all_eq_true'.2 fun e he => ?_
  cases hb : Region.binds .any e with
  | false => rfl
  | true => simpa using h3 e (by simpa using he) hb
theorem getD_of_lt {listed : Array Bool} {i : Nat} (h : i < listed.size) (a b : Bool) : listed.getD i a = listed.getD i b := by
 simp [Array.getD_eq_getD_getElem?, h]
theorem getD_set {listed : Array Bool} {i j : Nat} {b : Bool} : (listed.setIfInBounds i true).getD j b = if i = j /\ j < listed.size then true else listed.getD j b := by
 rw [Array.getD_eq_getD_getElem?, Array.getD_eq_getD_getElem?, Array.getElem?_setIfInBounds]
 by_cases h1 : i = j
 ·subst h1
  by_cases h2 : i < listed.size
  ·simp [h2]
  ·simp [h2]
 ·simp [h1]
theorem draw_sound (ht : TabOk P E tab) (hs : TabSmall tab) (hKA : KAll P E K) (hmix : P.follows .mixedOrders = true) (w0 : World) (M : MM) (n : Nat) : DrawSound P E tab K w0 M n := by
 intro id ops st a w k Q hok hops hrel hv hQ
 have hK : KTot K := fun f con hf x hx => (hKA f con hf).tot x hx
 unfold drawOk at hok
 simp only [Bool.and_eq_true] at hok
 obtain ⟨⟨hcert, hback⟩, hpair⟩ := hok
 unfold backOk at hback
 rw [List.all_eq_true] at hback hpair
 have hback' : ∀ j o, ops[j]? = some o -> ∀ e ∈ o.after.toList, Region.binds .any e = true -> e.on < j := by
  intro j o ho e he hb
  have hj : j < ops.size := (Array.getElem?_eq_some_iff.1 ho).1
  have := hback j (List.mem_range.2 hj)
  rw [ho] at this
  simp only [List.all_eq_true] at this
  have := this e he
  simpa [hb] using this
 have key : ∀ (fuel : Nat) (L : List Nat) (listed : Array Bool) (st : St) (a : Act) (w : World), L.length <= fuel -> L.Pairwise (· < ·) -> listed.size = ops.size -> (∀ i, i ∈ L ↔ i < ops.size /\ listed.getD i true = false) -> Closed ops listed ->
   Rel E w0 M n st a w -> vcOps tab K ops (pickOps ops L) st k -> wpAny P .any ops Q fuel listed a w := by
  intro fuel
  induction fuel with
  | zero =>
   intro L listed st a w hlen hsort hsz hL hcl hr hv
   have : L = [] := by cases L with | nil => rfl | cons _ _ => simp at hlen
   subst this
   refine ⟨?_, hQ st a w hr hv⟩
   refine List.eq_nil_iff_forall_not_mem.2 fun i hi => ?_
   obtain ⟨h1, h2, _⟩ := ready_iff.1 hi
   have := (hL i).2 ⟨h1, h2⟩
   cases this
  | succ fuel ih =>
   intro L listed st a w hlen hsort hsz hL hcl hr hv
   refine ⟨fun hnil => ?_, fun i hi => ?_⟩
   ·have : L = [] := by
     cases L with
     | nil => rfl
     | cons i L' =>
      obtain ⟨hi1, hi2⟩ := (hL i).1 (by simp)
      have : i ∈ Region.ready .any ops listed := by
       refine ready_iff.2 ⟨hi1, hi2, ops[i], by simp [hi1], fun e he hb => ?_⟩
       have hlt := hback' i ops[i] (by simp [hi1]) e he hb
       have hes : e.on < listed.size := by omega
       rw [getD_of_lt hes false true]
       cases hle : listed.getD e.on true with
       | true => rfl
       | false =>
        have hm := (hL e.on).2 ⟨by omega, hle⟩
        rcases List.mem_cons.1 hm with he' | hm
        ·omega
        ·have := (List.pairwise_cons.1 hsort).1 e.on hm
         omega
      rw [hnil] at this
      cases this
    subst this
    exact hQ st a w hr hv
   ·obtain ⟨hi1, hi2, o, ho, hdeps⟩ := ready_iff.1 hi
    have hiL := (hL i).2 ⟨hi1, hi2⟩
    obtain ⟨L1, L2, rfl⟩ := List.append_of_mem hiL
    have hL1 : ∀ j ∈ L1, j < i := by
     intro j hj
     exact (List.pairwise_append.1 hsort).2.2 j hj i (by simp)
    rw [pickOps_append] at hv
    have e2 : pickOps ops (i :: L2) = o :: pickOps ops L2 := by simp only [pickOps, ho]
    rw [e2] at hv
    have hfree : ∀ x ∈ pickOps ops L1, Free3 K tab ops x o := by
     intro x hx
     obtain ⟨j, hj, hoj⟩ := pickOps_mem hx
     have hji := hL1 j hj
     have h1 := hpair i (List.mem_range.2 hi1)
     rw [List.all_eq_true] at h1
     have h2 := h1 j (List.mem_range.2 hji)
     unfold pairOk at h2
     rw [hoj, ho] at h2
     simp only [Bool.or_eq_true, Bool.and_eq_true, Bool.not_eq_true'] at h2
     rcases h2 with (h2 | ⟨⟨⟨h3, h4⟩, h5⟩, h6⟩) | ⟨h3, h4⟩
     ·exfalso
      have hls := before_listed hcert hcl i o ho hdeps j (by omega) h2
      have hju := ((hL j).1 (by simp [hj])).2
      rw [getD_of_lt (by omega) true false, hls] at hju
      cases hju
     ·exact .inl ⟨h3, h4, h5, h6⟩
     ·exact .inr ⟨h3, h4⟩
    have hstep := extract hs hK hr.cl hfree hv
    obtain ⟨ho1, ho2⟩ := opsOk_mem hops o (by have := Array.mem_of_getElem? ho; simpa using this)
    have hrun := step_sound (P := P) (Q := Q) ht hKA ho1 ho2 hr hstep (next := wpAny P .any ops Q fuel (listed.setIfInBounds i true)) fun st' a' w' hr' hv' => by
     rw [← pickOps_append] at hv'
     have hsort' : (L1 ++ L2).Pairwise (· < ·) := by
      rw [List.pairwise_append] at hsort ⊢
      exact ⟨hsort.1, (List.pairwise_cons.1 hsort.2.1).2, fun a ha b hb => hsort.2.2 a ha b (by simp [hb])⟩
     refine ih (L1 ++ L2) _ st' a' w' (by simp at hlen ⊢; omega) hsort' (by simp [hsz]) (fun j => ?_) ?_ hr' hv'
     ·rw [getD_set]
      have hnd : i ∉ L1 ++ L2 := by
       intro hm
       rcases List.mem_append.1 hm with hm | hm
       ·have := hL1 i hm; omega
       ·have := (List.pairwise_cons.1 (List.pairwise_append.1 hsort).2.1).1 i hm; omega
      constructor
      ·intro hj
       have h1 := (hL j).1 (by rcases List.mem_append.1 hj with h | h <;> simp [h])
       have hne : ¬ (i = j /\ j < listed.size) := fun h => hnd (by rw [h.1]; exact hj)
       rw [if_neg hne]
       exact h1
      ·rintro ⟨h1, h2⟩
       by_cases e : i = j /\ j < listed.size
       ·rw [if_pos e] at h2; cases h2
       ·rw [if_neg e] at h2
        have := (hL j).2 ⟨h1, h2⟩
        rcases List.mem_append.1 this with h | h
        ·simp [h]
        ·rcases List.mem_cons.1 h with h | h
         ·exact (e ⟨h.symm, by omega⟩).elim
         ·simp [h]
     ·intro j oj hoj hlj e he hb
      rw [getD_set] at hlj ⊢
      split
      ·rfl
      ·by_cases ej : i = j /\ j < listed.size
       ·obtain ⟨rfl, _⟩ := ej
        rw [ho] at hoj
        injection hoj with hoj
        subst hoj
        exact hdeps e he hb
       ·rw [if_neg ej] at hlj
        exact hcl j oj hoj hlj e he hb
    unfold wpOp
    rw [ho]
    exact hrun
 refine wp_region_any hmix (key ops.size (List.range ops.size) (Array.replicate ops.size false) st a _ (by simp) List.pairwise_lt_range (by simp) (fun i => ?_) ?_ hrel.drawn (by rw [pickOps_all]; exact hv))
 ·rw [List.mem_range]
  constructor
  ·intro h
   refine ⟨h, ?_⟩
   rw [Array.getD_eq_getD_getElem?]
   simp [h]
  ·exact fun h => h.1
 ·intro j o ho hl
  rw [Array.getD_eq_getD_getElem?] at hl
  by_cases h : j < ops.size <;> simp [h] at hl
end
end Go.SE

namespace Go.SE
open Go.RowKit
def outC (mem : Nat -> Option Res) (t : Ty) : CV -> Option (List t.den × List Nat)
 | .own id => match mem id with
  | some (.sl _ t' xs) => match castL t t' xs with
   | some xs => some (xs, [id])
   | none => none
  | _ => none
 | .nil => some ([], [])
 | _ => none
def rdC (mem : Nat -> Option Res) (t : Ty) : CV -> Option (List t.den × List Nat)
 | .d (.arr t' xs) => match castL t t' xs with
  | some xs => some (xs, [])
  | none => none
 | .own id => match mem id with
  | some (.sl _ t' xs) => match castL t t' xs with
   | some xs => some (xs, [id])
   | none => none
  | _ => none
 | .nil => some ([], [])
 | _ => none
def src1 : CV -> Option Nat
 | .own id => some id
 | _ => none
def decR (mem : Nat -> Option Res) : (k : AK) -> S0 -> Option (k.den × List Nat × List Nat)
 | .int, .c (.d (.val (.int .i64 n))) => some (n, [], [])
 | .bool, .c (.d (.val (.bool b))) => some (b, [], [])
 | .u16, .c (.d (.val (.int .u16 n))) => some (n, [], [])
 | .u64, .c (.d (.val (.int .u64 n))) => some (n, [], [])
 | .str, .c (.d (.val (.string s))) => some (s, [], [])
 | .fact, .agg [.d (.val (.bool e)), .d (.val (.int .i64 a)), .d (.val (.int .i64 b))] => some (⟨e, a, b⟩, [], [])
 | .atom, .agg [.d (.val (.int .i64 k)), .d (.val (.int .i64 a)), .d (.val (.int .i64 b))] => some (⟨k, a, b⟩, [], [])
 | .asn, .agg [f, a] => match outC mem .fact f, outC mem .atom a with
  | some (fs, i), some (as, j) => some (⟨fs, as⟩, i ++ j, [])
  | _, _ => none
 | .state, .agg [v, h] => match outC mem .int v, outC mem .int h with
  | some (vs, i), some (hs, j) => some (⟨vs, hs⟩, i ++ j, [])
  | _, _ => none
 | .cmd, .agg [.d (.val (.int .i64 k)), .d (.val (.int .i64 a)), .d (.val (.int .i64 b)), .d (.val (.bool e)), .d (.val (.int .i64 ta)), .d (.val (.int .i64 tb)), fs, as, bo, el] =>
  match rdC mem .fact fs, rdC mem .atom as, rdC mem .cmd bo, rdC mem .cmd el with
  | some (fs, i1), some (as, i2), some (bo, i3), some (el, i4) => some (.mk k a b ⟨e, ta, tb⟩ ⟨fs, as⟩ bo el, [], i1 ++ (i2 ++ (i3 ++ i4)))
  | _, _, _, _ => none
 | .sl t, .c x => match outC mem t x with
  | some (xs, i) => some (xs, i, [])
  | none => none
 | .kase, .vec .int xs => some (xs, [], [])
 | .dasn, .agg [f, a] => match rdC mem .fact f, rdC mem .atom a with
  | some (fs, i), some (as, j) => some (⟨fs, as⟩, [], i ++ j)
  | _, _ => none
 | .dstate, .agg [v, h] => match rdC mem .int v, rdC mem .int h with
  | some (vs, i), some (hs, j) => some (⟨vs, hs⟩, [], i ++ j)
  | _, _ => none
 | .dsl t, .c x => match rdC mem t x with
  | some (xs, i) => some (xs, [], i)
  | none => none
 | .hasn, .agg [f, a] => match rdC mem .fact f, outC mem .atom a with
  | some (fs, i), some (as, j) => some (⟨fs, as⟩, j, i)
  | _, _ => none
 | _, _ => none
def decRs (mem : Nat -> Option Res) : (ks : List AK) -> List S0 -> Option (Args ks × List Nat × List Nat)
 | [], [] => some ((), [], [])
 | k :: ks, s :: ss => match decR mem k s, decRs mem ks ss with
  | some (x, i, f), some (xs, j, g) => some ((x, xs), i ++ j, f ++ g)
  | _, _ => none
 | _, _ => none
section
variable (tab : TypeId -> Option TI)
def loadS (st : St) : ResultVar -> Option S0
 | .tmp t => match st.env t with
  | .s s => some s
  | _ => none
 | .cell a ty => match tab ty, st.env a with
  | some ti, .s (.c (.ptr id off)) => match st.mem id with
   | some (.blk cs) => match cellsAt ti.k ti.sz off cs with
    | some (.s s) => some s
    | _ => none
   | some (.vec t xs) => match ti.k, off with
    | .ar _ _ _, 0 => if ti.sz = xs.length * t.sz then some (.vec t xs) else none
    | _, _ => none
   | _ => none
  | _, _ => none
def loadsS (st : St) : List ResultVar -> Option (List S0)
 | [] => some []
 | v :: l => match loadS tab st v, loadsS st l with
  | some s, some ss => some (s :: ss)
  | _, _ => none
def notFrozen (st : St) : List Nat -> Prop
 | [] => True
 | k :: l => (st.sp k = false /\ st.fr k = false) /\ notFrozen st l
def apartL (fz : List Nat) : List Nat -> Prop
 | [] => True
 | k :: l => notIn k fz /\ apartL fz l
def rdEnd (st : St) (h : Bool) (n : Nat) : Prop :=
 match st.rd with
 | some k => k <= n
 | none => h = false
def retOk (con : Con) (rvs : List ResultVar) (x : Args con.aks) (n : Nat) : XK -> St -> Prop
 | .exit _, _ => False
 | _, st => match loadsS tab st rvs with
  | none => False
  | some ss => match decRs st.mem con.rks ss with
   | none => False
   | some (r, out, fz) => con.post x r /\ allDiff out /\ notFrozen st out /\ notSpent st fz /\ apartL fz out /\ rdEnd st (hasRdr con.aks) (n + con.cost x)
end
def envOf : List S0 -> Nat -> Nat -> S
 | [], _, _ => junk
 | s :: l, k, j => if j = k then .s s else envOf l (k + 1) j
def entry (l : List S0) (rd : Option Nat) : St := { env := envOf l 0, mem := fun _ => none, sp := fun _ => false, fr := fun _ => false, base := 0, rd }
section
variable {P : Program} {E : Ty -> TypeId} {tab : TypeId -> Option TI} {K : FuncId -> Option Con} {anns : Nat -> Option Ann} {w0 : World} {M : MM} {n : Nat} {st : St} {a : Act} {w : World}
theorem run_loadVar_ptr {ty : TypeId} {ad : Addr} : (Instr.loadAt ty (.pointer (some ad))).run P w = (loadVar ty ad).run P w := by simp [Instr.loadAt, Instr.sureAddr]
theorem loadS_run {g : G} (ht : TabOk P E tab) (hg : Good E w0 M g st w) (henv : ∀ x, (st.env x).R g (a.tmps.getD x undef)) (cl : Cl st) {rv : ResultVar} {s : S0} (hs : loadS tab st rv = some s) :
  ∃ v, ((match rv with
   | .tmp t => pure (a.tmps.getD t undef)
   | .cell x t => do loadVar t (← asAddr (a.tmps.getD x undef)) : Sem Value)).run P w = .ok v w /\ s.R g v /\ ∀ id ∈ s.refs, (st.mem id).isSome = true := by
 cases rv with
 | tmp t =>
  simp only [loadS] at hs
  split at hs
  ·rename_i s' he
   injection hs with hs
   subst hs
   have := henv t
   rw [he] at this
   exact ⟨_, by simp, this, fun id hid => cl.1 t id (by rw [he]; exact hid)⟩
  ·cases hs
 | cell x ty =>
  simp only [loadS] at hs
  split at hs
  ·rename_i ti id off hti he
   have hx := henv x
   rw [he] at hx
   obtain ⟨b, hκ, hv⟩ := hx
   have hrun : ∀ v, (Instr.loadAt ty (.pointer (some ⟨b, off, none⟩))).run P w = .ok v w -> (do loadVar ty (← asAddr (a.tmps.getD x undef)) : Sem Value).run P w = .ok v w := by
    intro v h
    rw [run_loadVar_ptr] at h
    rw [hv]
    simp [asAddr, h]
   split at hs
   ·rename_i cs hm
    split at hs
    ·rename_i s' hc
     injection hs with hs
     subst hs
     obtain ⟨b', vs, bt, hκ', hb, hcs⟩ := hg.res _ _ hm
     rw [hκ] at hκ'
     simp at hκ'
     subst hκ'
     obtain ⟨v, h1, h2, h3⟩ := cellsAt_run (P := P) (bo := 0) (ht _ _ hti) hb (fun j c hj => by simpa using hcs.2 j c hj) hc
     exact ⟨v, hrun v (by simpa using h1), h2, fun id' hid => cl.2 _ _ hm _ (h3 _ hid)⟩
    ·cases hs
   ·rename_i t' xs hm
    split at hs
    ·rename_i hk
     split at hs
     ·rename_i hsz
      injection hs with hs
      subst hs
      obtain ⟨hln, b', vs, bt, hκ', hb, hvs, hrow⟩ := hg.res _ _ hm
      rw [hκ] at hκ'
      simp at hκ'
      subst hκ'
      obtain ⟨i, d, hi, hu, hisz, hko⟩ := ht _ _ hti
      rw [hk] at hko
      obtain ⟨rfl, _⟩ := hko
      have hr := run_loadAt_agg (P := P) (o := 0) hb hu rfl hi (by omega)
      refine ⟨_, hrun _ hr, ⟨_, rfl, ?_, ?_⟩, by simp [S0.refs]⟩
      ·simp; omega
      ·rw [hisz, hsz, ← hvs]
       simpa using hrow
     ·cases hs
    ·cases hs
   ·cases hs
  ·cases hs
end
end Go.SE

namespace Go.SE
open Go.RowKit
section
variable {P : Program} {E : Ty -> TypeId} {tab : TypeId -> Option TI} {K : FuncId -> Option Con} {anns : Nat -> Option Ann} {w0 : World} {M : MM} {n : Nat} {st : St} {a : Act} {w : World}
def rvRead (tmps : Array Value) : ResultVar -> Sem Value
 | .tmp t => pure (tmps.getD t undef)
 | .cell x t => do loadVar t (← asAddr (tmps.getD x undef))
theorem loads_run {g : G} (ht : TabOk P E tab) (hg : Good E w0 M g st w) (henv : ∀ x, (st.env x).R g (a.tmps.getD x undef)) (cl : Cl st) : ∀ {l : List ResultVar} {ss : List S0}, loadsS tab st l = some ss ->
  ∃ vs : List Value, (l.mapM (rvRead a.tmps)).run P w = .ok vs w /\ ArgsR g ss vs /\ ∀ id ∈ refsT ss, (st.mem id).isSome = true := by
 intro l
 induction l with
 | nil => intro ss h; simp only [loadsS, Option.some.injEq] at h; subst h; exact ⟨[], by simp, ⟨rfl, by simp⟩, by simp [refsT]⟩
 | cons rv l ih =>
  intro ss h
  simp only [loadsS] at h
  split at h
  ·rename_i s ss' h1 h2
   injection h with h
   subst h
   obtain ⟨vs, h3, h4, h5⟩ := ih h2
   obtain ⟨v, h6, h7, h8⟩ := loadS_run (P := P) ht hg henv cl h1
   have h6' : (rvRead a.tmps rv).run P w = .ok v w := by cases rv <;> exact h6
   refine ⟨v :: vs, by simp [List.mapM_cons, h6', h3], ⟨by simp [h4.1], fun j s' hj => ?_⟩, fun id hid => ?_⟩
   ·cases j with
    | zero => simp at hj; subst hj; exact ⟨v, rfl, h7⟩
    | succ j => simpa using h4.2 j s' (by simpa using hj)
   ·simp only [refsT, List.mem_append] at hid
    rcases hid with hid | hid
    ·exact h8 id hid
    ·exact h5 id hid
  ·cases h
theorem results_run {fn : Func} {vs : List Value} (h : (fn.results.toList.mapM (rvRead a.tmps)).run P w = .ok vs w) :
  (results fn a.tmps).run P w = .ok (match vs with | [v] => v | vs => .tuple vs.toArray) w := by
 have e : results fn a.tmps = (do let vs ← fn.results.mapM (rvRead a.tmps); pure (if h : vs.size = 1 then vs[0] else .tuple vs)) := by
  unfold results
  congr 1
 rw [e, Array.mapM_eq_mapM_toList]
 simp only [Sem.run_bind, Sem.run_map, h]
 match vs with
 | [] => rfl
 | [v] => rfl
 | v :: u :: l => rfl
end
end Go.SE

namespace Go.SE
open Go.RowKit
def resMap : (ks : List AK) -> Nat -> List S0 -> List (Nat × Option Nat)
 | k :: ks, id0, s :: ss => (match k, s with
   | .asn, .agg [f, a] => [(id0, src1 f), (id0 + 1, src1 a)]
   | .state, .agg [f, a] => [(id0, src1 f), (id0 + 1, src1 a)]
   | .sl _, .c x => [(id0, src1 x)]
   | .hasn, .agg [_, a] => [(id0, src1 a)]
   | _, _ => []) ++ resMap ks (id0 + 2) ss
 | _, _, _ => []
def lookM : List (Nat × Option Nat) -> Nat -> Option Nat
 | [], _ => none
 | (a, b) :: l, j => if j = a then b else lookM l j
section
variable {P : Program} {E : Ty -> TypeId} {w0 : World} {M : MM} {n : Nat} {st : St} {a : Act} {w : World}
theorem outC_spec {mem : Nat -> Option Res} {t : Ty} {c : CV} {xs : List t.den} {ids : List Nat} (h : outC mem t c = some (xs, ids)) :
  ids = (src1 c).toList /\ (∀ old, src1 c = some old -> c = .own old /\ ∃ f, mem old = some (.sl f t xs)) /\ (src1 c = none -> xs = [] /\ c = .nil) := by
 unfold outC at h
 split at h
 ·rename_i id
  split at h
  ·rename_i f t' ys hm
   split at h
   ·rename_i zs hc
    injection h with h
    injection h with h1 h2
    subst h1 h2
    obtain ⟨rfl, hh⟩ := castL_eq hc
    cases hh
    refine ⟨rfl, fun old ho => ?_, fun h => by cases h⟩
    injection ho with ho
    subst ho
    exact ⟨rfl, f, hm⟩
   ·cases h
  ·cases h
 ·injection h with h
  injection h with h1 h2
  subst h1 h2
  refine ⟨rfl, ?_, ?_⟩
  ·intro old ho; simp [src1] at ho
  ·intro _; exact ⟨rfl, rfl⟩
 ·cases h
theorem rdC_spec {mem : Nat -> Option Res} {t : Ty} {c : CV} {xs : List t.den} {ids : List Nat} (h : rdC mem t c = some (xs, ids)) :
  rdl mem t c = some xs /\ ids = c.refs /\ ∀ id ∈ ids, ∃ f, mem id = some (.sl f t xs) := by
 unfold rdC at h
 split at h
 ·split at h
  ·rename_i zs hc
   injection h with h
   injection h with h1 h2
   subst h1 h2
   exact ⟨hc, rfl, by simp⟩
  ·cases h
 ·rename_i id
  split at h
  ·rename_i f t' ys hm
   split at h
   ·rename_i zs hc
    injection h with h
    injection h with h1 h2
    subst h1 h2
    refine ⟨by simp only [rdl, hm]; exact hc, rfl, fun i hi => ?_⟩
    simp at hi
    subst hi
    obtain ⟨rfl, hh⟩ := castL_eq hc
    cases hh
    exact ⟨f, hm⟩
   ·cases h
  ·cases h
 ·injection h with h
  injection h with h1 h2
  subst h1 h2
  exact ⟨rfl, rfl, by simp⟩
 ·cases h
theorem lookM_of : ∀ {m : List (Nat × Option Nat)} {i : Nat} {s : Option Nat}, (m.map (·.1)).Nodup -> (i, s) ∈ m -> lookM m i = s := by
 intro m
 induction m with
 | nil => intro i s _ h; simp at h
 | cons p m ih =>
  intro i s hnd h
  obtain ⟨a, b⟩ := p
  simp only [List.map_cons, List.nodup_cons] at hnd
  rcases List.mem_cons.1 h with h | h
  ·injection h with h1 h2
   subst h1 h2
   simp [lookM]
  ·have hne : i ≠ a := fun e => hnd.1 (by rw [← e]; exact List.mem_map.2 ⟨(i, s), h, rfl⟩)
   simp only [lookM, if_neg hne]
   exact ih hnd.2 h
theorem resMap_diff : ∀ {m : List (Nat × Option Nat)}, (m.filterMap (·.2)).Nodup -> ∀ {i j x : Nat}, (i, some x) ∈ m -> (j, some x) ∈ m -> i = j := by
 intro m
 induction m with
 | nil => intro _ i j x h; simp at h
 | cons p m ih =>
  intro hnd i j x hi hj
  obtain ⟨a, b⟩ := p
  cases b with
  | none =>
   simp at hi hj hnd
   exact ih hnd hi hj
  | some y =>
   simp only [List.filterMap_cons, List.nodup_cons] at hnd
   rcases List.mem_cons.1 hi with hi2 | hi2 <;> rcases List.mem_cons.1 hj with hj2 | hj2
   ·injection hi2 with h1 h2; injection hj2 with h3 h4; rw [h1, h3]
   ·injection hi2 with h1 h2; injection h2 with h2; subst h2
    exact (hnd.1 (List.mem_filterMap.2 ⟨(j, some x), hj2, rfl⟩)).elim
   ·injection hj2 with h1 h2; injection h2 with h2; subst h2
    exact (hnd.1 (List.mem_filterMap.2 ⟨(i, some x), hi2, rfl⟩)).elim
   ·exact ih hnd.2 hi2 hj2
theorem resMap_range : ∀ (ks : List AK) (id0 : Nat) (ss : List S0) (p : Nat × Option Nat), p ∈ resMap ks id0 ss -> id0 <= p.1 := by
 intro ks
 induction ks with
 | nil => intro id0 ss p h; simp [resMap] at h
 | cons k ks ih =>
  intro id0 ss p h
  cases ss with
  | nil => simp [resMap] at h
  | cons s ss =>
   simp only [resMap, List.mem_append] at h
   rcases h with h | h
   ·split at h
    ·simp at h; rcases h with rfl | rfl <;> simp
    ·simp at h; rcases h with rfl | rfl <;> simp
    ·simp at h; subst h; simp
    ·simp at h; subst h; simp
    ·simp at h
   ·have := ih _ _ _ h; omega
theorem resMap_nodup : ∀ (ks : List AK) (id0 : Nat) (ss : List S0), ((resMap ks id0 ss).map (·.1)).Nodup := by
 intro ks
 induction ks with
 | nil => intro id0 ss; simp [resMap]
 | cons k ks ih =>
  intro id0 ss
  cases ss with
  | nil => simp [resMap]
  | cons s ss =>
   simp only [resMap, List.map_append]
   refine List.nodup_append.2 ⟨?_, ih _ _, ?_⟩
   ·split <;> simp
   ·intro x hx y hy
    have h2 : id0 + 2 <= y := by
     obtain ⟨p, hp, rfl⟩ := List.mem_map.1 hy
     exact resMap_range _ _ _ _ hp
    have h1 : x < id0 + 2 := by
     split at hx
     ·simp at hx; omega
     ·simp at hx; omega
     ·simp at hx; omega
     ·simp at hx; omega
     ·simp at hx
    omega
theorem outC_R {mem : Nat -> Option Res} {g g' : G} {t : Ty} {c : CV} {xs : List t.den} {ids : List Nat} (h : outC mem t c = some (xs, ids)) {v : Value} (hc : c.R g v) {i : Nat}
  (hm : (∀ old, src1 c = some old -> g'.κ i = g.κ old) /\ (src1 c = none -> g'.κ i = .slice none 0 0)) : (CV.own i).R g' v := by
 obtain ⟨_, h1, h2⟩ := outC_spec h
 cases hs : src1 c with
 | some old =>
  obtain ⟨rfl, _⟩ := h1 old hs
  exact ⟨by rw [hm.1 old hs]; exact hc.1, hc.2⟩
 | none =>
  obtain ⟨_, rfl⟩ := h2 hs
  have hc : v = _ := hc
  subst hc
  exact ⟨(hm.2 hs).symm, rfl⟩
theorem rdC_R {mem : Nat -> Option Res} {g g' : G} (hro : ∀ b vs, g.ro b = some vs -> g'.ro b = some vs) {t : Ty} {c : CV} {xs : List t.den} {ids : List Nat} (h : rdC mem t c = some (xs, ids)) {v : Value} (hc : c.R g v)
  (hfz : ∀ id ∈ ids, ∀ f t xs, mem id = some (.sl f t xs) -> DR g'.ro (.arr t xs) (g.κ id)) : DR g'.ro (.arr t xs) v := by
 obtain ⟨h1, h2, h3⟩ := rdC_spec h
 subst h2
 refine rdl_DR hro h1 hc fun id hid => ⟨hfz id hid, fun t' xs' hm => ?_⟩
 obtain ⟨f, h4⟩ := h3 id hid
 rw [hm] at h4
 cases h4
theorem decR_R {mem : Nat -> Option Res} {g g' : G} (hro : ∀ b vs, g.ro b = some vs -> g'.ro b = some vs) (hρ : g'.ρ = g.ρ) {k : AK} {s : S0} {x : k.den} {out fz : List Nat} (h : decR mem k s = some (x, out, fz)) {v : Value} (hs : s.R g v) {id0 : Nat} {rest : List (Nat × Option Nat)}
  (hfz : ∀ id ∈ fz, ∀ f t xs, mem id = some (.sl f t xs) -> DR g'.ro (.arr t xs) (g.κ id))
  (hmap : ∀ i src, (i, src) ∈ resMap [k] id0 [s] -> (∀ old, src = some old -> g'.κ i = g.κ old) /\ (src = none -> g'.κ i = .slice none 0 0)) :
  (k.res id0 x).1.R g' v /\ out = (resMap [k] id0 [s]).filterMap (·.2) /\
  (∀ id q, (id, q) ∈ (k.res id0 x).2 -> ∃ src t xs, (id, src) ∈ resMap [k] id0 [s] /\ q = .sl id t xs /\ (∀ old, src = some old -> ∃ f, mem old = some (.sl f t xs)) /\ (src = none -> xs = [])) /\ (∀ id ∈ fz, ∃ f t xs, mem id = some (.sl f t xs)) := by
 have keep : s.refs = [] -> s.R g' v := fun e => S0.R.mono (g := g) (g' := g') hro hρ (fun id hid => by rw [e] at hid; cases hid) hs
 have sc : ∀ (x : DC) (v : Value), (CV.d x).R g v -> (CV.d x).R g' v := fun x v h => DR.mono hro h
 have triv : ∀ {k : AK} {s : S0} {x : k.den}, (∀ y, (k.res id0 y).2 = []) -> (resMap [k] id0 [s]).filterMap (·.2) = [] -> (resMap [k] id0 [s]) = [] -> (k.res id0 x).1.R g' v ->
   (k.res id0 x).1.R g' v /\ ([] : List Nat) = (resMap [k] id0 [s]).filterMap (·.2) /\
   (∀ id q, (id, q) ∈ (k.res id0 x).2 -> ∃ src t xs, (id, src) ∈ resMap [k] id0 [s] /\ q = .sl id t xs /\ (∀ old, src = some old -> ∃ f, mem old = some (.sl f t xs)) /\ (src = none -> xs = [])) := by
  intro k s x h1 h2 _ h3
  exact ⟨h3, h2.symm, fun id q hq => by rw [h1] at hq; cases hq⟩
 unfold decR at h
 split at h
 case h_1 => injection h with h; injection h with h1 h2; injection h2 with h2 h3; subst h1 h2 h3; exact ⟨keep rfl, rfl, by simp [AK.res], by simp⟩
 case h_2 => injection h with h; injection h with h1 h2; injection h2 with h2 h3; subst h1 h2 h3; exact ⟨keep rfl, rfl, by simp [AK.res], by simp⟩
 case h_3 => injection h with h; injection h with h1 h2; injection h2 with h2 h3; subst h1 h2 h3; exact ⟨keep rfl, rfl, by simp [AK.res], by simp⟩
 case h_4 => injection h with h; injection h with h1 h2; injection h2 with h2 h3; subst h1 h2 h3; exact ⟨keep rfl, rfl, by simp [AK.res], by simp⟩
 case h_5 => injection h with h; injection h with h1 h2; injection h2 with h2 h3; subst h1 h2 h3; exact ⟨keep rfl, rfl, by simp [AK.res], by simp⟩
 case h_6 => injection h with h; injection h with h1 h2; injection h2 with h2 h3; subst h1 h2 h3; exact ⟨keep rfl, rfl, by simp [AK.res], by simp⟩
 case h_7 => injection h with h; injection h with h1 h2; injection h2 with h2 h3; subst h1 h2 h3; exact ⟨keep rfl, rfl, by simp [AK.res], by simp⟩
 case h_8 f a =>
  split at h
  ·rename_i fs i as j e1 e2
   injection h with h; injection h with h1 h2; injection h2 with h2 h3; subst h1 h2 h3
   obtain ⟨us, rfl, hc⟩ := hs
   have m1 := hmap id0 (src1 f) (by simp [resMap])
   have m2 := hmap (id0 + 1) (src1 a) (by simp [resMap])
   obtain ⟨o1, o2, o3⟩ := outC_spec e1
   obtain ⟨p1, p2, p3⟩ := outC_spec e2
   refine ⟨⟨us, rfl, hc.conv (.cons (fun v hv => outC_R e1 hv m1) (.cons (fun v hv => outC_R e2 hv m2) .nil))⟩, ?_, ?_, by simp⟩
   ·rw [o1, p1]; simp only [resMap]; generalize src1 f = X; generalize src1 a = Y; cases X <;> cases Y <;> rfl
   ·intro id q hq
    simp [AK.res] at hq
    rcases hq with ⟨rfl, rfl⟩ | ⟨rfl, rfl⟩
    ·exact ⟨src1 f, _, _, by simp [resMap], rfl, fun old ho => (o2 old ho).2, fun ho => (o3 ho).1⟩
    ·exact ⟨src1 a, _, _, by simp [resMap], rfl, fun old ho => (p2 old ho).2, fun ho => (p3 ho).1⟩
  ·cases h
 case h_9 f a =>
  split at h
  ·rename_i fs i as j e1 e2
   injection h with h; injection h with h1 h2; injection h2 with h2 h3; subst h1 h2 h3
   obtain ⟨us, rfl, hc⟩ := hs
   have m1 := hmap id0 (src1 f) (by simp [resMap])
   have m2 := hmap (id0 + 1) (src1 a) (by simp [resMap])
   obtain ⟨o1, o2, o3⟩ := outC_spec e1
   obtain ⟨p1, p2, p3⟩ := outC_spec e2
   refine ⟨⟨us, rfl, hc.conv (.cons (fun v hv => outC_R e1 hv m1) (.cons (fun v hv => outC_R e2 hv m2) .nil))⟩, ?_, ?_, by simp⟩
   ·rw [o1, p1]; simp only [resMap]; generalize src1 f = X; generalize src1 a = Y; cases X <;> cases Y <;> rfl
   ·intro id q hq
    simp [AK.res] at hq
    rcases hq with ⟨rfl, rfl⟩ | ⟨rfl, rfl⟩
    ·exact ⟨src1 f, _, _, by simp [resMap], rfl, fun old ho => (o2 old ho).2, fun ho => (o3 ho).1⟩
    ·exact ⟨src1 a, _, _, by simp [resMap], rfl, fun old ho => (p2 old ho).2, fun ho => (p3 ho).1⟩
  ·cases h
 case h_10 =>
  split at h
  ·rename_i e1 e2 e3 e4
   injection h with h; injection h with h1 h2; injection h2 with h2 h3; subst h1 h2 h3
   obtain ⟨us, rfl, hc⟩ := hs
   refine ⟨⟨us, rfl, hc.conv (.cons (sc _) (.cons (sc _) (.cons (sc _) (.cons (sc _) (.cons (sc _) (.cons (sc _)
    (.cons (fun v hv => rdC_R hro e1 hv fun id hid => hfz id (by simp [hid])) (.cons (fun v hv => rdC_R hro e2 hv fun id hid => hfz id (by simp [hid]))
    (.cons (fun v hv => rdC_R hro e3 hv fun id hid => hfz id (by simp [hid])) (.cons (fun v hv => rdC_R hro e4 hv fun id hid => hfz id (by simp [hid])) .nil))))))))))⟩, rfl, by simp [AK.res], ?_⟩
   intro id hid
   simp only [List.mem_append] at hid
   rcases hid with hid | hid | hid | hid
   ·obtain ⟨f, h⟩ := (rdC_spec e1).2.2 id hid; exact ⟨f, _, _, h⟩
   ·obtain ⟨f, h⟩ := (rdC_spec e2).2.2 id hid; exact ⟨f, _, _, h⟩
   ·obtain ⟨f, h⟩ := (rdC_spec e3).2.2 id hid; exact ⟨f, _, _, h⟩
   ·obtain ⟨f, h⟩ := (rdC_spec e4).2.2 id hid; exact ⟨f, _, _, h⟩
  ·cases h
 case h_11 t c =>
  split at h
  ·rename_i xs i e1
   injection h with h; injection h with h1 h2; injection h2 with h2 h3; subst h1 h2 h3
   have m1 := hmap id0 (src1 c) (by simp [resMap])
   obtain ⟨o1, o2, o3⟩ := outC_spec e1
   refine ⟨outC_R e1 hs m1, ?_, ?_, by simp⟩
   ·rw [o1]; simp only [resMap]; generalize src1 c = X; cases X <;> rfl
   ·intro id q hq
    simp [AK.res] at hq
    obtain ⟨rfl, rfl⟩ := hq
    exact ⟨src1 c, _, _, by simp [resMap], rfl, fun old ho => (o2 old ho).2, fun ho => (o3 ho).1⟩
  ·cases h
 case h_12 => injection h with h; injection h with h1 h2; injection h2 with h2 h3; subst h1 h2 h3; exact ⟨keep rfl, rfl, by simp [AK.res], by simp⟩
 case h_13 f a =>
  split at h
  ·rename_i fs i as j e1 e2
   injection h with h; injection h with h1 h2; injection h2 with h2 h3; subst h1 h2 h3
   obtain ⟨us, rfl, hc⟩ := hs
   refine ⟨⟨us, rfl, hc.conv (.cons (fun v hv => rdC_R hro e1 hv fun id hid => hfz id (by simp [hid])) (.cons (fun v hv => rdC_R hro e2 hv fun id hid => hfz id (by simp [hid])) .nil))⟩, rfl, by simp [AK.res], ?_⟩
   intro id hid
   rcases List.mem_append.1 hid with hid | hid
   ·obtain ⟨f, h⟩ := (rdC_spec e1).2.2 id hid; exact ⟨f, _, _, h⟩
   ·obtain ⟨f, h⟩ := (rdC_spec e2).2.2 id hid; exact ⟨f, _, _, h⟩
  ·cases h
 case h_14 f a =>
  split at h
  ·rename_i fs i as j e1 e2
   injection h with h; injection h with h1 h2; injection h2 with h2 h3; subst h1 h2 h3
   obtain ⟨us, rfl, hc⟩ := hs
   refine ⟨⟨us, rfl, hc.conv (.cons (fun v hv => rdC_R hro e1 hv fun id hid => hfz id (by simp [hid])) (.cons (fun v hv => rdC_R hro e2 hv fun id hid => hfz id (by simp [hid])) .nil))⟩, rfl, by simp [AK.res], ?_⟩
   intro id hid
   rcases List.mem_append.1 hid with hid | hid
   ·obtain ⟨f, h⟩ := (rdC_spec e1).2.2 id hid; exact ⟨f, _, _, h⟩
   ·obtain ⟨f, h⟩ := (rdC_spec e2).2.2 id hid; exact ⟨f, _, _, h⟩
  ·cases h
 case h_15 t c =>
  split at h
  ·rename_i xs i e1
   injection h with h; injection h with h1 h2; injection h2 with h2 h3; subst h1 h2 h3
   exact ⟨rdC_R hro e1 hs hfz, rfl, by simp [AK.res], fun id hid => by obtain ⟨f, h⟩ := (rdC_spec e1).2.2 id hid; exact ⟨f, _, _, h⟩⟩
  ·cases h
 case h_16 f a =>
  split at h
  ·rename_i fs i as j e1 e2
   injection h with h; injection h with h1 h2; injection h2 with h2 h3; subst h1 h2 h3
   obtain ⟨us, rfl, hc⟩ := hs
   have m2 := hmap id0 (src1 a) (by simp [resMap])
   obtain ⟨p1, p2, p3⟩ := outC_spec e2
   refine ⟨⟨us, rfl, hc.conv (.cons (fun v hv => rdC_R hro e1 hv fun id hid => hfz id hid) (.cons (fun v hv => outC_R e2 hv m2) .nil))⟩, ?_, ?_, fun id hid => by obtain ⟨f, h⟩ := (rdC_spec e1).2.2 id hid; exact ⟨f, _, _, h⟩⟩
   ·rw [p1]; simp only [resMap]; generalize src1 a = Y; cases Y <;> rfl
   ·intro id q hq
    simp [AK.res] at hq
    obtain ⟨rfl, rfl⟩ := hq
    exact ⟨src1 a, _, _, by simp [resMap], rfl, fun old ho => (p2 old ho).2, fun ho => (p3 ho).1⟩
  ·cases h
 case h_17 => cases h
end
end Go.SE

namespace Go.SE
open Go.RowKit
section
variable {P : Program} {E : Ty -> TypeId} {tab : TypeId -> Option TI} {K : FuncId -> Option Con} {anns : Nat -> Option Ann} {w0 : World} {M : MM} {n : Nat} {st : St} {a : Act} {w : World}
theorem resMap_cons (k : AK) (ks : List AK) (id0 : Nat) (s : S0) (ss : List S0) : resMap (k :: ks) id0 (s :: ss) = resMap [k] id0 [s] ++ resMap ks (id0 + 2) ss := by
 simp [resMap]
theorem decRs_R {mem : Nat -> Option Res} {g g' : G} (hro : ∀ b vs, g.ro b = some vs -> g'.ro b = some vs) (hρ : g'.ρ = g.ρ) : ∀ {ks : List AK} {ss : List S0} {r : Args ks} {out fz : List Nat} {id0 : Nat} {vs : List Value}, decRs mem ks ss = some (r, out, fz) -> ArgsR g ss vs ->
  (∀ id ∈ fz, ∀ f t xs, mem id = some (.sl f t xs) -> DR g'.ro (.arr t xs) (g.κ id)) ->
  (∀ i src, (i, src) ∈ resMap ks id0 ss -> (∀ old, src = some old -> g'.κ i = g.κ old) /\ (src = none -> g'.κ i = .slice none 0 0)) ->
  ArgsR g' (ress ks id0 r).1 vs /\ out = (resMap ks id0 ss).filterMap (·.2) /\
  (∀ id q, (id, q) ∈ (ress ks id0 r).2 -> ∃ src t xs, (id, src) ∈ resMap ks id0 ss /\ q = .sl id t xs /\ (∀ old, src = some old -> ∃ f, mem old = some (.sl f t xs)) /\ (src = none -> xs = [])) /\ (∀ id ∈ fz, ∃ f t xs, mem id = some (.sl f t xs)) := by
 intro ks
 induction ks with
 | nil =>
  intro ss r out fz id0 vs h hv _ _
  cases ss with
  | nil =>
   simp only [decRs, Option.some.injEq, Prod.mk.injEq] at h
   obtain ⟨_, rfl, rfl⟩ := h
   exact ⟨⟨hv.1, by simp [ress]⟩, rfl, by simp [ress], by simp⟩
  | cons s ss => simp [decRs] at h
 | cons k ks ih =>
  intro ss r out fz id0 vs h hv hfz hmap
  cases ss with
  | nil => simp [decRs] at h
  | cons s ss =>
   simp only [decRs] at h
   split at h
   ·rename_i x i f xs j g1 h1 h2
    injection h with h
    injection h with h3 h4
    injection h4 with h4 h5
    subst h3 h4 h5
    obtain ⟨v, hv0, hvr⟩ := hv.2 0 s rfl
    cases vs with
    | nil => simp at hv0
    | cons v' vs =>
     simp at hv0
     subst hv0
     have hvs : ArgsR g ss vs := ⟨by have := hv.1; simpa using this, fun j s hj => by simpa using hv.2 (j + 1) s (by simpa using hj)⟩
     rw [resMap_cons] at hmap
     obtain ⟨a1, a2, a3, a4⟩ := decR_R (rest := []) hro hρ h1 hvr (fun id hid => hfz id (by simp [hid])) fun i src hi => hmap i src (List.mem_append_left _ hi)
     obtain ⟨b1, b2, b3, b4⟩ := ih h2 hvs (fun id hid => hfz id (by simp [hid])) fun i src hi => hmap i src (List.mem_append_right _ hi)
     rw [resMap_cons]
     refine ⟨⟨by simp [ress, b1.1], fun j s' hj => ?_⟩, by rw [List.filterMap_append, ← a2, ← b2], fun id q hq => ?_, fun id hid => ?_⟩
     ·cases j with
      | zero => simp [ress] at hj; subst hj; exact ⟨v', rfl, a1⟩
      | succ j => simpa using b1.2 j s' (by simpa [ress] using hj)
     ·simp only [ress, List.mem_append] at hq
      rcases hq with hq | hq
      ·obtain ⟨src, t, xs', c1, c2⟩ := a3 id q hq
       exact ⟨src, t, xs', List.mem_append_left _ c1, c2⟩
      ·obtain ⟨src, t, xs', c1, c2⟩ := b3 id q hq
       exact ⟨src, t, xs', List.mem_append_right _ c1, c2⟩
     ·rcases List.mem_append.1 hid with hid | hid
      ·exact a4 id hid
      ·exact b4 id hid
   ·cases h
theorem pack1_R {g : G} {l : List S0} {vs : List Value} (h : ArgsR g l vs) : (pack1 l).R g (match vs with | [v] => v | vs => .tuple vs.toArray) := by
 obtain ⟨h1, h2⟩ := h
 match l, vs with
 | [], [] => exact ⟨#[], rfl, rfl, by simp⟩
 | [x], [v] =>
  obtain ⟨u, hu, hr⟩ := h2 0 x rfl
  simp at hu
  subst hu
  exact hr
 | x :: y :: l, v :: u :: vs =>
  refine ⟨(v :: u :: vs).toArray, rfl, by simpa using h1, fun j s hj => ?_⟩
  obtain ⟨q, hq, hr⟩ := h2 j s hj
  exact ⟨q, by simpa using hq, hr⟩
 | [], _ :: _ => simp at h1
 | [_], [] => simp at h1
 | [_], _ :: _ :: _ => simp at h1
 | _ :: _ :: _, [] => simp at h1
 | _ :: _ :: _, [_] => simp at h1
theorem notFrozen_mem : ∀ {l : List Nat}, notFrozen st l -> ∀ id ∈ l, st.sp id = false /\ st.fr id = false := by
 intro l
 induction l with
 | nil => intro _ j h; simp at h
 | cons x l ih => intro h j hj; rcases List.mem_cons.1 hj with rfl | hj; exact h.1; exact ih h.2 j hj
theorem apartL_mem {fz : List Nat} : ∀ {l : List Nat}, apartL fz l -> ∀ id ∈ l, id ∉ fz := by
 intro l
 induction l with
 | nil => intro _ j h; simp at h
 | cons x l ih => intro h j hj; rcases List.mem_cons.1 hj with rfl | hj; exact notIn_mem h.1; exact ih h.2 j hj
end
end Go.SE

namespace Go.SE
open Go.RowKit
section
variable {P : Program} {E : Ty -> TypeId} {tab : TypeId -> Option TI} {K : FuncId -> Option Con} {anns : Nat -> Option Ann}
theorem enc_refs (k : AK) (x : k.den) : (k.enc x).refs = [] := by
 cases k
 case cmd => cases x; rfl
 all_goals rfl
theorem encs_refs : ∀ (ks : List AK) (x : Args ks) (j : Nat) (s : S0), (encs ks x)[j]? = some s -> s.refs = [] := by
 intro ks
 induction ks with
 | nil => intro x j s h; simp [encs] at h
 | cons k ks ih =>
  intro x j s h
  obtain ⟨x, xs⟩ := x
  cases j with
  | zero => simp [encs] at h; subst h; exact enc_refs k x
  | succ j => exact ih xs j s (by simpa [encs] using h)
theorem envOf_cases (l : List S0) (k j : Nat) : envOf l k j = junk ∨ ∃ i s, l[i]? = some s /\ j = k + i /\ envOf l k j = .s s := by
 induction l generalizing k with
 | nil => exact .inl rfl
 | cons s l ih =>
  simp only [envOf]
  split
  ·rename_i e; exact .inr ⟨0, s, rfl, by omega, rfl⟩
  ·rcases ih (k + 1) with h | ⟨i, s', h1, h2, h3⟩
   ·exact .inl h
   ·exact .inr ⟨i + 1, s', by simpa using h1, by omega, h3⟩
def rdOf (h : Bool) (k : Nat) : Option Nat :=
 match h with
 | true => some k
 | false => none
def MOf (h : Bool) (ρ : Nat) (ro0 : Nat -> Option (Array Value)) : MM := ⟨fun b => h = true /\ b = ρ, ro0, ρ, fun _ => none, fun _ => none, fun _ => none⟩
theorem entry_rel {w0 : World} {ro0 : Nat -> Option (Array Value)} {ρ k n : Nat} {ks : List AK} {x : Args ks} {vs : List Value} {h : Bool} (hin : ROin w0 ro0) (hrd : h = true -> RdOk w0 ro0 ρ k) (hargs : ArgsR (argG ro0 ρ) (encs ks x) vs) (hn : vs.length <= n) :
  Rel E w0 (MOf h ρ ro0) n (entry (encs ks x) (rdOf h k)) { tmps := vs.toArray ++ Array.replicate (n - vs.toArray.size) undef, defers := [] } w0 := by
 have hgood : Good E w0 (MOf h ρ ro0) (argG ro0 ρ) (entry (encs ks x) (rdOf h k)) w0 := by
  refine ⟨Ext.refl _ _, hin, (fun id r hr => by cases hr), (fun i j r s hi => by cases hi), (fun id r hr => by cases hr), (fun id r hr => by cases hr), ?_, ?_, (fun b vs hb => .inl hb), rfl, (fun id v hv => by cases hv), ⟨fun id v hv => (by cases hv), fun b vs hv => (by cases hv)⟩⟩
  ·intro m hm
   cases h with
   | false => simp [entry, rdOf] at hm
   | true =>
    simp [entry, rdOf] at hm
    subst hm
    exact ⟨hrd rfl, .inr ⟨rfl, rfl⟩, fun id r hr => (by cases hr)⟩
  ·intro _ v p ty hh
   exact ⟨p, ty, hh⟩
 refine ⟨⟨?_, fun j r hj => by cases hj⟩, by simp; omega, rfl, argG ro0 ρ, hgood, ?_⟩
 ·intro j id hid
  exfalso
  have e : (entry (encs ks x) (rdOf h k)).env j = envOf (encs ks x) 0 j := rfl
  rw [e] at hid
  rcases envOf_cases (encs ks x) 0 j with h1 | ⟨i, s, h1, _, h3⟩
  ·rw [h1] at hid; simp [junk, S.refs, S0.refs, CV.refs] at hid
  ·rw [h3] at hid
   simp only [S.refs] at hid
   rw [encs_refs ks x i s h1] at hid
   cases hid
 ·intro j
  have e : (entry (encs ks x) (rdOf h k)).env j = envOf (encs ks x) 0 j := rfl
  rw [e]
  rcases envOf_cases (encs ks x) 0 j with h1 | ⟨i, s, h1, h2, h3⟩
  ·rw [h1]; trivial
  ·rw [h3]
   obtain ⟨v, h4, h5⟩ := hargs.2 i s h1
   have hj : j = i := by omega
   subst hj
   have hlt : j < vs.length := (List.getElem?_eq_some_iff.1 h4).1
   have : (vs.toArray ++ Array.replicate (n - vs.toArray.size) undef).getD j undef = v := by
    rw [Array.getD_eq_getD_getElem?, Array.getElem?_append_left (by simpa using hlt)]
    simp [h4]
   show S.R _ _ ((vs.toArray ++ Array.replicate (n - vs.toArray.size) undef).getD j undef)
   rw [this]
   exact h5
theorem decRs_fz {mem : Nat -> Option Res} : ∀ {ks : List AK} {ss : List S0} {r : Args ks} {out fz : List Nat}, decRs mem ks ss = some (r, out, fz) -> ∀ id ∈ fz, ∃ f t xs, mem id = some (.sl f t xs) := by
 have one : ∀ {k : AK} {s : S0} {x : k.den} {out fz : List Nat}, decR mem k s = some (x, out, fz) -> ∀ id ∈ fz, ∃ f t xs, mem id = some (.sl f t xs) := by
  intro k s x out fz h id hid
  unfold decR at h
  split at h
  all_goals first
   | (injection h with h; injection h with _ h; injection h with _ h; subst h; cases hid; done)
   | (split at h
      ·injection h with h; injection h with _ h; injection h with _ h; subst h; cases hid; done
      ·cases h)
   | (split at h
      ·rename_i e1 e2 e3 e4
       injection h with h; injection h with _ h; injection h with _ h; subst h
       simp only [List.mem_append] at hid
       rcases hid with hid | hid | hid | hid
       ·obtain ⟨f, h⟩ := (rdC_spec e1).2.2 id hid; exact ⟨f, _, _, h⟩
       ·obtain ⟨f, h⟩ := (rdC_spec e2).2.2 id hid; exact ⟨f, _, _, h⟩
       ·obtain ⟨f, h⟩ := (rdC_spec e3).2.2 id hid; exact ⟨f, _, _, h⟩
       ·obtain ⟨f, h⟩ := (rdC_spec e4).2.2 id hid; exact ⟨f, _, _, h⟩
      ·cases h)
   | (split at h
      ·rename_i e1 e2
       injection h with h; injection h with _ h; injection h with _ h; subst h
       simp only [List.mem_append] at hid
       rcases hid with hid | hid
       ·obtain ⟨f, h⟩ := (rdC_spec e1).2.2 id hid; exact ⟨f, _, _, h⟩
       ·obtain ⟨f, h⟩ := (rdC_spec e2).2.2 id hid; exact ⟨f, _, _, h⟩
      ·cases h)
   | (split at h
      ·rename_i e1 e2
       injection h with h; injection h with _ h; injection h with _ h; subst h
       exact ((rdC_spec e1).2.2 id hid).elim fun f h => ⟨f, _, _, h⟩
      ·cases h)
   | (split at h
      ·rename_i e1
       injection h with h; injection h with _ h; injection h with _ h; subst h
       obtain ⟨f, h⟩ := (rdC_spec e1).2.2 id hid; exact ⟨f, _, _, h⟩
      ·cases h)
   | cases h
 intro ks
 induction ks with
 | nil =>
  intro ss r out fz h id hid
  cases ss with
  | nil => simp only [decRs, Option.some.injEq, Prod.mk.injEq] at h; obtain ⟨_, _, rfl⟩ := h; cases hid
  | cons s ss => simp [decRs] at h
 | cons k ks ih =>
  intro ss r out fz h id hid
  cases ss with
  | nil => simp [decRs] at h
  | cons s ss =>
   simp only [decRs] at h
   split at h
   ·rename_i x i f xs j g1 h1 h2
    injection h with h; injection h with _ h; injection h with _ h; subst h
    rcases List.mem_append.1 hid with hid | hid
    ·exact one h1 id hid
    ·exact ih h2 id hid
   ·cases h
theorem exit_ok {w0 w : World} {ro0 : Nat -> Option (Array Value)} {ρ k n : Nat} (id0 : Nat) {con : Con} {x : Args con.aks} {st : St} {a : Act} {fn : Func} (ht : TabOk P E tab) (hin : ROin w0 ro0) (hrd : hasRdr con.aks = true -> RdOk w0 ro0 ρ k)
  (h : Rel E w0 (MOf (hasRdr con.aks) ρ ro0) n st a w) (hv : retOk tab con fn.results.toList x k .ret st) :
  ∃ v, (results fn a.tmps).run P w = .ok v w /\ ∃ r g, con.post x r /\ Ext (fun b => hasRdr con.aks = true /\ b = ρ) w0 w /\ g.ρ = ρ /\ ResOk E w0 w ro0 con.rks id0 r v g /\ (hasRdr con.aks = true -> RdStep w0 w ρ (k + con.cost x)) := by
 obtain ⟨g, hg, henv⟩ := h.good
 simp only [retOk] at hv
 split at hv
 ·exact hv.elim
 ·rename_i ss hss
  split at hv
  ·exact hv.elim
  ·rename_i r out fz hdec
   obtain ⟨hpost, hdiff, hnf, hns, hap, hend⟩ := hv
   obtain ⟨vs, hrun, hargs, hrefs⟩ := loads_run (P := P) ht hg henv h.cl hss
   have hfzm := decRs_fz hdec
   obtain ⟨ro', hro1, hdr, hg1⟩ := hg.freeze fz fun id hid => ⟨notSpent_mem hns id hid, hfzm id hid⟩
   have hρ : g.ρ = ρ := hg.rho
   have hrdm : hasRdr con.aks = true -> ∃ m, st.rd = some m /\ m <= k + con.cost x := by
    intro hh
    unfold rdEnd at hend
    split at hend
    ·rename_i m hm; exact ⟨m, hm, hend⟩
    ·rw [hh] at hend; cases hend
   have hsame : ∀ b, b < w0.heap.size -> ro0 b ≠ none -> w.heap[b]? = w0.heap[b]? := by
    intro b hb hne
    refine hg.ext.block b hb fun ⟨hh, e⟩ => ?_
    subst e
    exact hne (hrd hh).out
   let roF : Nat -> Option (Array Value) := fun b => match ro0 b with
    | some v => some v
    | none => ro' b
   have hroF0 : ∀ b vs, ro0 b = some vs -> roF b = some vs := fun b vs hb => by simp [roF, hb]
   have hroF1 : ∀ b vs, ro' b = some vs -> roF b = some vs := by
    intro b vs hb
    cases h0 : ro0 b with
    | none => simp [roF, h0, hb]
    | some vs0 =>
     obtain ⟨ty, fz', h1⟩ := hin b vs0 h0
     obtain ⟨ty2, fz2, h2⟩ := hg1.ro b vs hb
     rw [hsame b (lt_of_some h1) (by simp [h0]), h1] at h2
     simp at h2
     simp [roF, h0, h2.1]
   have hroFn : ∀ b, ro0 b = none -> ro' b = none -> roF b = none := fun b h1 h2 => by simp [roF, h1, h2]
   have hg1rd : hasRdr con.aks = true -> ro' ρ = none := by
    intro hh
    obtain ⟨m, hm, _⟩ := hrdm hh
    have := (hg1.rd m hm).1.out
    have e : ({ g with ro := ro' } : G).ρ = ρ := hρ
    rw [e] at this
    exact this
   let mp := resMap con.rks id0 ss
   let g' : G := { ro := roF, κ := fun i => match lookM mp i with | some old => g.κ old | none => .slice none 0 0, ln := fun i => match lookM mp i with | some old => g.ln old | none => 0, ρ := g.ρ }
   have hlook : ∀ i src, (i, src) ∈ mp -> lookM mp i = src := fun i src hi => lookM_of (resMap_nodup _ _ _) hi
   obtain ⟨a1, a2, a3, _⟩ := decRs_R (g := g) (g' := g') (id0 := id0) (fun b vs hb => hroF1 b vs (hro1 b vs hb)) rfl hdec hargs (fun id hid f t xs hm => (hdr id hid f t xs hm).mono hroF1)
    (fun i src hi => ⟨fun old ho => by simp [g', hlook i src hi, ho], fun ho => by simp [g', hlook i src hi, ho]⟩)
   have hnd : (mp.filterMap (·.2)).Nodup := by rw [← a2]; exact allDiff_nodup hdiff
   have hout : ∀ i old, (i, some old) ∈ mp -> old ∈ out := fun i old hi => by rw [a2]; exact List.mem_filterMap.2 ⟨(i, some old), hi, rfl⟩
   have key : ∀ (l : List S0) (vs : List Value), ArgsR g' l vs -> (pack1 l).R g' (match vs with | [v] => v | vs => .tuple vs.toArray) := by
    intro l vs h
    have := pack1_R h
    rcases vs with _ | ⟨v, _ | ⟨u, l⟩⟩ <;> exact this
   have key2 : ∀ (vs : List Value), (fn.results.toList.mapM (rvRead a.tmps)).run P w = .ok vs w -> (results fn a.tmps).run P w = .ok (match vs with | [v] => v | vs => .tuple vs.toArray) w := by
    intro vs h
    have := results_run h
    rcases vs with _ | ⟨v, _ | ⟨u, l⟩⟩ <;> exact this
   refine ⟨_, key2 _ hrun, r, g', hpost, hg.ext, hρ, ?_, ?_⟩
   ·refine ⟨hroF0, ?_, key _ _ a1, ?_, ?_, ?_⟩
    ·intro b vs hb
     have hb : roF b = some vs := hb
     cases h0 : ro0 b with
     | some vs0 =>
      rw [hroF0 b vs0 h0] at hb
      exact .inl hb
     | none =>
      have hb' : ro' b = some vs := by simpa [roF, h0] using hb
      rcases hg1.roo b vs hb' with h1 | h1 | ⟨hh, e⟩
      ·have h1 : ro0 b = some vs := h1
       rw [h0] at h1; cases h1
      ·exact .inr ⟨h1, hg1.ro b vs hb'⟩
      ·subst e
       rw [hg1rd hh] at hb'; cases hb'
    ·intro id q hq
     obtain ⟨src, t, xs, h1, h2, h3, h4⟩ := a3 id q hq
     subst h2
     cases src with
     | none =>
      have := h4 rfl
      subst this
      exact ⟨by simp [g', hlook id none h1], .inl ⟨by simp [g', hlook id none h1], rfl⟩⟩
     | some old =>
      obtain ⟨f, hm⟩ := h3 old rfl
      obtain ⟨hl, hres⟩ := hg.res _ _ hm
      have e1 : g'.κ id = g.κ old := by simp [g', hlook id _ h1]
      have e2 : g'.ln id = g.ln old := by simp [g', hlook id _ h1]
      refine ⟨by rw [e2]; exact hl, ?_⟩
      rw [e1]
      rcases hres with hres | ⟨b, cap, cur, h5, h6, h7, h8, h9, h10⟩
      ·exact .inl hres
      ·exact .inr ⟨b, cap, cur, h5, h6, h7, h8, h9, h10.mono fun b vs hb => hroF1 b vs (hro1 b vs hb)⟩
    ·intro id q hq b hb
     obtain ⟨src, t, xs, h1, h2, h3, h4⟩ := a3 id q hq
     cases src with
     | none =>
      have e : g'.κ id = .slice none 0 0 := by simp [g', hlook id none h1]
      rw [e] at hb; simp [blkOf] at hb
     | some old =>
      obtain ⟨f, hm⟩ := h3 old rfl
      have e1 : g'.κ id = g.κ old := by simp [g', hlook id _ h1]
      rw [e1] at hb
      have ho := hout id old h1
      obtain ⟨s1, s2⟩ := notFrozen_mem hnf old ho
      have s3 : sets st.fr fz old = false := by
       rw [sets_get]
       have := apartL_mem hap old ho
       simp [s2, this]
      have hro'b : ro' b = none := hg1.wro old _ hm trivial b hb s1 s3
      have hge : w0.heap.size <= b := by
       rcases hg.fresh old _ hm trivial b hb with h5 | ⟨hh, e⟩
       ·exact h5
       ·subst e
        obtain ⟨m, hm', _⟩ := hrdm hh
        exact ((hg.rd m hm').2.2 old _ hm trivial (by rw [hρ]; exact hb)).elim
      refine ⟨hge, hroFn b ?_ hro'b⟩
      cases h0 : ro0 b with
      | none => rfl
      | some vs0 =>
       obtain ⟨ty, fz', h6⟩ := hin b vs0 h0
       have := lt_of_some h6
       omega
    ·intro i q j s hi hj hij b hbi hbj
     obtain ⟨src, t, xs, h1, h2, h3, h4⟩ := a3 i q hi
     obtain ⟨src', t', xs', k1, k2, k3, k4⟩ := a3 j s hj
     cases src with
     | none =>
      have e : g'.κ i = .slice none 0 0 := by simp [g', hlook i none h1]
      rw [e] at hbi; simp [blkOf] at hbi
     | some oi =>
      cases src' with
      | none =>
       have e : g'.κ j = .slice none 0 0 := by simp [g', hlook j none k1]
       rw [e] at hbj; simp [blkOf] at hbj
      | some oj =>
       obtain ⟨f, hm⟩ := h3 oi rfl
       obtain ⟨f', hm'⟩ := k3 oj rfl
       have e1 : g'.κ i = g.κ oi := by simp [g', hlook i _ h1]
       have e2 : g'.κ j = g.κ oj := by simp [g', hlook j _ k1]
       rw [e1] at hbi
       rw [e2] at hbj
       have hne : oi ≠ oj := fun e => by
        subst e
        exact hij (resMap_diff hnd h1 k1)
       obtain ⟨_, _, _, _, _, _, h7⟩ := hg.sep oi oj _ _ hm hm' hne trivial trivial b hbi hbj
       have h8 := (h7 (notFrozen_mem hnf oi (hout i oi h1)).1).1
       rw [(notFrozen_mem hnf oj (hout j oj k1)).1] at h8
       cases h8
   ·intro hh v p ty h0
    obtain ⟨m, hm, hle⟩ := hrdm hh
    obtain ⟨p', ty1, h1⟩ := hg.rds (by rw [hm]; simp) v p ty (by rw [hρ]; exact h0)
    obtain ⟨⟨_, _, code, v', p'', ty', hc, _, _, hp0, hpm⟩, _⟩ := hg.rd m hm
    rw [hρ] at h1 hc
    rw [h1] at hc
    simp at hc
    refine ⟨p', ty1, h1, ?_, ?_⟩
    ·omega
    ·omega
theorem fn_sound (ht : TabOk P E tab) (hKA : KAll P E K) (hmix : P.follows .mixedOrders = true) (hdr : ∀ w0 M n, DrawSound P E tab K w0 M n) {perm : Nat -> List (List Nat)} {f : FuncId} {fn : Func} {c : Code} {con : Con} (hf : P.funcs[f]? = some fn) (hb : fn.body = some c) (hn : con.aks.length <= fn.ntmps) (hok : codeOk tab K perm fn.ntmps c = true)
  {anns : Args con.aks -> Nat -> Nat -> Option Ann} (hvc : ∀ x k, con.pre x -> (hasRdr con.aks = true -> k + con.cost x <= rdLimit) -> vc tab K (anns x k) perm c (entry (encs con.aks x) (rdOf (hasRdr con.aks) k)) (retOk tab con fn.results.toList x k)) : CallOk P E f con := by
 intro w0 ro0 ρ k x vs id0 hpre hin hrd hargs
 have hlen : vs.length = con.aks.length := by
  rw [hargs.1]
  have : ∀ (ks : List AK) (x : Args ks), (encs ks x).length = ks.length := by
   intro ks
   induction ks with
   | nil => intro x; rfl
   | cons k ks ih => intro x; obtain ⟨x, xs⟩ := x; simp [encs, ih]
  exact this _ _
 have hrd1 : hasRdr con.aks = true -> RdOk w0 ro0 ρ k := fun h => (hrd h).1
 refine calls_of_wp hf hb ?_
 refine code_sound ht hKA hmix (hdr _ _ _) (fun _ _ _ _ => ⟨rfl, rfl⟩) c _ _ _ (retOk tab con fn.results.toList x k) _ hok (entry_rel hin hrd1 hargs (by omega)) (hvc x k hpre fun h => (hrd h).2) ?_
 intro xk st' a' w' hr hk
 have fin : retOk tab con fn.results.toList x k .ret st' -> a'.defers = [] /\ ∃ v, (results fn a'.tmps).run P w' = .ok v w' /\ ∃ v1 r g, Ending.returned v = .returned v1 /\ con.post x r /\ Ext (fun b => hasRdr con.aks = true /\ b = ρ) w0 w' /\ g.ρ = ρ /\ ResOk E w0 w' ro0 con.rks id0 r v1 g /\ (hasRdr con.aks = true -> RdStep w0 w' ρ (k + con.cost x)) := by
  intro hv
  obtain ⟨v, h1, r, g, h2, h3, h4, h5, h6⟩ := exit_ok id0 ht hin hrd1 hr hv
  exact ⟨hr.defers, v, h1, v, r, g, rfl, h2, h3, h4, h5, h6⟩
 cases xk with
 | normal => exact fin hk
 | ret => exact fin hk
 | exit id => exact hk.elim
end
end Go.SE

namespace Go.SE
section
variable {tab : TypeId -> Option TI} {K : FuncId -> Option Con} {anns : Nat -> Option Ann} {perm : Nat -> List (List Nat)}
@[congr] theorem vcTr_cg {dst : Option Nat} {st : St} {k : St -> Prop} {t t' : Option Tr} (h : t = t') : vcTr dst st k t = vcTr dst st k t' := by rw [h]
@[congr] theorem vcDet_cg {R : Type} {p post : R -> Prop} {d d' : Option R} (h : d = d') : vcDet p post d = vcDet p post d' := by rw [h]
@[congr] theorem vcOp_cg {o : Oper} {st st' : St} {k : St -> Prop} (h : st = st') : vcOp tab K o st k = vcOp tab K o st' k := by rw [h]
@[congr] theorem vcStep_cg {ops : Array Oper} {o : Oper} {st st' : St} {k : St -> Prop} (h : st = st') : vcStep tab K ops o st k = vcStep tab K ops o st' k := by rw [h]
@[congr] theorem vcOps_cg {ops : Array Oper} {l : List Oper} {st st' : St} {k : St -> Prop} (h : st = st') : vcOps tab K ops l st k = vcOps tab K ops l st' k := by rw [h]
@[congr] theorem vcEach_cg {ops : Array Oper} {l : List (List Nat)} {st st' : St} {k : St -> Prop} (h : st = st') : vcEach tab K ops st k l = vcEach tab K ops st' k l := by rw [h]
@[congr] theorem vc_cg {c : Code} {st st' : St} {Q : XK -> St -> Prop} (h : st = st') : vc tab K anns perm c st Q = vc tab K anns perm c st' Q := by rw [h]
@[congr] theorem condK_cg {a b : Prop} {s s' : S} (h : s = s') : condK a b s = condK a b s' := by rw [h]
@[congr] theorem vcReg_cg {ops : Array Oper} {st st' : St} {k : St -> Prop} {l l' : List (List Nat)} (h : st = st') (hl : l = l') : vcReg tab K ops st k l = vcReg tab K ops st' k l' := by rw [h, hl]
@[congr] theorem vcLoop_cg {b : St -> (XK -> St -> Prop) -> Prop} {st st' : St} {Q : XK -> St -> Prop} {A A' : Option Ann} (h : st = st') (hA : A = A') : vcLoop b st Q A = vcLoop b st' Q A' := by rw [h, hA]
@[congr] theorem seqK_cg {f : St -> Prop} {Q : XK -> St -> Prop} {x x' : XK} {st st' : St} (hx : x = x') (h : st = st') : seqK f Q x st = seqK f Q x' st' := by rw [hx, h]
@[congr] theorem blockK_cg {id : Nat} {Q : XK -> St -> Prop} {x x' : XK} {st st' : St} (hx : x = x') (h : st = st') : blockK id Q x st = blockK id Q x' st' := by rw [hx, h]
theorem vcDet_some {R : Type} {p post : R -> Prop} {r : R} : vcDet p post (some r) = p r := rfl
theorem vcDet_none {R : Type} {p post : R -> Prop} : vcDet p post none = ∀ r, post r -> p r := rfl
theorem vcIf_true {a b : Prop} : vcIf true a b = a := by simp [vcIf]
theorem vcIf_false {a b : Prop} : vcIf false a b = b := by simp [vcIf]
@[congr] theorem vcIf_cg {t t' : Bool} {a b : Prop} (h : t = t') : vcIf t a b = vcIf t' a b := by rw [h]
theorem vcIf_iff {t : Bool} {a b : Prop} : vcIf t a b ↔ (t = true -> a) /\ (t = false -> b) := by cases t <;> simp [vcIf]
def bodyOf (f : Func) : Code :=
 match f.body with
 | some c => c
 | none => .skip
theorem upd_app {α : Type} (f : Nat -> α) (k : Nat) (v : α) (j : Nat) : upd f k v j = if j = k then v else f j := rfl
end
end Go.SE

namespace Go.SE
open Go.RowKit
def zeq : Value -> Value -> Bool
 | .int k n, .int k' n' => decide (k = k') && decide (n = n')
 | .bool a, .bool b => a == b
 | .string a, .string b => decide (a.data = b.data)
 | .slice none 0 0, .slice none 0 0 => true
 | _, _ => false
theorem zeq_sound {a b : Value} (h : zeq a b = true) : a = b := by
 unfold zeq at h
 split at h
 ·simp at h; obtain ⟨h1, h2⟩ := h; subst h1 h2; rfl
 ·simp at h; subst h; rfl
 ·rename_i a b
  simp only [decide_eq_true_eq] at h
  cases a; cases b; simp only at h; subst h; rfl
 ·rfl
 ·cases h
def zlist : List Value -> List Value -> Bool
 | [], [] => true
 | a :: l, b :: l' => zeq a b && zlist l l'
 | _, _ => false
theorem zlist_sound : ∀ {l l' : List Value}, zlist l l' = true -> l = l' := by
 intro l
 induction l with
 | nil => intro l' h; cases l' with
  | nil => rfl
  | cons _ _ => cases h
 | cons a l ih =>
  intro l' h
  cases l' with
  | nil => cases h
  | cons b l' =>
   simp only [zlist, Bool.and_eq_true] at h
   rw [zeq_sound h.1, ih h.2]
def scDB (z : Value) (d : TypeDesc) : Bool :=
 match z, d with
 | .int k _, .int k' => decide (k = k')
 | .bool _, .bool => true
 | .string _, .string => true
 | .int _ _, _ => false
 | .bool _, _ => false
 | .string _, _ => false
 | _, d => !aggD d
theorem scDB_sound {z : Value} {d : TypeDesc} (h : scDB z d = true) : scD z d := by
 cases z <;> cases d <;> simp_all [scDB, scD]
def fieldB (P : Program) (fields : Array Field) (f : Nat) (x : Nat × Nat × Bool) : Bool :=
 match fields[f]? with
 | some fd => match P.info? fd.type, P.underlying fd.type with
  | some i, some d => decide (fd.offset = x.1) && decide (i.size = x.2.1) && (aggD d == x.2.2)
  | _, _ => false
 | none => false
def fieldsB (P : Program) (fields : Array Field) : Nat -> List (Nat × Nat × Bool) -> Bool
 | _, [] => true
 | f, x :: l => fieldB P fields f x && fieldsB P fields (f + 1) l
theorem fieldsB_sound {P : Program} {fields : Array Field} : ∀ {l : List (Nat × Nat × Bool)} {f : Nat}, fieldsB P fields f l = true -> fieldsOk P fields f l := by
 intro l
 induction l with
 | nil => intro _ _; trivial
 | cons x l ih =>
  intro f h
  simp only [fieldsB, Bool.and_eq_true] at h
  refine ⟨?_, ih h.2⟩
  have h1 := h.1
  unfold fieldB at h1
  split at h1
  ·rename_i fd hfd
   split at h1
   ·rename_i i d hi hd
    simp only [Bool.and_eq_true, decide_eq_true_eq, beq_iff_eq] at h1
    exact ⟨fd, i, d, hfd, h1.1.1, hi, h1.1.2, hd, h1.2⟩
   ·cases h1
  ·cases h1
def scTB (z : Value) (d : Option TypeDesc) : Bool :=
 match z, d with
 | .int _ _, some (.int _) => true
 | .bool _, some .bool => true
 | _, _ => false
theorem scTB_sound {z : Value} {d : Option TypeDesc} (h : scTB z d = true) : scT z d := by
 unfold scTB at h
 split at h
 ·exact ⟨_, rfl⟩
 ·rfl
 ·cases h
def eqFieldsB (P : Program) : Nat -> List Field -> List CK -> Bool
 | _, [], [] => true
 | j, fd :: fs, .sc z :: cks => decide (fd.name ≠ "_") && decide (fd.offset = j) && scTB z (P.underlying fd.type) && eqFieldsB P (j + 1) fs cks
 | _, _, _ => false
theorem eqFieldsB_sound {P : Program} : ∀ {fs : List Field} {cks : List CK} {j : Nat}, eqFieldsB P j fs cks = true -> eqFieldsOk P j fs cks := by
 intro fs
 induction fs with
 | nil => intro cks j h; cases cks with
  | nil => trivial
  | cons _ _ => cases h
 | cons fd fs ih =>
  intro cks j h
  cases cks with
  | nil => cases h
  | cons c cks =>
   cases c with
   | sc z =>
    simp only [eqFieldsB, Bool.and_eq_true, decide_eq_true_eq] at h
    exact ⟨⟨h.1.1.1, h.1.1.2, scTB_sound h.1.2⟩, ih h.2⟩
   | sl t => cases h
def allOne : List CK -> Bool
 | [] => true
 | .sc z :: l => z.oneCell' && allOne l
 | .sl _ :: l => allOne l
theorem allOne_sound : ∀ {l : List CK}, allOne l = true -> ∀ z, CK.sc z ∈ l -> z.oneCell' = true := by
 intro l
 induction l with
 | nil => intro _ z h; cases h
 | cons c l ih =>
  intro h z hz
  cases c with
  | sc y =>
   simp only [allOne, Bool.and_eq_true] at h
   rcases List.mem_cons.1 hz with e | hz
   ·injection e with e; rw [e]; exact h.1
   ·exact ih h.2 z hz
  | sl t =>
   rcases List.mem_cons.1 hz with e | hz
   ·cases e
   ·exact ih h z hz
def tiB (P : Program) (E : Ty -> TypeId) (ty : TypeId) (ti : TI) : Bool :=
 match P.info? ty, P.underlying ty with
 | some i, some d => decide (i.size = ti.sz) && (match ti.k with
  | .sc z => decide (ti.sz = 1) && (match i.zero with
   | some z' => zeq z' z && z.oneCell' && scDB z d
   | none => false)
  | .sl rw e t => decide (ti.sz = 1) && (match d, i.zero with
   | .slice e', some z => decide (e' = e) && zeq z (.slice none 0 0)
   | _, _ => false) && (match P.info? e with
   | some ie => decide (ie.size = t.sz) && decide (ie.bytes <= 256) && (!rw || (decide (e = E t) && (match ie.zero with
    | some z => zlist z.cells.toList t.zvals
    | none => false)))
   | none => false)
  | .st cks fs => (match d, i.zero with
   | .struct fields, some (.agg zc) => zlist zc.toList (cks.map ckv) && decide (ti.sz = cks.length) && decide (cks.length <= 15) && allOne cks && decide (fields.size = fs.length) && fieldsB P fields 0 fs &&
    (!allSc cks || (!P.eqGuardType P.depth ty && !P.stoodInHeld ty && eqFieldsB P 0 fields.toList cks))
   | _, _ => false)
  | .ar n e t => (match d, i.zero, P.info? e, P.underlying e with
   | .array n' e', some (.agg zc), some ie, some de => decide (n' = n) && decide (e' = e) && decide (ti.sz = n * t.sz) && decide (ie.size = t.sz) && zlist zc.toList (List.replicate n t.zvals).flatten && (!decide (t.sz = 1) || !aggD de)
   | _, _, _, _ => false))
 | _, _ => false
theorem tiB_sound {P : Program} {E : Ty -> TypeId} {ty : TypeId} {ti : TI} (h : tiB P E ty ti = true) : TIok P E ty ti := by
 unfold tiB at h
 split at h
 ·rename_i i d hi hd
  simp only [Bool.and_eq_true, decide_eq_true_eq] at h
  obtain ⟨hsz, h⟩ := h
  refine ⟨i, d, hi, hd, hsz, ?_⟩
  cases hk : ti.k with
  | sc z =>
   rw [hk] at h
   simp only [Bool.and_eq_true, decide_eq_true_eq] at h
   obtain ⟨h1, h2⟩ := h
   split at h2
   ·rename_i z' hz
    simp only [Bool.and_eq_true] at h2
    exact ⟨h1, by rw [hz, zeq_sound h2.1.1], h2.1.2, scDB_sound h2.2⟩
   ·cases h2
  | sl rw' e t =>
   rw [hk] at h
   simp only [Bool.and_eq_true, decide_eq_true_eq] at h
   obtain ⟨⟨h1, h2⟩, h3⟩ := h
   split at h2
   ·rename_i e' z hz
    simp only [Bool.and_eq_true, decide_eq_true_eq] at h2
    split at h3
    ·rename_i ie hie
     simp only [Bool.and_eq_true, decide_eq_true_eq, Bool.or_eq_true, Bool.not_eq_true'] at h3
     refine ⟨h1, ⟨by rw [h2.1], by rw [hz, zeq_sound h2.2]⟩, ie, hie, h3.1.1, h3.1.2, fun hr => ?_⟩
     rcases h3.2 with h4 | ⟨h4, h5⟩
     ·rw [hr] at h4; cases h4
     ·split at h5
      ·rename_i z' hz'
       exact ⟨h4, z', hz', zlist_sound h5⟩
      ·cases h5
    ·cases h3
   ·cases h2
  | st cks fs =>
   rw [hk] at h
   simp only at h
   split at h
   ·rename_i fields zc hz
    simp only [Bool.and_eq_true, decide_eq_true_eq, Bool.or_eq_true, Bool.not_eq_true'] at h
    obtain ⟨⟨⟨⟨⟨⟨h1, h2⟩, h3⟩, h4⟩, h5⟩, h6⟩, h7⟩ := h
    refine ⟨fields, zc, rfl, hz, zlist_sound h1, ⟨h2, h3, allOne_sound h4⟩, h5, fieldsB_sound h6, fun ha => ?_⟩
    rcases h7 with h7 | ⟨⟨h8, h9⟩, h10⟩
    ·rw [ha] at h7; cases h7
    ·exact ⟨h8, h9, eqFieldsB_sound h10⟩
   ·cases h
  | ar n e t =>
   rw [hk] at h
   simp only at h
   split at h
   ·rename_i n' e' zc ie de hz hie hde
    simp only [Bool.and_eq_true, decide_eq_true_eq, Bool.or_eq_true, Bool.not_eq_true'] at h
    obtain ⟨⟨⟨⟨⟨h1, h2⟩, h3⟩, h4⟩, h5⟩, h6⟩ := h
    subst h1 h2
    refine ⟨rfl, h3, ie, zc, hie, h4, hz, zlist_sound h5, de, hde, fun ht => ?_⟩
    rcases h6 with h6 | h6
    ·simp [ht] at h6
    ·exact h6
   ·cases h
 ·cases h
def lookT : List (TypeId × TI) -> TypeId -> Option TI
 | [], _ => none
 | (a, b) :: l, ty => if ty = a then some b else lookT l ty
theorem lookT_mem {l : List (TypeId × TI)} {ty : TypeId} {ti : TI} (h : lookT l ty = some ti) : (ty, ti) ∈ l := by
 induction l with
 | nil => cases h
 | cons p l ih =>
  obtain ⟨a, b⟩ := p
  simp only [lookT] at h
  split at h
  ·rename_i e; injection h with h; subst e h; exact List.mem_cons_self
  ·exact List.mem_cons_of_mem _ (ih h)
def tabB (P : Program) (E : Ty -> TypeId) (l : List (TypeId × TI)) : Bool := l.all fun p => tiB P E p.1 p.2
theorem tab_ok {P : Program} {E : Ty -> TypeId} {l : List (TypeId × TI)} (h : tabB P E l = true) : TabOk P E (lookT l) := by
 intro ty ti hti
 exact tiB_sound (List.all_eq_true.1 h _ (lookT_mem hti))
theorem tab_small {P : Program} {E : Ty -> TypeId} {tab : TypeId -> Option TI} (h : TabOk P E tab) : TabSmall tab := by
 intro ty a b cks fs ht
 obtain ⟨i, d, _, _, _, hk⟩ := h ty _ ht
 obtain ⟨_, _, _, _, _, h5, _⟩ := hk
 exact h5.2.1
def lookF : List (FuncId × Con) -> FuncId -> Option Con
 | [], _ => none
 | (a, b) :: l, f => if f = a then some b else lookF l f
def AllOk (P : Program) (E : Ty -> TypeId) : List (FuncId × Con) -> Prop
 | [] => True
 | (f, c) :: l => FnOk P E f c /\ AllOk P E l
theorem kall_of {P : Program} {E : Ty -> TypeId} : ∀ {l : List (FuncId × Con)}, AllOk P E l -> KAll P E (lookF l) := by
 intro l
 induction l with
 | nil => intro _ f con h; cases h
 | cons p l ih =>
  intro h f con hf
  obtain ⟨a, b⟩ := p
  simp only [lookF] at hf
  split at hf
  ·rename_i e; injection hf with hf; subst e hf; exact h.1
  ·exact ih h.2 f con hf
theorem fn_ok {P : Program} {E : Ty -> TypeId} {tab : TypeId -> Option TI} {l : List (FuncId × Con)} (ht : TabOk P E tab) (hmix : P.follows .mixedOrders = true) (hl : AllOk P E l) {perm : Nat -> List (List Nat)} {f : FuncId} {fn : Func} {con : Con} (hf : P.funcs[f]? = some fn)
  (hb : fn.body = some (bodyOf fn)) (hname : (fn.name == "runtime.NumGoroutine") = false) (hn : con.aks.length <= fn.ntmps) (hok : codeOk tab (lookF l) perm fn.ntmps (bodyOf fn) = true) {anns : Args con.aks -> Nat -> Nat -> Option Ann}
  (hvc : ∀ x k, con.pre x -> (hasRdr con.aks = true -> k + con.cost x <= rdLimit) -> vc tab (lookF l) (anns x k) perm (bodyOf fn) (entry (encs con.aks x) (rdOf (hasRdr con.aks) k)) (retOk tab con fn.results.toList x k))
  (htot : ∀ x, con.pre x -> ∃ r, con.post x r) : FnOk P E f con :=
 ⟨⟨fn, _, hf, hname, hb⟩, fn_sound ht (kall_of hl) hmix (fun _ _ _ => draw_sound ht (tab_small ht) (kall_of hl) hmix _ _ _) hf hb hn hok hvc, htot⟩
abbrev Con.lim (c : Con) (mu : Args c.aks -> Nat) (m : Nat) : Con := { c with pre := fun x => c.pre x /\ mu x < m }
theorem fn_rec {P : Program} {E : Ty -> TypeId} {f : FuncId} {c : Con} {mu : Args c.aks -> Nat} (h : ∀ m, FnOk P E f (c.lim mu m) -> FnOk P E f (c.lim mu (m + 1))) (h0 : ∃ fn b, P.funcs[f]? = some fn /\ (fn.name == "runtime.NumGoroutine") = false /\ fn.body = some b) (htot : ∀ x, c.pre x -> ∃ r, c.post x r) : FnOk P E f c := by
 have all : ∀ m, FnOk P E f (c.lim mu m) := by
  intro m
  induction m with
  | zero => exact ⟨h0, fun w0 ro0 ρ n x vs id0 hp => absurd hp.2 (Nat.not_lt_zero _), fun x hp => absurd hp.2 (Nat.not_lt_zero _)⟩
  | succ m ih => exact h m ih
 clear h
 obtain ⟨aks, rks, pre, sem, cost⟩ := c
 exact ⟨h0, fun w0 ro0 ρ n x vs id0 hp h1 h2 h3 => ((all (mu x + 1)).call w0 ro0 ρ n x vs id0 ⟨hp, Nat.lt_succ_self _⟩ h1 h2 h3).mono fun e w he => by
  obtain ⟨v, r, g, e1, e2, e3⟩ := he
  exact ⟨v, r, g, e1, by cases sem <;> exact e2, e3⟩, htot⟩
theorem tot_fn {aks rks : List AK} {pre : Args aks -> Prop} {f : Args aks -> Args rks} {cost : Args aks -> Nat} : ∀ x, (Con.mk aks rks pre (.inl f) cost).pre x -> ∃ r, (Con.mk aks rks pre (.inl f) cost).post x r := fun x _ => ⟨f x, rfl⟩
end Go.SE

namespace Go.SE
open Go.RowKit
def roAll (W : World) (b : Nat) : Option (Array Value) :=
 match W.heap[b]? with
 | some (.cells vs _ _) => some vs
 | _ => none
theorem roAll_of {W : World} {b : Nat} {vs : Array Value} {ty : TypeId} {fz : Nat × Nat} (h : W.heap[b]? = some (.cells vs ty fz)) : roAll W b = some vs := by
 simp only [roAll, h]
theorem roAll_in (W : World) : ROin W (roAll W) := by
 intro b vs h
 unfold roAll at h
 split at h
 ·rename_i vs' ty fz hb
  cases h
  exact ⟨_, _, hb⟩
 ·cases h
def isI64 (P : Program) (t : TypeId) : Bool :=
 match P.underlying t with
 | some (.int .i64) => true
 | _ => false
def isU8 (P : Program) (t : TypeId) : Bool :=
 match P.underlying t with
 | some (.int .u8) => true
 | _ => false
def isSlice (P : Program) (t : TypeId) : Bool :=
 match P.underlying t with
 | some (.slice _) => true
 | _ => false
def slOf (P : Program) (q : TypeId -> Bool) (t : TypeId) : Bool :=
 match P.underlying t with
 | some (.slice e) => q e
 | _ => false
theorem isU8_eq {P : Program} {t : TypeId} (h : isU8 P t = true) : P.underlying t = some (.int .u8) := by
 unfold isU8 at h; split at h <;> simp_all
theorem slOf_eq {P : Program} {q : TypeId -> Bool} {t : TypeId} (h : slOf P q t = true) : ∃ e, P.underlying t = some (.slice e) /\ q e = true := by
 unfold slOf at h; split at h <;> simp_all
theorem isSlice_eq {P : Program} {t : TypeId} (h : isSlice P t = true) : ∃ e, P.underlying t = some (.slice e) := by
 unfold isSlice at h; split at h <;> simp_all
section
variable {H : Type} {enc : TypeId × Value -> H} {P : Program} {W : World} {sp : Nat -> Bool}
def Opens (P : Program) (ty : TypeId) (t : Ty) : Prop :=
 P.cellsOf ty = t.sz /\ 0 < P.bytesOf ty /\ ∀ (H : Type) (enc : TypeId × Value -> H) (W : World) (sp : Nat -> Bool) (n : Nat) (cs : List Value) (x : DataW H × List MemPlace), DataW.trod enc P W 0 sp true n ty cs = some x ->
  ∃ y : t.den, cs.length = t.sz /\ ∀ (k : Nat) (c : DC), (t.cells y)[k]? = some c -> ∃ u, cs[k]? = some u /\ DR (roAll W) c u
def elU8 (P : Program) (ty : TypeId) : Bool := isU8 P ty && P.cellsOf ty == 1 && decide (0 < P.bytesOf ty)
theorem opens_u8 {ty : TypeId} (h : elU8 P ty = true) : Opens P ty .u8 := by
 simp only [elU8, Bool.and_eq_true, beq_iff_eq, decide_eq_true_eq] at h
 refine ⟨h.1.2, h.2, fun H enc W sp n cs x hx => ?_⟩
 obtain ⟨m, rfl, -, hw⟩ := DataW.trod_int (isU8_eq h.1.1) hx
 have hr : 0 <= m /\ m <= 255 := by simpa [Lit.wf, IntKind.min, IntKind.max, IntKind.signed, IntKind.bits] using hw
 refine ⟨UInt8.ofNat m.toNat, rfl, fun k c hc => ?_⟩
 match k, hc with
 | 0, hc =>
  cases hc
  refine ⟨_, rfl, ?_⟩
  have : ((UInt8.ofNat m.toNat).toNat : Int) = m := by
   rw [UInt8.toNat_ofNat']
   omega
  rw [this]
  exact .val _ rfl
 | k + 1, hc => cases hc
theorem cells?_get {a : Addr} {n : Nat} {cs : List Value} (h : W.cells? 0 a n = some cs) : cs.length = n /\ ∀ k u, cs[k]? = some u -> W.cell? (a.add k) = some u := by
 unfold World.cells? at h
 rw [if_pos (Nat.zero_le _)] at h
 have hl : cs.length = n := by simpa using mapM_some_length h
 refine ⟨hl, fun k u hu => ?_⟩
 have hk : k < n := by rw [← hl]; exact (List.getElem?_eq_some_iff.1 hu).1
 have := mapM_some_get h k k (by simp [hk])
 rw [hu] at this
 exact this
theorem slice_DR {t : Ty} {e ty : TypeId} (he : Opens P e t) (hu : P.underlying ty = some (.slice e)) {n : Nat} {v : Value} {x : DataW H × List MemPlace} (h : DataW.trod enc P W 0 sp true n ty [v] = some x)
  {u : TypeId} (hus : isSlice P u = true) {base : Nat} (hok : Cell.okWide P W .any base u v) (hw : ∀ k ∈ x.1.weights P ty, k <= reachBytes) : ∃ xs : List t.den, xs.length <= reachBytes /\ DR (roAll W) (.arr t xs) v := by
 rcases DataW.trod_slice hu h with ⟨hv, -⟩ | ⟨a, len, cap, elems, rest, m, -, hv, rfl, -, hlc, hcm, hel, hget, -, -⟩
 ·cases hv
  exact ⟨[], Nat.zero_le _, .nil t⟩
 ·cases hv
  obtain ⟨eu, hue⟩ := isSlice_eq hus
  have hh : W.has P .any base a eu cap := by
   simp only [Cell.okWide, hue, Cell.ok] at hok
   exact hok.2.2
  obtain ⟨-, hspot, row, cells, hsh, -⟩ := hh
  obtain ⟨ab, ao, asp⟩ := a
  simp only at hspot
  subst hspot
  have hb : ∃ vs ty fz, W.heap[ab]? = some (.cells vs ty fz) := by
   unfold World.shape? at hsh
   split at hsh
   ·rename_i c el fz hc
    exact ⟨_, _, _, hc⟩
   ·cases hsh
  obtain ⟨vs, ty', fz, hb⟩ := hb
  have key : ∀ m', m' <= len -> ∃ xs : List t.den, xs.length = m' /\ RowR (roAll W) (flat t xs) vs ao := by
   intro m'
   induction m' with
   | zero => exact fun _ => ⟨[], rfl, by simp only [flat, List.flatMap_nil]; exact RowR.nil⟩
   | succ m' ih =>
    intro hm'
    obtain ⟨xs, hxl, hxs⟩ := ih (by omega)
    have h1 := hget m' (by omega)
    have hlt : m' < elems.length := by omega
    rw [List.getElem?_eq_getElem hlt, Option.bind_eq_some_iff] at h1
    obtain ⟨cs, hcs, htr⟩ := h1
    obtain ⟨y, hyl, hy⟩ := he.2.2 _ _ _ _ _ _ _ htr
    obtain ⟨hcl, hcg⟩ := cells?_get hcs
    refine ⟨xs ++ [y], by simp [hxl], ?_⟩
    rw [flat_append]
    refine RowR.append hxs ?_
    have hf : flat t [y] = t.cells y := by simp [flat]
    rw [hf, flat_len, hxl]
    intro k c hc
    obtain ⟨u', hu', hd⟩ := hy k c hc
    refine ⟨u', ?_, hd⟩
    have h2 := hcg k u' hu'
    rw [he.1] at h2
    have h3 : (⟨ab, ao, none⟩ : Addr).add (m' * t.sz) = ⟨ab, ao + m' * t.sz, none⟩ := by
     unfold Addr.add; split <;> simp_all
    have h4 : (⟨ab, ao + m' * t.sz, none⟩ : Addr).add k = ⟨ab, ao + m' * t.sz + k, none⟩ := by
     unfold Addr.add; split <;> simp_all
    rw [h3, h4] at h2
    simpa [World.cell?, hb] using h2
  obtain ⟨xs, hxl, hxs⟩ := key len (Nat.le_refl _)
  have hb1 := hw ((elems.length + rest.length) * P.bytesOf e) (by simp only [DataW.weights, hu]; simp)
  have hb2 := he.2.1
  have hb3 : (elems.length + rest.length) * 1 <= (elems.length + rest.length) * P.bytesOf e := Nat.mul_le_mul_left _ hb2
  refine ⟨xs, by omega, ?_⟩
  rw [← hxl]
  exact DR.of_row (roAll_of hb) (by omega) hcm hxs
def Par (W : World) (k : AK) (x : k.den) (v : Value) : Prop := (k.enc x).R (argG (roAll W) 0) v
theorem par_sl {ty : TypeId} {t : Ty} {q : TypeId -> Bool} (hq : ∀ e, q e = true -> Opens P e t) (h : slOf P q ty = true) {base : Nat} {v : Value} {d : DataW H} {ps : List MemPlace} (hd : DataW.Trod enc P W 0 sp true ty v d ps)
  (hok : Value.okWide P W .any base ty v) (hw : ∀ k ∈ d.weights P ty, k <= reachBytes) : ∃ x : List t.den, x.length <= reachBytes /\ Par W (.sl t) x v := by
 obtain ⟨e, he, qe⟩ := slOf_eq h
 obtain ⟨n, hn⟩ := hd
 have hok' : Cell.okWide P W .any base ty v := by simpa only [Value.okWide, he] using hok
 have hv : v.cells.toList = [v] := by
  cases v <;> first | rfl | (simp [Cell.okWide, he, Cell.ok] at hok')
 rw [hv] at hn
 exact slice_DR (hq _ qe) he hn (by simp [isSlice, he]) hok' hw
theorem argsR_nil {g : G} : ArgsR g [] [] := ⟨rfl, fun j s h => by simp at h⟩
theorem argsR_cons {g : G} {s : S0} {l : List S0} {v : Value} {vs : List Value} (h : s.R g v) (hl : ArgsR g l vs) : ArgsR g (s :: l) (v :: vs) := by
 refine ⟨by simp [hl.1], fun j s' hj => ?_⟩
 match j, hj with
 | 0, hj => cases hj; exact ⟨v, rfl, h⟩
 | j + 1, hj => exact hl.2 j s' (by simpa using hj)
theorem trodAll_len {held : Bool} {base : Nat} : ∀ {ts : List TypeId} {vs : List Value} {ds : List (DataW H)} {ps : List MemPlace}, DataW.TrodAll enc P W base sp held ts vs ds ps -> ds.length = ts.length
 | [], [], [], _, _ => rfl
 | _ :: _, _ :: _, _ :: _, _, ⟨_, _, _, h2, _⟩ => by simp [trodAll_len h2]
theorem trodAll_stays (hl : laidOutB P = true) {W W' : World} {sp' : Nat -> Bool} : ∀ {ts : List TypeId} {vs : List Value} {ds : List (DataW H)} {ps : List MemPlace}, (∀ t ∈ ts, P.readableRec t = true /\ t < P.types.size) ->
  DataW.TrodAll enc P W 0 (fun _ => true) true ts vs ds ps -> (∀ p ∈ ps, W.sameAt W' p) -> (∀ p ∈ ps, sp' p.block = true) -> DataW.TrodAll enc P W' 0 sp' true ts vs ds ps
 | [], [], [], _, _, h, _, _ => h
 | t :: ts, v :: vs, d :: ds, _, ht, ⟨p, q, h1, h2, e⟩, h3, h4 => by
  subst e
  exact ⟨p, q, WideElems.Trod_stays hl (ht t (by simp)).1 (ht t (by simp)).2 h1 (fun x hx => h3 x (by simp [hx])) (fun x hx => h4 x (by simp [hx])),
   trodAll_stays hl (fun u hu => ht u (by simp [hu])) h2 (fun x hx => h3 x (by simp [hx])) (fun x hx => h4 x (by simp [hx])), rfl⟩
theorem law_calls {E : Ty -> TypeId} {f : FuncId} {aks : List AK} {pre : Args aks -> Prop} {sem} {cost} (ok : FnOk P E f ⟨aks, [.bool], pre, sem, cost⟩) (hr : hasRdr aks = false)
  (hs : ∀ x r, Con.post ⟨aks, [.bool], pre, sem, cost⟩ x r -> r.1 = true) (x : Args aks) (hp : pre x) (vs : List Value) (ha : ArgsR (argG (roAll W) 0) (encs aks x) vs) :
  Calls P f vs.toArray W fun e W' => e = .returned (.bool true) /\ Below W.heap.size W W' := by
 refine (ok.call W (roAll W) 0 0 x vs 0 hp (roAll_in W) (fun h => ?_) ha).mono ?_
 ·rw [show hasRdr aks = true from h] at hr; cases hr
 ·rintro e w ⟨v, r, g, rfl, hpost, hext, -, hres, -⟩
  have h1 := hs x r hpost
  obtain ⟨b, u⟩ := r
  have hv := hres.val
  have hv' : DR g.ro (.val (.bool b)) v := hv
  have hb : b = true := h1
  subst hb
  cases hv'
  refine ⟨rfl, hext.os, hext.tape, hext.output, hext.size, fun k hk => hext.block k hk ?_⟩
  rintro ⟨h, -⟩
  rw [show hasRdr aks = true from h] at hr; cases hr
theorem law_post {fn : Func} {s : ChangeSpec} {apart fresh handsOn again : Bool} {W W' : World} {args : Array Value} {ds gs : List (DataW H)} {before : List MemPlace} {bt : TypeId}
  (hl : laidOutB P = true) (hps : ∀ t ∈ fn.params.toList, P.readableRec t = true /\ t < P.types.size) (hr : fn.resultTypes = #[bt]) (hb : P.underlying bt = some .bool) (hv : s.vars = [])
  (hs : ∀ ds : List (DataW H), ds.length = fn.params.toList.length -> s.fn H ds = { results := [.lit (.bool true)], args := ds })
  (hW : DataW.Whole enc P fn.params.toList s.vars apart W args.toList ds gs before) (hbel : Below W.heap.size W W') : s.post enc P fn apart fresh handsOn again W args (.bool true) W' := by
 have hlt := hW.lt
 have hW0 := hW
 obtain ⟨p, q, hA, hV, rfl, hfz, hnd⟩ := hW
 rw [hv] at hV
 obtain ⟨rfl, rfl⟩ := ChangeShapes.trodVars_none hV
 have hlen : ds.length = fn.params.toList.length := trodAll_len hA
 have hsf := hs ds hlen
 simp only [List.append_nil] at hlt hfz hnd hW0
 have hsame : ∀ x ∈ p, W.sameAt W' x := fun x hx => hbel.same (hlt x hx)
 have hst : ∀ sp' : Nat -> Bool, (∀ x ∈ p, sp' x.block = true) -> DataW.TrodAll enc P W' 0 sp' true fn.params.toList args.toList ds p := fun sp' hsp => trodAll_stays hl hps hA hsame hsp
 have hres : ∀ (b : Nat) (sp : Nat -> Bool) (hd : Bool), DataW.TrodAll enc P W' b sp hd fn.resultTypes.toList ((Value.bool true).resultList fn.resultTypes.size) [.lit (.bool true)] [] := by
  intro b sp hd
  rw [hr]
  exact ChangeShapes.trodAll_mk1 (shut_bool hb true)
 refine ⟨ds, [], p, [], p, [], hW0, ?_, ?_, ?_, hbel.frame _, fun _ => ⟨ok_one hr rfl (okWide_bool_mk hb true), _, [], [] ++ p, ⟨[] ++ p, [], ChangeShapes.trodAll_append (hst _ (fun _ _ => rfl)) (hres _ _ _), ?_, by simp, ?_, ?_⟩, ?_⟩⟩
 ·rw [List.append_nil, hsf]
  exact hres _ _ _
 ·rw [List.append_nil, hsf]
  exact hst _ (fun x hx => by simpa using hlt x hx)
 ·rw [List.append_nil, hsf, hv]
  exact rfl
 ·rw [hv]; exact rfl
 ·intro b off hx
  rw [Below.frozen hbel (hlt _ (by simpa using hx))]
  exact hfz b off (by simpa using hx)
 ·intro h; simpa using hnd h
 ·intro x hx _; simpa using hx
end
end Go.SE

namespace Go.SE
def isT (t : Int) : Bool := decide (0 <= t) && decide (t <= 8)
theorem isT_iff {t : Int} : isT t = true ↔ 0 <= t /\ t <= 8 := by simp [isT]
def fV (f : GFact) : Bool := isT f.a && isT f.b
def tv (l : List Int) (t : Int) : Int := if t = 0 then 0 else l.getD (t - 1).toNat 0
theorem min_i64 : IntKind.i64.min = -9223372036854775808 := rfl
theorem max_i64 : IntKind.i64.max = 9223372036854775807 := rfl
theorem min_u16 : IntKind.u16.min = 0 := rfl
theorem max_u16 : IntKind.u16.max = 65535 := rfl
theorem min_u8 : IntKind.u8.min = 0 := rfl
theorem max_u8 : IntKind.u8.max = 255 := rfl
theorem min_u64 : IntKind.u64.min = 0 := rfl
theorem max_u64 : IntKind.u64.max = 18446744073709551615 := rfl
theorem eta_fact (f : GFact) : (⟨f.eq, f.a, f.b⟩ : GFact) = f := rfl
theorem eta_atom (f : GAtom) : (⟨f.kind, f.a, f.b⟩ : GAtom) = f := rfl
theorem eta_asn (f : GAsn) : (⟨f.facts, f.atoms⟩ : GAsn) = f := rfl
theorem eta_state (f : GState) : (⟨f.vals, f.heap⟩ : GState) = f := rfl
def sz1 (left : Int) (n : Nat) : Int := if left - n < 0 then -1 else left - n
def hv (n : Int) : Bool := n == -1 || isT n
theorem take_snoc {α : Type} {l : List α} {k : Nat} (d : α) (h : k < l.length) : l.take (k + 1) = l.take k ++ [l.getD k d] := by
 rw [List.take_succ_eq_append_getElem h, List.getD_eq_getElem?_getD]
 congr 2
 simp [h]
theorem take_all {α : Type} {l : List α} {k : Nat} {p : α -> Bool} (d : α) (h : k < l.length) : (l.take (k + 1)).all p = ((l.take k).all p && p (l.getD k d)) := by
 rw [take_snoc d h, List.all_append]
 simp only [List.all_cons, List.all_nil, Bool.and_true]
theorem all_take {α : Type} {l : List α} {k : Nat} {p : α -> Bool} (d : α) (h : k < l.length) (hp : p (l.getD k d) = false) : l.all p = false := by
 rw [Bool.eq_false_iff]
 intro ha
 rw [List.all_eq_true] at ha
 have := ha (l.getD k d) (by rw [List.getD_eq_getElem?_getD]; simp [h])
 rw [hp] at this; cases this
theorem all_get {α : Type} {l : List α} {i : Nat} {p : α -> Bool} {d : α} (hp : l.all p = true) (h : i < l.length) : p (l.getD i d) = true := by
 rw [List.all_eq_true] at hp
 refine hp _ ?_
 rw [List.getD_eq_getElem?_getD]; simp [h]
theorem take_full {α : Type} {l : List α} {k : Nat} (h : ¬ k < l.length) : l.take k = l := List.take_of_length_le (by omega)
theorem same_step {α : Type} {a b : List α} {k : Nat} (d : α) (hl : a.length = b.length) (hk : k < a.length) (h : a.take k = b.take k) : a.take (k + 1) = b.take (k + 1) ↔ a.getD k d = b.getD k d := by
 rw [take_snoc d hk, take_snoc d (by omega : k < b.length), h]
 constructor
 ·intro e
  have := List.append_cancel_left e
  injection this
 ·intro e; rw [e]
theorem same_not {α : Type} {a b : List α} {k : Nat} (d : α) (h : a.getD k d ≠ b.getD k d) : a ≠ b := fun e => h (by rw [e])
def rdPlus : Option Nat -> Nat -> Option Nat
 | some k, n => some (k + n)
 | none, _ => none
def intAt (st : St) (s : Nat) : Int :=
 match st.env s with
 | .s (.c (.d (.val (.int .i64 n)))) => n
 | _ => 0
theorem getD_mem {α : Type} {l : List α} {k : Nat} {d : α} (h : k < l.length) : l.getD k d ∈ l := by
 rw [List.getD_eq_getElem?_getD, List.getElem?_eq_getElem h]
 exact List.getElem_mem h
end Go.SE

namespace Go.SE
open Go.RowKit
def pickP (n r : Int) : Prop := (1 <= n -> 0 <= r /\ r < n) /\ (n < 1 -> r = 0)
abbrev pickCon : Con := ⟨[.rdr, .int], [.int], fun _ => True, .inr fun (_, n, _) (r, _) => pickP n r, fun _ => 1⟩
def pickSt (code : List UInt8) (v : Value) (p n : Int) : St :=
 { env := envOf [.c (.ptr 7 0), .c (.d (.val (.int .i64 n)))] 0, mem := upd (fun _ => none) 7 (some (.blk [.d (.fix .u8 code v), .d (.val (.int .i64 p))])), sp := fun _ => false, fr := fun _ => false, base := 16, rd := none }
def pickK : XK -> Prop
 | .exit _ => False
 | _ => True
def pickM (code : List UInt8) (v : Value) (p : Int) : Option Res -> Prop
 | some (.blk [.d (.fix .u8 c v'), .d (.val (.int .i64 q))]) => c = code /\ v' = v /\ q = p + 1
 | _ => False
def pickR (n : Int) : S -> Prop
 | .s (.c (.d (.val (.int .i64 r)))) => pickP n r
 | _ => False
def pickQ (code : List UInt8) (v : Value) (p n : Int) (xk : XK) (st : St) : Prop := pickK xk /\ pickM code v p (st.mem 7) /\ pickR n (st.env 4)
theorem pickM_eq {code : List UInt8} {v : Value} {p : Int} {r : Option Res} (h : pickM code v p r) : r = some (.blk [.d (.fix .u8 code v), .d (.val (.int .i64 (p + 1)))]) := by
 unfold pickM at h
 split at h
 ·obtain ⟨rfl, rfl, rfl⟩ := h; rfl
 ·exact h.elim
theorem pickR_eq {n : Int} {s : S} (h : pickR n s) : ∃ r, s = .s (.c (.d (.val (.int .i64 r)))) /\ pickP n r := by
 unfold pickR at h
 split at h
 ·exact ⟨_, rfl, h⟩
 ·exact h.elim
theorem two_get {α : Type} {vs : Array α} (h : vs.size = 2) {a b : α} (h0 : vs[0]? = some a) (h1 : vs[1]? = some b) : vs = #[a, b] := by
 obtain ⟨l⟩ := vs
 match l, h with
 | [x, y], _ => simp at h0 h1; simp [h0, h1]
theorem pick_ok {P : Program} {E : Ty -> TypeId} {tab : TypeId -> Option TI} (ht : TabOk P E tab) (hmix : P.follows .mixedOrders = true) {perm : Nat -> List (List Nat)} {f : FuncId} {fn : Func} (hf : P.funcs[f]? = some fn)
  (hb : fn.body = some (bodyOf fn)) (hname : (fn.name == "runtime.NumGoroutine") = false) (hres : fn.results.toList = [.tmp 4]) (hn : 5 <= fn.ntmps) (hok : codeOk tab (lookF []) perm fn.ntmps (bodyOf fn) = true)
  (hvc : ∀ (code : List UInt8) (v : Value) (p n : Int) (k : Nat), code.length <= 2000 -> 0 <= p -> p <= k -> k + 1 <= rdLimit -> vc tab (lookF []) (fun _ => none) perm (bodyOf fn) (pickSt code v p n) (pickQ code v p n)) : FnOk P E f pickCon := by
 refine ⟨⟨fn, _, hf, hname, hb⟩, ?_, ?_⟩
 ·intro w0 ro0 ρ k x vs id0 _ hin hrd hargs
  obtain ⟨_, n, _⟩ := x
  obtain ⟨hrd, hlim⟩ := hrd rfl
  obtain ⟨-, hro, code, v, p, ty, hcell, hdr, hcl, hp0, hpk⟩ := hrd
  obtain ⟨hl, hv⟩ := hargs
  obtain ⟨v0, hv0, hr0⟩ := hv 0 _ rfl
  obtain ⟨v1, hv1, hr1⟩ := hv 1 _ rfl
  have hr0' : v0 = .pointer (some ⟨ρ, 0, none⟩) := hr0
  have hr1' : DR ro0 (.val (.int .i64 n)) v1 := hr1
  cases hr1'
  subst hr0'
  have hvs : vs = [.pointer (some ⟨ρ, 0, none⟩), .int .i64 n] := by
   match vs, hl with
   | [a, b], _ => simp at hv0 hv1; rw [hv0, hv1]
  subst hvs
  let M : MM := ⟨fun b => b = ρ, ro0, ρ, fun id => if id = 7 then some (.pointer (some ⟨ρ, 0, none⟩)) else none, fun _ => none, fun _ => none⟩
  let g : G := { ro := ro0, κ := fun id => if id = 7 then .pointer (some ⟨ρ, 0, none⟩) else undef, ln := fun _ => 0, ρ := ρ }
  have one : ∀ id r, (pickSt code v p n).mem id = some r -> id = 7 /\ r = .blk [.d (.fix .u8 code v), .d (.val (.int .i64 p))] := by
   intro id r h
   simp only [pickSt, upd] at h
   split at h
   ·rename_i e; injection h with h; exact ⟨e, h.symm⟩
   ·cases h
  have hκ : ∀ b, blkOf (g.κ 7) = some b -> b = ρ := by
   intro b h
   have : blkOf (g.κ 7) = some ρ := rfl
   rw [this] at h; injection h with h; exact h.symm
  have hgood : Good E w0 M g (pickSt code v p n) w0 := by
   refine ⟨Ext.refl _ _, hin, ?_, ?_, ?_, ?_, (fun m hm => by cases hm), (fun h => (h rfl).elim), (fun b vs hb => .inl hb), rfl, ?_, ⟨fun id v hv => (by cases hv), fun b vs hv => (by cases hv)⟩⟩
   ·intro id r h
    obtain ⟨rfl, rfl⟩ := one id r h
    refine ⟨ρ, _, ty, rfl, hcell, rfl, ?_⟩
    intro j c hj
    match j, hj with
    | 0, hj => cases hj; exact ⟨v, rfl, .fix _ _ _ hdr⟩
    | 1, hj => cases hj; exact ⟨_, rfl, .val _ rfl⟩
    | j + 2, hj => cases hj
   ·intro i j r s hi hj hij
    exact (hij ((one i r hi).1.trans (one j s hj).1.symm)).elim
   ·intro id r h _ b hb
    rw [(one id r h).1] at hb
    exact .inr (hκ b hb)
   ·intro id r h _ b hb _ _
    rw [(one id r h).1] at hb
    rw [hκ b hb]; exact hro
   ·intro id u hu
    simp only [M] at hu
    split at hu
    ·rename_i e; subst e; injection hu with hu; subst hu; exact ⟨rfl, rfl⟩
    ·cases hu
  have hrel : Rel E w0 M fn.ntmps (pickSt code v p n) { tmps := [Value.pointer (some ⟨ρ, 0, none⟩), .int .i64 n].toArray ++ Array.replicate (fn.ntmps - [Value.pointer (some ⟨ρ, 0, none⟩), .int .i64 n].toArray.size) undef, defers := [] } w0 := by
   refine ⟨⟨?_, ?_⟩, by simp; omega, rfl, g, hgood, ?_⟩
   ·intro x id hid
    match x, hid with
    | 0, hid => simp [pickSt, envOf, S.refs, S0.refs, CV.refs] at hid; subst hid; rfl
    | 1, hid => simp [pickSt, envOf, S.refs, S0.refs, CV.refs] at hid
    | x + 2, hid => simp [pickSt, envOf, junk, S.refs, S0.refs, CV.refs] at hid
   ·intro j r h id hid
    obtain ⟨rfl, rfl⟩ := one j r h
    simp [Res.refs, refsL, CV.refs] at hid
   ·intro x
    match x with
    | 0 =>
     show S.R g (.s (.c (.ptr 7 0))) _
     refine ⟨ρ, rfl, ?_⟩
     rw [Array.getD_eq_getD_getElem?, Array.getElem?_append_left (by simp)]; rfl
    | 1 =>
     show S.R g (.s (.c (.d (.val (.int .i64 n))))) _
     have : ([Value.pointer (some ⟨ρ, 0, none⟩), .int .i64 n].toArray ++ Array.replicate (fn.ntmps - [Value.pointer (some ⟨ρ, 0, none⟩), .int .i64 n].toArray.size) undef).getD 1 undef = .int .i64 n := by
      rw [Array.getD_eq_getD_getElem?, Array.getElem?_append_left (by simp)]; rfl
     rw [this]
     exact .val _ rfl
    | x + 2 => simp [pickSt, envOf, junk]; trivial
  refine calls_of_wp hf hb ?_
  refine code_sound ht (kall_of (l := []) trivial) hmix (draw_sound ht (tab_small ht) (kall_of (l := []) trivial) hmix _ _ _) (fun _ _ h _ => by cases h) _ _ _ _ (pickQ code v p n) _ hok hrel (hvc code v p n k hcl hp0 hpk hlim) ?_
  intro xk st' a' w' hr hk
  obtain ⟨hk1, hk2, hk3⟩ := hk
  obtain ⟨r, he4, hpr⟩ := pickR_eq hk3
  have hm7 := pickM_eq hk2
  obtain ⟨g', hg', henv⟩ := hr.good
  have h4 := henv 4
  rw [he4] at h4
  have h4' : DR g'.ro (.val (.int .i64 r)) (a'.tmps.getD 4 undef) := h4
  generalize hu : a'.tmps.getD 4 undef = u at h4'
  cases h4'
  have hrun : (results fn a'.tmps).run P w' = .ok (.int .i64 r) w' := by
   refine results_run (vs := [.int .i64 r]) ?_
   rw [hres]
   simp [rvRead, hu]
  have hres7 := hg'.res 7 _ hm7
  obtain ⟨b, vs, ty', hb1, hb2, hb3⟩ := hres7
  have hpin := (hg'.pin 7 (.pointer (some ⟨ρ, 0, none⟩)) rfl).2
  rw [hpin] at hb1
  injection hb1 with hb1; injection hb1 with hb1; injection hb1 with hb1
  subst hb1
  have hvs : vs = #[v, .int .i64 (p + 1)] := by
   obtain ⟨hs, hc⟩ := hb3
   obtain ⟨u0, hu0, hd0⟩ := hc 0 _ rfl
   obtain ⟨u1, hu1, hd1⟩ := hc 1 _ rfl
   have hd0' : DR g'.ro (.fix .u8 code v) u0 := hd0
   have hd1' : DR g'.ro (.val (.int .i64 (p + 1))) u1 := hd1
   cases hd0'
   cases hd1'
   exact two_get hs hu0 hu1
  subst hvs
  have fin : a'.defers = [] /\ ∃ u, (results fn a'.tmps).run P w' = .ok u w' /\ ∃ v1 r' g1, Ending.returned u = .returned v1 /\ Con.post pickCon ((), n, ()) r' /\ Ext (fun b => hasRdr pickCon.aks = true /\ b = ρ) w0 w' /\ g1.ρ = ρ /\ ResOk E w0 w' ro0 pickCon.rks id0 r' v1 g1 /\ (hasRdr pickCon.aks = true -> RdStep w0 w' ρ (k + pickCon.cost ((), n, ()))) := by
   refine ⟨hr.defers, _, hrun, .int .i64 r, (r, ()), argG ro0 ρ, rfl, hpr, ?_, rfl, ?_, ?_⟩
   ·exact ⟨hg'.ext.os, hg'.ext.tape, hg'.ext.output, hg'.ext.size, fun b hb hM => hg'.ext.block b hb fun e => hM ⟨rfl, e⟩⟩
   ·exact ⟨fun _ _ h => h, fun _ _ h => .inl h, (.val _ rfl : DR ro0 (.val (.int .i64 r)) (.int .i64 r)), (fun id q h => by simp [ress, AK.res] at h), (fun id q h => by simp [ress, AK.res] at h), (fun i q j s h => by simp [ress, AK.res] at h)⟩
   ·intro _ v' p' ty2 h2
    rw [hcell] at h2
    simp at h2
    obtain ⟨⟨rfl, rfl⟩, rfl⟩ := h2
    exact ⟨p + 1, ty', hb2, by omega, by show p + 1 <= ((k + 1 : Nat) : Int); omega⟩
  cases xk with
  | normal => exact fin
  | ret => exact fin
  | exit id => exact hk1.elim
 ·intro x _
  obtain ⟨_, n, _⟩ := x
  by_cases h : 1 <= n
  ·exact ⟨(0, ()), ⟨fun _ => ⟨Int.le_refl _, by omega⟩, fun _ => rfl⟩⟩
  ·exact ⟨(0, ()), ⟨fun h' => (h h').elim, fun _ => rfl⟩⟩
theorem xor_i64_pos {a b : Int} (h1 : 0 <= a) (h2 : a <= 9223372036854775807) (h3 : 0 <= b) (h4 : b <= 9223372036854775807) : 0 <= bits .xor .i64 a b := by
 obtain ⟨x, rfl⟩ := Int.eq_ofNat_of_zero_le h1
 obtain ⟨y, rfl⟩ := Int.eq_ofNat_of_zero_le h3
 have hx : x ^^^ y < 2 ^ 63 := Nat.xor_lt_two_pow (by omega) (by omega)
 have e1 : (BitVec.ofInt 64 (x : Int)).toNat = x := by
  rw [BitVec.ofInt_natCast, BitVec.toNat_ofNat]; exact Nat.mod_eq_of_lt (by omega)
 have e2 : (BitVec.ofInt 64 (y : Int)).toNat = y := by
  rw [BitVec.ofInt_natCast, BitVec.toNat_ofNat]; exact Nat.mod_eq_of_lt (by omega)
 show 0 <= IntKind.i64.wrap ((BitVec.ofInt 64 (x : Int) ^^^ BitVec.ofInt 64 (y : Int)).toNat : Int)
 rw [BitVec.toNat_xor, e1, e2]
 simp only [IntKind.wrap, IntKind.bits, IntKind.signed]
 generalize x ^^^ y = z at hx ⊢
 simp
 omega
theorem tmod_bd {x n : Int} (h1 : 0 <= x) (h2 : 1 <= n) : 0 <= x.tmod n /\ x.tmod n < n :=
 ⟨Int.tmod_nonneg _ h1, Int.tmod_lt_of_pos _ (by omega)⟩
theorem tdiv_bd {x n : Int} (h1 : 0 <= x) (h2 : 1 <= n) : 0 <= x.tdiv n /\ x.tdiv n <= x :=
 ⟨Int.tdiv_nonneg h1 (by omega), Int.tdiv_le_self _ h1⟩
theorem byte_bd (l : List UInt8) (k : Nat) : 0 <= (((l.getD k 0).toNat : Nat) : Int) /\ (((l.getD k 0).toNat : Nat) : Int) <= 255 := by
 have := (l.getD k 0).toNat_lt
 omega
end Go.SE

namespace Go.SE
open Go.RowKit
def noRC : CV -> Bool
 | .rdr => false
 | _ => true
def noR0 : S0 -> Bool
 | .c x => noRC x
 | .agg l => l.all noRC
 | .vec _ _ => true
def noRS : S -> Bool
 | .s x => noR0 x
 | .tup l => l.all noR0
def noRR : Res -> Bool
 | .blk cs => cs.all noRC
 | _ => true
def NoR (st : St) : Prop := (∀ x, noRS (st.env x) = true) /\ ∀ j r, st.mem j = some r -> noRR r = true
theorem CV.R.rho {g : G} {ρ' : Nat} {c : CV} (h : noRC c = true) {v : Value} (hr : c.R g v) : c.R { g with ρ := ρ' } v := by
 cases c <;> first | exact hr | (simp [noRC] at h)
theorem Cells.rho {g : G} {ρ' : Nat} {cs : List CV} (h : cs.all noRC = true) {vs : Array Value} (hr : Cells g cs vs) : Cells { g with ρ := ρ' } cs vs :=
 ⟨hr.1, fun j c hj => let ⟨u, hu, hc⟩ := hr.2 j c hj; ⟨u, hu, hc.rho (List.all_eq_true.1 h c (List.mem_of_getElem? hj))⟩⟩
theorem S0.R.rho {g : G} {ρ' : Nat} {s : S0} (h : noR0 s = true) {v : Value} (hr : s.R g v) : s.R { g with ρ := ρ' } v := by
 cases s with
 | c x => exact CV.R.rho h hr
 | agg l => obtain ⟨vs, h1, h2⟩ := hr; exact ⟨vs, h1, h2.rho h⟩
 | vec t xs => exact hr
theorem S.R.rho {g : G} {ρ' : Nat} {s : S} (h : noRS s = true) {v : Value} (hr : s.R g v) : s.R { g with ρ := ρ' } v := by
 cases s with
 | s x => exact S0.R.rho h hr
 | tup l =>
  obtain ⟨vs, h1, h2, h3⟩ := hr
  exact ⟨vs, h1, h2, fun j s hj => let ⟨u, hu, hs⟩ := h3 j s hj; ⟨u, hu, S0.R.rho (List.all_eq_true.1 h s (List.mem_of_getElem? hj)) hs⟩⟩
def noRk : List AK -> Bool
 | [] => true
 | .rdr :: _ => false
 | _ :: l => noRk l
theorem ress_noR : ∀ (ks : List AK) (id0 : Nat) (r : Args ks), noRk ks = true -> ∀ s ∈ (ress ks id0 r).1, noR0 s = true := by
 intro ks
 induction ks with
 | nil => intro id0 r _ s hs; cases hs
 | cons k ks ih =>
  intro id0 r hn s hs
  obtain ⟨x, xs⟩ := r
  simp only [ress, List.mem_cons] at hs
  have hn2 : noRk ks = true := by cases k <;> first | exact hn | (simp [noRk] at hn)
  rcases hs with rfl | hs
  ·cases k <;> first | rfl | (cases x; rfl) | (simp [noRk] at hn)
  ·exact ih _ _ hn2 s hs
theorem pack1_noR {l : List S0} (h : ∀ s ∈ l, noR0 s = true) : noRS (pack1 l) = true := by
 match l with
 | [] => rfl
 | [x] => exact h x (by simp)
 | x :: y :: l => exact List.all_eq_true.2 h
section
variable {P : Program} {E : Ty -> TypeId} {tab : TypeId -> Option TI} {w0 : World} {M : MM} {n : Nat} {st : St} {a : Act} {w : World}
theorem Rel.put1 (h : Rel E w0 M n st a w) {d : Nat} (hd : d < n) {s : S} {v : Value} (hs : ∀ g, Good E w0 M g st w -> (∀ x, (st.env x).R g (a.tmps.getD x undef)) -> s.R g v) (hr : ∀ id ∈ s.refs, (st.mem id).isSome = true) :
  Rel E w0 M n { st with env := upd st.env d s } (a.put (some d) v) w := by
 obtain ⟨g, hg, henv⟩ := h.good
 refine ⟨⟨fun x id hid => ?_, h.cl.2⟩, by simpa [Act.put] using h.size, h.defers, g, hg.env rfl rfl rfl rfl, fun x => ?_⟩
 ·have hid : id ∈ (upd st.env d s x).refs := hid
  by_cases e : x = d
  ·subst e; rw [upd_same] at hid; exact hr id hid
  ·rw [upd_ne _ _ e] at hid; exact h.cl.1 x id hid
 ·show (upd st.env d s x).R g _
  by_cases e : x = d
  ·subst e
   rw [upd_same]
   have : (a.put (some x) v).tmps.getD x undef = v := by
    simp [Act.put, Array.getD_eq_getD_getElem?, h.size, hd]
   rw [this]
   exact hs g hg henv
  ·rw [upd_ne _ _ e]
   have : (a.put (some d) v).tmps.getD x undef = a.tmps.getD x undef := by
    simp [Act.put, Array.getD_eq_getD_getElem?, Array.getElem?_setIfInBounds, Ne.symm e]
   rw [this]
   exact henv x
theorem good_open {g : G} {ρ0 : Nat} {ro0 : Nat -> Option (Array Value)} (hg : Good E w0 (MOf false ρ0 ro0) g st w) (cl : Cl st) (hrd : st.rd = none) (hno : NoR st) {w' : World} {b : Nat} {ro' : Nat -> Option (Array Value)}
  (hext : Ext (fun _ => False) w w') (hb : w.heap.size <= b) (h1 : ∀ c vs, g.ro c = some vs -> ro' c = some vs)
  (h2 : ∀ c vs, ro' c = some vs -> g.ro c = some vs ∨ (w.heap.size <= c /\ ∃ ty fz, w'.heap[c]? = some (.cells vs ty fz))) (hok : RdOk w' ro' b 0) :
  Good E w0 (MOf false b ro0) { g with ro := ro', ρ := b } { st with rd := some 0 } w' := by
 have hlt : ∀ id r, st.mem id = some r -> r.live -> ∀ c, blkOf (g.κ id) = some c -> c < w.heap.size := fun id r hm hl c hc => (hg.res id r hm).lt hl hc
 have hE : Ext (MOf false ρ0 ro0).can w0 w' := ⟨hext.os.trans hg.ext.os, hext.tape.trans hg.ext.tape, hext.output.trans hg.ext.output, Nat.le_trans hg.ext.size hext.size, fun c hc hM => (hext.block c (Nat.lt_of_lt_of_le hc hg.ext.size) (fun h => h)).trans (hg.ext.block c hc hM)⟩
 have hg1 := Good.extend hg cl (w' := w') (g' := { g with ro := ro' }) [] hE (fun c hc => hext.block c hc (fun h => h)) h1 h2 (fun _ _ => ⟨rfl, rfl⟩) rfl (fun p hp => by cases hp) (fun id r hp => by cases hp) (fun id r hp => by cases hp) (fun i r j s hp => by cases hp)
 refine ⟨⟨hE.os, hE.tape, hE.output, hE.size, fun c hc hM => hE.block c hc fun ⟨h, _⟩ => by cases h⟩, hg1.ro, ?_, hg1.sep, ?_, hg1.wro, ?_, ?_, ?_, rfl, (fun id v hv => by cases hv), ⟨fun id v hv => (by cases hv), fun b vs hv => (by cases hv)⟩⟩
 ·intro id r hm
  have := hg1.res id r hm
  have hn := hno.2 id r hm
  cases r with
  | blk cs => obtain ⟨c, vs, ty, e1, e2, e3⟩ := this; exact ⟨c, vs, ty, e1, e2, e3.rho hn⟩
  | vec t xs => exact this
  | sl f t xs => exact this
  | dead => trivial
 ·intro id r hm hl c hc
  rcases hg1.fresh id r hm hl c hc with h | ⟨h, _⟩
  ·exact .inl h
  ·cases h
 ·intro m hm
  cases hm
  exact ⟨hok, .inl (Nat.le_trans hg.ext.size hb), fun id r hm hl e => by have := hlt id r hm hl _ e; have : b < w.heap.size := this; omega⟩
 ·intro _ v p ty h0
  have := lt_of_some h0
  have hbs := hg.ext.size
  have : b < w0.heap.size := this
  omega
 ·intro c vs hc
  rcases hg1.roo c vs hc with h | h | ⟨h, _⟩
  ·exact .inl h
  ·exact .inr (.inl h)
  ·cases h
theorem rel_open {g : G} {ρ0 : Nat} {ro0 : Nat -> Option (Array Value)} (h : Rel E w0 (MOf false ρ0 ro0) n st a w) (hg : Good E w0 (MOf false ρ0 ro0) g st w) (henv : ∀ x, (st.env x).R g (a.tmps.getD x undef)) (hrd : st.rd = none) (hno : NoR st) {w' : World} {b : Nat} {ro' : Nat -> Option (Array Value)}
  (hext : Ext (fun _ => False) w w') (hb : w.heap.size <= b) (h1 : ∀ c vs, g.ro c = some vs -> ro' c = some vs)
  (h2 : ∀ c vs, ro' c = some vs -> g.ro c = some vs ∨ (w.heap.size <= c /\ ∃ ty fz, w'.heap[c]? = some (.cells vs ty fz))) (hok : RdOk w' ro' b 0) :
  Rel E w0 (MOf false b ro0) n { st with rd := some 0 } a w' :=
 ⟨h.cl, h.size, h.defers, _, good_open hg h.cl hrd hno hext hb h1 h2 hok, fun x => by
  have := (henv x).mono (g' := { g with ro := ro' }) h1 rfl (fun _ _ => ⟨rfl, rfl⟩)
  exact S.R.rho (hno.1 x) this⟩
def OpenOk (P : Program) (f : FuncId) : Prop :=
 ∀ (w0 : World) (ro0 : Nat -> Option (Array Value)) (code : List UInt8) (v : Value), ROin w0 ro0 -> DR ro0 (.arr .u8 code) v ->
  Calls P f #[v] w0 fun e w => ∃ b ro', e = .returned (.pointer (some ⟨b, 0, none⟩)) /\ Ext (fun _ => False) w0 w /\ w0.heap.size <= b /\ (∀ c vs, ro0 c = some vs -> ro' c = some vs) /\
   (∀ c vs, ro' c = some vs -> ro0 c = some vs ∨ (w0.heap.size <= c /\ ∃ ty fz, w.heap[c]? = some (.cells vs ty fz))) /\ RdOk w ro' b 0
def openM : Option Res -> Prop
 | some (.blk [.d (.arr .u8 c), .d (.val (.int .i64 0))]) => c.length <= 2000
 | _ => False
def openE (st : St) : S -> Prop
 | .s (.c (.ptr id 0)) => openM (st.mem id) /\ st.sp id = false /\ st.fr id = false
 | _ => False
def openQ (xk : XK) (st : St) : Prop := pickK xk /\ openE st (st.env 2)
theorem openM_eq {r : Option Res} (h : openM r) : ∃ c : List UInt8, r = some (.blk [.d (.arr .u8 c), .d (.val (.int .i64 0))]) /\ c.length <= 2000 := by
 unfold openM at h
 split at h
 ·exact ⟨_, rfl, h⟩
 ·exact h.elim
theorem openE_eq {st : St} {s : S} (h : openE st s) : ∃ id, s = .s (.c (.ptr id 0)) /\ openM (st.mem id) /\ st.sp id = false /\ st.fr id = false := by
 unfold openE at h
 split at h
 ·exact ⟨_, rfl, h⟩
 ·exact h.elim
theorem open_ok (ht : TabOk P E tab) (hmix : P.follows .mixedOrders = true) {perm : Nat -> List (List Nat)} {f : FuncId} {fn : Func} (hf : P.funcs[f]? = some fn)
  (hb : fn.body = some (bodyOf fn)) (hres : fn.results.toList = [.tmp 2]) (hn : 3 <= fn.ntmps) (hok : codeOk tab (lookF []) perm fn.ntmps (bodyOf fn) = true)
  (hvc : ∀ code : List UInt8, vc tab (lookF []) (fun _ => none) perm (bodyOf fn) (entry [.c (.d (.arr .u8 code))] none) openQ) : OpenOk P f := by
 intro w0 ro0 code v hin hdr
 have hargs : ArgsR (argG ro0 0) (encs [.sl .u8] (code, ())) [v] := ⟨rfl, fun j s hj => by
  match j, hj with
  | 0, hj => cases hj; exact ⟨v, rfl, hdr⟩
  | j + 1, hj => cases hj⟩
 have hrel : Rel E w0 (MOf false 0 ro0) fn.ntmps (entry (encs [.sl .u8] (code, ())) (rdOf false 0)) { tmps := [v].toArray ++ Array.replicate (fn.ntmps - [v].toArray.size) undef, defers := [] } w0 :=
  entry_rel hin (fun h => by cases h) hargs (by simp; omega)
 refine calls_of_wp hf hb ?_
 refine code_sound ht (kall_of (l := []) trivial) hmix (draw_sound ht (tab_small ht) (kall_of (l := []) trivial) hmix _ _ _) (fun _ _ h _ => by cases h) _ _ _ _ openQ _ hok hrel (hvc code) ?_
 intro xk st' a' w' hr ⟨hk1, hk2⟩
 obtain ⟨id, he, hm, hsp, hfr⟩ := openE_eq hk2
 obtain ⟨c, hm, hcl⟩ := openM_eq hm
 obtain ⟨g, hg, henv⟩ := hr.good
 have h2 := henv 2
 rw [he] at h2
 obtain ⟨b, hk, hv2⟩ := h2
 obtain ⟨b', vs, ty, hb1, hb2, hb3⟩ := hg.res id _ hm
 rw [hk] at hb1
 injection hb1 with hb1; injection hb1 with hb1; injection hb1 with hb1
 subst hb1
 have hblk : blkOf (g.κ id) = some b := by rw [hk]; rfl
 have hge : w0.heap.size <= b := by
  rcases hg.fresh id _ hm trivial b hblk with h | ⟨h, _⟩
  ·exact h
  ·cases h
 have hgro : g.ro b = none := hg.wro id _ hm trivial b hblk hsp hfr
 let ro' : Nat -> Option (Array Value) := fun c => match ro0 c with
  | some v => some v
  | none => g.ro c
 have r0 : ∀ c vs, ro0 c = some vs -> ro' c = some vs := fun c vs hc => by simp [ro', hc]
 have r1 : ∀ c vs, g.ro c = some vs -> ro' c = some vs := by
  intro c vs hc
  cases h0 : ro0 c with
  | none => simp [ro', h0, hc]
  | some vs0 =>
   obtain ⟨ty1, fz1, e1⟩ := hin c vs0 h0
   obtain ⟨ty2, fz2, e2⟩ := hg.ro c vs hc
   rw [hg.ext.block c (lt_of_some e1) (fun ⟨h, _⟩ => by cases h), e1] at e2
   simp at e2
   simp [ro', h0, e2.1]
 have hcells : ∃ u, vs = #[u, .int .i64 0] /\ DR g.ro (.arr .u8 c) u := by
  obtain ⟨hs, hc⟩ := hb3
  obtain ⟨u0, hu0, hd0⟩ := hc 0 _ rfl
  obtain ⟨u1, hu1, hd1⟩ := hc 1 _ rfl
  have hd1' : DR g.ro (.val (.int .i64 0)) u1 := hd1
  cases hd1'
  exact ⟨u0, two_get hs hu0 hu1, hd0⟩
 obtain ⟨u, rfl, hdu⟩ := hcells
 have hrun : (results fn a'.tmps).run P w' = .ok (.pointer (some ⟨b, 0, none⟩)) w' := by
  refine results_run (vs := [.pointer (some ⟨b, 0, none⟩)]) ?_
  rw [hres]
  simp only [List.mapM_cons, List.mapM_nil, rvRead, hv2]
  rfl
 have hro0b : ro0 b = none := by
  cases h0 : ro0 b with
  | none => rfl
  | some vs0 => obtain ⟨ty1, fz1, e1⟩ := hin b vs0 h0; have := lt_of_some e1; omega
 have fin : a'.defers = [] /\ ∃ u, (results fn a'.tmps).run P w' = .ok u w' /\ ∃ b ro', Ending.returned u = .returned (.pointer (some ⟨b, 0, none⟩)) /\ Ext (fun _ => False) w0 w' /\ w0.heap.size <= b /\ (∀ c vs, ro0 c = some vs -> ro' c = some vs) /\
   (∀ c vs, ro' c = some vs -> ro0 c = some vs ∨ (w0.heap.size <= c /\ ∃ ty fz, w'.heap[c]? = some (.cells vs ty fz))) /\ RdOk w' ro' b 0 := by
  refine ⟨hr.defers, _, hrun, b, ro', rfl, ⟨hg.ext.os, hg.ext.tape, hg.ext.output, hg.ext.size, fun c hc _ => hg.ext.block c hc fun ⟨h, _⟩ => by cases h⟩, hge, r0, ?_, ?_⟩
  ·intro c vs hc
   cases h0 : ro0 c with
   | some vs0 => rw [r0 c vs0 h0] at hc; injection hc with hc; subst hc; exact .inl rfl
   | none =>
    have hc' : g.ro c = some vs := by simpa [ro', h0] using hc
    rcases hg.roo c vs hc' with h | h | ⟨h, _⟩
    ·have h : ro0 c = some vs := h
     rw [h0] at h; cases h
    ·exact .inr ⟨h, hg.ro c vs hc'⟩
    ·cases h
  ·exact ⟨Nat.zero_le _, by simp [ro', hro0b, hgro], c, u, 0, ty, hb2, hdu.mono r1, hcl, Int.le_refl _, Int.le_refl _⟩
 cases xk with
 | normal => exact fin
 | ret => exact fin
 | exit id => exact hk1.elim
def openA : S -> Prop
 | .s (.c (.d (.arr .u8 _))) => True
 | _ => False
end
end Go.SE

namespace Go.SE
open Go.RowKit
abbrev PT := List S0 -> Nat -> St -> (S -> St -> Prop) -> Prop
def ptBase (base d : Nat) : Nat := 64 * base + 16384 * (d + 1)
def St.back (st : St) (dst : Option Nat) (s : S) (st' : St) : St where
 env := match dst with
  | some d => upd st.env d s
  | none => st.env
 mem := st'.mem
 sp := st'.sp
 fr := st'.fr
 base := st.base
 rd := st'.rd
def vcPt (pt : PT) (dst : Option Nat) (st : St) (k : St -> Prop) : Option (List S0) -> Prop
 | some ss => pt ss (ptBase st.base (dst.getD 0)) st fun s st' => k (st.back dst s st')
 | none => False
def ptOf (pts : FuncId -> Option PT) (o : Oper) : Option (PT × List Operand) :=
 match o.op with
 | .call ⟨.value (.func f), args, _⟩ => match pts f with
  | some pt => some (pt, args.toList)
  | none => none
 | _ => none
section
variable (tab : TypeId -> Option TI) (K : FuncId -> Option Con) (pts : FuncId -> Option PT)
def ptK (o : Oper) (st : St) (k : St -> Prop) : Option (PT × List Operand) -> Prop
 | some (pt, args) => vcPt pt o.dst st k (argsS st args)
 | none => vcOp tab K o st k
def blkIds (st : St) : List Nat -> Bool
 | [] => true
 | id :: l => match st.mem id with
  | some (.blk _) => blkIds st l
  | _ => false
def cloOf (o : Oper) (st : St) : Option (PT × List Operand × List Nat) :=
 match o.op with
 | .call ⟨.value (.tmp t), args, _⟩ => match st.env t with
  | .s (.c (.fn f ids)) => match pts f with
   | some pt => cond (blkIds st ids) (some (pt, args.toList, ids)) none
   | none => none
  | _ => none
 | _ => none
def withPtrs (ids : List Nat) : Option (List S0) -> Option (List S0)
 | some ss => some (ss ++ ids.map fun id => .c (.ptr id 0))
 | none => none
def cloK (o : Oper) (st : St) (k : St -> Prop) : Option (PT × List Operand × List Nat) -> Prop
 | some (pt, args, ids) => vcPt pt o.dst st k (withPtrs ids (argsS st args))
 | none => ptK tab K o st k (ptOf pts o)
def idxOf (o : Oper) (st : St) : Option (Nat × Nat × Nat × Int) :=
 match o.op with
 | .indexAddr ty x i => match tab ty, ev st i, ev st x with
  | some ⟨_, _, .ar n _ t⟩, .s (.c (.d (.val (.int _ k)))), .s (.c (.ptr id off)) => match st.mem id, t.sz with
   | some (.blk _), 1 => some (n, id, off, k)
   | _, _ => none
  | _, _, _ => none
 | _ => none
def vcIdxs (dst : Option Nat) (st : St) (k : St -> Prop) (id off : Nat) (i : Int) : Nat -> Prop
 | 0 => True
 | j + 1 => vcIdxs dst st k id off i j /\ (i = (j : Int) -> vcTr dst st k (some (.one (.s (.c (.ptr id (off + j)))))))
def vcOpX (o : Oper) (st : St) (k : St -> Prop) : Option (Nat × Nat × Nat × Int) -> Prop
 | some (n, id, off, i) => (0 <= i /\ i < (n : Int)) /\ vcIdxs o.dst st k id off i n
 | none => cloK tab K pts o st k (cloOf pts o st)
def vcOpP (o : Oper) (st : St) (k : St -> Prop) : Prop := vcOpX tab K pts o st k (idxOf tab o st)
def vcStepP (ops : Array Oper) (o : Oper) (st : St) (k : St -> Prop) : Prop :=
 match o.guard with
 | none => vcOpP tab K pts o st k
 | some (j, want) => match gslot ops j with
  | none => False
  | some g => match st.env g with
   | .s (.c (.d (.val (.bool b)))) =>
    match want with
    | true => vcIf b (vcOpP tab K pts o { st with env := upd st.env g (sv (.bool true)) } k) (k (St.put { st with env := upd st.env g (sv (.bool false)) } o.dst (.tup [])))
    | false => vcIf b (k (St.put { st with env := upd st.env g (sv (.bool true)) } o.dst (.tup []))) (vcOpP tab K pts o { st with env := upd st.env g (sv (.bool false)) } k)
   | .tup [] => k (St.put st o.dst (.tup []))
   | _ => False
def vcOpsP (ops : Array Oper) : List Oper -> St -> (St -> Prop) -> Prop
 | [], st, k => k st
 | o :: rest, st, k => vcStepP tab K pts ops o st fun st' => vcOpsP ops rest st' k
end
def tabE : List Nat -> (Nat -> S) -> Nat -> S
 | [], _ => fun _ => junk
 | x :: l, e => upd (tabE l e) x (e x)
def tabM (O : Nat -> Option Res) (m : Nat -> Option Res) : List Nat -> Nat -> Option Res
 | [] => fun j => match O j with
  | some _ => m j
  | none => none
 | x :: l => upd (tabM O m l) x (m x)
def tabQ (O : Nat -> Option Res) (f : Nat -> Bool) : List Nat -> Nat -> Bool
 | [] => fun j => match O j with
  | some _ => f j
  | none => false
 | x :: l => upd (tabQ O f l) x (f x)
def gcSt (O : Nat -> Option Res) (live ids : List Nat) (st : St) : St where
 env := tabE live st.env
 mem := tabM O st.mem ids
 sp := tabQ O st.sp ids
 fr := tabQ O st.fr ids
 base := st.base
 rd := st.rd
def allInO (O : Nat -> Option Res) (ids : List Nat) : List Nat -> Prop
 | [] => True
 | x :: l => (inL ids x || (O x).isSome) = true /\ allInO O ids l
def closedEO (O : Nat -> Option Res) (e : Nat -> S) (ids : List Nat) : List Nat -> Prop
 | [] => True
 | j :: l => allInO O ids (e j).refs /\ closedEO O e ids l
def closedMO (O : Nat -> Option Res) (m : Nat -> Option Res) (ids : List Nat) : List Nat -> Prop
 | [] => True
 | j :: l => (match m j with
   | some r => allInO O ids r.refs
   | none => True) /\ closedMO O m ids l
def sameO (O : Nat -> Option Res) (ids : List Nat) (st st' : St) : Prop :=
 ∀ j, (O j).isSome = true -> inL ids j = false -> st.mem j = O j /\ st'.mem j = st.mem j /\ st'.sp j = st.sp j /\ st'.fr j = st.fr j
def gcOk (O : Nat -> Option Res) (live ids : List Nat) (st : St) : Prop :=
 closedEO O st.env ids live /\ closedMO O st.mem ids ids /\ ∀ j, (O j).isSome = true -> inL ids j = false -> st.mem j = O j
def gcK (O : Nat -> Option Res) (st : St) (k : St -> Prop) : Option (List Nat × List Nat) -> Prop
 | none => k st
 | some (live, ids) => gcOk O live ids st /\ k (gcSt O live ids st)
def closedVO (O : Nat -> Option Res) (ids : List Nat) : List (Nat × S) -> Prop
 | [] => True
 | (_, v) :: l => allInO O ids v.refs /\ closedVO O ids l
def closedRO (O : Nat -> Option Res) (ids : List Nat) : List (Nat × Res) -> Prop
 | [] => True
 | (_, r) :: l => allInO O ids r.refs /\ closedRO O ids l
def headP (O : Nat -> Option Res) (live : List Nat) (sets : List (Nat × S)) (mids : List Nat) (blks : List (Nat × Res)) (owns : List Own) (base : Nat) (rd : Option Nat) (st : St) : St where
 env := puts (puts (keepE live st.env) (ownEnv owns)) sets
 mem := adds (adds (tabM O st.mem mids) blks) (ownRes owns)
 sp := fun j => match inL (blks.map (·.1) ++ owns.map (·.id)) j with
  | true => false
  | false => tabQ O st.sp mids j
 fr := fun j => match inL (blks.map (·.1) ++ owns.map (·.id)) j with
  | true => false
  | false => tabQ O st.fr mids j
 base := base
 rd := rd
def okO (O : Nat -> Option Res) (ρ : Nat -> Nat) : List Nat -> Prop
 | [] => True
 | j :: l => (match O j with
   | some _ => ρ j = j
   | none => O (ρ j) = none) /\ okO O ρ l
def fitsP (O : Nat -> Option Res) (live : List Nat) (sets : List (Nat × S)) (mids : List Nat) (blks : List (Nat × Res)) (owns : List Own) (rd : Option Nat) (st st' : St) : Prop :=
 match renL st' owns with
 | none => False
 | some m =>
  envSame st'.env st.env live /\ envSets st'.env (lookR m) sets /\ memSame st st' mids /\ memBlks st' (lookR m) blks /\ memOwns st' (lookR m) owns /\
  allDiff (idsC mids blks owns) /\ allDiff ((idsC mids blks owns).map (lookR m)) /\ allDiff (famsOf st' ((idsC mids blks owns).map (lookR m))) /\
  closedEO O st.env (mids ++ blks.map (·.1)) live /\ closedVO O (idsC mids blks owns) sets /\ closedMO O st.mem (mids ++ blks.map (·.1)) mids /\ closedRO O (idsC mids blks owns) blks /\
  okO O (lookR m) (idsC mids blks owns) /\ sameO O (idsC mids blks owns) st st' /\
  (∀ j f t xs, O j = some (.sl f t xs) -> inL (idsC mids blks owns) j = false -> notIn f (famsOf st' ((idsC mids blks owns).map (lookR m)))) /\
  rdLe st'.rd rd
def vcLoopP (O : Nat -> Option Res) (body : St -> (XK -> St -> Prop) -> Prop) (st : St) (Q : XK -> St -> Prop) : Option Ann -> Prop
 | none => False
 | some ⟨α, ok, mu, i0, nx, live, sets, mids, blks, owns, rd, base⟩ => (ok (i0 st) /\ fitsP O live (sets (i0 st)) mids (blks (i0 st)) (owns (i0 st)) (rd st.rd (i0 st)) st st) /\
   ∀ a : α, ok a -> body (headP O live (sets a) mids (blks a) (owns a) base (rd st.rd a) st) (seqK (fun st' => ok (nx a st') /\ mu (nx a st') < mu a /\ fitsP O live (sets (nx a st')) mids (blks (nx a st')) (owns (nx a st')) (rd st.rd (nx a st')) st st') Q)
def tailN (ops : Array Oper) : Nat := match ops[ops.size - 1]? with
 | some o => (match o.op with
  | .assign _ => 2
  | .unOp _ _ _ => 2
  | .store _ _ _ => (match ops[ops.size - 2]? with
   | some o2 => (match o2.op with
    | .call _ => cond ((List.range (ops.size - 2)).all fun i => ((Region.before ops).getD (ops.size - 2) 0).testBit i) 2 1
    | _ => 1)
   | none => 1)
  | _ => 1)
 | none => 1
def tl (N : Nat) : Nat -> List Nat
 | 0 => []
 | d + 1 => N :: tl (N + 1) d
def vcLast (tab : TypeId -> Option TI) (K : FuncId -> Option Con) (pts : FuncId -> Option PT) (ops : Array Oper) (st : St) (k : St -> Prop) : Prop :=
 vcOps tab K ops (pickOps ops (List.range (ops.size - tailN ops))) st fun s => vcOpsP tab K pts ops (pickOps ops (tl (ops.size - tailN ops) (tailN ops))) s k
def vcRegP (tab : TypeId -> Option TI) (K : FuncId -> Option Con) (pts : FuncId -> Option PT) (ops : Array Oper) (st : St) (k : St -> Prop) : Bool -> List (List Nat) -> Prop
 | false, p => vcReg tab K ops st k p
 | true, [] => vcOpsP tab K pts ops ops.toList st k
 | true, [] :: _ => vcLast tab K pts ops st k
 | true, (i :: l) :: _ => vcOpsP tab K pts ops (pickOps ops (i :: l)) st k
section
variable (tab : TypeId -> Option TI) (K : FuncId -> Option Con) (O : Nat -> Option Res) (pts : FuncId -> Option PT) (hp : Nat -> Bool) (gcs : Nat -> Option (List Nat × List Nat)) (anns : Nat -> Option Ann) (perm : Nat -> List (List Nat))
def vcP : Code -> St -> (XK -> St -> Prop) -> Prop
 | .skip, st, Q => Q .normal st
 | .region id ops _, st, Q => vcRegP tab K pts ops st (Q .normal) (hp id) (perm id)
 | .seq a b, st, Q => vcP a st (seqK (fun st' => gcK O st' (fun s => vcP b s Q) (gcs (firstReg b))) Q)
 | .cond c a b, st, Q => condK (vcP a st Q) (vcP b st Q) (ev st c)
 | .block id c, st, Q => vcP c st (blockK id Q)
 | .loop c, st, Q => vcLoopP O (fun st' Q' => vcP c st' Q') st Q (anns (firstReg c))
 | .exit id, st, Q => Q (.exit id) st
 | .ret, st, Q => Q .ret st
 | _, _, _ => False
end
def retP (tab : TypeId -> Option TI) (rvs : List ResultVar) (k : S -> St -> Prop) : XK -> St -> Prop
 | .exit _, _ => False
 | _, st => match loadsS tab st rvs with
  | some ss => k (pack1 ss) st
  | none => False
def inlSt (args : List S0) (base : Nat) (st : St) : St := { env := envOf args 0, mem := st.mem, sp := st.sp, fr := st.fr, base := base, rd := st.rd }
def inl (tab : TypeId -> Option TI) (K : FuncId -> Option Con) (pts : FuncId -> Option PT) (hp : Nat -> Bool) (gcs : Nat -> Nat -> Option (List Nat × List Nat)) (anns : List S0 -> Nat -> St -> Nat -> Option Ann) (perm : Nat -> List (List Nat)) (nt : Nat) (body : Code) (rvs : List ResultVar) : PT :=
 fun args base st k => args.length <= nt /\ vcP tab K st.mem pts hp (gcs base) (anns args base st) perm body (inlSt args base st) (retP tab rvs k)
def lookP : List (FuncId × PT) -> FuncId -> Option PT
 | [], _ => none
 | (a, b) :: l, f => if f = a then some b else lookP l f
section
variable {tab : TypeId -> Option TI} {K : FuncId -> Option Con} {O : Nat -> Option Res} {pts : FuncId -> Option PT} {hp : Nat -> Bool} {gcs : Nat -> Option (List Nat × List Nat)} {anns : Nat -> Option Ann} {perm : Nat -> List (List Nat)}
@[congr] theorem ptK_cg {o : Oper} {st st' : St} {k : St -> Prop} {p p' : Option (PT × List Operand)} (h : st = st') (hp : p = p') : ptK tab K o st k p = ptK tab K o st' k p' := by rw [h, hp]
@[congr] theorem vcPt_cg {pt : PT} {dst : Option Nat} {st st' : St} {k : St -> Prop} {a a' : Option (List S0)} (h : st = st') (ha : a = a') : vcPt pt dst st k a = vcPt pt dst st' k a' := by rw [h, ha]
@[congr] theorem vcOpP_cg {o : Oper} {st st' : St} {k : St -> Prop} (h : st = st') : vcOpP tab K pts o st k = vcOpP tab K pts o st' k := by rw [h]
@[congr] theorem vcStepP_cg {ops : Array Oper} {o : Oper} {st st' : St} {k : St -> Prop} (h : st = st') : vcStepP tab K pts ops o st k = vcStepP tab K pts ops o st' k := by rw [h]
@[congr] theorem vcOpsP_cg {ops : Array Oper} {l : List Oper} {st st' : St} {k : St -> Prop} (h : st = st') : vcOpsP tab K pts ops l st k = vcOpsP tab K pts ops l st' k := by rw [h]
@[congr] theorem vcRegP_cg {ops : Array Oper} {st st' : St} {k : St -> Prop} {b b' : Bool} {l l' : List (List Nat)} (h : st = st') (hb : b = b') (hl : l = l') : vcRegP tab K pts ops st k b l = vcRegP tab K pts ops st' k b' l' := by rw [h, hb, hl]
@[congr] theorem vcP_cg {c : Code} {st st' : St} {Q : XK -> St -> Prop} (h : st = st') : vcP tab K O pts hp gcs anns perm c st Q = vcP tab K O pts hp gcs anns perm c st' Q := by rw [h]
@[congr] theorem gcK_cg {st st' : St} {k : St -> Prop} {p p' : Option (List Nat × List Nat)} (h : st = st') (hq : p = p') : gcK O st k p = gcK O st' k p' := by rw [h, hq]
@[congr] theorem vcLoopP_cg {b : St -> (XK -> St -> Prop) -> Prop} {st st' : St} {Q : XK -> St -> Prop} {A A' : Option Ann} (h : st = st') (hA : A = A') : vcLoopP O b st Q A = vcLoopP O b st' Q A' := by rw [h, hA]
@[congr] theorem retP_cg {rvs : List ResultVar} {k : S -> St -> Prop} {x x' : XK} {st st' : St} (hx : x = x') (h : st = st') : retP tab rvs k x st = retP tab rvs k x' st' := by rw [hx, h]
end
end Go.SE

namespace Go.SE
open Go.RowKit
section
variable {P : Program} {E : Ty -> TypeId} {tab : TypeId -> Option TI} {K : FuncId -> Option Con} {pts : FuncId -> Option PT} {w0 : World} {M : MM} {n : Nat} {o : Oper} {st : St} {a : Act} {w : World}
def MCl (st : St) : Prop := ∀ j r, st.mem j = some r -> ∀ id ∈ r.refs, (st.mem id).isSome = true
structure PTOk (P : Program) (E : Ty -> TypeId) (f : FuncId) (pt : PT) : Prop where
 fn : ∃ fn c, P.funcs[f]? = some fn /\ (fn.name == "runtime.NumGoroutine") = false /\ fn.body = some c
 call : ∀ (w0 : World) (M : MM) (g : G) (st : St) (w : World) (args : List S0) (vs : List Value) (base : Nat) (k : S -> St -> Prop),
  Good E w0 M g st w -> MCl st -> (∀ id ∈ refsT args, (st.mem id).isSome = true) -> ArgsR g args vs -> pt args base st k ->
  Calls P f vs.toArray w fun e w' => ∃ v s st' g', e = .returned v /\ k s st' /\ Good E w0 M g' st' w' /\ s.R g' v /\ (∀ id ∈ s.refs, (st'.mem id).isSome = true) /\ MCl st' /\
   (∀ id, (st.mem id).isSome = true -> (st'.mem id).isSome = true /\ g'.κ id = g.κ id /\ g'.ln id = g.ln id) /\ (∀ b vs, g.ro b = some vs -> g'.ro b = some vs) /\ g'.ρ = g.ρ
def PAll (P : Program) (E : Ty -> TypeId) (pts : FuncId -> Option PT) : Prop := ∀ f pt, pts f = some pt -> PTOk P E f pt
theorem snd_ptv (h : Rel E w0 M n st a w) (hd : ∀ d, o.dst = some d -> d < n) {f : FuncId} {pt : PT} (hP : PTOk P E f pt) {ss : List S0} {vs : List Value} {g : G} (hg : Good E w0 M g st w) (henv : ∀ x, (st.env x).R g (a.tmps.getD x undef))
  (hrun : ∀ fn c, P.funcs[f]? = some fn -> (fn.name == "runtime.NumGoroutine") = false -> fn.body = some c -> (execOp a.eval o).run P w = .ok (.enter f vs.toArray) w) (hargs : ArgsR g ss vs) (hrefs : ∀ id ∈ refsT ss, (st.mem id).isSome = true) {k : St -> Prop}
  (hv : vcPt pt o.dst st k (some ss)) {next : Act -> World -> Prop} {Q : Exit -> Act -> World -> Prop} (hk : ∀ st' a' w', Rel E w0 M n st' a' w' -> k st' -> next a' w') : o.wp P a w next Q := by
 obtain ⟨fn, c, hf, hname, hbody⟩ := hP.fn
 unfold Oper.wp
 rw [hrun fn c hf hname hbody, Oper.upon_enter]
 have hcall := hP.call w0 M g st w ss vs (ptBase st.base (o.dst.getD 0)) _ hg h.cl.2 hrefs hargs hv
 refine Calls.mono hcall fun e w' he => ?_
 obtain ⟨v, s, st', g', rfl, hks, hg', hsR, hsref, hcl', hold, hro, hρ⟩ := he
 show next (a.put o.dst v) w'
 refine hk _ _ _ ?_ hks
 have envEq : ∀ x, (st.back o.dst s st').env x = if o.dst = some x then s else st.env x := by
  intro x
  cases hdst : o.dst with
  | none => simp [St.back]
  | some d =>
   by_cases e : x = d
   ·subst e; simp [St.back, upd]
   ·have : ¬ (some d = some x) := fun h => e (by injection h with h; exact h.symm)
    rw [if_neg this]
    simp [St.back, upd, e]
 refine ⟨⟨?_, hcl'⟩, ?_, ?_, g', hg'.env rfl rfl rfl rfl, ?_⟩
 ·intro x id hid
  rw [envEq] at hid
  split at hid
  ·exact hsref id hid
  ·exact (hold id (h.cl.1 x id hid)).1
 ·cases o.dst <;> simp [Act.put, h.size]
 ·cases o.dst <;> simp [Act.put, h.defers]
 ·intro x
  rw [put_get (by rw [h.size]; exact hd), envEq]
  split
  ·exact hsR
  ·exact (henv x).mono hro hρ fun id hid => (hold id (h.cl.1 x id hid)).2
theorem snd_pt (h : Rel E w0 M n st a w) (hd : ∀ d, o.dst = some d -> d < n) {f : FuncId} {pt : PT} (hP : PTOk P E f pt) {args : Array Operand} {tys : Array TypeId} (ho : o.op = .call ⟨.value (.func f), args, tys⟩) {k : St -> Prop}
  (hv : vcPt pt o.dst st k (argsS st args.toList)) {next : Act -> World -> Prop} {Q : Exit -> Act -> World -> Prop} (hk : ∀ st' a' w', Rel E w0 M n st' a' w' -> k st' -> next a' w') : o.wp P a w next Q := by
 obtain ⟨g, hg, henv⟩ := h.good
 cases hss : argsS st args.toList with
 | none => rw [hss] at hv; exact hv.elim
 | some ss =>
  rw [hss] at hv
  refine snd_ptv h hd hP hg henv (vs := args.toList.map a.eval) (fun fn c hf hname hbody => ?_) (argsS_R henv hss) (argsS_refs h.cl hss) hv hk
  have harr : (args.toList.map a.eval).toArray = args.map a.eval := by apply Array.ext'; simp
  rw [harr]
  exact run_call hf hname hbody ho
theorem blkIds_mem : ∀ {ids : List Nat}, blkIds st ids = true -> ∀ id ∈ ids, ∃ cs, st.mem id = some (.blk cs) := by
 intro ids
 induction ids with
 | nil => intro _ id hid; cases hid
 | cons x ids ih =>
  intro h id hid
  simp only [blkIds] at h
  split at h
  ·rename_i cs hm
   rcases List.mem_cons.1 hid with e | hid
   ·rw [e]; exact ⟨cs, hm⟩
   ·exact ih h id hid
  ·cases h
theorem refsT_ptrs (ids : List Nat) : refsT (ids.map fun id => S0.c (.ptr id 0)) = ids := by
 induction ids with
 | nil => rfl
 | cons x ids ih => simp only [List.map_cons, refsT, ih, S0.refs, CV.refs]; rfl
theorem refsT_app (l m : List S0) : refsT (l ++ m) = refsT l ++ refsT m := by
 induction l with
 | nil => rfl
 | cons x l ih => simp only [List.cons_append, refsT, ih, List.append_assoc]
theorem snd_clo (h : Rel E w0 M n st a w) (hd : ∀ d, o.dst = some d -> d < n) {f : FuncId} {pt : PT} (hP : PTOk P E f pt) {t : Nat} {ids : List Nat} {args : Array Operand} {tys : Array TypeId} (ho : o.op = .call ⟨.value (.tmp t), args, tys⟩) (het : st.env t = .s (.c (.fn f ids)))
  (hb : blkIds st ids = true) {k : St -> Prop} (hv : vcPt pt o.dst st k (withPtrs ids (argsS st args.toList))) {next : Act -> World -> Prop} {Q : Exit -> Act -> World -> Prop} (hk : ∀ st' a' w', Rel E w0 M n st' a' w' -> k st' -> next a' w') : o.wp P a w next Q := by
 obtain ⟨g, hg, henv⟩ := h.good
 cases hss : argsS st args.toList with
 | none => rw [hss] at hv; exact hv.elim
 | some ss =>
  rw [hss] at hv
  have ht := henv t
  rw [het] at ht
  have hargs := argsS_R henv hss
  refine snd_ptv h hd hP hg henv (vs := args.toList.map a.eval ++ ids.map g.κ) (fun fn c hf hname hbody => ?_) ?_ ?_ hv hk
  ·have harr : (args.toList.map a.eval ++ ids.map g.κ).toArray = args.map a.eval ++ (ids.map g.κ).toArray := by apply Array.ext'; simp
   have hn : ¬ fn.name = "runtime.NumGoroutine" := by simpa using hname
   have hval : a.eval (.tmp t) = .func (.func f) #[] (ids.map g.κ).toArray := ht
   rw [harr]
   simp [execOp, ho, resolve, hval, Deferred.ofValue, invoke, callFunc, hf, hn, hbody]
  ·refine ⟨by simp [hargs.1], fun j s hj => ?_⟩
   by_cases hlt : j < ss.length
   ·rw [List.getElem?_append_left hlt] at hj
    obtain ⟨v, h1, h2⟩ := hargs.2 j s hj
    exact ⟨v, by rw [List.getElem?_append_left (by rw [hargs.1]; exact hlt)]; exact h1, h2⟩
   ·have hge : ss.length <= j := by omega
    rw [List.getElem?_append_right hge, List.getElem?_map] at hj
    obtain ⟨id, hid, rfl⟩ := Option.map_eq_some_iff.1 hj
    have hl := hargs.1
    refine ⟨g.κ id, by rw [List.getElem?_append_right (by rw [hl]; exact hge), List.getElem?_map, hl, hid]; rfl, ?_⟩
    obtain ⟨cs, hm⟩ := blkIds_mem hb id (List.mem_of_getElem? hid)
    obtain ⟨b, _, _, hκ, _⟩ := hg.res id _ hm
    exact ⟨b, hκ, hκ⟩
  ·intro id hid
   rw [refsT_app, refsT_ptrs] at hid
   rcases List.mem_append.1 hid with hid | hid
   ·exact argsS_refs h.cl hss id hid
   ·obtain ⟨cs, hm⟩ := blkIds_mem hb id hid
    rw [hm]; rfl
theorem vcIdxs_get {dst : Option Nat} {k : St -> Prop} {id off : Nat} {i : Int} : ∀ {m : Nat}, vcIdxs dst st k id off i m -> ∀ j, j < m -> i = (j : Int) -> vcTr dst st k (some (.one (.s (.c (.ptr id (off + j)))))) := by
 intro m
 induction m with
 | zero => intro _ j hj; omega
 | succ m ih =>
  intro h j hj he
  by_cases e : j = m
  ·subst e; exact h.2 he
  ·exact ih h.1 j (by omega) he
theorem vcOpP_sound (h : Rel E w0 M n st a w) (ht : TabOk P E tab) (hKA : KAll P E K) (hPA : PAll P E pts) (hd : ∀ d, o.dst = some d -> d < n) (hok : opOk o = true) {k : St -> Prop} (hv : vcOpP tab K pts o st k) {next : Act -> World -> Prop} {Q : Exit -> Act -> World -> Prop}
  (hk : ∀ st' a' w', Rel E w0 M n st' a' w' -> k st' -> next a' w') : o.wp P a w next Q := by
 unfold vcOpP at hv
 cases hi : idxOf tab o st with
 | some q =>
  rw [hi] at hv
  obtain ⟨m, id, off, i⟩ := q
  obtain ⟨⟨h0, h1⟩, hv⟩ := hv
  unfold idxOf at hi
  split at hi
  ·rename_i ty x i' ho
   split at hi
   ·rename_i sz by_ m' e t ik k' id' off' hti hei hev
    split at hi
    ·rename_i cs hm hsz1
     injection hi with hi
     injection hi with e1 hi
     injection hi with e2 hi
     injection hi with e3 e4
     subst e1 e2 e3 e4
     obtain ⟨g, hg, henv⟩ := h.good
     have hx := ev_R henv x
     rw [hev] at hx
     obtain ⟨b, hκ, hvx⟩ := hx
     have vi := (ev_val h hei).1
     obtain ⟨inf, d, _, hu, _, rfl, _, ie, zc, hie, hsz, _⟩ := ht _ _ hti
     have hr := run_indexAt_ar (w := w) (P := P) (b := b) (o := off') (len := m') (k := ik) hu hie h0 h1
     have hsd : Sound P E w0 M n o st a w (Tr.one (.s (.c (.ptr id' (off' + k'.toNat))))) := by
      refine Sound.plain1 h hd hg henv (v := .pointer (some ⟨b, off' + k'.toNat * ie.size, none⟩)) ?_ ?_ ⟨b, hκ, by rw [hsz, hsz1, Nat.mul_one]⟩
      ·intro j hj
       simp only [S.refs, S0.refs, CV.refs, List.mem_singleton] at hj
       subst hj
       rw [hm]; rfl
      ·simp only [execOp, ho]
       rw [hvx, vi]
       simp [hr]
     have hget := vcIdxs_get hv k'.toNat (by omega) (by omega)
     exact hsd next Q fun r a' w' _ hrel => hk _ a' w' hrel hget.2
    ·cases hi
   ·cases hi
  ·cases hi
 | none =>
  rw [hi] at hv
  unfold vcOpX at hv
  cases hc : cloOf pts o st with
  | some q =>
   obtain ⟨pt, args, ids⟩ := q
   rw [hc] at hv
   unfold cloOf at hc
   split at hc
   ·rename_i t args' tys ho
    split at hc
    ·rename_i f ids' het
     split at hc
     ·rename_i pt' hpt
      cases hb : blkIds st ids' with
      | false => rw [hb] at hc; cases hc
      | true =>
       rw [hb, cond_true] at hc
       injection hc with hc
       injection hc with e1 hc
       injection hc with e2 e3
       subst e1 e2 e3
       exact snd_clo h hd (hPA f _ hpt) ho het hb hv hk
     ·cases hc
    ·cases hc
   ·cases hc
  | none =>
  rw [hc] at hv
  unfold cloK at hv
  cases hp : ptOf pts o with
  | none => rw [hp] at hv; exact vcOp_sound h ht hKA hd hok hv hk
  | some q =>
   obtain ⟨pt, args⟩ := q
   rw [hp] at hv
   unfold ptOf at hp
   split at hp
   ·rename_i f args' tys ho
    split at hp
    ·rename_i pt' hpt
     injection hp with hp
     injection hp with hp1 hp2
     subst hp1 hp2
     exact snd_pt h hd (hPA f _ hpt) ho hv hk
    ·cases hp
   ·cases hp
theorem stepP_sound (ht : TabOk P E tab) (hKA : KAll P E K) (hPA : PAll P E pts) {ops : Array Oper} {o : Oper} (hok : opOk o = true) (hd : ∀ d, o.dst = some d -> d < n) (h : Rel E w0 M n st a w) {k : St -> Prop} (hv : vcStepP tab K pts ops o st k) {next : Act -> World -> Prop} {Q : Exit -> Act -> World -> Prop}
  (hk : ∀ st' a' w', Rel E w0 M n st' a' w' -> k st' -> next a' w') : RunsOp P ops o next Q a w := by
 unfold vcStepP at hv
 unfold RunsOp
 cases hg : o.guard with
 | none =>
  rw [hg] at hv
  rw [if_pos (by simp [Region.wanted, hg])]
  exact .inl (vcOpP_sound h ht hKA hPA hd hok hv hk)
 | some gw =>
  obtain ⟨j, want⟩ := gw
  rw [hg] at hv
  simp only at hv
  split at hv
  ·exact hv.elim
  ·rename_i g hgs
   split at hv
   ·rename_i b he
    have hy := yields h hgs he
    have hwant : Region.wanted o (yielded ops a.tmps) = (b == want) := by simp [Region.wanted, hg, hy]
    rw [hwant]
    have hself : ∀ c : Bool, b = c -> ({ st with env := upd st.env g (sv (.bool c)) } : St) = st := by
     intro c hc
     subst hc
     have := upd_self st.env g (sv (.bool b)) he
     rw [this]
    cases want <;> cases b <;> simp only at hv
    ·have hv := vcIf_f hv
     rw [hself false rfl] at hv
     exact .inl (vcOpP_sound h ht hKA hPA hd hok hv hk)
    ·have hv := vcIf_t hv
     rw [hself true rfl] at hv
     exact hk _ _ w (h.skip hd) hv
    ·have hv := vcIf_f hv
     rw [hself false rfl] at hv
     exact hk _ _ w (h.skip hd) hv
    ·have hv := vcIf_t hv
     rw [hself true rfl] at hv
     exact .inl (vcOpP_sound h ht hKA hPA hd hok hv hk)
   ·rename_i he
    have hwant : Region.wanted o (yielded ops a.tmps) = false := by simp [Region.wanted, hg, noYield h hgs he]
    rw [hwant]
    exact hk _ _ w (h.skip hd) hv
   ·exact hv.elim
theorem seqP_sound (ht : TabOk P E tab) (hKA : KAll P E K) (hPA : PAll P E pts) {ops : Array Oper} {k : St -> Prop} {Q : Exit -> Act -> World -> Prop} (hk : ∀ st' a' w', Rel E w0 M n st' a' w' -> k st' -> Q .normal a' w') :
  ∀ (l : List Oper) (st : St) (a : Act) (w : World), (∀ o ∈ l, opOk o = true /\ ∀ d, o.dst = some d -> d < n) -> Rel E w0 M n st a w -> vcOpsP tab K pts ops l st k -> wpList P ops Q l a w := by
 intro l
 induction l with
 | nil => intro st a w _ h hv; exact hk st a w h hv
 | cons o rest ih =>
  intro st a w hl h hv
  obtain ⟨hok, hd⟩ := hl o (by simp)
  have hl' : ∀ o ∈ rest, opOk o = true /\ ∀ d, o.dst = some d -> d < n := fun o ho => hl o (by simp [ho])
  unfold wpList
  exact stepP_sound ht hKA hPA hok hd h hv fun st' a' w' hr hv' => ih st' a' w' hl' hr hv'
theorem linExts_ex (ops : Array Oper) : ∀ (f : Nat) (ls : Array Bool), ∃ l, l ∈ linExts ops f ls := by
 intro f
 induction f with
 | zero => intro ls; exact ⟨[], by simp [linExts]⟩
 | succ f ihf =>
  intro ls
  simp only [linExts]
  split
  ·exact ⟨[], by simp⟩
  ·rename_i x xs _
   obtain ⟨l, hl⟩ := ihf (ls.setIfInBounds x true)
   exact ⟨x :: l, List.mem_flatMap.2 ⟨x, by simp, List.mem_map.2 ⟨l, hl, rfl⟩⟩⟩
theorem one_sound (ht : TabOk P E tab) (hKA : KAll P E K) (hPA : PAll P E pts) {ops : Array Oper} (hok : opsOk n ops.toList = true) {k : St -> Prop} {Q : Exit -> Act -> World -> Prop} (hQ : ∀ st' a' w', Rel E w0 M n st' a' w' -> k st' -> Q .normal a' w') :
  ∀ (fuel : Nat) (l0 : List Nat) (listed : Array Bool) (st : St) (a : Act) (w : World), linDone ops fuel listed = true -> (∀ l ∈ linExts ops fuel listed, l = l0) -> Rel E w0 M n st a w -> vcOpsP tab K pts ops (pickOps ops l0) st k -> wpAny P .any ops Q fuel listed a w := by
 intro fuel
 induction fuel with
 | zero =>
  intro l0 listed st a w hd hone h hv
  simp only [linDone, List.isEmpty_iff] at hd
  have : ([] : List Nat) = l0 := hone [] (by simp [linExts])
  subst this
  exact ⟨hd, hQ st a w h hv⟩
 | succ fuel ih =>
  intro l0 listed st a w hd hone h hv
  simp only [linDone, List.all_eq_true] at hd
  refine ⟨fun he => ?_, fun i hi => ?_⟩
  ·have : ([] : List Nat) = l0 := hone [] (by simp [linExts, he])
   subst this
   exact hQ st a w h hv
  have hmem : ∀ l ∈ linExts ops fuel (listed.setIfInBounds i true), (i :: l) ∈ linExts ops (fuel + 1) listed := by
   intro l hl
   simp only [linExts]
   split
   ·rename_i he; rw [he] at hi; cases hi
   ·rename_i x xs he
    rw [he] at hi
    exact List.mem_flatMap.2 ⟨i, hi, List.mem_map.2 ⟨l, hl, rfl⟩⟩
  obtain ⟨l1, hl1⟩ := linExts_ex ops fuel (listed.setIfInBounds i true)
  have e0 : l0 = i :: l1 := (hone _ (hmem l1 hl1)).symm
  have hone' : ∀ l ∈ linExts ops fuel (listed.setIfInBounds i true), l = l1 := by
   intro l hl
   have := hone _ (hmem l hl)
   rw [e0] at this
   injection this
  subst e0
  unfold wpOp
  cases ho : ops[i]? with
  | none =>
   have e1 : pickOps ops (i :: l1) = pickOps ops l1 := by simp only [pickOps, ho]
   rw [e1] at hv
   exact ih l1 _ st a w (hd i hi) hone' h hv
  | some o =>
   have ho' : o ∈ ops.toList := by
    have := Array.mem_of_getElem? ho
    simpa using this
   obtain ⟨h1, h2⟩ := opsOk_mem hok o ho'
   have e1 : pickOps ops (i :: l1) = o :: pickOps ops l1 := by simp only [pickOps, ho]
   rw [e1] at hv
   exact stepP_sound ht hKA hPA h1 h2 h hv fun st' a' w' hr hk => ih l1 _ st' a' w' (hd i hi) hone' hr hk
theorem tabE_cases (e : Nat -> S) : ∀ (l : List Nat) (j : Nat), (j ∈ l /\ tabE l e j = e j) ∨ tabE l e j = junk := by
 intro l
 induction l with
 | nil => intro j; exact .inr rfl
 | cons x l ih =>
  intro j
  by_cases h : j = x
  ·subst h; exact .inl ⟨by simp, by simp [tabE, upd]⟩
  ·rcases ih j with ⟨h1, h2⟩ | h1
   ·exact .inl ⟨by simp [h1], by simp [tabE, upd, h, h2]⟩
   ·exact .inr (by simp [tabE, upd, h, h1])
theorem tabM_get (O m : Nat -> Option Res) : ∀ (l : List Nat) (j : Nat), tabM O m l j = if (inL l j || (O j).isSome) = true then m j else none := by
 intro l
 induction l with
 | nil => intro j; simp only [tabM, inL]; cases O j <;> simp
 | cons x l ih =>
  intro j
  by_cases h : j = x
  ·subst h; simp [tabM, upd, inL]
  ·simp [tabM, upd, inL, h, ih]
theorem tabQ_get (O : Nat -> Option Res) (m : Nat -> Bool) : ∀ (l : List Nat) (j : Nat), tabQ O m l j = if (inL l j || (O j).isSome) = true then m j else false := by
 intro l
 induction l with
 | nil => intro j; simp only [tabQ, inL]; cases O j <;> simp
 | cons x l ih =>
  intro j
  by_cases h : j = x
  ·subst h; simp [tabQ, upd, inL]
  ·simp [tabQ, upd, inL, h, ih]
theorem allInO_mem {O : Nat -> Option Res} {ids : List Nat} : ∀ {l : List Nat}, allInO O ids l -> ∀ x ∈ l, (inL ids x || (O x).isSome) = true := by
 intro l
 induction l with
 | nil => intro _ x h; cases h
 | cons y l ih => intro h x hx; rcases List.mem_cons.1 hx with rfl | hx; exact h.1; exact ih h.2 x hx
theorem closedEO_mem {O : Nat -> Option Res} {e : Nat -> S} {ids : List Nat} : ∀ {l : List Nat}, closedEO O e ids l -> ∀ j ∈ l, ∀ x ∈ (e j).refs, (inL ids x || (O x).isSome) = true := by
 intro l
 induction l with
 | nil => intro _ j h; cases h
 | cons y l ih => intro h j hj; rcases List.mem_cons.1 hj with rfl | hj; exact allInO_mem h.1; exact ih h.2 j hj
theorem closedMO_mem {O m : Nat -> Option Res} {ids : List Nat} : ∀ {l : List Nat}, closedMO O m ids l -> ∀ j ∈ l, ∀ r, m j = some r -> ∀ x ∈ r.refs, (inL ids x || (O x).isSome) = true := by
 intro l
 induction l with
 | nil => intro _ j h; cases h
 | cons y l ih =>
  intro h j hj
  rcases List.mem_cons.1 hj with rfl | hj
  ·intro r hr
   have h1 := h.1
   rw [hr] at h1
   exact allInO_mem h1
  ·exact ih h.2 j hj
theorem closedVO_mem {O : Nat -> Option Res} {ids : List Nat} : ∀ {l : List (Nat × S)}, closedVO O ids l -> ∀ p ∈ l, ∀ x ∈ p.2.refs, (inL ids x || (O x).isSome) = true := by
 intro l
 induction l with
 | nil => intro _ j h; cases h
 | cons y l ih => intro h j hj; rcases List.mem_cons.1 hj with rfl | hj; exact allInO_mem h.1; exact ih h.2 j hj
theorem closedRO_mem {O : Nat -> Option Res} {ids : List Nat} : ∀ {l : List (Nat × Res)}, closedRO O ids l -> ∀ p ∈ l, ∀ x ∈ p.2.refs, (inL ids x || (O x).isSome) = true := by
 intro l
 induction l with
 | nil => intro _ j h; cases h
 | cons y l ih => intro h j hj; rcases List.mem_cons.1 hj with rfl | hj; exact allInO_mem h.1; exact ih h.2 j hj
structure OOk (O : Nat -> Option Res) (M : MM) : Prop where
 cl : ∀ j r, O j = some r -> ∀ id ∈ r.refs, (O id).isSome = true
 pin : ∀ id, (M.pin id).isSome = true ∨ (M.pinl id).isSome = true -> (O id).isSome = true
 pin' : ∀ id, (O id).isSome = true -> (M.pin id).isSome = true
theorem OOk.dom {O : Nat -> Option Res} (hO : OOk O M) (h : Rel E w0 M n st a w) : ∀ j, (O j).isSome = true -> (st.mem j).isSome = true := by
 intro j hj
 obtain ⟨g, hg, _⟩ := h.good
 obtain ⟨v, hv⟩ := Option.isSome_iff_exists.1 (hO.pin' j hj)
 exact (hg.pin j v hv).1
theorem Rel.gc {O : Nat -> Option Res} (h : Rel E w0 M n st a w) (hO : OOk O M) {live ids : List Nat} (hok : gcOk O live ids st) : Rel E w0 M n (gcSt O live ids st) a w := by
 obtain ⟨h1, h2, h4⟩ := hok
 have hOs := hO.dom h
 obtain ⟨g, hg, henv⟩ := h.good
 have hin : ∀ j r, (gcSt O live ids st).mem j = some r -> (inL ids j || (O j).isSome) = true /\ st.mem j = some r := by
  intro j r hj
  have hj' : tabM O st.mem ids j = some r := hj
  rw [tabM_get] at hj'
  split at hj'
  ·rename_i e; exact ⟨e, hj'⟩
  ·cases hj'
 have hdom : ∀ j, (inL ids j || (O j).isSome) = true -> (st.mem j).isSome = true -> ((gcSt O live ids st).mem j).isSome = true := by
  intro j hj hs
  show (tabM O st.mem ids j).isSome = true
  rw [tabM_get, if_pos hj]
  exact hs
 have hsp : ∀ j r, (gcSt O live ids st).mem j = some r -> (gcSt O live ids st).sp j = st.sp j /\ (gcSt O live ids st).fr j = st.fr j := by
  intro j r hj
  have e := (hin j r hj).1
  constructor
  ·show tabQ O st.sp ids j = _; rw [tabQ_get, if_pos e]
  ·show tabQ O st.fr ids j = _; rw [tabQ_get, if_pos e]
 have hcl2 : ∀ j r, (gcSt O live ids st).mem j = some r -> ∀ id ∈ r.refs, (inL ids id || (O id).isSome) = true := by
  intro j r hj id hid
  obtain ⟨e, hm⟩ := hin j r hj
  cases hi : inL ids j with
  | true => exact closedMO_mem h2 j (inL_mem.1 hi) r hm id hid
  | false =>
   rw [hi] at e
   simp only [Bool.false_or] at e
   have := h4 j e hi
   rw [hm] at this
   have := hO.cl j r this.symm id hid
   simp [this]
 refine ⟨⟨?_, fun j r hj id hid => hdom id (hcl2 j r hj id hid) (h.cl.2 j r (hin j r hj).2 id hid)⟩, h.size, h.defers, g, ?_, ?_⟩
 ·intro x id hid
  rcases tabE_cases st.env live x with ⟨hx, e⟩ | e
  ·have e' : (gcSt O live ids st).env x = st.env x := e
   rw [e'] at hid
   exact hdom id (closedEO_mem h1 x hx id hid) (h.cl.1 x id hid)
  ·have e' : (gcSt O live ids st).env x = SE.junk := e
   rw [e'] at hid
   simp [SE.junk, S.refs, S0.refs, CV.refs] at hid
 ·refine ⟨hg.ext, hg.ro, fun id r hr => hg.res id r (hin id r hr).2, ?_, fun id r hr => hg.fresh id r (hin id r hr).2, ?_, ?_, hg.rds, hg.roo, hg.rho, ?_, ?_, hg.keep.2⟩
  ·intro i j r s hi hj hij hli hlj b hbi hbj
   obtain ⟨f, t, xs, ys, e1, e2, e3⟩ := hg.sep i j r s (hin i r hi).2 (hin j s hj).2 hij hli hlj b hbi hbj
   refine ⟨f, t, xs, ys, e1, e2, fun hs => ?_⟩
   rw [(hsp i r hi).1] at hs
   rw [(hsp j s hj).1]
   exact e3 hs
  ·intro id r hr hl b hb e1 e2
   rw [(hsp id r hr).1] at e1
   rw [(hsp id r hr).2] at e2
   exact hg.wro id r (hin id r hr).2 hl b hb e1 e2
  ·intro m hm
   obtain ⟨e1, e2, e3⟩ := hg.rd m hm
   exact ⟨e1, e2, fun id r hr => e3 id r (hin id r hr).2⟩
  ·intro id v hv
   exact ⟨hdom id (by simp [hO.pin id (.inl (by simp [hv]))]) (hg.pin id v hv).1, (hg.pin id v hv).2⟩
  ·intro id v hv
   exact ⟨hdom id (by simp [hO.pin id (.inr (by simp [hv]))]) (hg.keep.1 id v hv).1, (hg.keep.1 id v hv).2⟩
 ·intro x
  rcases tabE_cases st.env live x with ⟨_, e⟩ | e
  ·have e' : (gcSt O live ids st).env x = st.env x := e
   rw [e']; exact henv x
  ·have e' : (gcSt O live ids st).env x = SE.junk := e
   rw [e']; trivial
end
end Go.SE

namespace Go.SE
open Go.RowKit
def drawLast (K : FuncId -> Option Con) (tab : TypeId -> Option TI) (ops : Array Oper) : Bool :=
 certOk ops (Region.before ops) && (backOk ops && (decide (tailN ops <= ops.size) && (((List.range (ops.size - tailN ops)).all fun j => (List.range j).all fun i => pairOk K tab ops (Region.before ops) i j) && (tl (ops.size - tailN ops) (tailN ops)).all fun j => (List.range j).all fun i => ((Region.before ops).getD j 0).testBit i)))
theorem tl_mem {i : Nat} : ∀ (d N : Nat), i ∈ tl N d ↔ N <= i /\ i < N + d := by
 intro d
 induction d with
 | zero => intro N; simp [tl]
 | succ d ih => intro N; simp only [tl, List.mem_cons, ih]; omega
section
variable {P : Program} {E : Ty -> TypeId} {tab : TypeId -> Option TI} {K : FuncId -> Option Con} {pts : FuncId -> Option PT}
theorem draw_last (ht : TabOk P E tab) (hs : TabSmall tab) (hKA : KAll P E K) (hPA : PAll P E pts) (hmix : P.follows .mixedOrders = true) {w0 : World} {M : MM} {n : Nat} {id : Nat} {ops : Array Oper} {st : St} {a : Act} {w : World} {k : St -> Prop} {Q : Exit -> Act -> World -> Prop}
  (hok : drawLast K tab ops = true) (hops : opsOk n ops.toList = true) (hrel : Rel E w0 M n st a w) (hv : vcLast tab K pts ops st k) (hQ : ∀ st' a' w', Rel E w0 M n st' a' w' -> k st' -> Q .normal a' w') : (Code.region id ops true).wp P Q a w := by
 have hK : KTot K := fun f con hf x hx => (hKA f con hf).tot x hx
 unfold drawLast at hok
 simp only [Bool.and_eq_true, decide_eq_true_eq] at hok
 obtain ⟨hcert, hback, hpos, hpair, hlast⟩ := hok
 unfold backOk at hback
 rw [List.all_eq_true] at hback hpair hlast
 obtain ⟨N, hN⟩ : ∃ N, ops.size = N + tailN ops := ⟨ops.size - tailN ops, by omega⟩
 have eN : ops.size - tailN ops = N := by omega
 rw [eN] at hpair hlast
 have hback' : ∀ j o, ops[j]? = some o -> ∀ e ∈ o.after.toList, Region.binds .any e = true -> e.on < j := by
  intro j o ho e he hb
  have hj : j < ops.size := (Array.getElem?_eq_some_iff.1 ho).1
  have := hback j (List.mem_range.2 hj)
  rw [ho] at this
  simp only [List.all_eq_true] at this
  have := this e he
  simpa [hb] using this
 have hbit : ∀ j, N <= j -> j < ops.size -> ∀ i, i < j -> ((Region.before ops).getD j 0).testBit i = true := by
  intro j h1 h2 i hi
  have := hlast j ((tl_mem _ _).2 ⟨h1, by omega⟩)
  rw [List.all_eq_true] at this
  exact this i (List.mem_range.2 hi)
 have rdy0 : ∀ (listed : Array Bool), listed.size = ops.size -> ∀ i, i < ops.size -> listed.getD i true = false -> (∀ j, j < i -> ¬ (j < ops.size /\ listed.getD j true = false)) -> i ∈ Region.ready .any ops listed := by
  intro listed hsz i hi1 hi2 hmin
  refine ready_iff.2 ⟨hi1, hi2, ops[i], by simp [hi1], fun e he hb => ?_⟩
  have hlt := hback' i ops[i] (by simp [hi1]) e he hb
  have hes : e.on < listed.size := by omega
  rw [getD_of_lt hes false true]
  cases hle : listed.getD e.on true with
  | true => rfl
  | false => exact (hmin e.on hlt ⟨by omega, hle⟩).elim
 have clos : ∀ (listed : Array Bool) (i : Nat) (o : Oper), Closed ops listed -> ops[i]? = some o -> (∀ e ∈ o.after.toList, Region.binds .any e = true -> listed.getD e.on false = true) -> Closed ops (listed.setIfInBounds i true) := by
  intro listed i o hcl ho hdeps j oj hoj hlj e he hb
  rw [getD_set] at hlj ⊢
  split
  ·rfl
  ·by_cases ej : i = j /\ j < listed.size
   ·obtain ⟨rfl, _⟩ := ej
    rw [ho] at hoj
    injection hoj with hoj
    subst hoj
    exact hdeps e he hb
   ·rw [if_neg ej] at hlj
    exact hcl j oj hoj hlj e he hb
 have tail : ∀ (d N' fuel : Nat) (listed : Array Bool) (st : St) (a : Act) (w : World), N' + d = ops.size -> N <= N' -> d <= fuel -> listed.size = ops.size -> (∀ i, (N' <= i /\ i < ops.size) ↔ i < ops.size /\ listed.getD i true = false) -> Closed ops listed ->
   Rel E w0 M n st a w -> vcOpsP tab K pts ops (pickOps ops (tl N' d)) st k -> wpAny P .any ops Q fuel listed a w := by
  intro d
  induction d with
  | zero =>
   intro N' fuel listed st a w h1 h2 h3 hsz hL hcl hr hv
   have hnr : Region.ready .any ops listed = [] := by
    refine List.eq_nil_iff_forall_not_mem.2 fun j hj => ?_
    obtain ⟨h1, h2, _⟩ := ready_iff.1 hj
    have := (hL j).2 ⟨h1, h2⟩
    omega
   cases fuel with
   | zero => exact ⟨hnr, hQ st a w hr hv⟩
   | succ fuel => exact ⟨fun _ => hQ st a w hr hv, fun j hj => by rw [hnr] at hj; cases hj⟩
  | succ d ihd =>
   intro N' fuel listed st a w h1 h2 h3 hsz hL hcl hr hv
   cases fuel with
   | zero => omega
   | succ fuel =>
    refine ⟨fun hnil => ?_, fun i hi => ?_⟩
    ·exfalso
     obtain ⟨g1, g2⟩ := (hL N').1 ⟨Nat.le_refl _, by omega⟩
     have := rdy0 listed hsz N' g1 g2 fun j hj h => by have := (hL j).2 h; omega
     rw [hnil] at this; cases this
    ·obtain ⟨hi1, hi2, o, ho, hdeps⟩ := ready_iff.1 hi
     obtain ⟨ho1, ho2⟩ := opsOk_mem hops o (by have := Array.mem_of_getElem? ho; simpa using this)
     have hi3 := (hL i).2 ⟨hi1, hi2⟩
     have hiN : i = N' := by
      by_cases e : i = N'
      ·exact e
      ·exfalso
       have hls := before_listed hcert hcl i o ho hdeps N' (by omega) (hbit i (by omega) hi1 N' (by omega))
       have hju := ((hL N').1 ⟨Nat.le_refl _, by omega⟩).2
       rw [getD_of_lt (by omega) true false, hls] at hju
       cases hju
     subst hiN
     have e2 : pickOps ops (tl i (d + 1)) = o :: pickOps ops (tl (i + 1) d) := by simp only [tl, pickOps, ho]
     rw [e2] at hv
     have hcl' := clos listed i o hcl ho hdeps
     have hrun := stepP_sound (P := P) (Q := Q) ht hKA hPA ho1 ho2 hr hv (next := wpAny P .any ops Q fuel (listed.setIfInBounds i true)) fun st' a' w' hr' hv' => by
      refine ihd (i + 1) fuel _ st' a' w' (by omega) (by omega) (by omega) (by simp [hsz]) (fun j => ?_) hcl' hr' hv'
      rw [getD_set]
      by_cases e : i = j /\ j < listed.size
      ·rw [if_pos e]
       constructor
       ·intro h; omega
       ·rintro ⟨_, h⟩; cases h
      ·rw [if_neg e, ← hL j]
       constructor
       ·rintro ⟨q1, q2⟩; exact ⟨by omega, q2⟩
       ·rintro ⟨q1, q2⟩
        refine ⟨?_, q2⟩
        by_cases e3 : i = j
        ·exact (e ⟨e3, by omega⟩).elim
        ·omega
     unfold wpOp
     rw [ho]
     exact hrun
 have key : ∀ (fuel : Nat) (L : List Nat) (listed : Array Bool) (st : St) (a : Act) (w : World), L.length + tailN ops <= fuel -> (∀ i ∈ L, i < N) -> L.Pairwise (· < ·) -> listed.size = ops.size -> (∀ i, (i ∈ L ∨ (N <= i /\ i < ops.size)) ↔ i < ops.size /\ listed.getD i true = false) -> Closed ops listed ->
   Rel E w0 M n st a w -> vcOps tab K ops (pickOps ops L) st (fun s => vcOpsP tab K pts ops (pickOps ops (tl N (tailN ops))) s k) -> wpAny P .any ops Q fuel listed a w := by
  intro fuel
  induction fuel with
  | zero =>
   intro L listed st a w hlen hLN hsort hsz hL hcl hr hv
   cases L with
   | cons i L => simp at hlen
   | nil => exact tail (tailN ops) N _ listed st a w hN.symm (Nat.le_refl _) (by simpa using hlen) hsz (fun i => by rw [← hL i]; simp) hcl hr hv
  | succ fuel ih =>
   intro L listed st a w hlen hLN hsort hsz hL hcl hr hv
   by_cases hLn : L = []
   ·subst hLn
    exact tail (tailN ops) N _ listed st a w hN.symm (Nat.le_refl _) (by simpa using hlen) hsz (fun i => by rw [← hL i]; simp) hcl hr hv
   have rdy := rdy0 listed hsz
   refine ⟨fun hnil => ?_, fun i hi => ?_⟩
   ·exfalso
    cases L with
    | nil => exact hLn rfl
    | cons i L' =>
     obtain ⟨h1, h2⟩ := (hL i).1 (.inl (by simp))
     have := rdy i h1 h2 fun j hj h => by
      rcases (hL j).2 h with h | h
      ·rcases List.mem_cons.1 h with h | h
       ·omega
       ·have := (List.pairwise_cons.1 hsort).1 j h; omega
      ·have := hLN i (by simp); omega
     rw [hnil] at this; cases this
   ·obtain ⟨hi1, hi2, o, ho, hdeps⟩ := ready_iff.1 hi
    obtain ⟨ho1, ho2⟩ := opsOk_mem hops o (by have := Array.mem_of_getElem? ho; simpa using this)
    have hcl' : Closed ops (listed.setIfInBounds i true) := clos listed i o hcl ho hdeps
    rcases (hL i).2 ⟨hi1, hi2⟩ with hiL | hiN
    ·obtain ⟨L1, L2, rfl⟩ := List.append_of_mem hiL
     have hL1 : ∀ j ∈ L1, j < i := by
      intro j hj
      exact (List.pairwise_append.1 hsort).2.2 j hj i (by simp)
     rw [pickOps_append] at hv
     have e2 : pickOps ops (i :: L2) = o :: pickOps ops L2 := by simp only [pickOps, ho]
     rw [e2] at hv
     have hfree : ∀ x ∈ pickOps ops L1, Free3 K tab ops x o := by
      intro x hx
      obtain ⟨j, hj, hoj⟩ := pickOps_mem hx
      have hji := hL1 j hj
      have h1 := hpair i (List.mem_range.2 (hLN i (by simp)))
      rw [List.all_eq_true] at h1
      have h2 := h1 j (List.mem_range.2 hji)
      unfold pairOk at h2
      rw [hoj, ho] at h2
      simp only [Bool.or_eq_true, Bool.and_eq_true, Bool.not_eq_true'] at h2
      rcases h2 with (h2 | ⟨⟨⟨h3, h4⟩, h5⟩, h6⟩) | ⟨h3, h4⟩
      ·exfalso
       have hls := before_listed hcert hcl i o ho hdeps j (by omega) h2
       have hju := ((hL j).1 (.inl (by simp [hj]))).2
       rw [getD_of_lt (by omega) true false, hls] at hju
       cases hju
      ·exact .inl ⟨h3, h4, h5, h6⟩
      ·exact .inr ⟨h3, h4⟩
     have hstep := extract hs hK hr.cl hfree hv
     have hrun := step_sound (P := P) (Q := Q) ht hKA ho1 ho2 hr hstep (next := wpAny P .any ops Q fuel (listed.setIfInBounds i true)) fun st' a' w' hr' hv' => by
      rw [← pickOps_append] at hv'
      have hsort' : (L1 ++ L2).Pairwise (· < ·) := by
       rw [List.pairwise_append] at hsort ⊢
       exact ⟨hsort.1, (List.pairwise_cons.1 hsort.2.1).2, fun a ha b hb => hsort.2.2 a ha b (by simp [hb])⟩
      have hnd : i ∉ L1 ++ L2 := by
       intro hm
       rcases List.mem_append.1 hm with hm | hm
       ·have := hL1 i hm; omega
       ·have := (List.pairwise_cons.1 (List.pairwise_append.1 hsort).2.1).1 i hm; omega
      have hiN' : i < N := hLN i (by simp)
      refine ih (L1 ++ L2) _ st' a' w' (by simp at hlen ⊢; omega) (fun j hj => hLN j (by rcases List.mem_append.1 hj with h | h <;> simp [h])) hsort' (by simp [hsz]) (fun j => ?_) hcl' hr' hv'
      rw [getD_set]
      constructor
      ·intro hj
       have h1 := (hL j).1 (by
        rcases hj with hj | hj
        ·rcases List.mem_append.1 hj with h | h <;> simp [h]
        ·exact .inr hj)
       have hne : ¬ (i = j /\ j < listed.size) := fun h => by
        rcases hj with hj | hj
        ·exact hnd (by rw [h.1]; exact hj)
        ·omega
       rw [if_neg hne]
       exact h1
      ·rintro ⟨h1, h2⟩
       by_cases e : i = j /\ j < listed.size
       ·rw [if_pos e] at h2; cases h2
       ·rw [if_neg e] at h2
        rcases (hL j).2 ⟨h1, h2⟩ with h | h
        ·rcases List.mem_append.1 h with h | h
         ·simp [h]
         ·rcases List.mem_cons.1 h with h | h
          ·exact (e ⟨h.symm, by omega⟩).elim
          ·simp [h]
        ·exact .inr h
     unfold wpOp
     rw [ho]
     exact hrun
    ·exfalso
     cases L with
     | nil => exact hLn rfl
     | cons j L' =>
      have hjN := hLN j (by simp)
      have hls := before_listed hcert hcl i o ho hdeps j (by omega) (hbit i hiN.1 hi1 j (by omega))
      have hju := ((hL j).1 (.inl (by simp))).2
      rw [getD_of_lt (by omega) true false, hls] at hju
      cases hju
 unfold vcLast at hv
 rw [eN] at hv
 refine wp_region_any hmix (key ops.size (List.range N) (Array.replicate ops.size false) st a _ (by simp; omega) (fun i hi => List.mem_range.1 hi) List.pairwise_lt_range (by simp) (fun i => ?_) ?_ hrel.drawn hv)
 ·rw [List.mem_range]
  constructor
  ·intro h
   refine ⟨by omega, ?_⟩
   rw [Array.getD_eq_getD_getElem?]
   have : i < ops.size := by omega
   simp [this]
  ·intro h; have := h.1; omega
 ·intro j o ho hl
  rw [Array.getD_eq_getD_getElem?] at hl
  by_cases h : j < ops.size <;> simp [h] at hl
end
end Go.SE

namespace Go.SE
open Go.RowKit
section
variable {P : Program} {E : Ty -> TypeId} {w0 : World} {M : MM} {n : Nat} {st st' : St} {a : Act} {w : World}
theorem okO_mem {O : Nat -> Option Res} {ρ : Nat -> Nat} : ∀ {l : List Nat}, okO O ρ l -> ∀ j ∈ l, ((O j).isSome = true -> ρ j = j) /\ (O j = none -> O (ρ j) = none) := by
 intro l
 induction l with
 | nil => intro _ j h; cases h
 | cons x l ih =>
  intro h j hj
  rcases List.mem_cons.1 hj with rfl | hj
  ·have h1 := h.1
   cases hO : O j with
   | none => rw [hO] at h1; exact ⟨fun h => (by cases h), fun _ => h1⟩
   | some r => rw [hO] at h1; exact ⟨fun _ => h1, fun h => (by cases h)⟩
  ·exact ih h.2 j hj
theorem inL_false {l : List Nat} {j : Nat} : inL l j = false ↔ j ∉ l := by
 rw [← inL_mem]; cases inL l j <;> simp
theorem adds_key {k : Nat} {r : Res} : ∀ {l : List (Nat × Res)} {m : Nat -> Option Res}, k ∈ l.map (·.1) -> adds m l k = some r -> (k, r) ∈ l := by
 intro l
 induction l with
 | nil => intro m hk; cases hk
 | cons p l ih =>
  intro m hk h
  obtain ⟨j, s⟩ := p
  by_cases hl : k ∈ l.map (·.1)
  ·exact List.mem_cons_of_mem _ (ih hl h)
  ·have hkj : k = j := by
    rcases List.mem_cons.1 hk with h | h
    ·exact h
    ·exact (hl h).elim
   subst hkj
   rw [adds, adds_old (fun p hp e => hl (List.mem_map.2 ⟨p, hp, e⟩)), upd_same] at h
   injection h with h
   subst h
   exact List.mem_cons_self
theorem ownRes_keys : ∀ (l : List Own), (ownRes l).map (·.1) = l.map (·.id) := by
 intro l
 induction l with
 | nil => rfl
 | cons x l ih => simp [ownRes, ih]
theorem Rel.headP {O : Nat -> Option Res} (h : Rel E w0 M n st' a w) (hO : OOk O M) {live : List Nat} {sets : List (Nat × S)} {mids : List Nat} {blks : List (Nat × Res)} {owns : List Own} {base : Nat} {rd : Option Nat} (hf : fitsP O live sets mids blks owns rd st st') :
  Rel E w0 M n (SE.headP O live sets mids blks owns base rd st) a w := by
 have hOs := hO.dom h
 unfold fitsP at hf
 split at hf
 ·exact hf.elim
 rename_i m hm
 obtain ⟨f1, f2, f3, f4, f5, f6, f7, f8, f9, f10, f11, f12, f14, f15, f16, f13⟩ := hf
 obtain ⟨hkeys, hsrc⟩ := renL_spec hm
 have n6 := allDiff_nodup f6
 have n7 := allDiff_nodup f7
 have n8 := allDiff_nodup f8
 have nodup3 : (mids ++ (blks.map (·.1) ++ owns.map (·.id))).Nodup := n6
 have nown : (owns.map (·.id)).Nodup := (List.nodup_append.1 (List.nodup_append.1 nodup3).2.1).2.1
 -- what stays keeps its number
 have stay : ∀ x ∈ mids ++ blks.map (·.1), lookR m x = x := by
  intro x hx
  refine lookR_id ?_
  rw [hkeys]
  intro ho
  have h1 : ((mids ++ blks.map (·.1)) ++ owns.map (·.id)).Nodup := by rw [List.append_assoc]; exact nodup3
  exact (List.nodup_append.1 h1).2.2 x hx x ho rfl
 have stayO : ∀ x, (O x).isSome = true -> lookR m x = x := by
  intro x hx
  by_cases hin : x ∈ idsC mids blks owns
  ·exact (okO_mem f14 x hin).1 hx
  ·refine lookR_id ?_
   rw [hkeys]
   intro ho
   exact hin (by simp only [idsC, List.mem_append]; exact .inr (.inr ho))
 obtain ⟨g, hg, henv⟩ := h.good
 have idsM : ∀ x ∈ mids, x ∈ idsC mids blks owns := fun x hx => by simp only [idsC, List.mem_append]; exact .inl hx
 have idsB : ∀ x ∈ blks.map (·.1), x ∈ idsC mids blks owns := fun x hx => by simp only [idsC, List.mem_append]; exact .inr (.inl hx)
 have idsW : ∀ x ∈ owns.map (·.id), x ∈ idsC mids blks owns := fun x hx => by simp only [idsC, List.mem_append]; exact .inr (.inr hx)
 have hmemcases : ∀ k r, (SE.headP O live sets mids blks owns base rd st).mem k = some r -> (∃ o ∈ owns, k = o.id /\ r = .sl o.id o.t o.xs) ∨ ((k, r) ∈ blks) ∨ (k ∈ mids /\ st'.mem k = some r) ∨ (k ∉ idsC mids blks owns /\ (O k).isSome = true /\ O k = some r /\ st'.mem k = some r) := by
  intro k r hk
  have hk : adds (adds (tabM O st.mem mids) blks) (ownRes owns) k = some r := hk
  by_cases h1 : k ∈ owns.map (·.id)
  ·obtain ⟨o, h2, h3⟩ := ownRes_mem (adds_key (by rw [ownRes_keys]; exact h1) hk)
   injection h3 with h3 h4
   exact .inl ⟨o, h2, h3, h4⟩
  ·rw [adds_old (fun p hp e => h1 (by rw [← ownRes_keys]; exact List.mem_map.2 ⟨p, hp, e⟩))] at hk
   by_cases h2 : k ∈ blks.map (·.1)
   ·exact .inr (.inl (adds_key h2 hk))
   ·rw [adds_old (fun p hp e => h2 (List.mem_map.2 ⟨p, hp, e⟩)), tabM_get] at hk
    split at hk
    ·rename_i e
     by_cases hmid : k ∈ mids
     ·exact .inr (.inr (.inl ⟨hmid, by rw [(memSame_mem f3 k hmid).2.1]; exact hk⟩))
     ·rw [inL_false.2 hmid] at e
      simp only [Bool.false_or] at e
      have hin : k ∉ idsC mids blks owns := by
       simp only [idsC, List.mem_append, not_or]
       exact ⟨hmid, h2, h1⟩
      obtain ⟨e1, e2, _⟩ := f15 k e (inL_false.2 hin)
      exact .inr (.inr (.inr ⟨hin, e, by rw [← e1]; exact hk, by rw [e2]; exact hk⟩))
    ·cases hk
 have hdom : ∀ k, (inL (idsC mids blks owns) k || (O k).isSome) = true -> ((SE.headP O live sets mids blks owns base rd st).mem k).isSome = true := by
  intro k hk
  show (adds (adds (tabM O st.mem mids) blks) (ownRes owns) k).isSome = true
  by_cases h1 : k ∈ owns.map (·.id)
  ·obtain ⟨o, ho, rfl⟩ := List.mem_map.1 h1
   exact adds_new (ownRes_of ho)
  ·by_cases h2 : k ∈ blks.map (·.1)
   ·obtain ⟨p, hp, rfl⟩ := List.mem_map.1 h2
    exact adds_isSome (adds_new (k := p.1) (r := p.2) hp)
   ·refine adds_isSome (adds_isSome ?_)
    rw [tabM_get]
    by_cases h3 : k ∈ mids
    ·rw [if_pos (by simp [inL_mem.2 h3])]
     exact (memSame_mem f3 k h3).1
    ·have hin : k ∉ idsC mids blks owns := by
      simp only [idsC, List.mem_append, not_or]
      exact ⟨h3, h2, h1⟩
     rw [inL_false.2 hin] at hk
     simp only [Bool.false_or] at hk
     rw [if_pos (by simp [hk]), (f15 k hk (inL_false.2 hin)).1]
     exact hk
 have spfr : ∀ k, (k ∈ blks.map (·.1) ++ owns.map (·.id) -> (SE.headP O live sets mids blks owns base rd st).sp k = false /\ (SE.headP O live sets mids blks owns base rd st).fr k = false) /\
   (k ∉ blks.map (·.1) ++ owns.map (·.id) -> (inL mids k || (O k).isSome) = true -> (SE.headP O live sets mids blks owns base rd st).sp k = st.sp k /\ (SE.headP O live sets mids blks owns base rd st).fr k = st.fr k) := by
  intro k
  constructor
  ·intro hk
   have := inL_mem.2 hk
   simp [SE.headP, this]
  ·intro hk hk2
   have := inL_false.2 hk
   simp [SE.headP, this, tabQ_get, hk2]
 -- each number at the head: what it is in st'
 have there : ∀ k r, (SE.headP O live sets mids blks owns base rd st).mem k = some r -> (k ∈ idsC mids blks owns ∨ (k ∉ idsC mids blks owns /\ (O k).isSome = true /\ O k = some r /\ st'.mem k = some r)) /\
   (SE.headP O live sets mids blks owns base rd st).sp k = st'.sp (lookR m k) /\ (SE.headP O live sets mids blks owns base rd st).fr k = st'.fr (lookR m k) /\
   ((r.live -> ∃ r', st'.mem (lookR m k) = some r' /\ r'.live /\ ((∃ f t xs, r' = .sl f t xs) ↔ (∃ f t xs, r = .sl f t xs))) /\ ResR E w (g.ren (lookR m)) k r) /\ ∀ id ∈ r.refs, (inL (idsC mids blks owns) id || (O id).isSome) = true := by
  intro k r hk
  rcases hmemcases k r hk with ⟨o, ho, rfl, rfl⟩ | hk | ⟨hin, hk⟩ | ⟨hin, hOk, hOr, hk⟩
  ·obtain ⟨h1, h2, f, h3⟩ := memOwns_mem f5 o ho
   have hmem : o.id ∈ owns.map (·.id) := List.mem_map_of_mem ho
   have hs := (spfr o.id).1 (List.mem_append_right _ hmem)
   refine ⟨.inl (idsW _ hmem), by rw [hs.1, h1], by rw [hs.2, h2], ⟨fun _ => ⟨_, h3, trivial, ⟨fun _ => ⟨_, _, _, rfl⟩, fun _ => ⟨_, _, _, rfl⟩⟩⟩, ?_⟩, by simp [Res.refs]⟩
   exact hg.res _ _ h3
  ·obtain ⟨h1, h2, h3, h4⟩ := memBlks_mem f4 (k, r) hk
   simp only at h1 h2 h3 h4
   have hmem : k ∈ blks.map (·.1) := List.mem_map.2 ⟨(k, r), hk, rfl⟩
   have hs := (spfr k).1 (List.mem_append_left _ hmem)
   have hst : lookR m k = k := stay k (List.mem_append_right _ hmem)
   refine ⟨.inl (idsB _ hmem), by rw [hs.1, hst, h2], by rw [hs.2, hst, h3], ⟨fun hl => ⟨r.ren (lookR m), by rw [hst]; exact h1, ?_, ?_⟩, ?_⟩, closedRO_mem f12 (k, r) hk⟩
   ·rcases h4 with ⟨cs, rfl⟩ | ⟨t, xs, rfl⟩ <;> trivial
   ·rcases h4 with ⟨cs, rfl⟩ | ⟨t, xs, rfl⟩ <;> simp [Res.ren]
   ·have hr := hg.res _ _ h1
    rcases h4 with ⟨cs, rfl⟩ | ⟨t, xs, rfl⟩
    ·obtain ⟨b, vs, ty, h5, h6, h7⟩ := hr
     exact ⟨b, vs, ty, by show g.κ (lookR m k) = _; rw [hst]; exact h5, h6, h7.ren⟩
    ·obtain ⟨h0, b, vs, ty, h5, h6, h7⟩ := hr
     exact ⟨by show g.ln (lookR m k) = _; rw [hst]; exact h0, b, vs, ty, by show g.κ (lookR m k) = _; rw [hst]; exact h5, h6, h7⟩
  ·obtain ⟨_, h1, h2, h3⟩ := memSame_mem f3 k hin
   have hst : lookR m k = k := stay k (List.mem_append_left _ hin)
   have hnot : k ∉ blks.map (·.1) ++ owns.map (·.id) := fun hh => (List.nodup_append.1 nodup3).2.2 _ hin _ hh rfl
   have hs := (spfr k).2 hnot (by simp [inL_mem.2 hin])
   have hcl := closedMO_mem f11 k hin r (by rw [← h1]; exact hk)
   have hren : ∀ id ∈ r.refs, lookR m id = id := by
    intro id hid
    have := hcl id hid
    cases hi : inL (mids ++ blks.map (·.1)) id with
    | true => exact stay id (inL_mem.1 hi)
    | false => rw [hi] at this; simp at this; exact stayO id (by simp [this])
   have hcl2 : ∀ id ∈ r.refs, (inL (idsC mids blks owns) id || (O id).isSome) = true := by
    intro id hid
    have := hcl id hid
    cases hi : inL (mids ++ blks.map (·.1)) id with
    | true =>
     have hi' := inL_mem.1 hi
     have : id ∈ idsC mids blks owns := by
      rcases List.mem_append.1 hi' with h | h
      ·exact idsM _ h
      ·exact idsB _ h
     simp [inL_mem.2 this]
    | false => rw [hi] at this; simp at this; simp [this]
   refine ⟨.inl (idsM _ hin), by rw [hs.1, hst, h2], by rw [hs.2, hst, h3], ⟨fun hl => ⟨r, by rw [hst]; exact hk, hl, Iff.rfl⟩, ?_⟩, hcl2⟩
   refine (hg.res k r hk).keep (g' := g.ren (lookR m)) (fun _ _ => rfl) (fun _ _ h => h) rfl ?_ ?_
   ·show g.κ (lookR m k) = _ /\ g.ln (lookR m k) = _
    rw [hst]
    exact ⟨rfl, rfl⟩
   ·intro i hi
    show g.κ (lookR m i) = _ /\ g.ln (lookR m i) = _
    rw [hren i hi]
    exact ⟨rfl, rfl⟩
  ·have hst : lookR m k = k := stayO k hOk
   have hnot : k ∉ blks.map (·.1) ++ owns.map (·.id) := fun hh => hin (by simp only [idsC, List.mem_append] at hh ⊢; exact .inr hh)
   have hs := (spfr k).2 hnot (by simp [hOk])
   obtain ⟨e1, e2, e3, e4⟩ := f15 k hOk (inL_false.2 hin)
   have hren : ∀ id ∈ r.refs, (O id).isSome = true := hO.cl k r hOr
   refine ⟨.inr ⟨hin, hOk, hOr, hk⟩, by rw [hs.1, hst, e3], by rw [hs.2, hst, e4], ⟨fun hl => ⟨r, by rw [hst]; exact hk, hl, Iff.rfl⟩, ?_⟩, fun id hid => by simp [hren id hid]⟩
   refine (hg.res k r hk).keep (g' := g.ren (lookR m)) (fun _ _ => rfl) (fun _ _ h => h) rfl ?_ ?_
   ·show g.κ (lookR m k) = _ /\ g.ln (lookR m k) = _
    rw [hst]
    exact ⟨rfl, rfl⟩
   ·intro i hi
    show g.κ (lookR m i) = _ /\ g.ln (lookR m i) = _
    rw [stayO i (hren i hi)]
    exact ⟨rfl, rfl⟩
 have injL : ∀ i ∈ idsC mids blks owns, ∀ j ∈ idsC mids blks owns, i ≠ j -> lookR m i ≠ lookR m j := by
  intro i hi j hj hij e
  have hp := List.nodup_iff_pairwise_ne.1 n7
  rw [List.pairwise_map] at hp
  have key : ∀ (l : List Nat), l.Pairwise (fun a b => lookR m a ≠ lookR m b) -> i ∈ l -> j ∈ l -> False := by
   intro l
   induction l with
   | nil => intro _ h; simp at h
   | cons x l ih =>
    intro hp hi hj
    obtain ⟨h1, h2⟩ := List.pairwise_cons.1 hp
    rcases List.mem_cons.1 hi with rfl | hi2 <;> rcases List.mem_cons.1 hj with rfl | hj2
    ·exact hij rfl
    ·exact h1 j hj2 e
    ·exact h1 i hi2 e.symm
    ·exact ih h2 hi2 hj2
  exact key _ hp hi hj
 -- a number that is named, and one that lay there and is not
 have mixed : ∀ i ∈ idsC mids blks owns, ∀ j, j ∉ idsC mids blks owns -> (O j).isSome = true -> lookR m i ≠ j := by
  intro i hi j hj hOj e
  cases hOi : O i with
  | some r =>
   rw [(okO_mem f14 i hi).1 (by simp [hOi])] at e
   exact hj (e ▸ hi)
  | none =>
   have := (okO_mem f14 i hi).2 hOi
   rw [e] at this
   rw [this] at hOj
   cases hOj
 have hrd : ∀ k, (SE.headP O live sets mids blks owns base rd st).rd = some k -> ∃ j, st'.rd = some j /\ j <= k /\ k <= rdLimit := by
  intro k hk
  have hk' : rd = some k := hk
  rw [hk'] at f13
  cases hr : st'.rd with
  | none => rw [hr] at f13; exact f13.elim
  | some j => rw [hr] at f13; exact ⟨j, rfl, f13⟩
 refine ⟨⟨?_, fun j r hj id hid => hdom id ((there j r hj).2.2.2.2 id hid)⟩, h.size, h.defers, g.ren (lookR m), ⟨hg.ext, hg.ro, fun id r hid => (there id r hid).2.2.2.1.2, ?_, ?_, ?_, ?_, ?_, hg.roo, hg.rho, ?_, ⟨?_, hg.keep.2⟩⟩, ?_⟩
 · -- what the slots name
  intro x id hid
  rcases puts_cases x sets (puts (keepE live st.env) (ownEnv owns)) with ⟨v, h1, h2⟩ | h1
  ·have : (SE.headP O live sets mids blks owns base rd st).env x = v := h2
   rw [this] at hid
   exact hdom id (closedVO_mem f10 (x, v) h1 id hid)
  ·rcases puts_cases x (ownEnv owns) (keepE live st.env) with ⟨v, h2, h3⟩ | h2
   ·have : (SE.headP O live sets mids blks owns base rd st).env x = v := by show puts _ _ x = _; rw [h1, h3]
    rw [this] at hid
    obtain ⟨o, h4, _, h6⟩ := ownEnv_mem h2
    simp only at h6
    subst h6
    simp [S.refs, S0.refs, CV.refs] at hid
    subst hid
    exact hdom _ (by simp [inL_mem.2 (idsW _ (List.mem_map_of_mem h4))])
   ·have : (SE.headP O live sets mids blks owns base rd st).env x = keepE live st.env x := by show puts _ _ x = _; rw [h1, h2]
    rw [this] at hid
    unfold keepE at hid
    split at hid
    ·rename_i hin
     have := closedEO_mem f9 x (inL_mem.1 hin) id hid
     refine hdom id ?_
     cases hi : inL (mids ++ blks.map (·.1)) id with
     | true =>
      have hi' := inL_mem.1 hi
      have : id ∈ idsC mids blks owns := by
       rcases List.mem_append.1 hi' with h | h
       ·exact idsM _ h
       ·exact idsB _ h
      simp [inL_mem.2 this]
     | false => rw [hi] at this; simp at this; simp [this]
    ·simp [SE.junk, S.refs, S0.refs, CV.refs] at hid
 ·intro i j r s hi hj hij hli hlj b hbi hbj
  obtain ⟨i1, i2, i3, ⟨i4, i5⟩, _⟩ := there i r hi
  obtain ⟨j1, j2, j3, ⟨j4, j5⟩, _⟩ := there j s hj
  obtain ⟨r', ri1, ri2, _⟩ := i4 hli
  obtain ⟨s', sj1, sj2, _⟩ := j4 hlj
  rcases i1 with i1 | ⟨i1, iO, iOr, iM⟩ <;> rcases j1 with j1 | ⟨j1, jO, jOr, jM⟩
  ·obtain ⟨f, t, xs, ys, h1, h2, _⟩ := hg.sep _ _ r' s' ri1 sj1 (injL i i1 j j1 hij) ri2 sj2 b hbi hbj
   subst h1 h2
   exact (famsOf_diff n8 (List.mem_map_of_mem i1) (List.mem_map_of_mem j1) (injL i i1 j j1 hij) ri1 sj1).elim
  ·have e := stayO j jO
   have hbj' : blkOf (g.κ (lookR m j)) = some b := hbj
   rw [e] at sj1 hbj'
   obtain ⟨f, t, xs, ys, h1, h2, _⟩ := hg.sep _ _ r' s' ri1 sj1 (mixed i i1 j j1 jO) ri2 sj2 b hbi hbj'
   subst h1 h2
   rw [jM] at sj1
   injection sj1 with sj1
   subst sj1
   exact (notIn_mem (f16 j f t ys jOr (inL_false.2 j1)) (famsOf_mem (List.mem_map_of_mem i1) ri1)).elim
  ·have e := stayO i iO
   have hbi' : blkOf (g.κ (lookR m i)) = some b := hbi
   rw [e] at ri1 hbi'
   obtain ⟨f, t, xs, ys, h1, h2, _⟩ := hg.sep _ _ s' r' sj1 ri1 (mixed j j1 i i1 iO) sj2 ri2 b hbj hbi'
   subst h1 h2
   rw [iM] at ri1
   injection ri1 with ri1
   subst ri1
   exact (notIn_mem (f16 i f t ys iOr (inL_false.2 i1)) (famsOf_mem (List.mem_map_of_mem j1) sj1)).elim
  ·have e := stayO i iO
   have e' := stayO j jO
   have hbi' : blkOf (g.κ (lookR m i)) = some b := hbi
   have hbj' : blkOf (g.κ (lookR m j)) = some b := hbj
   rw [e] at ri1 hbi' i2
   rw [e'] at sj1 hbj' j2
   obtain ⟨f, t, xs, ys, h1, h2, h3⟩ := hg.sep i j r' s' ri1 sj1 hij ri2 sj2 b hbi' hbj'
   rw [iM] at ri1
   rw [jM] at sj1
   injection ri1 with ri1
   injection sj1 with sj1
   subst ri1 sj1
   exact ⟨f, t, xs, ys, h1, h2, fun hs => by rw [i2] at hs; rw [j2]; exact h3 hs⟩
 ·intro i r hi hl b hb
  obtain ⟨i1, i2, i3, ⟨i4, i5⟩, _⟩ := there i r hi
  obtain ⟨r', ri1, ri2, _⟩ := i4 hl
  exact hg.fresh _ r' ri1 ri2 b hb
 ·intro i r hi hl b hb h1 h2
  obtain ⟨i1, i2, i3, ⟨i4, i5⟩, _⟩ := there i r hi
  obtain ⟨r', ri1, ri2, _⟩ := i4 hl
  exact hg.wro _ r' ri1 ri2 b hb (by rw [← i2]; exact h1) (by rw [← i3]; exact h2)
 ·intro k hk
  obtain ⟨j, hj, hle, hlim⟩ := hrd k hk
  obtain ⟨⟨_, hout, code, v, p, ty, hc, hd, hl, h0, hp⟩, hin, hno⟩ := hg.rd j hj
  refine ⟨⟨hlim, hout, code, v, p, ty, hc, hd, hl, h0, by omega⟩, hin, ?_⟩
  intro i r hi hl
  obtain ⟨i1, i2, i3, ⟨i4, i5⟩, _⟩ := there i r hi
  obtain ⟨r', ri1, ri2, _⟩ := i4 hl
  exact hno _ r' ri1 ri2
 ·intro hn
  cases hk : (SE.headP O live sets mids blks owns base rd st).rd with
  | none => exact (hn hk).elim
  | some k =>
   obtain ⟨j, hj, _⟩ := hrd k hk
   exact hg.rds (by rw [hj]; simp)
 ·intro id v hv
  have hi := hO.pin id (.inl (by simp [hv]))
  refine ⟨hdom id (by simp [hi]), ?_⟩
  show g.κ (lookR m id) = v
  rw [stayO id hi]
  exact (hg.pin id v hv).2
 ·intro id v hv
  have hi := hO.pin id (.inr (by simp [hv]))
  refine ⟨hdom id (by simp [hi]), ?_⟩
  show g.ln (lookR m id) = v
  rw [stayO id hi]
  exact (hg.keep.1 id v hv).2
 ·intro x
  rcases puts_cases x sets (puts (keepE live st.env) (ownEnv owns)) with ⟨v, h1, h2⟩ | h1
  ·have e : (SE.headP O live sets mids blks owns base rd st).env x = v := h2
   rw [e]
   have := henv x
   rw [envSets_mem f2 _ h1] at this
   exact S.ren_R this
  ·rcases puts_cases x (ownEnv owns) (keepE live st.env) with ⟨v, h2, h3⟩ | h2
   ·have e : (SE.headP O live sets mids blks owns base rd st).env x = v := by show puts _ _ x = _; rw [h1, h3]
    rw [e]
    obtain ⟨o, h4, h5, h6⟩ := ownEnv_mem h2
    simp only at h5 h6
    subst h6
    have hs := hsrc nown o h4
    rw [h5] at hs
    simp only [srcId] at hs
    split at hs
    ·rename_i id he
     injection hs with hs
     have := henv x
     rw [he, hs] at this
     exact this
    ·cases hs
   ·have e : (SE.headP O live sets mids blks owns base rd st).env x = keepE live st.env x := by show puts _ _ x = _; rw [h1, h2]
    rw [e]
    unfold keepE
    split
    ·rename_i hin
     have hin' := inL_mem.1 hin
     have := henv x
     rw [envSame_mem f1 x hin'] at this
     refine S.R.mono (g := g) (g' := g.ren (lookR m)) (fun _ _ h => h) rfl (fun id hid => ?_) this
     show g.κ (lookR m id) = _ /\ g.ln (lookR m id) = _
     have hc := closedEO_mem f9 x hin' id hid
     have : lookR m id = id := by
      cases hi : inL (mids ++ blks.map (·.1)) id with
      | true => exact stay id (inL_mem.1 hi)
      | false => rw [hi] at hc; simp at hc; exact stayO id (by simp [hc])
     rw [this]
     exact ⟨rfl, rfl⟩
    ·trivial
end
end Go.SE
