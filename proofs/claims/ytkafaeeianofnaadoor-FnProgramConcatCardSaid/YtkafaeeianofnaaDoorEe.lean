/-
  Parts of a symbolic engine over the program's code: how operations, regions, loops and calls are shown to keep contracts. No conditions.
-/
import Derived.Test.YtkafaeeianofnaaDoorEd
import Derived.Test.YtkafaeeianofnaaDoorEc
set_option linter.unusedSimpArgs false
set_option linter.unusedVariables false
set_option linter.unusedSectionVars false

namespace Go.SE
open Go.RowKit
def NewC (u:Value) (j:Nat):Prop:=kindV u=cmdK j/\(kindV u=3->u=.slice none 0 0)
structure Chg (ro:Nat->Option (Array Value)) (b:Nat) (vs vs':Array Value):Prop where
 hb:ro b=some vs
 ko:KO vs
 sz:vs'.size=vs.size
 ch:∀ i u,vs'[i]?=some u->vs[i]?=some u ∨ NewC u (i % 10)
def chg (ro:Nat->Option (Array Value)) (b:Nat) (vs':Array Value):Nat->Option (Array Value):=fun b'=>if b'=b then some vs' else ro b'
theorem Chg.ko' {ro:Nat->Option (Array Value)} {b:Nat} {vs vs':Array Value} (h:Chg ro b vs vs'):KO vs':=by
 intro i u hu
 rcases h.ch i u hu with h1 | h1
 ·exact h.ko i u h1
 ·exact h1.1
def LeT:(t:Ty)->List t.den->List t.den->Prop
 | .cmd,xs,ys=>ys.length<=xs.length/\wcL ys<=wcL xs
 | .fact,xs,ys=>ys.length<=xs.length
 | .atom,xs,ys=>ys.length<=xs.length
 | _,_,_=>True
theorem LeT.refl {t:Ty} (xs:List t.den):LeT t xs xs:=by cases t <;> simp [LeT]
theorem LeT.none {t:Ty} (xs:List t.den):LeT t xs []:=by cases t <;> simp [LeT,wcL]
def CS:DC->DC->Prop
 | .val x,c'=>∃ x',c'=.val x'/\kindV x'=kindV x
 | .arr t xs,c'=>∃ ys,c'=.arr t ys/\LeT t xs ys
 | .ne t xs,c'=>∃ ys,c'=.ne t ys/\LeT t xs ys
 | .fix _ _ _,_=>False
def SD:DC->DC->Prop
 | .val x,c'=>c'=.val x
 | .arr t xs,c'=>∃ ys,c'=.arr t ys/\ys.length=xs.length/\LeT t xs ys
 | .ne t xs,c'=>∃ ys,c'=.ne t ys/\ys.length=xs.length/\LeT t xs ys
 | .fix _ _ _,_=>False
theorem SD.cs {c c':DC} (h:SD c c'):CS c c':=by
 cases c with
 | val x=>exact ⟨x,h,rfl⟩
 | arr t xs=>obtain ⟨ys,h1,_,h2⟩:=h;exact ⟨ys,h1,h2⟩
 | ne t xs=>obtain ⟨ys,h1,_,h2⟩:=h;exact ⟨ys,h1,h2⟩
 | fix=>exact h.elim
theorem kind1 {x:Value} (h:kindV x=1):∃ n,x=.int .i64 n:=by
 cases x with
 | int k n=>cases k <;> first | exact ⟨n,rfl⟩ | cases h
 | _=>cases h
theorem kind2 {x:Value} (h:kindV x=2):∃ b,x=.bool b:=by
 cases x with
 | bool b=>exact ⟨b,rfl⟩
 | int k n=>cases k <;> cases h
 | _=>cases h
theorem kind_one {x:Value} {j:Nat} (h:NewC x j) (hj:j < 10):x.oneCell'=true:=by
 have h3:kindV x=1 ∨ kindV x=2 ∨ kindV x=3:=by
  rw [h.1]
  match j,hj with
  | 0,_=>exact .inl rfl
  | 1,_=>exact .inl rfl
  | 2,_=>exact .inl rfl
  | 3,_=>exact .inr (.inl rfl)
  | 4,_=>exact .inl rfl
  | 5,_=>exact .inl rfl
  | 6,_=>exact .inr (.inr rfl)
  | 7,_=>exact .inr (.inr rfl)
  | 8,_=>exact .inr (.inr rfl)
  | 9,_=>exact .inr (.inr rfl)
 rcases h3 with h3 | h3 | h3
 ·obtain ⟨n,rfl⟩:=kind1 h3;rfl
 ·obtain ⟨n,rfl⟩:=kind2 h3;rfl
 ·rw [h.2 h3];rfl
theorem opt_choose {α β:Type} (z:β) (l:Nat->Option α) (p:Nat->α->β->Prop) (h:∀ j c,l j=some c->∃ d,p j c d):∃ f:Nat->β,∀ j c,l j=some c->p j c (f j):=by
 classical
 refine ⟨fun j=>match l j with
  | some c=>if hq:∃ d,p j c d then hq.choose else z
  | none=>z,fun j c hj=>?_⟩
 simp only [hj]
 rw [dif_pos (h j c hj)]
 exact (h j c hj).choose_spec
def nbC (c:GCmd):Nat:=c.inv.facts.length+c.inv.atoms.length+(c.els.length+wcL c.els)
def LeE:(t:Ty)->t.den->t.den->Prop
 | .cmd,x,y=>wtC y<=wtC x/\nbC y<=nbC x
 | _,_,_=>True
theorem rebuild {t:Ty} (ht:t=.fact ∨ t=.atom ∨ t=.cmd) (x:t.den) (cs:Nat->DC) (h:∀ j c,(t.cells x)[j]?=some c->CS c (cs j)):∃ y:t.den,(∀ j c,(t.cells y)[j]?=some c->c=cs j)/\LeE t x y:=by
 rcases ht with rfl | rfl | rfl
 ·obtain ⟨x0,e0,k0⟩:=h 0 _ rfl
  obtain ⟨x1,e1,k1⟩:=h 1 _ rfl
  obtain ⟨x2,e2,k2⟩:=h 2 _ rfl
  obtain ⟨y0,rfl⟩:=kind2 k0
  obtain ⟨y1,rfl⟩:=kind1 k1
  obtain ⟨y2,rfl⟩:=kind1 k2
  refine ⟨(⟨y0,y1,y2⟩:GFact),fun j c hj=>?_,trivial⟩
  match j,hj with
  | 0,hj=>cases hj;exact e0.symm
  | 1,hj=>cases hj;exact e1.symm
  | 2,hj=>cases hj;exact e2.symm
  | j+3,hj=>simp [Ty.cells] at hj
 ·obtain ⟨x0,e0,k0⟩:=h 0 _ rfl
  obtain ⟨x1,e1,k1⟩:=h 1 _ rfl
  obtain ⟨x2,e2,k2⟩:=h 2 _ rfl
  obtain ⟨y0,rfl⟩:=kind1 k0
  obtain ⟨y1,rfl⟩:=kind1 k1
  obtain ⟨y2,rfl⟩:=kind1 k2
  refine ⟨(⟨y0,y1,y2⟩:GAtom),fun j c hj=>?_,trivial⟩
  match j,hj with
  | 0,hj=>cases hj;exact e0.symm
  | 1,hj=>cases hj;exact e1.symm
  | 2,hj=>cases hj;exact e2.symm
  | j+3,hj=>simp [Ty.cells] at hj
 ·obtain ⟨x0,e0,k0⟩:=h 0 _ rfl
  obtain ⟨x1,e1,k1⟩:=h 1 _ rfl
  obtain ⟨x2,e2,k2⟩:=h 2 _ rfl
  obtain ⟨x3,e3,k3⟩:=h 3 _ rfl
  obtain ⟨x4,e4,k4⟩:=h 4 _ rfl
  obtain ⟨x5,e5,k5⟩:=h 5 _ rfl
  obtain ⟨y6,e6,k6⟩:=h 6 _ rfl
  obtain ⟨y7,e7,k7⟩:=h 7 _ rfl
  obtain ⟨y8,e8,k8⟩:=h 8 _ rfl
  obtain ⟨y9,e9,k9⟩:=h 9 _ rfl
  obtain ⟨y0,rfl⟩:=kind1 k0
  obtain ⟨y1,rfl⟩:=kind1 k1
  obtain ⟨y2,rfl⟩:=kind1 k2
  obtain ⟨y3,rfl⟩:=kind2 k3
  obtain ⟨y4,rfl⟩:=kind1 k4
  obtain ⟨y5,rfl⟩:=kind1 k5
  refine ⟨(GCmd.mk y0 y1 y2 ⟨y3,y4,y5⟩ ⟨y6,y7⟩ y8 y9:GCmd),fun j c hj=>?_,?_⟩
  ·match j,hj with
   | 0,hj=>cases hj;exact e0.symm
   | 1,hj=>cases hj;exact e1.symm
   | 2,hj=>cases hj;exact e2.symm
   | 3,hj=>cases hj;exact e3.symm
   | 4,hj=>cases hj;exact e4.symm
   | 5,hj=>cases hj;exact e5.symm
   | 6,hj=>cases hj;exact e6.symm
   | 7,hj=>cases hj;exact e7.symm
   | 8,hj=>cases hj;exact e8.symm
   | 9,hj=>cases hj;exact e9.symm
   | j+10,hj=>simp [Ty.cells] at hj
  ·show wtC _<=wtC _/\nbC _<=nbC _
   rw [wtC_eq,wtC_eq]
   simp only [GCmd.inv,GCmd.body,GCmd.els,nbC]
   have k6:y6.length<=(GCmd.inv x).facts.length:=k6
   have k7:y7.length<=(GCmd.inv x).atoms.length:=k7
   have k8:y8.length<=(GCmd.body x).length/\wcL y8<=wcL (GCmd.body x):=k8
   have k9:y9.length<=(GCmd.els x).length/\wcL y9<=wcL (GCmd.els x):=k9
   simp only [GCmd.inv,GCmd.body,GCmd.els] at k6 k7 k8 k9
   omega
theorem wcL_mono:∀ (xs ys:List GCmd),ys.length=xs.length->(∀ i,i < xs.length->wtC (ys.getD i (Ty.zero .cmd))<=wtC (xs.getD i (Ty.zero .cmd)))->wcL ys<=wcL xs:=by
 intro xs
 induction xs with
 | nil=>intro ys hl _;cases ys with | nil=>exact Nat.le_refl _ | cons y ys=>simp at hl
 | cons x xs ih =>
  intro ys hl h
  cases ys with
  | nil=>simp at hl
  | cons y ys =>
   have h0:=h 0 (by simp)
   have h1:=ih ys (by simpa using hl) fun i hi=>by simpa using h (i+1) (by simpa using hi)
   simp only [wcL_cons]
   simp only [List.getD_cons_zero] at h0
   omega
end Go.SE
namespace Go.SE
variable [Base]
open Go.RowKit
theorem Chg.sim {ro:Nat->Option (Array Value)} {b:Nat} {vs vs':Array Value} (h:Chg ro b vs vs') {c:DC} {v:Value} (hd:DR ro c v):pmC c->∃ c',DR (chg ro b vs') c' v/\SD c c':=by
 induction hd with
 | val x hx=>exact fun _=>⟨_,.val x hx,rfl⟩
 | nil t=>exact fun _=>⟨_,.nil t,[],rfl,rfl,LeT.refl _⟩
 | emp t a=>exact fun _=>⟨_,.emp t a,[],rfl,rfl,LeT.refl _⟩
 | fix=>exact fun h=>h.elim
 | ne t xs v hd h0 ih =>
  intro hp
  obtain ⟨c',h1,ys,rfl,h2,h3⟩:=ih hp
  have h4:ys=[]->xs=[]:=fun e=>List.eq_nil_of_length_eq_zero (by rw [← h2,e];rfl)
  exact ⟨_,.ne t ys v h1 fun e=>h0 (h4 e),ys,rfl,h2,h3⟩
 | arr t xs b1 off cap vs1 g hb hpm hl hc h1 h2 ih =>
  intro hp
  have hpt:t.pm=true:=by rcases hp with rfl | rfl | rfl <;> rfl
  obtain ⟨row,hrow,hcell⟩:∃ row:Array Value,chg ro b vs' b1=some row/\∀ k c,(flat t xs)[k]?=some c->∃ c' u,row[off+k]?=some u/\DR (chg ro b vs') c' u/\CS c c':=by
   have hpc:∀ k c,(flat t xs)[k]?=some c->pmC c:=fun k c hk=>by
    obtain ⟨x,_,hx⟩:=List.mem_flatMap.1 (List.mem_of_getElem? hk)
    exact pmC_cells hp x c hx
   by_cases e:b1=b
   ·subst e
    refine ⟨vs',by simp [chg],fun k c hk=>?_⟩
    have e1:vs1=vs:=by rw [h.hb] at hb;injection hb with hb;exact hb.symm
    subst e1
    have hg:=h1 k c hk
    have hlt:off+k < vs'.size:=by rw [h.sz];exact (Array.getElem?_eq_some_iff.1 hg).1
    have hu:=Array.getElem?_eq_getElem hlt
    rcases h.ch _ _ hu with h3 | h3
    ·rw [hg] at h3
     injection h3 with h3
     obtain ⟨c',k1,k2⟩:=ih k c hk (hpc k c hk)
     exact ⟨c',_,hu,by rw [← h3];exact k1,k2.cs⟩
    ·have hk1:kindV vs'[off+k]=kindD c:=by rw [h3.1,← h.ko _ _ hg];exact (h2 k c hk).kind
     cases c with
     | val x=>exact ⟨.val vs'[off+k],_,hu,.val _ (kind_one h3 (Nat.mod_lt _ (by decide))),_,rfl,hk1⟩
     | arr t' ys=>exact ⟨.arr t' [],_,hu,by rw [h3.2 hk1];exact .nil t',[],rfl,LeT.none _⟩
     | ne t' ys=>exact ⟨.ne t' [],_,hu,by rw [h3.2 hk1];exact .ne t' [] _ (.nil t') fun _=>⟨none,rfl⟩,[],rfl,LeT.none _⟩
     | fix t' ys v=>exact (hpc k _ hk).elim
   ·refine ⟨vs1,by simp [chg,e,hb],fun k c hk=>?_⟩
    obtain ⟨c',k1,k2⟩:=ih k c hk (hpc k c hk)
    exact ⟨c',_,h1 k c hk,k1,k2.cs⟩
  have hel:∀ i,i < xs.length->∃ y:t.den,(∀ j c,(t.cells y)[j]?=some c->∃ u,row[off+(i * t.sz+j)]?=some u/\DR (chg ro b vs') c u)/\LeE t (xs.getD i t.zero) y:=by
   intro i hi
   have hj:∀ j c,(t.cells (xs.getD i t.zero))[j]?=some c->∃ c' u,row[off+(i * t.sz+j)]?=some u/\DR (chg ro b vs') c' u/\CS c c':=fun j c hj=>by
    have hjs:j < t.sz:=by have:=(List.getElem?_eq_some_iff.1 hj).1;rwa [cells_len] at this
    exact hcell _ c (by rw [flat_get t xs i j hi hjs];exact hj)
   obtain ⟨cs,hcs⟩:=opt_choose (DC.val undef) (fun j=>(t.cells (xs.getD i t.zero))[j]?) (fun j c d=>∃ u,row[off+(i * t.sz+j)]?=some u/\DR (chg ro b vs') d u/\CS c d) hj
   obtain ⟨y,hy1,hy2⟩:=rebuild hp (xs.getD i t.zero) cs fun j c hjc=>by obtain ⟨_,_,_,h⟩:=hcs j c hjc;exact h
   refine ⟨y,fun j c hjc=>?_,hy2⟩
   have hjs:j < t.sz:=by have:=(List.getElem?_eq_some_iff.1 hjc).1;rwa [cells_len] at this
   have hlt:j < (t.cells (xs.getD i t.zero)).length:=by rw [cells_len];exact hjs
   obtain ⟨u,k1,k2,_⟩:=hcs j _ (List.getElem?_eq_getElem hlt)
   rw [← hy1 j c hjc] at k2
   exact ⟨u,k1,k2⟩
  obtain ⟨ys,hyl,hy⟩:=list_choose t.zero _ hel
  have hrr:RowR (chg ro b vs') (flat t ys) row off:=RowR.of_get fun i hi j c hc=>(hy i (by omega)).1 j c hc
  have hpm':t.pm=true->PmOk t b1 off cap row:=fun ht=>by
   obtain ⟨p1,p2⟩:=hpm ht
   refine ⟨p1,fun e=>⟨(p2 e).1,?_⟩⟩
   by_cases e1:b1=b
   ·subst e1
    have:row=vs':=by simp [chg] at hrow;exact hrow.symm
    have e9:vs1=vs:=by rw [h.hb] at hb;injection hb with hb;exact hb.symm
    rw [this];exact ⟨h.ko',by rw [h.sz,← e9];exact (p2 e).2.2⟩
   ·have:row=vs1:=by simp [chg,e1,hb] at hrow;exact hrow.symm
    rw [this];exact (p2 e).2
  have hdr:=DR.of_row (t:=t) (xs:=ys) (cap:=cap) hrow hpm' (by omega) hc hrr
  rw [hyl] at hdr
  refine ⟨.arr t ys,hdr,ys,rfl,hyl,?_⟩
  rcases hp with rfl | rfl | rfl
  ·exact Nat.le_of_eq hyl
  ·exact Nat.le_of_eq hyl
  ·exact ⟨Nat.le_of_eq hyl,wcL_mono xs ys hyl fun i hi=>(hy i hi).2.1⟩
theorem Chg.row {ro:Nat->Option (Array Value)} {b:Nat} {vs vs':Array Value} (h:Chg ro b vs vs') {xs:List GCmd} {cur:Array Value} {o:Nat} (hr:RowR ro (flat .cmd xs) cur o):∃ ys:List GCmd,RowR (chg ro b vs') (flat .cmd ys) cur o/\ys.length=xs.length/\wcL ys<=wcL xs/\∀ i,i < xs.length->LeE .cmd (xs.getD i (Ty.zero .cmd)) (ys.getD i (Ty.zero .cmd)):=by
 have hel:∀ i,i < xs.length->∃ y:GCmd,(∀ j c,(Ty.cells .cmd y)[j]?=some c->∃ u,cur[o+(i * 10+j)]?=some u/\DR (chg ro b vs') c u)/\LeE .cmd (xs.getD i (Ty.zero .cmd)) y:=by
  intro i hi
  have hj:∀ j c,(Ty.cells .cmd (xs.getD i (Ty.zero .cmd)))[j]?=some c->∃ c' u,cur[o+(i * 10+j)]?=some u/\DR (chg ro b vs') c' u/\CS c c':=fun j c hj=>by
   have hjs:j < 10:=(List.getElem?_eq_some_iff.1 hj).1
   obtain ⟨u,h1,h2⟩:=hr (i * 10+j) c (by have:=flat_get .cmd xs i j hi hjs;rw [show i * 10+j=i * Ty.sz .cmd+j from rfl,this];exact hj)
   obtain ⟨c',k1,k2⟩:=h.sim h2 (pmC_cells (.inr (.inr rfl)) _ c (List.mem_of_getElem? hj))
   exact ⟨c',u,h1,k1,k2.cs⟩
  obtain ⟨cs,hcs⟩:=opt_choose (DC.val undef) (fun j=>(Ty.cells .cmd (xs.getD i (Ty.zero .cmd)))[j]?) (fun j c d=>∃ u,cur[o+(i * 10+j)]?=some u/\DR (chg ro b vs') d u/\CS c d) hj
  obtain ⟨y,hy1,hy2⟩:=rebuild (t:=.cmd) (.inr (.inr rfl)) (xs.getD i (Ty.zero .cmd)) cs fun j c hjc=>by obtain ⟨_,_,_,h⟩:=hcs j c hjc;exact h
  refine ⟨y,fun j c hjc=>?_,hy2⟩
  have hjs:j < 10:=(List.getElem?_eq_some_iff.1 hjc).1
  have hlt:j < (Ty.cells .cmd (xs.getD i (Ty.zero .cmd))).length:=hjs
  obtain ⟨u,k1,k2,_⟩:=hcs j _ (List.getElem?_eq_getElem hlt)
  rw [← hy1 j c hjc] at k2
  exact ⟨u,k1,k2⟩
 obtain ⟨ys,hyl,hy⟩:=list_choose (Ty.zero .cmd) _ hel
 exact ⟨ys,RowR.of_get (t:=.cmd) fun i hi j c hc=>(hy i (by omega)).1 j c hc,hyl,wcL_mono xs ys hyl fun i hi=>(hy i hi).2.1,fun i hi=>(hy i hi).2⟩
end Go.SE

namespace Go.SE
variable [Base]
open Go.RowKit
section
variable {P:Program}
def OpAt (ops:Array Oper) (i:Nat) (dst:Option Nat) (op:Op) (deps:List Nat):Prop :=
 ∃ o,ops[i]?=some o/\o.dst=dst/\o.op=op/\o.guard=none/\∀ j ∈ deps,∃ e ∈ o.after.toList,Region.binds .any e=true/\e.on=j
theorem region_raw (hmix:P.follows .mixedOrders=true) {id:Nat} {ops:Array Oper} (hback:backOk ops=true) {dep:Nat->List Nat}
  (hops:∀ i,i < ops.size->∃ d op,OpAt ops i d op (dep i)) {I:(Nat->Bool)->Act->World->Prop} {Q:Exit->Act->World->Prop}
  (step:∀ i o L a w,ops[i]?=some o->L i=false->(∀ j ∈ dep i,L j=true)->(∀ i,L i=true->∀ j ∈ dep i,L j=true)->I L a w->o.wp P a w (I fun x=>x == i || L x) Q)
  (fin:∀ L a w,(∀ i,i < ops.size->L i=true)->I L a w->Q .normal a w)
  {a:Act} {w:World} (h0:I (fun _=>false) a { w with drawn:=w.drawn+1 }):(Code.region id ops true).wp P Q a w:=by
 unfold backOk at hback
 rw [List.all_eq_true] at hback
 have hback':∀ j o,ops[j]?=some o->∀ e ∈ o.after.toList,Region.binds .any e=true->e.on < j:=by
  intro j o ho e he hb
  have hj:j < ops.size:=(Array.getElem?_eq_some_iff.1 ho).1
  have:=hback j (List.mem_range.2 hj)
  rw [ho] at this
  simp only [List.all_eq_true] at this
  have:=this e he
  simpa [hb] using this
 have key:∀ (fuel:Nat) (listed:Array Bool) (a:Act) (w:World),listed.size=ops.size->(∀ i,listed.getD i false=true->∀ j ∈ dep i,listed.getD j false=true) ->
   ((List.range ops.size).filter fun i=>!listed.getD i false).length<=fuel->I (fun x=>listed.getD x false) a w->wpAny P .any ops Q fuel listed a w:=by
  intro fuel
  induction fuel with
  | zero =>
   intro listed a w hsz hcl hf hI
   have h1:∀ i,i < ops.size->listed.getD i false=true:=by
    intro i hi
    cases hq:listed.getD i false with
    | true=>rfl
    | false =>
     have hm:i ∈ (List.range ops.size).filter fun i=>!listed.getD i false:=List.mem_filter.2 ⟨List.mem_range.2 hi,by simp only [hq,Bool.not_false]⟩
     have h0:=List.length_pos_of_mem hm
     omega
   have h2:Region.ready .any ops listed=[]:=by
    refine List.eq_nil_iff_forall_not_mem.2 fun j hj=>?_
    obtain ⟨g1,g2,_⟩:=ready_iff.1 hj
    rw [getD_of_lt (by omega) true false,h1 j g1] at g2
    cases g2
   exact ⟨h2,fin _ a w h1 hI⟩
  | succ fuel ih =>
   intro listed a w hsz hcl hf hI
   refine ⟨fun hnil=>?_,fun i hi=>?_⟩
   ·refine fin _ a w (fun i hi=>?_) hI
    induction i using Nat.strongRecOn with
    | _ i ihi =>
     cases hq:listed.getD i false with
     | true=>rfl
     | false =>
      exfalso
      have:i ∈ Region.ready .any ops listed:=ready_iff.2 ⟨hi,by rw [getD_of_lt (by omega) true false];exact hq,ops[i],by simp [hi],fun e he hb=>by
       have hlt:=hback' i ops[i] (by simp [hi]) e he hb
       exact ihi e.on hlt (by omega)⟩
      rw [hnil] at this
      cases this
   ·obtain ⟨hi1,hi2,o,ho,hdeps⟩:=ready_iff.1 hi
    rw [getD_of_lt (by omega) true false] at hi2
    obtain ⟨d,op,o',ho',-,-,hg,hd⟩:=hops i hi1
    rw [ho] at ho'
    injection ho' with ho'
    subst ho'
    have hdl:∀ j ∈ dep i,listed.getD j false=true:=fun j hj=>by
     obtain ⟨e,he,hb,rfl⟩:=hd j hj
     exact hdeps e he hb
    have e1:∀ x,(listed.setIfInBounds i true).getD x false=(x == i || listed.getD x false):=by
     intro x
     rw [getD_set]
     by_cases e:i=x
     ·subst e;rw [if_pos ⟨rfl,by omega⟩];simp
     ·rw [if_neg (fun h=>e h.1)]
      have:(x == i)=false:=by simp;exact fun h=>e h.symm
      rw [this,Bool.false_or]
    have hw:=step i o _ a w ho hi2 hdl hcl hI
    unfold wpOp
    rw [ho]
    simp only
    rw [if_pos (by simp [Region.wanted,hg])]
    refine .inl (Oper.wp_mono (fun a' w' hI'=>ih _ a' w' (by simp [hsz]) (fun x hx j hj=>?_) ?_ ?_) hw)
    ·rw [e1] at hx ⊢
     by_cases e:x=i
     ·subst e
      rw [hdl j hj,Bool.or_true]
     ·have:(x == i)=false:=by simp [e]
      rw [this,Bool.false_or] at hx
      rw [hcl x hx j hj,Bool.or_true]
    ·have hlt:((List.range ops.size).filter fun x=>!(listed.setIfInBounds i true).getD x false).length < ((List.range ops.size).filter fun x=>!listed.getD x false).length:=by
      have hmono:∀ (l:List Nat),(l.filter fun x=>!(listed.setIfInBounds i true).getD x false).length<=(l.filter fun x=>!listed.getD x false).length/\(i ∈ l->(l.filter fun x=>!(listed.setIfInBounds i true).getD x false).length < (l.filter fun x=>!listed.getD x false).length):=by
       intro l
       induction l with
       | nil=>exact ⟨Nat.le_refl _,fun h=>by cases h⟩
       | cons x l ih =>
        by_cases e:x=i
        ·subst e
         rw [List.filter_cons_of_neg (by rw [e1];simp),List.filter_cons_of_pos (by simp only [hi2,Bool.not_false])]
         refine ⟨by simp only [List.length_cons];omega,fun _=>by simp only [List.length_cons];omega⟩
        ·have e2:(listed.setIfInBounds i true).getD x false=listed.getD x false:=by
          rw [e1]
          have:(x == i)=false:=by simp [e]
          rw [this,Bool.false_or]
         have e3:i ∈ x :: l->i ∈ l:=fun h=>by
          rcases List.mem_cons.1 h with h | h
          ·exact (e h.symm).elim
          ·exact h
         by_cases hq:(!listed.getD x false)=true
         ·rw [List.filter_cons_of_pos (by simp only [e2];exact hq),List.filter_cons_of_pos (by exact hq)]
          simp only [List.length_cons]
          exact ⟨by omega,fun h=>by have:=ih.2 (e3 h);omega⟩
         ·rw [List.filter_cons_of_neg (by simp only [e2];exact hq),List.filter_cons_of_neg (by exact hq)]
          exact ⟨ih.1,fun h=>ih.2 (e3 h)⟩
      exact (hmono _).2 (List.mem_range.2 hi1)
     omega
    ·have e2:(fun x=>(listed.setIfInBounds i true).getD x false)=fun x=>x == i || listed.getD x false:=funext e1
     rw [e2]
     exact hI'
 refine wp_region_any hmix (key ops.size (Array.replicate ops.size false) a _ (by simp) (fun i hi=>?_) ?_ ?_)
 ·rw [Array.getD_eq_getD_getElem?] at hi
  by_cases h:i < ops.size <;> simp [h] at hi
 ·exact Nat.le_trans (List.length_filter_le _ _) (by simp)
 ·have:(fun x=>(Array.replicate ops.size false).getD x false)=fun _=>false:=by
   funext x
   rw [Array.getD_eq_getD_getElem?]
   by_cases h:x < ops.size <;> simp [h]
  rw [this]
  exact h0
end
end Go.SE

namespace Go.SE
variable [Base]
open Go.RowKit
structure AppOut (P:Program) (g:G) (w7:World) (ts rty:TypeId) (body:List GCmd) (v62 v65:Value) (b' o' cap':Nat) (row:Array Value) (w8:World):Prop where
 run:(Builtin.append_ #[ts,ts] rty #[v62,v65]).run P w7=.ok (.slice (some ⟨b',o',none⟩) (body.length+1) cap') w8
 heap:∃ ty,w8.heap[b']?=some (.cells row ty (0,0))
 fit:o'+cap' * 10<=row.size
 cap:body.length+1<=cap'/\cap'<=maxLen
 off:o' % 10=0
 ko:KO row
 elems:RowR g.ro (flat .cmd body) row o'
 n0:Base.n0<=b'
 kind:(∃ vs,g.ro b'=some vs/\KO vs/\row.size=vs.size/\∀ i,¬ (o'+body.length * 10<=i/\i < o'+(body.length+1) * 10)->row[i]?=vs[i]?) ∨ (w7.heap.size<=b'/\g.ro b'=none)
 old:∀ b,b < w7.heap.size->b ≠ b'->w8.heap[b]?=w7.heap[b]?
 os:w8.os=w7.os/\w8.tape=w7.tape/\w8.output=w7.output/\w7.heap.size<=w8.heap.size
theorem zvals_one:∀ u ∈ Ty.zvals .cmd,u.oneCell'=true:=by
 intro u hu
 have h:(Ty.zvals .cmd).all Value.oneCell'=true:=rfl
 exact List.all_eq_true.1 h u hu
section
variable {P:Program}
theorem app_row {g:G} {w7:World} {ts tc rty:TypeId} {ie:TypeInfo} {z:Value} (hu:P.underlying ts=some (.slice tc)) (hie:P.info? tc=some ie) (hsz:ie.size=10) (hby:ie.bytes<=256) (hz:ie.zero=some z) (hzv:z.cells.toList=Ty.zvals .cmd)
  (hro:∀ b vs,g.ro b=some vs->Seen w7 b vs) (hnz:Base.n0<=w7.heap.size) {body:List GCmd} {v62:Value} (hd:DR g.ro (.ne .cmd body) v62) (hlen:body.length<=281474976710) {b65:Nat} {z65:Array Value} {ty65:TypeId} {fz65:Nat × Nat}
  (h65:w7.heap[b65]?=some (.cells z65 ty65 fz65)) (hz65:z65.toList=Ty.zvals .cmd) {c65:Nat} :
  ∃ b' o' cap' row w8,AppOut P g w7 ts rty body v62 (.slice (some ⟨b65,0,none⟩) 1 c65) b' o' cap' row w8:=by
 have hS:_root_.Go.Src P ie.size ts (.slice (some ⟨b65,0,none⟩) 1 c65) 1 (Ty.zvals .cmd) w7:=by
  refine _root_.Go.Src.ofSlice w7 hu ⟨b65,0,none⟩ 1 c65 (Ty.zvals .cmd) (by rw [hsz];rfl) (fun j u hj=>?_) zvals_one
  rw [Addr.add_lit,cell_at h65,Nat.zero_add,← Array.getElem?_toList,hz65]
  exact hj
 have hzs:z.cells.size=10:=by rw [← Array.length_toList,hzv];rfl
 -- a new row
 have grow:∀ (base:Option Addr) (cap:Nat) (olds:List Value),v62=.slice base body.length cap->cap < body.length+1->olds.length=body.length * 10->(Builtin.firstCells ie.size body.length (.slice base body.length cap)).run P w7.drew=.ok olds.toArray w7.drew ->
   (∀ (k:Nat) (c:DC),(flat .cmd body)[k]?=some c->∃ u,olds[k]?=some u/\DR g.ro c u)->∃ b' o' cap' row w8,AppOut P g w7 ts rty body v62 (.slice (some ⟨b65,0,none⟩) 1 c65) b' o' cap' row w8:=by
  intro base cap olds hκ hc holdl hold holds
  have hfit:Builtin.nextslicecap (body.length+1) cap * ie.bytes<=281474976710656:=by
   have h1:=nextslicecap_le hc
   have h2:Builtin.nextslicecap (body.length+1) cap * ie.bytes<=(2 * (body.length+1)) * 256:=Nat.mul_le_mul h1 hby
   omega
  have hr:=run_append_grow_src (P:=P) w7 ts ts rty tc ie z hu hie hz base body.length cap olds hold _ 1 _ hS hc (by omega) hfit
  have hge:=grownCap_ge w7 (body.length+1) cap tc
  have hcm:grownCap w7 (body.length+1) cap tc<=maxLen:=grownCap_le_maxLen w7 _ cap tc (by simp only [maxLen];omega)
  generalize hgc:grownCap w7 (body.length+1) cap tc=gc at hr hge hcm
  have hnl:(Ty.zvals .cmd).length=10:=rfl
  have hel:RowR g.ro (flat .cmd (body ++ [Ty.zero .cmd])) ((olds ++ Ty.zvals .cmd).toArray ++ Builtin.zeroCells z.cells (gc - (body.length+1))) 0:=by
   rw [flat_append]
   have hfl:(flat .cmd body).length=olds.length:=by rw [flat_len,holdl];rfl
   refine RowR.append (RowR.of_vals holds fun j u hj=>?_) (RowR.of_vals (news:=Ty.zvals .cmd) (fun k c hk=>?_) fun j u hj=>?_)
   ·have hlt:=(List.getElem?_eq_some_iff.1 hj).1
    rw [Array.getElem?_append_left (by simp;omega)]
    simp only [List.getElem?_toArray,Nat.zero_add]
    rw [List.getElem?_append_left hlt]
    exact hj
   ·have:flat .cmd [Ty.zero .cmd]=Ty.cells .cmd (Ty.zero .cmd):=by simp [flat]
    rw [this] at hk
    exact zvals_row g.ro .cmd k c hk
   ·have hlt:=(List.getElem?_eq_some_iff.1 hj).1
    rw [Array.getElem?_append_left (by simp;omega)]
    simp only [List.getElem?_toArray,Nat.zero_add]
    rw [List.getElem?_append_right (by omega),hfl]
    rw [show olds.length+j - olds.length=j from by omega]
    exact hj
  refine ⟨w7.heap.size,0,gc,_,_,⟨by rw [hκ];exact hr,⟨tc,heap_alloc_new w7.drew _⟩,?_,⟨by omega,hcm⟩,rfl,?_,?_,hnz,.inr ⟨Nat.le_refl _,?_⟩,fun b hb _=>Below.heap_alloc w7.drew _ b hb,rfl,rfl,rfl,by simp⟩⟩
  ·simp only [Array.size_append,List.size_toArray,List.length_append,size_zeroCells,hzs,holdl,hnl]
   omega
  ·exact KO.grow (t:=.cmd) (xs:=body ++ [Ty.zero .cmd]) rfl hzv (by simp only [List.length_append,holdl,hnl,List.length_singleton];show _=(body.length+1) * 10;omega) hel
  ·rw [flat_append] at hel
   exact hel.left
  ·cases hq:g.ro w7.heap.size with
   | none=>rfl
   | some vs=>have:=(hro _ vs hq).lt;omega
 by_cases hb0:body=[]
 ·subst hb0
  obtain ⟨aa,hv⟩:=hd.ne_no
  refine grow aa 0 [] hv (by simp) (by simp) ?_ (by simp [flat])
  cases aa with
  | none=>simpa using run_firstCells_none (P:=P) w7.drew ie.size 0 0 0
  | some aa=>exact run_firstCells_some (P:=P) w7.drew ie.size 0 aa 0 0 [] (by simp) (fun j u hj=>by simp at hj)
 ·rcases hd.unne.arr_inv with ⟨_,h0⟩ | ⟨b,off,cap,vs,hv,hb,hle,hcm,hrow,hpm⟩
  ·exact (hb0 h0).elim
  obtain ⟨hn0,hp2⟩:=hpm rfl
  obtain ⟨ho,hko,hcs⟩:=hp2 rfl
  obtain ⟨bt,fz,hh,hq⟩:=hro b vs hb
  have hfz:fz=(0,0):=hq (Nat.le_trans Base.le hn0)
  subst hfz
  by_cases hroom:body.length+1<=cap
  ·have hin:off+body.length * 10+10<=vs.size:=by omega
   have hst:=run_storeCells_at P b (off+body.length * 10) bt (Ty.zvals .cmd) 0 vs w7 hh (by simp only [Nat.add_zero];exact hin) zvals_one
   simp only [Nat.add_zero] at hst
   have hr:(Builtin.append_ #[ts,ts] rty #[.slice (some ⟨b,off,none⟩) body.length cap,.slice (some ⟨b65,0,none⟩) 1 c65]).run P w7=.ok (.slice (some ⟨b,off,none⟩) (body.length+1) cap) (w7.setRow b (over vs (off+body.length * 10) (Ty.zvals .cmd))):=by
    have h1:=hS.len
    have h2:=hS.cells
    rw [hsz] at h2
    simp [Builtin.append_,run_underlying hu,sizeOf,typeInfo,hie,h1,hroom,hsz,h2,Addr.add_lit,hst,over]
   have hfit:off+body.length * 10+(Ty.zvals .cmd).length<=vs.size:=hin
   refine ⟨b,off,cap,_,_,⟨by rw [hv];exact hr,⟨bt,setRow_heap w7 b _ _ _ _ hh⟩,by rw [over_size hfit];exact hcs,⟨hroom,hcm⟩,ho,?_,?_,hn0,.inl ⟨vs,hb,hko,over_size hfit,fun i hi=>?_⟩,fun b2 hb2 hne=>setRow_other w7 b b2 _ hne,rfl,rfl,rfl,by simp⟩⟩
   ·intro i u hu
    rw [over_get hfit] at hu
    split at hu
    ·rename_i hi
     have hl:(Ty.zvals .cmd).length=10:=rfl
     have h1:kindV u=cmdK (i - (off+body.length * 10)):=by
      rw [← hzv,Array.getElem?_toList] at hu
      exact zero_kind hzv hu
     rw [h1]
     congr 1
     omega
    ·exact hko i u hu
   ·intro k c hk
    have hkl:k < body.length * 10:=by have:=(List.getElem?_eq_some_iff.1 hk).1;rwa [flat_len] at this
    obtain ⟨u,h5,h6⟩:=hrow k c hk
    exact ⟨u,by rw [over_get hfit,if_neg (by omega)];exact h5,h6⟩
   ·rw [over_get hfit,if_neg]
    have hl:(Ty.zvals .cmd).length=10:=rfl
    omega
  ·obtain ⟨olds,h1,h2,h3,h4⟩:=hrow.vals
   rw [flat_len] at h1
   refine grow (some ⟨b,off,none⟩) cap olds hv (by omega) h1 ?_ h4
   refine run_firstCells_some (P:=P) w7.drew ie.size body.length ⟨b,off,none⟩ body.length cap olds (by rw [h1,hsz];rfl) fun j u hj=>?_
   rw [Addr.add_lit,cell_at (w:=w7.drew) hh]
   exact h2 j u hj
end
end Go.SE

namespace Go.SE
open Go.RowKit
def nestTab (ts tc:TypeId) (zc:Array Value):List (Option Nat × Op × List Nat) :=
 [(some 58,.move (.tmp 5),[]),(some 59,.move (.tmp 6),[]),(some 60,.indexAddr ts (.tmp 58) (.tmp 59),[0,1]),(some 61,.fieldAddr tc (.tmp 60) 5,[2]),(some 62,.load ts (.tmp 61),[3]),
  (some 63,.build tc #[(0,.const (.int .i64 5)),(1,.const (.int .i64 1))],[]),(some 64,.call ⟨.builtin .len,#[.tmp 62],#[ts]⟩,[4]),(some 65,.buildSlice ts 1 #[(0,.const (.agg zc))],[]),
  (some 66,.call ⟨.builtin .append,#[.tmp 62,.tmp 65],#[ts,ts]⟩,[0,1,2,3,4,5,6,7]),(some 67,.indexAddr ts (.tmp 66) (.tmp 64),[8,6]),(none,.store tc (.tmp 67) (.tmp 63),[9,5,8]),
  (some 68,.indexAddr ts (.tmp 58) (.tmp 59),[0,1,8]),(some 69,.fieldAddr tc (.tmp 68) 5,[11]),(none,.store ts (.tmp 69) (.tmp 66),[12,8])]
def nestDep (i:Nat):List Nat:=((nestTab 0 0 #[])[i]?.map (·.2.2)).getD []
structure NestOps (ts tc:TypeId) (zc:Array Value) (ops:Array Oper):Prop where
 sz:ops.size=14
 back:backOk ops=true
 hzc:zc.toList=Ty.zvals .cmd
 at_:∀ i d op deps,(nestTab ts tc zc)[i]?=some (d,op,deps)->OpAt ops i d op deps
def ins (i:Nat) (L:Nat->Bool):Nat->Bool:=fun x=>x == i || L x
theorem ins_self (i:Nat) (L:Nat->Bool):ins i L i=true:=by simp [ins]
theorem ins_ne {i j:Nat} (L:Nat->Bool) (h:j ≠ i):ins i L j=L j:=by simp [ins,h]
def nestW (wd w7 w8:World) (b':Nat) (r10:Array Value) (bo:Nat) (r13:Array Value) (L:Nat->Bool):World :=
 match L 8 with
 | false=>(match L 7 with
  | false=>wd
  | true=>w7)
 | true=>match L 10,L 13 with
  | false,false=>w8
  | true,false=>w8.setRow b' r10
  | false,true=>w8.setRow bo r13
  | true,true=>(w8.setRow b' r10).setRow bo r13
structure NI (a0:Act) (V:Nat->Value) (W:(Nat->Bool)->World) (L:Nat->Bool) (a:Act) (w:World):Prop where
 size:a.tmps.size=a0.tmps.size
 df:a.defers=a0.defers
 lo:∀ x,x < 58->a.tmps.getD x undef=a0.tmps.getD x undef
 val:∀ i,i < 10->L i=true->a.tmps.getD (58+i) undef=V i
 v11:L 11=true->a.tmps.getD 68 undef=V 2
 v12:L 12=true->a.tmps.getD 69 undef=V 3
 w:w=W L
def cmds63:List Value:=[.int .i64 5,.int .i64 1,.int .i64 0,.bool false,.int .i64 0,.int .i64 0,.slice none 0 0,.slice none 0 0,.slice none 0 0,.slice none 0 0]
end Go.SE
namespace Go.SE
variable [Base]
open Go.RowKit
theorem NI.put {a0:Act} {V:Nat->Value} {W:(Nat->Bool)->World} {L:Nat->Bool} {a:Act} {w w':World} (h:NI a0 V W L a w) {i d:Nat} {v:Value} (hd:d < a0.tmps.size)
  (hs:(i < 10/\d=58+i/\v=V i) ∨ (i=11/\d=68/\v=V 2) ∨ (i=12/\d=69/\v=V 3)) (hw:w'=W (ins i L)):NI a0 V W (ins i L) (a.put (some d) v) w':=by
 have hg:∀ x,(a.put (some d) v).tmps.getD x undef=if d=x then v else a.tmps.getD x undef:=fun x=>by
  rw [put_get (by intro d' hd';cases hd';rw [h.size];exact hd)]
  by_cases e:d=x
  ·rw [if_pos e,if_pos (by rw [e])]
  ·rw [if_neg e,if_neg (fun q=>e (by injection q))]
 refine ⟨by simp [Act.put,h.size],by simp [Act.put,h.df],fun x hx=>?_,fun j hj hL=>?_,fun hL=>?_,fun hL=>?_,hw⟩
 ·rw [hg,if_neg (by omega)];exact h.lo x hx
 ·rw [hg]
  by_cases e:d=58+j
  ·rw [if_pos e]
   rcases hs with ⟨_,h1,h2⟩ | ⟨_,h1,_⟩ | ⟨_,h1,_⟩
   ·have:i=j:=by omega
    rw [h2,this]
   ·omega
   ·omega
  ·rw [if_neg e]
   refine h.val j hj ?_
   rw [ins_ne] at hL
   ·exact hL
   ·intro q;subst q
    rcases hs with ⟨_,h1,h2⟩ | ⟨h0,h1,_⟩ | ⟨h0,h1,_⟩ <;> omega
 ·rw [hg]
  by_cases e:d=68
  ·rw [if_pos e]
   rcases hs with ⟨_,h1,h2⟩ | ⟨_,_,h2⟩ | ⟨_,h1,_⟩
   ·omega
   ·exact h2
   ·omega
  ·rw [if_neg e]
   refine h.v11 ?_
   rw [ins_ne] at hL
   ·exact hL
   ·intro q;subst q
    rcases hs with ⟨h0,h1,h2⟩ | ⟨h0,h1,_⟩ | ⟨h0,h1,_⟩ <;> omega
 ·rw [hg]
  by_cases e:d=69
  ·rw [if_pos e]
   rcases hs with ⟨_,h1,h2⟩ | ⟨_,h1,_⟩ | ⟨_,_,h2⟩
   ·omega
   ·omega
   ·exact h2
  ·rw [if_neg e]
   refine h.v12 ?_
   rw [ins_ne] at hL
   ·exact hL
   ·intro q;subst q
    rcases hs with ⟨h0,h1,h2⟩ | ⟨h0,h1,_⟩ | ⟨h0,h1,_⟩ <;> omega
theorem NI.none {a0:Act} {V:Nat->Value} {W:(Nat->Bool)->World} {L:Nat->Bool} {a:Act} {w w':World} (h:NI a0 V W L a w) {i:Nat} (hs:i=10 ∨ i=13) (hw:w'=W (ins i L)):NI a0 V W (ins i L) a w':=by
 refine ⟨h.size,h.df,h.lo,fun j hj hL=>h.val j hj ?_,fun hL=>h.v11 ?_,fun hL=>h.v12 ?_,hw⟩ <;> rw [ins_ne] at hL <;> first | exact hL | omega
section
variable {P:Program} {E:Ty->TypeId} {tab:TypeId->Option TI} {w0:World} {M:MM} {n:Nat}
structure NestIn (P:Program) (ts tc:TypeId) (g:G) (a0:Act) (wd:World) (bo len cap:Nat) (cur:Array Value) (k:Int) (v62:Value) (body:List GCmd):Prop where
 sz:70<=a0.tmps.size
 t5:a0.tmps.getD 5 undef=.slice (some ⟨bo,0,none⟩) len cap
 t6:a0.tmps.getD 6 undef=.int .i64 k
 k0:0<=k/\k < len
 hbo:∃ ty,wd.heap[bo]?=some (.cells cur ty (0,0))
 hcs:len * 10<=cur.size
 h62:cur[k.toNat * 10+8]?=some v62
 d62:DR g.ro (.ne .cmd body) v62
 hbl:body.length<=281474976710
 gro:∀ b vs,g.ro b=some vs->Seen wd b vs
 gbo:g.ro bo=none
 hnz:Base.n0<=wd.heap.size
structure NestOut (g:G) (wd:World) (bo:Nat) (cur:Array Value) (k:Int) (v62:Value) (body:List GCmd) (b' o' cap':Nat) (row:Array Value) (wF:World):Prop where
 ne:b' ≠ bo
 fit:o'+cap' * 10<=row.size
 cap:body.length+1<=cap'/\cap'<=maxLen
 off:o' % 10=0
 ko:KO row
 elems:RowR g.ro (flat .cmd body) row o'
 n0:Base.n0<=b'
 kind:(∃ vs,g.ro b'=some vs/\KO vs/\row.size=vs.size/\∀ i,¬ (o'+body.length * 10<=i/\i < o'+(body.length+1) * 10)->row[i]?=vs[i]?) ∨ (wd.heap.size<=b'/\g.ro b'=none)
 hb:∃ ty,wF.heap[b']?=some (.cells (over row (o'+body.length * 10) cmds63) ty (0,0))
 hbo:∀ ty,wd.heap[bo]?=some (.cells cur ty (0,0))->wF.heap[bo]?=some (.cells (over cur (k.toNat * 10+8) [.slice (some ⟨b',o',none⟩) (body.length+1) cap']) ty (0,0))
 old:∀ b,b < wd.heap.size->b ≠ b'->b ≠ bo->wF.heap[b]?=wd.heap[b]?
 os:wF.os=wd.os/\wF.tape=wd.tape/\wF.output=wd.output/\wd.heap.size<=wF.heap.size
theorem nest_raw (ht:TabOk P E tab) (hmix:P.follows .mixedOrders=true) {ts tc:TypeId} {s1 s2 s3:Nat} (hts:tab ts=some ⟨s1,s2,.sl true tc .cmd⟩)
  (htc:tab tc=some ⟨10,s3,.st [.sc (.int .i64 0),.sc (.int .i64 0),.sc (.int .i64 0),.sc (.bool false),.sc (.int .i64 0),.sc (.int .i64 0),.sl .fact,.sl .atom,.sl .cmd,.sl .cmd] [(0,1,false),(1,1,false),(2,1,false),(3,3,true),(6,2,true),(8,1,false),(9,1,false)]⟩)
  {zc:Array Value} {ops:Array Oper} (hops:NestOps ts tc zc ops) {id:Nat} {g:G} {a:Act} {w:World} {bo len cap:Nat} {cur:Array Value} {k:Int} {v62:Value} {body:List GCmd}
  (h:NestIn P ts tc g a { w with drawn:=w.drawn+1 } bo len cap cur k v62 body) {Q:Exit->Act->World->Prop}
  (hQ:∀ a' wF b' o' cap' row,a'.tmps.size=a.tmps.size->a'.defers=a.defers->(∀ x,x < 58->a'.tmps.getD x undef=a.tmps.getD x undef)->NestOut g { w with drawn:=w.drawn+1 } bo cur k v62 body b' o' cap' row wF->Q .normal a' wF):(Code.region id ops true).wp P Q a w:=by
 generalize hwd:({ w with drawn:=w.drawn+1 }:World)=wd at h hQ
 obtain ⟨inf,d,_,hu,_,_,⟨rfl,_⟩,ie,hie,hsz,hby,hrw⟩:=ht _ _ hts
 obtain ⟨rfl,z,hz,hzv⟩:=hrw rfl
 replace hsz:ie.size=10:=hsz
 obtain ⟨i2,d2,hi2,hu2,hsz2,fields,zc2,rfl,hzero,hzc2,_,hfl,hfo,_⟩:=ht _ _ htc
 have hone:∀ {v:Value},DR g.ro (.ne .cmd body) v->v.oneCell'=true:=fun h=>h.one
 obtain ⟨tyo,hbo⟩:=h.hbo
 have hbolt:bo < wd.heap.size:=lt_of_some hbo
 -- the new slice
 let w7:=wd.alloc (.cells zc (E .cmd))
 have h65:w7.heap[wd.heap.size]?=some (.cells zc (E .cmd)):=heap_new wd _
 have h7old:∀ b,b < wd.heap.size->w7.heap[b]?=wd.heap[b]?:=fun b hb=>Below.heap_alloc wd _ b hb
 have hs7:wd.heap.size<=w7.heap.size:=by simp [w7]
 obtain ⟨o8,ho8,hd8,hop8,hg8,_⟩:=hops.at_ 8 _ _ _ rfl
 obtain ⟨b',o',cap',row,w8,hA⟩:=app_row (P:=P) (rty:=o8.type) hu hie hsz hby hz hzv (fun b vs hb=>(h.gro b vs hb).keep (h7old b)) (Nat.le_trans h.hnz hs7) h.d62 h.hbl h65 hops.hzc (c65:=1)
 have hne:b' ≠ bo:=by
  rcases hA.kind with ⟨vs,h1,_⟩ | ⟨h1,_⟩
  ·intro e;rw [e,h.gbo] at h1;cases h1
  ·omega
 obtain ⟨ty8,h8b⟩:=hA.heap
 have h8bo:w8.heap[bo]?=some (.cells cur tyo (0,0)):=by rw [hA.old bo (by omega) (Ne.symm hne),h7old bo hbolt];exact hbo
 have hfit10:o'+body.length * 10+cmds63.length<=row.size:=by
  have:=hA.fit;have:=hA.cap.1
  have e:cmds63.length=10:=rfl
  omega
 have hk10:k.toNat * 10+10<=cur.size:=by
  have:=h.hcs;have:=h.k0;omega
 let v66:Value:=.slice (some ⟨b',o',none⟩) (body.length+1) cap'
 have hfit13:k.toNat * 10+8+[v66].length<=cur.size:=by
  have e:[v66].length=1:=rfl
  omega
 let r10:=over row (o'+body.length * 10) cmds63
 let r13:=over cur (k.toNat * 10+8) [v66]
 let W:=nestW wd w7 w8 b' r10 bo r13
 let V:Nat->Value:=fun i=>match i with
  | 0=>.slice (some ⟨bo,0,none⟩) len cap
  | 1=>.int .i64 k
  | 2=>.pointer (some ⟨bo,k.toNat * 10,none⟩)
  | 3=>.pointer (some ⟨bo,k.toNat * 10+8,none⟩)
  | 4=>v62
  | 5=>.agg cmds63.toArray
  | 6=>.int .i64 body.length
  | 7=>.slice (some ⟨wd.heap.size,0,none⟩) 1 1
  | 8=>v66
  | _=>.pointer (some ⟨b',o'+body.length * 10,none⟩)
 have hWne:∀ (L:Nat->Bool) i,i ≠ 7->i ≠ 8->i ≠ 10->i ≠ 13->W (ins i L)=W L:=by
  intro L i h7 h8 h10 h13
  show nestW _ _ _ _ _ _ _ _=nestW _ _ _ _ _ _ _ _
  unfold nestW
  rw [ins_ne L (Ne.symm h7),ins_ne L (Ne.symm h8),ins_ne L (Ne.symm h10),ins_ne L (Ne.symm h13)]
 -- the row of the outer slice,wherever the last store has not come up
 have hWbo:∀ L:Nat->Bool,L 13=false->(W L).heap[bo]?=some (.cells cur tyo (0,0)):=by
  intro L h13
  show (nestW _ _ _ _ _ _ _ _).heap[bo]?=_
  unfold nestW
  rw [h13]
  cases L 8 with
  | false =>
   cases L 7 with
   | false=>exact hbo
   | true=>show w7.heap[bo]?=_;rw [h7old bo hbolt];exact hbo
  | true =>
   cases L 10 with
   | false=>exact h8bo
   | true=>show (w8.setRow b' r10).heap[bo]?=_;rw [setRow_other w8 b' bo _ (Ne.symm hne)];exact h8bo
 have f5:∃ fd i,fields[5]?=some fd/\fd.offset=8/\P.info? fd.type=some i/\i.size=1:=by
  obtain ⟨fd,i,d,h1,h2,h3,h4,_⟩:=fieldsOk_get hfo (j:=5) rfl
  exact ⟨fd,i,by simpa using h1,h2,h3,h4⟩
 obtain ⟨fd5,i5,hf5,hfo5,hfi5,hfs5⟩:=f5
 have hpl:fields.toList.mapM (fun f=>(P.info? f.type).map fun i=>(f.offset,i.size))=some ([(0,1),(1,1),(2,1),(3,3),(6,2),(8,1),(9,1)]:List (Nat × Nat)) :=
  places_of (fs:=[(0,1,false),(1,1,false),(2,1,false),(3,3,true),(6,2,true),(8,1,false),(9,1,false)]) fields.toList (by simpa using hfl) fun j x hx=>by
   obtain ⟨fd,i,d,h1,h2,h3,h4,_⟩:=fieldsOk_get hfo hx
   simp only [Nat.zero_add] at h1
   exact ⟨fd,i,by simpa using h1,h2,h3,h4⟩
 have hzc2':zc2=(Ty.zvals .cmd).toArray:=Array.ext' (by rw [hzc2];rfl)
 have hbuilt:P.built (E .cmd) [(0,.int .i64 5),(1,.int .i64 1)]=some cmds63.toArray:=by
  unfold Program.built
  simp only [hi2,hu2,hzero,hpl]
  rw [hzc2']
  rfl
 have h62slice:∃ aa cp,v62=.slice aa body.length cp:=by
  rcases h.d62.unne.arr_inv with ⟨⟨aa,hv⟩,rfl⟩ | ⟨b,off,cp,vs,hv,_⟩
  ·exact ⟨aa,0,hv⟩
  ·exact ⟨_,cp,hv⟩
 obtain ⟨aa62,cp62,hv62⟩:=h62slice
 refine region_raw (P:=P) (I:=NI a V W) hmix hops.back (dep:=nestDep) (fun i hi=>?_) (fun i o L a' w' ho hL hdep hcl hI=>?_) (fun L a' w' hall hI=>?_) ⟨rfl,rfl,fun _ _=>rfl,(fun _ _ h=>by cases h),(fun h=>by cases h),(fun h=>by cases h),hwd⟩
 ·rw [hops.sz] at hi
  have:∃ d op deps,(nestTab ts (E .cmd) zc)[i]?=some (d,op,deps)/\nestDep i=deps:=by
   match i,hi with
   | 0,_=>exact ⟨_,_,_,rfl,rfl⟩
   | 1,_=>exact ⟨_,_,_,rfl,rfl⟩
   | 2,_=>exact ⟨_,_,_,rfl,rfl⟩
   | 3,_=>exact ⟨_,_,_,rfl,rfl⟩
   | 4,_=>exact ⟨_,_,_,rfl,rfl⟩
   | 5,_=>exact ⟨_,_,_,rfl,rfl⟩
   | 6,_=>exact ⟨_,_,_,rfl,rfl⟩
   | 7,_=>exact ⟨_,_,_,rfl,rfl⟩
   | 8,_=>exact ⟨_,_,_,rfl,rfl⟩
   | 9,_=>exact ⟨_,_,_,rfl,rfl⟩
   | 10,_=>exact ⟨_,_,_,rfl,rfl⟩
   | 11,_=>exact ⟨_,_,_,rfl,rfl⟩
   | 12,_=>exact ⟨_,_,_,rfl,rfl⟩
   | 13,_=>exact ⟨_,_,_,rfl,rfl⟩
  obtain ⟨d,op,deps,h1,h2⟩:=this
  exact ⟨d,op,by rw [h2];exact hops.at_ i d op deps h1⟩
 ·have hW:=hI.w
  subst hW
  have hi:i < 14:=by rw [← hops.sz];exact (Array.getElem?_eq_some_iff.1 ho).1
  have opat:∀ {d op deps},(nestTab ts (E .cmd) zc)[i]?=some (d,op,deps)->o.dst=d/\o.op=op:=by
   intro d op deps ht
   obtain ⟨o',ho',h1,h2,_⟩:=hops.at_ i d op deps ht
   rw [ho] at ho'
   injection ho' with ho'
   subst ho'
   exact ⟨h1,h2⟩
  have noL:∀ j,i ∈ nestDep j->L j=false:=fun j hj=>by
   cases hq:L j with
   | false=>rfl
   | true=>rw [hcl j hq i hj] at hL;cases hL
  have ev:∀ j,j < 10->L j=true->a'.eval (.tmp (58+j))=V j:=fun j hj hq=>hI.val j hj hq
  have psz:∀ d,d < 70->d < a.tmps.size:=fun d hd=>by have:=h.sz;omega
  unfold Oper.wp
  match i,hi with
  | 0,_ =>
   obtain ⟨hd,hop⟩:=opat rfl
   have e:a'.eval (.tmp 5)=V 0:=by show a'.tmps.getD 5 undef=_;rw [hI.lo 5 (by omega)];exact h.t5
   have hrun:(execOp a'.eval o).run P (W L)=.ok (.value (V 0)) (W L):=by simp only [execOp,hop,e];rfl
   rw [hrun,Oper.upon_value,hd]
   exact hI.put (psz _ (by omega)) (.inl ⟨by omega,rfl,rfl⟩) (hWne L 0 (by omega) (by omega) (by omega) (by omega)).symm
  | 1,_ =>
   obtain ⟨hd,hop⟩:=opat rfl
   have e:a'.eval (.tmp 6)=V 1:=by show a'.tmps.getD 6 undef=_;rw [hI.lo 6 (by omega)];exact h.t6
   have hrun:(execOp a'.eval o).run P (W L)=.ok (.value (V 1)) (W L):=by simp only [execOp,hop,e];rfl
   rw [hrun,Oper.upon_value,hd]
   exact hI.put (psz _ (by omega)) (.inl ⟨by omega,rfl,rfl⟩) (hWne L 1 (by omega) (by omega) (by omega) (by omega)).symm
  | 2,_ =>
   obtain ⟨hd,hop⟩:=opat rfl
   have e0:=ev 0 (by omega) (hdep 0 (by decide))
   have e1:=ev 1 (by omega) (hdep 1 (by decide))
   have hr:=run_indexAt_sl (w:=W L) (P:=P) (b:=bo) (o:=0) (len:=len) (cap:=cap) (k:=.i64) hu hie h.k0.1 h.k0.2
   have hrun:(execOp a'.eval o).run P (W L)=.ok (.value (V 2)) (W L):=by
    rw [hsz,Nat.zero_add] at hr
    simp [execOp,hop,e0,e1,V,hr]
   rw [hrun,Oper.upon_value,hd]
   exact hI.put (psz _ (by omega)) (.inl ⟨by omega,rfl,rfl⟩) (hWne L 2 (by omega) (by omega) (by omega) (by omega)).symm
  | 3,_ =>
   obtain ⟨hd,hop⟩:=opat rfl
   have e0:=ev 2 (by omega) (hdep 2 (by decide))
   have hr:=run_fieldAt (w:=W L) (P:=P) (b:=bo) (o:=k.toNat * 10) hu2 hf5 hfi5 (by rw [hfs5];omega)
   have hrun:(execOp a'.eval o).run P (W L)=.ok (.value (V 3)) (W L):=by
    rw [hfo5] at hr
    simp [execOp,hop,e0,V,hr]
   rw [hrun,Oper.upon_value,hd]
   exact hI.put (psz _ (by omega)) (.inl ⟨by omega,rfl,rfl⟩) (hWne L 3 (by omega) (by omega) (by omega) (by omega)).symm
  | 4,_ =>
   obtain ⟨hd,hop⟩:=opat rfl
   have e0:=ev 3 (by omega) (hdep 3 (by decide))
   have h8:=noL 8 (by decide)
   have h13:L 13=false:=by
    cases hq:L 13 with
    | false=>rfl
    | true=>rw [hcl 13 hq 8 (by decide)] at h8;cases h8
   have hr:=run_loadAt_one (P:=P) (ty:=ts) (hWbo L h13) h.h62 hu rfl
   have hrun:(execOp a'.eval o).run P (W L)=.ok (.value (V 4)) (W L):=by
    simp [execOp,hop,e0,V,hr]
   rw [hrun,Oper.upon_value,hd]
   exact hI.put (psz _ (by omega)) (.inl ⟨by omega,rfl,rfl⟩) (hWne L 4 (by omega) (by omega) (by omega) (by omega)).symm
  | 5,_ =>
   obtain ⟨hd,hop⟩:=opat rfl
   have hr:=run_build (P:=P) (W L) (E .cmd) #[(0,.int .i64 5),(1,.int .i64 1)] _ hbuilt
   have hrun:(execOp a'.eval o).run P (W L)=.ok (.value (V 5)) (W L):=by
    simp [execOp,hop,V,Act.eval,hr]
   rw [hrun,Oper.upon_value,hd]
   exact hI.put (psz _ (by omega)) (.inl ⟨by omega,rfl,rfl⟩) (hWne L 5 (by omega) (by omega) (by omega) (by omega)).symm
  | 6,_ =>
   obtain ⟨hd,hop⟩:=opat rfl
   have e0:=ev 4 (by omega) (hdep 4 (by decide))
   have hrun:(execOp a'.eval o).run P (W L)=.ok (.value (V 6)) (W L):=by
    simp [execOp,hop,e0,V,resolve,invoke,builtin,Builtin.len_,run_underlying hu,hv62,goInt]
   rw [hrun,Oper.upon_value,hd]
   exact hI.put (psz _ (by omega)) (.inl ⟨by omega,rfl,rfl⟩) (hWne L 6 (by omega) (by omega) (by omega) (by omega)).symm
  | 7,_ =>
   obtain ⟨hd,hop⟩:=opat rfl
   have h8:=noL 8 (by decide)
   have hWL:W L=wd:=by show nestW _ _ _ _ _ _ _ _=_;unfold nestW;rw [h8,hL]
   have hWL':w7=W (ins 7 L):=by show _=nestW _ _ _ _ _ _ _ _;unfold nestW;rw [ins_ne (i:=7) (j:=8) L (by omega),h8,ins_self]
   have hzs:z.cells.size=10:=by rw [← Array.length_toList,hzv];rfl
   have hzcs:zc.size=10:=by rw [← Array.length_toList,hops.hzc];rfl
   have hfill:Instr.fill (fun i=>some (i * ie.size,ie.size)) ((Array.range (1 * ie.size)).map (z.cells[· % z.cells.size]!)) [(0,.agg zc)]=some zc:=by
    rw [fill_step (off:=0) (sz:=10) (by simp [hsz]) (show (Value.agg zc).cells.size=10 from hzcs) (by simp [hsz])]
    show some _=some _
    congr 1
    apply Array.ext'
    have hl:zc.toList.length=10:=hzcs
    show (over _ 0 zc.toList).toList=_
    simp only [over,List.take_zero,List.nil_append,Nat.zero_add,hl]
    rw [List.drop_of_length_le (by simp [hsz]),List.append_nil]
   have hr:=run_buildSlice (P:=P) wd ts (E .cmd) 1 #[(0,.agg zc)] zc ie z hu hie hz (by rw [hsz];omega) (by rw [hsz];omega) hfill
   have hrun:(execOp a'.eval o).run P (W L)=.ok (.value (V 7)) w7:=by
    rw [hWL]
    simp [execOp,hop,V,Act.eval,hr,w7]
   rw [hrun,Oper.upon_value,hd]
   exact hI.put (psz _ (by omega)) (.inl ⟨by omega,rfl,rfl⟩) hWL'
  | 8,_ =>
   obtain ⟨hd,hop⟩:=opat rfl
   have e4:=ev 4 (by omega) (hdep 4 (by decide))
   have e7:=ev 7 (by omega) (hdep 7 (by decide))
   have h10:=noL 10 (by decide)
   have h13:=noL 13 (by decide)
   have hWL:W L=w7:=by show nestW _ _ _ _ _ _ _ _=_;unfold nestW;rw [hL,hdep 7 (by decide)]
   have hWL':w8=W (ins 8 L):=by show _=nestW _ _ _ _ _ _ _ _;unfold nestW;rw [ins_self,ins_ne (i:=8) (j:=10) L (by omega),ins_ne (i:=8) (j:=13) L (by omega),h10,h13]
   have hrun:(execOp a'.eval o).run P (W L)=.ok (.value (V 8)) w8:=by
    rw [hWL]
    have hoo:o=o8:=by rw [ho8] at ho;injection ho with ho;exact ho.symm
    subst hoo
    simp [execOp,hop,e4,e7,V,resolve,invoke,builtin,hA.run,v66]
   rw [hrun,Oper.upon_value,hd]
   exact hI.put (psz _ (by omega)) (.inl ⟨by omega,rfl,rfl⟩) hWL'
  | 9,_ =>
   obtain ⟨hd,hop⟩:=opat rfl
   have e0:=ev 8 (by omega) (hdep 8 (by decide))
   have e1:=ev 6 (by omega) (hdep 6 (by decide))
   have hr:=run_indexAt_sl (w:=W L) (P:=P) (b:=b') (o:=o') (len:=body.length+1) (cap:=cap') (k:=.i64) (n:=body.length) hu hie (by omega) (by omega)
   have hrun:(execOp a'.eval o).run P (W L)=.ok (.value (V 9)) (W L):=by
    rw [hsz,Int.toNat_natCast] at hr
    simp [execOp,hop,e0,e1,V,v66,hr]
   rw [hrun,Oper.upon_value,hd]
   exact hI.put (psz _ (by omega)) (.inl ⟨by omega,rfl,rfl⟩) (hWne L 9 (by omega) (by omega) (by omega) (by omega)).symm
  | 10,_ =>
   obtain ⟨hd,hop⟩:=opat rfl
   have e0:=ev 9 (by omega) (hdep 9 (by decide))
   have e1:=ev 5 (by omega) (hdep 5 (by decide))
   have h8:=hdep 8 (by decide)
   have hWb:(W L).heap[b']?=some (.cells row ty8 (0,0)):=by
    show (nestW _ _ _ _ _ _ _ _).heap[b']?=_
    unfold nestW
    rw [h8,hL]
    cases L 13 with
    | false=>exact h8b
    | true=>show (w8.setRow bo r13).heap[b']?=_;rw [setRow_other w8 bo b' _ hne];exact h8b
   have hWL':(W L).setRow b' r10=W (ins 10 L):=by
    show (nestW _ _ _ _ _ _ _ _).setRow b' r10=nestW _ _ _ _ _ _ _ _
    unfold nestW
    rw [ins_self,ins_ne (i:=10) (j:=8) L (by omega),ins_ne (i:=10) (j:=13) L (by omega),h8,hL]
    cases L 13 with
    | false=>rfl
    | true=>exact setRow_comm w8 bo b' r13 r10 (Ne.symm hne)
   have hr:=run_storeAt (P:=P) (ty:=E .cmd) (o:=o'+body.length * 10) (v:=.agg cmds63.toArray) hWb hie (by rw [hsz];rfl) (by rw [hsz];exact hfit10) (by
    intro u hu
    have h:cmds63.all Value.oneCell'=true:=rfl
    exact List.all_eq_true.1 h u hu)
   have hrun:(execOp a'.eval o).run P (W L)=.ok .skip (W (ins 10 L)):=by
    rw [← hWL']
    simp [execOp,hop,e0,e1,V,hr]
    rfl
   rw [hrun,Oper.upon_skip,hd]
   exact hI.none (.inl rfl) rfl
  | 11,_ =>
   obtain ⟨hd,hop⟩:=opat rfl
   have e0:=ev 0 (by omega) (hdep 0 (by decide))
   have e1:=ev 1 (by omega) (hdep 1 (by decide))
   have hr:=run_indexAt_sl (w:=W L) (P:=P) (b:=bo) (o:=0) (len:=len) (cap:=cap) (k:=.i64) hu hie h.k0.1 h.k0.2
   have hrun:(execOp a'.eval o).run P (W L)=.ok (.value (V 2)) (W L):=by
    rw [hsz,Nat.zero_add] at hr
    simp [execOp,hop,e0,e1,V,hr]
   rw [hrun,Oper.upon_value,hd]
   exact hI.put (psz _ (by omega)) (.inr (.inl ⟨rfl,rfl,rfl⟩)) (hWne L 11 (by omega) (by omega) (by omega) (by omega)).symm
  | 12,_ =>
   obtain ⟨hd,hop⟩:=opat rfl
   have e0:a'.eval (.tmp 68)=V 2:=hI.v11 (hdep 11 (by decide))
   have hr:=run_fieldAt (w:=W L) (P:=P) (b:=bo) (o:=k.toNat * 10) hu2 hf5 hfi5 (by rw [hfs5];omega)
   have hrun:(execOp a'.eval o).run P (W L)=.ok (.value (V 3)) (W L):=by
    rw [hfo5] at hr
    simp [execOp,hop,e0,V,hr]
   rw [hrun,Oper.upon_value,hd]
   exact hI.put (psz _ (by omega)) (.inr (.inr ⟨rfl,rfl,rfl⟩)) (hWne L 12 (by omega) (by omega) (by omega) (by omega)).symm
  | 13,_ =>
   obtain ⟨hd,hop⟩:=opat rfl
   have e0:a'.eval (.tmp 69)=V 3:=hI.v12 (hdep 12 (by decide))
   have e1:=ev 8 (by omega) (hdep 8 (by decide))
   have h8:=hdep 8 (by decide)
   have hWL':(W L).setRow bo r13=W (ins 13 L):=by
    show (nestW _ _ _ _ _ _ _ _).setRow bo r13=nestW _ _ _ _ _ _ _ _
    unfold nestW
    rw [ins_self,ins_ne (i:=13) (j:=8) L (by omega),ins_ne (i:=13) (j:=10) L (by omega),h8,hL]
    cases L 10 <;> rfl
   obtain ⟨its,ds,hits,_,hits1,_⟩:=ht _ _ hts
   have hs1:s1=1:=by obtain ⟨_,_,_,_,_,hk,_⟩:=ht _ _ hts;exact hk
   have hr:=run_storeAt (P:=P) (ty:=ts) (o:=k.toNat * 10+8) (v:=v66) (hWbo L hL) hits (by rw [hits1];exact hs1.symm) (by rw [hits1,show (TI.mk s1 s2 (.sl true (E .cmd) .cmd)).sz=s1 from rfl,hs1];exact hfit13) (by
    intro u hu
    have:u=v66:=by simpa [v66,Value.cells] using hu
    subst this
    rfl)
   have hrun:(execOp a'.eval o).run P (W L)=.ok .skip (W (ins 13 L)):=by
    rw [← hWL']
    simp [execOp,hop,e0,e1,V,hr]
    rfl
   rw [hrun,Oper.upon_skip,hd]
   exact hI.none (.inr rfl) rfl
 ·have hl:=fun i hi=>hall i (by rw [hops.sz];exact hi)
  have hW:w'=(w8.setRow b' r10).setRow bo r13:=by
   rw [hI.w]
   show nestW _ _ _ _ _ _ _ _=_
   unfold nestW
   rw [hl 8 (by omega),hl 10 (by omega),hl 13 (by omega)]
  subst hW
  refine hQ a' _ b' o' cap' row hI.size hI.df hI.lo ⟨hne,hA.fit,hA.cap,hA.off,hA.ko,hA.elems,hA.n0,?_,⟨ty8,?_⟩,fun ty hty=>?_,fun b hb h1 h2=>?_,?_⟩
  ·rcases hA.kind with h1 | ⟨h1,h2⟩
   ·exact .inl h1
   ·exact .inr ⟨by omega,h2⟩
  ·rw [setRow_other _ bo b' _ hne]
   exact setRow_heap w8 b' _ _ _ _ h8b
  ·have e:ty=tyo:=by rw [hbo] at hty;injection hty with hty;injection hty with _ e;exact e.symm
   subst e
   exact setRow_heap _ bo _ _ _ _ (by rw [setRow_other w8 b' bo _ (Ne.symm hne)];exact h8bo)
  ·rw [setRow_other _ bo b _ h2,setRow_other _ b' b _ h1,hA.old b (by omega) h1,h7old b hb]
  ·obtain ⟨p1,p2,p3,p4⟩:=hA.os
   exact ⟨p1,p2,p3,by simp;omega⟩
end
end Go.SE

namespace Go.SE
open Go.RowKit
def nestSt (st:St) (io fam:Nat) (ys:List GCmd):St where
 env:=fun x=>match x with
  | 5=>.s (.c (.own io))
  | _=>junk
 mem:=fun i=>match st.mem i with
  | none=>none
  | some _=>some (cond (Nat.beq i io) (.sl fam .cmd ys) .dead)
 sp:=st.sp
 fr:=st.fr
 base:=st.base
 rd:=st.rd
theorem nestSt_live {st:St} {io fam:Nat} {ys:List GCmd} {i:Nat} {r:Res} (h:(nestSt st io fam ys).mem i=some r) (hl:r.live):i=io/\r=.sl fam .cmd ys:=by
 simp only [nestSt] at h
 split at h
 ·cases h
 ·injection h with h
  cases hb:Nat.beq i io with
  | true=>rw [hb] at h;exact ⟨Nat.eq_of_beq_eq_true hb,h.symm⟩
  | false=>rw [hb] at h;subst h;exact hl.elim
theorem nestSt_env {st:St} {io fam:Nat} {ys:List GCmd} {x:Nat} (h:x ≠ 5):(nestSt st io fam ys).env x=junk:=by
 simp only [nestSt]
theorem nestSt_some {st:St} {io fam:Nat} {ys:List GCmd} {i:Nat}:((nestSt st io fam ys).mem i).isSome=(st.mem i).isSome:=by
 simp only [nestSt]
 cases st.mem i <;> rfl
def vcNest (st:St) (k':St->Prop):Prop :=
 match st.env 5,st.env 6 with
 | .s (.c (.own io)),.s (.c (.d (.val (.int .i64 k))))=>match st.mem io with
  | some (.sl fam .cmd xs)=>(st.sp io=false/\st.fr io=false)/\(0<=k/\k < (List.length (α:=GCmd) xs))/\wcL xs<=1048576/\∀ ys:List GCmd,ys.length=List.length (α:=GCmd) xs->wcL ys<=wcL xs+1->k' (nestSt st io fam ys)
  | _=>False
 | _,_=>False
theorem wcL_set {xs:List GCmd} {k:Nat} {y:GCmd} (hk:k < xs.length) {m:Nat} (hy:wtC y<=wtC (xs.getD k (Ty.zero .cmd))+m):wcL (xs.set k y)<=wcL xs+m:=by
 induction xs generalizing k with
 | nil=>simp at hk
 | cons x xs ih =>
  cases k with
  | zero =>
   rw [List.set_cons_zero,wcL_cons,wcL_cons]
   simp only [List.getD_cons_zero] at hy
   omega
  | succ k =>
   rw [List.set_cons_succ,wcL_cons,wcL_cons]
   have:=ih (k:=k) (by simpa using hk) (by simpa using hy)
   omega
end Go.SE
namespace Go.SE
variable [Base]
open Go.RowKit
theorem Chg.u8 {ro:Nat->Option (Array Value)} {b:Nat} {vs vs':Array Value} (h:Chg ro b vs vs') {code:List UInt8} {v:Value} (hd:DR ro (.arr .u8 code) v):DR (chg ro b vs') (.arr .u8 code) v:=by
 rcases hd.arr_inv with ⟨⟨aa,rfl⟩,rfl⟩ | ⟨b1,off,cap,vs1,rfl,hb,hle,hcm,hrow,hpm⟩
 ·cases aa with
  | none=>exact .nil _
  | some aa=>exact .emp _ _
 ·by_cases e:b1=b
  ·subst e
   have e1:vs1=vs:=by rw [h.hb] at hb;injection hb with hb;exact hb.symm
   subst e1
   cases code with
   | nil=>exact DR.of_row (vs:=vs') (by simp [chg]) (fun h=>by cases h) hle hcm (by simp [flat];exact RowR.nil)
   | cons c code =>
    exfalso
    obtain ⟨u,h1,h2⟩:=hrow 0 (.val (.int .u8 (c.toNat:Int))) rfl
    have h3:=h2.val_eq
    subst h3
    have h4:=h.ko _ _ h1
    have h5:∀ i,i < 10->cmdK i ≠ 0:=by decide
    exact h5 _ (Nat.mod_lt _ (by omega)) h4.symm
  ·exact DR.of_row (vs:=vs1) (by simp [chg,e,hb]) (fun h=>by cases h) hle hcm fun k c hk=>by
    obtain ⟨u,h1,h2⟩:=hrow k c hk
    refine ⟨u,h1,?_⟩
    obtain ⟨x,_,hx⟩:=List.mem_flatMap.1 (List.mem_of_getElem? hk)
    simp [Ty.cells] at hx
    subst hx
    have h3:=h2.val_eq
    subst h3
    exact .val _ rfl
theorem free_new:∀ (j:Nat) (u:Value),cmds63[j]?=some u->NewC u j:=by
 intro j u hu
 have hj:j < 10:=(List.getElem?_eq_some_iff.1 hu).1
 match j,hj with
 | 0,_=>cases hu;exact ⟨rfl,fun h=>by cases h⟩
 | 1,_=>cases hu;exact ⟨rfl,fun h=>by cases h⟩
 | 2,_=>cases hu;exact ⟨rfl,fun h=>by cases h⟩
 | 3,_=>cases hu;exact ⟨rfl,fun h=>by cases h⟩
 | 4,_=>cases hu;exact ⟨rfl,fun h=>by cases h⟩
 | 5,_=>cases hu;exact ⟨rfl,fun h=>by cases h⟩
 | 6,_=>cases hu;exact ⟨rfl,fun _=>rfl⟩
 | 7,_=>cases hu;exact ⟨rfl,fun _=>rfl⟩
 | 8,_=>cases hu;exact ⟨rfl,fun _=>rfl⟩
 | 9,_=>cases hu;exact ⟨rfl,fun _=>rfl⟩
def freeCmd:GCmd:=.mk 5 1 0 ⟨false,0,0⟩ ⟨[],[]⟩ [] []
theorem free_row (ro:Nat->Option (Array Value)):∀ (k:Nat) (c:DC),(flat .cmd [freeCmd])[k]?=some c->∃ u,cmds63[k]?=some u/\DR ro c u:=by
 intro k c hk
 have hj:k < 10:=(List.getElem?_eq_some_iff.1 hk).1
 match k,hj with
 | 0,_=>cases hk;exact ⟨_,rfl,.val _ rfl⟩
 | 1,_=>cases hk;exact ⟨_,rfl,.val _ rfl⟩
 | 2,_=>cases hk;exact ⟨_,rfl,.val _ rfl⟩
 | 3,_=>cases hk;exact ⟨_,rfl,.val _ rfl⟩
 | 4,_=>cases hk;exact ⟨_,rfl,.val _ rfl⟩
 | 5,_=>cases hk;exact ⟨_,rfl,.val _ rfl⟩
 | 6,_=>cases hk;exact ⟨_,rfl,.nil _⟩
 | 7,_=>cases hk;exact ⟨_,rfl,.nil _⟩
 | 8,_=>cases hk;exact ⟨_,rfl,.ne _ _ _ (.nil _) fun _=>⟨none,rfl⟩⟩
 | 9,_=>cases hk;exact ⟨_,rfl,.ne _ _ _ (.nil _) fun _=>⟨none,rfl⟩⟩
section
variable {P:Program} {E:Ty->TypeId} {tab:TypeId->Option TI} {w0:World} {M:MM} {n:Nat}
theorem nest_lists {g:G} {wd:World} {bo:Nat} {cur:Array Value} {k:Int} {v62:Value} {b' o' cap':Nat} {row:Array Value} {wF:World} {xs:List GCmd} {cap:Nat}
  (h:NestOut g wd bo cur k v62 (xs.getD k.toNat (Ty.zero .cmd)).body b' o' cap' row wF) (hk:k.toNat < xs.length) (hrow:RowR g.ro (flat .cmd xs) cur 0) (hcs:cur.size=cap * 10) (hle:xs.length<=cap) (hd62:DR g.ro (.ne .cmd (xs.getD k.toNat (Ty.zero .cmd)).body) v62) :
  ∃ ys:List GCmd,ys.length=xs.length/\wcL ys<=wcL xs+1/\RowR (chg g.ro b' (over row (o'+(xs.getD k.toNat (Ty.zero .cmd)).body.length * 10) cmds63)) (flat .cmd ys) (over cur (k.toNat * 10+8) [.slice (some ⟨b',o',none⟩) ((xs.getD k.toNat (Ty.zero .cmd)).body.length+1) cap']) 0 /\
   ∀ code v,DR g.ro (.arr .u8 code) v->DR (chg g.ro b' (over row (o'+(xs.getD k.toNat (Ty.zero .cmd)).body.length * 10) cmds63)) (.arr .u8 code) v:=by
 generalize hbody:(xs.getD k.toNat (Ty.zero .cmd)).body=body at h hd62 ⊢
 have hfit:o'+body.length * 10+cmds63.length<=row.size:=by
  have:=h.fit;have:=h.cap.1
  have e:cmds63.length=10:=rfl
  omega
 have hl63:cmds63.length=10:=rfl
 generalize hr10:over row (o'+body.length * 10) cmds63=r10 at *
 have hr10get:∀ j,r10[j]?=if o'+body.length * 10<=j/\j < o'+body.length * 10+10 then cmds63[j - (o'+body.length * 10)]? else row[j]?:=fun j=>by rw [← hr10];exact over_get hfit j
 have hr10sz:r10.size=row.size:=by rw [← hr10];exact over_size hfit
 have hko10:KO r10:=by
  intro i u hu
  rw [hr10get] at hu
  split at hu
  ·rename_i hi
   rw [(free_new _ u hu).1]
   have:=h.off
   congr 1
   omega
  ·exact h.ko i u hu
 -- data under the new rows
 have main:∃ (xs1:List GCmd) (body1:List GCmd),xs1.length=xs.length/\wcL xs1<=wcL xs/\(∀ i,i < xs.length->LeE .cmd (xs.getD i (Ty.zero .cmd)) (xs1.getD i (Ty.zero .cmd)))/\RowR (chg g.ro b' r10) (flat .cmd xs1) cur 0/\body1.length=body.length/\wcL body1<=wcL body/\RowR (chg g.ro b' r10) (flat .cmd body1) r10 o' /\
   ∀ code v,DR g.ro (.arr .u8 code) v->DR (chg g.ro b' r10) (.arr .u8 code) v:=by
  rcases h.kind with ⟨vs,k1,k2,k3,k4⟩ | ⟨k1,k2⟩
  ·have hc:Chg g.ro b' vs r10:=by
    refine ⟨k1,k2,by rw [hr10sz,k3],fun i u hu=>?_⟩
    rw [hr10get] at hu
    split at hu
    ·rename_i hi
     right
     have h9:=free_new _ u hu
     have:=h.off
     rw [show i % 10=i - (o'+body.length * 10) from by omega]
     exact h9
    ·left
     rw [← k4 i (by omega)]
     exact hu
   obtain ⟨xs1,m1,m2,m3,m4⟩:=hc.row hrow
   obtain ⟨body1,n1,n2,n3,n4⟩:=hc.row h.elems
   refine ⟨xs1,body1,m2,m3,m4,m1,n2,n3,fun j c hj=>?_,fun code v hv=>hc.u8 hv⟩
   obtain ⟨u,q1,q2⟩:=n1 j c hj
   have hj1:j < body.length * 10:=by have:=(List.getElem?_eq_some_iff.1 hj).1;rw [flat_len,n2] at this;exact this
   exact ⟨u,by rw [hr10get,if_neg (by omega)];exact q1,q2⟩
  ·have hmono:∀ b vs,g.ro b=some vs->chg g.ro b' r10 b=some vs:=by
    intro b vs hb
    have:b ≠ b':=by intro e;subst e;rw [k2] at hb;cases hb
    simp [chg,this,hb]
   refine ⟨xs,body,rfl,Nat.le_refl _,fun i hi=>⟨Nat.le_refl _,Nat.le_refl _⟩,hrow.mono hmono,rfl,Nat.le_refl _,fun j c hj=>?_,fun code v hv=>hv.mono hmono⟩
   obtain ⟨u,q1,q2⟩:=h.elems j c hj
   have hj1:j < body.length * 10:=by have:=(List.getElem?_eq_some_iff.1 hj).1;rw [flat_len] at this;exact this
   exact ⟨u,by rw [hr10get,if_neg (by omega)];exact q1,q2.mono hmono⟩
 obtain ⟨xs1,body1,h1,h2,h3,h4,h5,h6,h7,h8⟩:=main
 have hx1:k.toNat < xs1.length:=by omega
 let x1:=xs1.getD k.toNat (Ty.zero .cmd)
 let y:GCmd:=.mk x1.kind x1.a x1.b x1.test x1.inv (body1 ++ [freeCmd]) x1.els
 have hy:updElem .cmd (xs1.getD k.toNat (Ty.zero .cmd)) 8 [.ne .cmd (body1 ++ [freeCmd])]=some y:=rfl
 have hb1:RowR (chg g.ro b' r10) (flat .cmd (body1 ++ [freeCmd])) r10 o':=by
  rw [flat_append]
  refine RowR.append h7 (RowR.of_vals (free_row _) fun j u hj=>?_)
  have hj10:j < 10:=(List.getElem?_eq_some_iff.1 hj).1
  have e:(flat .cmd body1).length=body.length * 10:=by rw [flat_len,h5];rfl
  rw [e,hr10get,if_pos (by omega)]
  rw [show o'+body.length * 10+j - (o'+body.length * 10)=j from by omega]
  exact hj
 have hd66:DR (chg g.ro b' r10) (.ne .cmd (body1 ++ [freeCmd])) (.slice (some ⟨b',o',none⟩) (body.length+1) cap'):=by
  have hl:(body1 ++ [freeCmd]).length=body.length+1:=by simp [h5]
  have:=DR.of_row (t:=.cmd) (xs:=body1 ++ [freeCmd]) (cap:=cap') (vs:=r10) (b:=b') (off:=o') (by simp [chg]) (fun _=>⟨h.n0,fun _=>⟨h.off,hko10,by rw [hr10sz];exact h.fit⟩⟩) (by rw [hl];exact h.cap.1) h.cap.2 hb1
  rw [hl] at this
  exact .ne _ _ _ this fun e=>by simp at e
 refine ⟨xs1.set k.toNat y,by simp [h1],?_,?_,h8⟩
 ·have e1:wcL (xs1.set k.toNat y)<=wcL (xs.set k.toNat y):=by
   refine wcL_mono _ _ (by simp [h1]) fun i hi=>?_
   rw [List.length_set] at hi
   by_cases e:i=k.toNat
   ·subst e
    rw [getD_set_self hx1,getD_set_self hk]
    exact Nat.le_refl _
   ·rw [List.getD_eq_getElem?_getD,List.getD_eq_getElem?_getD,List.getElem?_set_ne (Ne.symm e),List.getElem?_set_ne (Ne.symm e)]
    have:=(h3 i hi).1
    rw [List.getD_eq_getElem?_getD,List.getD_eq_getElem?_getD] at this
    exact this
  refine Nat.le_trans e1 (wcL_set hk ?_)
  have q1:=(h3 k.toNat hk).2
  rw [wtC_eq,wtC_eq,hbody]
  show x1.inv.facts.length+x1.inv.atoms.length+((body1 ++ [freeCmd]).length+wcL (body1 ++ [freeCmd]))+(x1.els.length+wcL x1.els)<=_
  have q2:nbC x1<=nbC (xs.getD k.toNat (Ty.zero .cmd)):=q1
  unfold nbC at q2
  have q3:wcL [freeCmd]=0:=rfl
  rw [wcL_append,q3,List.length_append,h5]
  simp only [List.length_singleton]
  omega
 ·refine RowR.setElem h4 hx1 hy rfl (fun j c hj=>?_) ?_
  ·match j,hj with
   | 0,hj=>cases hj;exact ⟨_,rfl,hd66⟩
  ·have e:[Value.slice (some ⟨b',o',none⟩) (body.length+1) cap'].length=1:=rfl
   show k.toNat * 10+8+_<=_
   omega
theorem nest_sound (ht:TabOk P E tab) (hmix:P.follows .mixedOrders=true) {ts tc:TypeId} {s1 s2 s3:Nat} (hts:tab ts=some ⟨s1,s2,.sl true tc .cmd⟩)
  (htc:tab tc=some ⟨10,s3,.st [.sc (.int .i64 0),.sc (.int .i64 0),.sc (.int .i64 0),.sc (.bool false),.sc (.int .i64 0),.sc (.int .i64 0),.sl .fact,.sl .atom,.sl .cmd,.sl .cmd] [(0,1,false),(1,1,false),(2,1,false),(3,3,true),(6,2,true),(8,1,false),(9,1,false)]⟩)
  {zc:Array Value} {ops:Array Oper} (hops:NestOps ts tc zc ops) {id:Nat} {st:St} {a:Act} {w:World} (h:Rel E w0 M n st a w) (hn:70<=n) (hB:w0.heap.size<=Base.n0) (hrok:∀ b,M.rok b=none)
  {k':St->Prop} (hv:vcNest st k') {Q:Exit->Act->World->Prop} (hQ:∀ st' a' w',Rel E w0 M n st' a' w'->k' st'->Q .normal a' w'):(Code.region id ops true).wp P Q a w:=by
 unfold vcNest at hv
 split at hv
 ·rename_i io k he5 he6
  split at hv
  ·rename_i fam xs hm
   obtain ⟨⟨hsp,hfr⟩,⟨hk0,hk1⟩,hwl,hv⟩:=hv
   have h':=h.drawn
   generalize hwd:({ w with drawn:=w.drawn+1 }:World)=wd at h'
   obtain ⟨g,hg,henv⟩:=h'.good
   have hx5:=henv 5
   rw [he5] at hx5
   have hx6:=henv 6
   rw [he6] at hx6
   have t6:a.tmps.getD 6 undef=.int .i64 k:=DR.val_eq (show DR g.ro (.val _) _ from hx6)
   obtain ⟨hln,hres⟩:=hg.res _ _ hm
   rcases hres with ⟨_,hx0⟩ | ⟨bo,cap,cur,hκ,hbo,hle,hcap,hcs,hrow⟩
   ·exfalso
    have:List.length (α:=GCmd) xs=0:=by rw [hx0];rfl
    omega
   have hkl:k.toNat < List.length (α:=GCmd) xs:=by omega
   replace hcs:cur.size=cap * 10:=hcs
   have hgbo:g.ro bo=none:=hg.wro io _ hm trivial bo (by rw [hκ];rfl) hsp hfr
   obtain ⟨v62,h62,hd62⟩:=hrow (k.toNat * 10+8) (.ne .cmd (List.getD (α:=GCmd) xs k.toNat (Ty.zero .cmd)).body) (by
    rw [show k.toNat * 10+8=k.toNat * Ty.sz .cmd+8 from rfl,flat_get .cmd xs k.toNat 8 hkl (by decide)]
    rfl)
   rw [Nat.zero_add] at h62
   have hnz:Base.n0<=wd.heap.size:=Nat.le_trans hg.rho.2.1.le hg.ext.size
   have hbl:(List.getD (α:=GCmd) xs k.toNat (Ty.zero .cmd)).body.length<=281474976710:=by
    have q1:=wcL_get (d:=Ty.zero .cmd) hkl
    rw [wtC_eq] at q1
    omega
   have hin:NestIn P ts tc g a wd bo (List.length (α:=GCmd) xs) cap cur k v62 (List.getD (α:=GCmd) xs k.toNat (Ty.zero .cmd)).body :=
    ⟨by rw [h.size];exact hn,by rw [hx5.1,hκ],t6,⟨hk0,hk1⟩,⟨_,hbo⟩,by omega,h62,hd62,hbl,hg.ro,hgbo,hnz⟩
   subst hwd
   refine nest_raw ht hmix hts htc hops hin fun a' wF b' o' cap' row hs' hd' hlo hO=>?_
   generalize hwd:({ w with drawn:=w.drawn+1 }:World)=wd at *
   obtain ⟨ys,hyl,hyw,hyr,hu8⟩:=nest_lists hO hkl hrow hcs hle hd62
   refine hQ (nestSt st io fam ys) a' wF ?_ (hv ys hyl hyw)
   have hblt:bo < wd.heap.size:=lt_of_some hbo
   have hwF:=hO.hbo _ hbo
   obtain ⟨tyb,hwb⟩:=hO.hb
   have hfit13:k.toNat * 10+8+[Value.slice (some ⟨b',o',none⟩) ((List.getD (α:=GCmd) xs k.toNat (Ty.zero .cmd)).body.length+1) cap'].length<=cur.size:=by
    have e:[Value.slice (some ⟨b',o',none⟩) ((List.getD (α:=GCmd) xs k.toNat (Ty.zero .cmd)).body.length+1) cap'].length=1:=rfl
    omega
   have hb'0:w0.heap.size<=b':=Nat.le_trans hB hO.n0
   have hbo0:w0.heap.size<=bo:=Nat.le_trans hB (hg.nb hm trivial (by rw [hκ];rfl))
   have hoth:∀ b,b < wd.heap.size->g.ro b=none ∨ b ≠ b'->b ≠ b' ∨ (wd.heap.size<=b' ∨ ∃ vs,g.ro b'=some vs):=fun b _ _=>by
    rcases hO.kind with ⟨vs,h1,_⟩ | ⟨h1,_⟩
    ·exact .inr (.inr ⟨vs,h1⟩)
    ·exact .inr (.inl h1)
   -- a block that is not read and was there is not the one that was written
   have hnb':∀ b,b < wd.heap.size->g.ro b=none->b ≠ b':=fun b hb hr e=>by
    subst e
    rcases hO.kind with ⟨vs,h1,_⟩ | ⟨h1,_⟩
    ·rw [hr] at h1;cases h1
    ·omega
   generalize hr10:over row (o'+(List.getD (α:=GCmd) xs k.toNat (Ty.zero .cmd)).body.length * 10) cmds63=r10 at *
   have hgood:Good E w0 M { g with ro:=chg g.ro b' r10 } (nestSt st io fam ys) wF:=by
    refine ⟨?_,?_,?_,?_,?_,?_,?_,?_,?_,hg.rho,fun id v hv=>?_,fun id m hv=>?_,fun b vs hv=>?_⟩
    ·obtain ⟨p1,p2,p3,p4⟩:=hO.os
     refine ⟨p1.trans hg.ext.os,p2.trans hg.ext.tape,p3.trans hg.ext.output,Nat.le_trans hg.ext.size p4,fun b hb hM=>?_⟩
     rw [hO.old b (Nat.lt_of_lt_of_le hb hg.ext.size) (by omega) (by omega)]
     exact hg.ext.block b hb hM
    ·intro b vs hb
     by_cases e:b=b'
     ·subst e
      have e1:vs=r10:=by simp [chg] at hb;exact hb.symm
      subst e1
      exact ⟨tyb,(0,0),hwb,fun _=>rfl⟩
     ·have hb1:g.ro b=some vs:=by simp [chg,e] at hb;exact hb
      refine (hg.ro b vs hb1).keep fun hlt=>hO.old b hlt e fun e2=>?_
      subst e2
      rw [hgbo] at hb1;cases hb1
    ·intro id r hr
     by_cases hl:r.live
     ·obtain ⟨rfl,rfl⟩:=nestSt_live hr hl
      refine ⟨by rw [hyl];exact hln,.inr ⟨bo,cap,_,by rw [hyl];exact hκ,hwF,by rw [hyl];exact hle,⟨hcap.le,fun ht h0=>hcap.tight ht (by rw [← hyl];exact h0),fun ht=>?_⟩,by rw [over_size hfit13];exact hcs,hyr⟩⟩
      intro i u hu
      rw [over_get hfit13] at hu
      split at hu
      ·rename_i hi
       have e:[Value.slice (some ⟨b',o',none⟩) ((List.getD (α:=GCmd) xs k.toNat (Ty.zero .cmd)).body.length+1) cap'].length=1:=rfl
       have e2:i=k.toNat * 10+8:=by omega
       subst e2
       rw [Nat.sub_self] at hu
       injection hu with hu
       subst hu
       rw [show (k.toNat * 10+8) % 10=8 from by omega]
       rfl
      ·exact hcap.ko rfl i u hu
     ·cases r with
      | dead=>trivial
      | _=>exact (hl trivial).elim
    ·intro i j r s hi hj hij hli hlj
     obtain ⟨e1,_⟩:=nestSt_live hi hli
     obtain ⟨e2,_⟩:=nestSt_live hj hlj
     exact (hij (e1.trans e2.symm)).elim
    ·intro id r hr hl b hb
     obtain ⟨rfl,rfl⟩:=nestSt_live hr hl
     exact hg.fresh id _ hm trivial b hb
    ·intro id r hr hl b hb h1 h2
     obtain ⟨rfl,rfl⟩:=nestSt_live hr hl
     have e:b=bo:=by rw [hκ] at hb;injection hb with hb;exact hb.symm
     subst e
     show chg g.ro b' r10 b=none
     simp only [chg,if_neg (Ne.symm hO.ne)]
     exact hgbo
    ·intro m hmr
     obtain ⟨⟨hlim,hout,code,v,p,ty,hc,hd,hrest⟩,hin,hno⟩:=hg.rd m hmr
     have hρlt:g.ρ < wd.heap.size:=lt_of_some hc
     have hρb:g.ρ ≠ b':=hnb' _ hρlt hout
     refine ⟨⟨hlim,?_,code,v,p,ty,?_,hu8 code v hd,hrest⟩,hin,fun id r hr hl=>?_⟩
     ·show chg g.ro b' r10 g.ρ=none
      simp only [chg,if_neg hρb]
      exact hout
     ·show wF.heap[g.ρ]?=_
      rw [hO.old _ hρlt hρb fun e=>hno io _ hm trivial (by rw [hκ,e];rfl)]
      exact hc
     ·obtain ⟨rfl,rfl⟩:=nestSt_live hr hl
      exact hno id _ hm trivial
    ·intro hn0
     have hn0':st.rd ≠ none:=hn0
     cases hrd:st.rd with
     | none=>exact (hn0' hrd).elim
     | some m =>
      obtain ⟨⟨hlim,hout,_⟩,hin,hno⟩:=hg.rd m hrd
      exact (hg.rds hn0').next fun hb=>hO.old _ hb (hnb' _ hb hout) fun e=>hno io _ hm trivial (by rw [hκ,e];rfl)
    ·intro b vs hb
     by_cases e:b=b'
     ·subst e;exact .inr (.inl hb'0)
     ·have hb1:g.ro b=some vs:=by simp only [chg,if_neg e] at hb;exact hb
      exact hg.roo b vs hb1
    ·rw [nestSt_some];exact hg.pin id v hv
    ·rw [nestSt_some];exact hg.keep.1 id m hv
    ·rw [hrok b] at hv;cases hv
   refine ⟨⟨?_,?_⟩,by rw [hs'];exact h.size,by rw [hd'];exact h.defers,_,hgood,?_⟩
   ·intro x id hid
    rw [nestSt_some]
    by_cases e:x=5
    ·subst e
     have hid:id ∈ [io]:=hid
     rw [List.mem_singleton] at hid
     rw [hid,hm];rfl
    ·have:(nestSt st io fam ys).env x=junk:=nestSt_env e
     rw [this] at hid
     cases hid
   ·intro j r hj id hid
    by_cases hl:r.live
    ·obtain ⟨_,rfl⟩:=nestSt_live hj hl
     cases hid
    ·cases r with
     | dead=>cases hid
     | _=>exact (hl trivial).elim
   ·intro x
    by_cases e:x=5
    ·subst e
     show CV.R _ (.own io) _
     rw [hlo 5 (by omega)]
     exact hx5
    ·have:(nestSt st io fam ys).env x=junk:=nestSt_env e
     rw [this]
     trivial
  ·exact hv.elim
 ·exact hv.elim
end
end Go.SE

namespace Go.SE
variable [Base]
open Go.RowKit
end Go.SE

namespace Go.SE
variable [Base]
open Go.RowKit
def nestK (tab:TypeId->Option TI) (K:FuncId->Option Con) (pts:FuncId->Option PT) (ops:Array Oper) (st:St) (k:St->Prop) (h:Bool) (p:List (List Nat)):Bool->Prop
 | true=>vcNest st k
 | false=>vcRegP tab K pts ops st k h p
section
variable (tab:TypeId->Option TI) (K:FuncId->Option Con) (pts:FuncId->Option PT) (hp:Nat->Bool) (gcs:Nat->Option (List Nat × List Nat)) (anns:Nat->St->Option Ann) (perm:Nat->List (List Nat)) (nr:Nat->Bool)
def vcN:Code->St->(XK->St->Prop)->Prop
 | .skip,st,Q=>Q .normal st
 | .region id ops _,st,Q=>nestK tab K pts ops st (Q .normal) (hp id) (perm id) (nr id)
 | .seq a b,st,Q=>vcN a st (seqK (fun st'=>gcQ st' (fun s=>vcN b s Q) (gcs (firstReg b))) Q)
 | .cond c a b,st,Q=>condK (vcN a st Q) (vcN b st Q) (ev st c)
 | .block id c,st,Q=>vcN c st (blockK id Q)
 | .loop c,st,Q=>vcLoopQ (fun st' Q'=>vcN c st' Q') st Q (anns (firstReg c) st)
 | .exit id,st,Q=>Q (.exit id) st
 | .ret,st,Q=>Q .ret st
 | _,_,_=>False
end
def codeOkN (tab:TypeId->Option TI) (K:FuncId->Option Con) (hp:Nat->Bool) (perm:Nat->List (List Nat)) (nr:Nat->Bool) (n:Nat):Code->Bool
 | .region id ops draw=>match nr id with
  | true=>true
  | false=>codeOkP tab K hp perm n (.region id ops draw)
 | .seq a b=>codeOkN tab K hp perm nr n a && codeOkN tab K hp perm nr n b
 | .block _ c=>codeOkN tab K hp perm nr n c
 | .loop c=>codeOkN tab K hp perm nr n c
 | .cond _ a b=>codeOkN tab K hp perm nr n a && codeOkN tab K hp perm nr n b
 | _=>true
def RegsOk (ts tc:TypeId) (zc:Array Value) (nr:Nat->Bool):Code->Prop
 | .region id ops draw=>nr id=true->NestOps ts tc zc ops/\draw=true
 | .seq a b=>RegsOk ts tc zc nr a/\RegsOk ts tc zc nr b
 | .block _ c=>RegsOk ts tc zc nr c
 | .loop c=>RegsOk ts tc zc nr c
 | .cond _ a b=>RegsOk ts tc zc nr a/\RegsOk ts tc zc nr b
 | _=>True
section
variable {P:Program} {E:Ty->TypeId} {tab:TypeId->Option TI} {K:FuncId->Option Con} {pts:FuncId->Option PT} {hp:Nat->Bool} {gcs:Nat->Option (List Nat × List Nat)} {anns:Nat->St->Option Ann} {perm:Nat->List (List Nat)} {nr:Nat->Bool} {w0:World} {M:MM} {n:Nat}
open Classical in
theorem codeN_sound (ht:TabOk P E tab) (hKA:KAll P E K) (hPA:PAll P E pts) (hmix:P.follows .mixedOrders=true) (hdr:DrawSound P E tab K w0 M n) (hOO:OOk (fun _=>none) M) {ts tc:TypeId} {s1 s2 s3:Nat} {zc:Array Value} (hts:tab ts=some ⟨s1,s2,.sl true tc .cmd⟩)
  (htc:tab tc=some ⟨10,s3,.st [.sc (.int .i64 0),.sc (.int .i64 0),.sc (.int .i64 0),.sc (.bool false),.sc (.int .i64 0),.sc (.int .i64 0),.sl .fact,.sl .atom,.sl .cmd,.sl .cmd] [(0,1,false),(1,1,false),(2,1,false),(3,3,true),(6,2,true),(8,1,false),(9,1,false)]⟩)
  (hn:70<=n) (hB:w0.heap.size<=Base.n0) (hrok:∀ b,M.rok b=none):∀ (c:Code) (st:St) (a:Act) (w:World) (Qs:XK->St->Prop) (Q:Exit->Act->World->Prop),RegsOk ts tc zc nr c->codeOkN tab K hp perm nr n c=true->Rel E w0 M n st a w->vcN tab K pts hp gcs anns perm nr c st Qs ->
  (∀ x st' a' w',Rel E w0 M n st' a' w'->Qs x st'->Q x.exit' a' w')->c.wp P Q a w:=by
 have hO:=hOO
 intro c
 induction c with
 | skip=>intro st a w Qs Q _ _ h hv hQ;exact _root_.Go.wp_skip (hQ .normal st a w h hv)
 | region id ops draw =>
  intro st a w Qs Q hrg hok h hv hQ
  simp only [vcN] at hv
  cases hnr:nr id with
  | true =>
   rw [hnr] at hv
   obtain ⟨hno,hdw⟩:=hrg hnr
   subst hdw
   exact nest_sound ht hmix hts htc hno h hn hB hrok hv fun st' a' w' hr hk=>hQ .normal st' a' w' hr hk
  | false =>
  rw [hnr] at hv
  simp only [nestK] at hv
  simp only [codeOkN,hnr,codeOkP,Bool.and_eq_true] at hok
  obtain ⟨hok1,hok2⟩:=hok
  cases hh:hp id with
  | false =>
   rw [hh] at hv hok2
   cases hpm:perm id with
   | nil =>
    rw [hpm] at hv hok2
    simp only [vcRegP,vcReg] at hv
    simp only at hok2
    cases draw with
    | false=>exact wp_region_list (seq_sound ht hKA (fun st' a' w' hr hk=>hQ .normal st' a' w' hr hk) ops.toList st a w (opsOk_mem hok1) h hv)
    | true=>exact hdr id ops st a w _ Q (by simpa using hok2) hok1 h hv fun st' a' w' hr hk=>hQ .normal st' a' w' hr hk
   | cons l ls =>
    rw [hpm] at hv hok2
    simp only [vcRegP,vcReg] at hv
    simp only [Bool.and_eq_true,permOk,List.all_eq_true] at hok2
    obtain ⟨hd,hp1,hp2⟩:=hok2
    subst hd
    refine wp_region_any hmix (any_sound ht hKA hok1 (fun st' a' w' hr hk=>hQ .normal st' a' w' hr hk) _ _ st a _ hp1 h.drawn fun x hx=>vcEach_mem hv x ?_)
    have:=hp2 x hx
    simpa using this
  | true =>
   rw [hh] at hv hok2
   cases hpm:perm id with
   | nil =>
    rw [hpm] at hv hok2
    simp only [vcRegP] at hv
    simp only [Bool.not_eq_true'] at hok2
    subst hok2
    exact wp_region_list (seqP_sound ht hKA hPA (fun st' a' w' hr hk=>hQ .normal st' a' w' hr hk) ops.toList st a w (opsOk_mem hok1) h hv)
   | cons l ls =>
    rw [hpm] at hv hok2
    cases ls with
    | cons l' ls =>
     rcases l with _ | ⟨i0,l⟩
     ·rcases l' with _ | ⟨s1,_ | ⟨s2,_ | ⟨_,_⟩⟩⟩
      ·cases hok2
      ·cases hok2
      ·rcases ls with _ | ⟨_,_⟩
       ·simp only [vcRegP] at hv
        simp only [Bool.and_eq_true] at hok2
        obtain ⟨hd,hdl⟩:=hok2
        subst hd
        exact draw_swap (pts:=pts) ht (tab_small ht) hKA hmix hdl hok1 h hv fun st' a' w' hr hk=>hQ .normal st' a' w' hr hk
       ·cases hok2
      ·cases hok2
     ·cases hok2
    | nil =>
    cases l with
    | nil =>
     simp only [vcRegP] at hv
     simp only [Bool.and_eq_true] at hok2
     obtain ⟨hd,hdl⟩:=hok2
     subst hd
     exact draw_last ht (tab_small ht) hKA hPA hmix hdl hok1 h hv fun st' a' w' hr hk=>hQ .normal st' a' w' hr hk
    | cons i0 l =>
     simp only [vcRegP] at hv
     simp only [Bool.and_eq_true,permOk,List.all_eq_true] at hok2
     obtain ⟨hd,hp1,hp2⟩:=hok2
     subst hd
     refine wp_region_any hmix (one_sound ht hKA hPA hok1 (fun st' a' w' hr hk=>hQ .normal st' a' w' hr hk) _ (i0 :: l) _ st a _ hp1 (fun x hx=>?_) h.drawn hv)
     have:=hp2 x hx
     simpa using this
 | seq x y ihx ihy =>
  intro st a w Qs Q hrg hok h hv hQ
  simp only [codeOkN,Bool.and_eq_true] at hok
  refine wp_seq (ihx st a w _ _ hrg.1 hok.1 h hv fun k st' a' w' hr hk=>?_)
  cases k with
  | normal =>
   simp only [seqK] at hk
   have hk2:=gcQ_ok (k':=fun s=>vcN tab K pts hp gcs anns perm nr y s Qs) (fun _ h=>h) hk
   unfold gcK at hk2
   split at hk2
   ·exact ihy st' a' w' Qs Q hrg.2 hok.2 hr hk2 hQ
   ·exact ihy _ a' w' Qs Q hrg.2 hok.2 (hr.gc hO hk2.1) hk2.2 hQ
  | exit id=>exact hQ (.exit id) st' a' w' hr hk
  | ret=>exact hQ .ret st' a' w' hr hk
 | cond cnd x y ihx ihy =>
  intro st a w Qs Q hrg hok h hv hQ
  simp only [codeOkN,Bool.and_eq_true] at hok
  simp only [vcN] at hv
  unfold condK at hv
  split at hv
  ·rename_i t he
   have hval:=(ev_val h he).1
   cases t with
   | true=>exact wp_cond_true hval (ihx st a w Qs Q hrg.1 hok.1 h (vcIf_t hv) hQ)
   | false=>exact wp_cond_false hval (ihy st a w Qs Q hrg.2 hok.2 h (vcIf_f hv) hQ)
  ·exact hv.elim
 | block id x ih =>
  intro st a w Qs Q hrg hok h hv hQ
  refine wp_block (ih st a w _ _ hrg hok h hv fun k st' a' w' hr hk=>?_)
  cases k with
  | normal=>exact hQ .normal st' a' w' hr hk
  | exit id' =>
   simp only [XK.exit',Exit.inBlock]
   simp only [blockK] at hk
   split
   ·rename_i e;rw [if_pos e] at hk;exact hQ .normal st' a' w' hr hk
   ·rename_i e;rw [if_neg e] at hk;exact hQ (.exit id') st' a' w' hr hk
  | ret=>exact hQ .ret st' a' w' hr hk
 | loop x ih =>
  intro st a w Qs Q hrg hok h hv hQ
  simp only [vcN] at hv
  unfold vcLoopQ at hv
  split at hv
  ·exact hv.elim
  ·rename_i α ok mu i0 nx live sets mids blks owns rd base hA
   obtain ⟨⟨ho0,hf0⟩,hround⟩:=hv
   let α0:α:=i0 st
   let hd:α->St:=fun α=>SE.headP (fun _=>none) live (sets α) mids (blks α) (owns α) base (rd st.rd α) st
   have hex:∀ (a:Act) (w:World),(∃ α,ok α/\Rel E w0 M n (hd α) a w)->∃ m,∃ α,ok α/\Rel E w0 M n (hd α) a w/\mu α=m :=
    fun a w ⟨α,h1,h2⟩=>⟨_,α,h1,h2,rfl⟩
   let μ:Act->World->Nat:=fun a w=>if hh:∃ m,∃ α,ok α/\Rel E w0 M n (hd α) a w/\mu α=m then Classical.choose (least hh) else 0
   refine wp_loop (fun a w=>∃ α,ok α/\Rel E w0 M n (hd α) a w) μ ⟨α0,ho0,h.headP hO (fitsQ_ok hf0)⟩ ?_
   intro a w hI
   have hh:=hex a w hI
   obtain ⟨α,h1,h2,h3⟩:=(Classical.choose_spec (least hh)).1
   have hμ:μ a w=mu α:=by simp only [μ,dif_pos hh];exact h3.symm
   refine ih _ a w _ _ hrg hok h2 (hround α h1) fun k st' a' w' hr hk=>?_
   cases k with
   | normal =>
    obtain ⟨g1,g2,g3⟩:=hk
    have hrel:Rel E w0 M n (hd (nx α st')) a' w':=hr.headP hO (fitsQ_ok g3)
    refine ⟨⟨nx α st',g1,hrel⟩,?_⟩
    have hh':∃ m,∃ α,ok α/\Rel E w0 M n (hd α) a' w'/\mu α=m:=⟨_,nx α st',g1,hrel,rfl⟩
    have:μ a' w'<=mu (nx α st'):=by simp only [μ,dif_pos hh'];exact (Classical.choose_spec (least hh')).2 _ ⟨nx α st',g1,hrel,rfl⟩
    omega
   | exit id=>exact hQ (.exit id) st' a' w' hr hk
   | ret=>exact hQ .ret st' a' w' hr hk
 | exit id=>intro st a w Qs Q _ _ h hv hQ;exact wp_exit (hQ (.exit id) st a w h hv)
 | ret=>intro st a w Qs Q _ _ h hv hQ;exact wp_ret (hQ .ret st a w h hv)
 | _=>intro st a w Qs Q _ _ h hv hQ;exact hv.elim
end
end Go.SE

namespace Go.SE
open Go.RowKit
@[reducible] def atB (B:Base) (w0:World) (h:B.n0<=w0.heap.size):Base:=⟨w0.heap.size,B.nz,Nat.le_trans B.le h,B.gs,B.gl⟩
def npC:DC->Prop
 | .val _=>True
 | .arr .lcmd _=>True
 | .arr .lfact _=>True
 | .arr .latom _=>True
 | .arr .u8 _=>True
 | _=>False
theorem npC_arr {t:Ty} {xs:List t.den} (h:npC (.arr t xs)):t=.lcmd ∨ t=.lfact ∨ t=.latom ∨ t=.u8:=by
 cases t <;> first | exact h.elim | simp
theorem npC_cells {t:Ty} (h:t=.lcmd ∨ t=.lfact ∨ t=.latom ∨ t=.u8) (x:t.den):∀ c ∈ t.cells x,npC c:=by
 rcases h with rfl | rfl | rfl | rfl <;> simp [Ty.cells,npC]
theorem DR.npm {B1 B2:Base} {ro:Nat->Option (Array Value)} {c:DC} {v:Value} (h:@DR B1 ro c v):npC c->@DR B2 ro c v:=by
 induction h with
 | val x h=>exact fun _=>@DR.val B2 _ x h
 | nil t=>exact fun _=>@DR.nil B2 _ t
 | emp t a=>exact fun _=>@DR.emp B2 _ t a
 | arr t xs b off cap vs g hb hpm hl hc h1 h2 ih =>
  intro hp
  have ht:=npC_arr hp
  refine @DR.arr B2 _ t xs b off cap vs g hb (fun hq=>?_) hl hc h1 fun k c hk=>ih k c hk ?_
  ·rcases ht with rfl | rfl | rfl | rfl <;> cases hq
  ·obtain ⟨x,_,hx⟩:=List.mem_flatMap.1 (List.mem_of_getElem? hk)
   exact npC_cells ht x c hx
 | fix=>exact fun h=>h.elim
 | ne t xs v h h0 ih=>exact fun h=>h.elim
theorem RowR.low {B1 B2:Base} (hn:B2.n0<=B1.n0) {ro:Nat->Option (Array Value)} {ds:List DC} {vs:Array Value} {o:Nat} (h:@RowR B1 ro ds vs o):@RowR B2 ro ds vs o :=
 fun k c hk=>let ⟨u,hu,hd⟩:=h k c hk;⟨u,hu,@DR.low B1 B1 B2 hn _ _ _ hd⟩
theorem CV.R.low {B1 B2:Base} (hn:B2.n0<=B1.n0) {g:G} {c:CV} {v:Value} (h:@CV.R B1 g c v):@CV.R B2 g c v:=by
 cases c with
 | d x=>exact @DR.low B1 B1 B2 hn _ _ _ h
 | nil=>exact h
 | own id=>exact h
 | ptr id off=>exact h
 | vp id t k off=>exact h
 | rp t xs k off=>obtain ⟨b,o,vs,h1,h2,h3,h4,h5⟩:=h;exact ⟨b,o,vs,h1,h2,h3,h4.low hn,h5⟩
 | rv t xs=>obtain ⟨b,vs,h1,h2,h3,h4⟩:=h;exact ⟨b,vs,h1,h2,h3.low hn,h4⟩
 | rdr=>exact h
 | fn f ids=>exact h
 | junk=>trivial
theorem Cells.low {B1 B2:Base} (hn:B2.n0<=B1.n0) {g:G} {cs:List CV} {vs:Array Value} (h:@Cells B1 g cs vs):@Cells B2 g cs vs :=
 ⟨h.1,fun j c hj=>let ⟨u,hu,hr⟩:=h.2 j c hj;⟨u,hu,hr.low hn⟩⟩
theorem S0.R.low {B1 B2:Base} (hn:B2.n0<=B1.n0) {g:G} {s:S0} {v:Value} (h:@S0.R B1 g s v):@S0.R B2 g s v:=by
 cases s with
 | c x=>exact CV.R.low hn h
 | agg cs=>obtain ⟨vs,h1,h2⟩:=h;exact ⟨vs,h1,h2.low hn⟩
 | vec t xs=>obtain ⟨vs,h1,h2,h3⟩:=h;exact ⟨vs,h1,h2,h3.low hn⟩
theorem S.R.low {B1 B2:Base} (hn:B2.n0<=B1.n0) {g:G} {s:S} {v:Value} (h:@S.R B1 g s v):@S.R B2 g s v:=by
 cases s with
 | s x=>exact S0.R.low hn h
 | tup l=>obtain ⟨vs,h1,h2,h3⟩:=h;exact ⟨vs,h1,h2,fun j s hj=>let ⟨u,hu,hr⟩:=h3 j s hj;⟨u,hu,hr.low hn⟩⟩
theorem ResR.low {B1 B2:Base} (hn:B2.n0<=B1.n0) {E:Ty->TypeId} {w:World} {g:G} {id:Nat} {r:Res} (h:@ResR B1 E w g id r):@ResR B2 E w g id r:=by
 cases r with
 | blk cs=>obtain ⟨b,vs,ty,h1,h2,h3⟩:=h;exact ⟨b,vs,ty,h1,h2,h3.low hn⟩
 | vec t xs=>obtain ⟨h0,b,vs,ty,h1,h2,h3,h4⟩:=h;exact ⟨h0,b,vs,ty,h1,h2,h3,h4.low hn⟩
 | sl f t xs =>
  obtain ⟨h0,h⟩:=h
  refine ⟨h0,?_⟩
  rcases h with ⟨h1,h2⟩ | ⟨b,cap,cur,h1,h2,h3,h4,h5,h6⟩
  ·exact .inl ⟨h1,h2⟩
  ·exact .inr ⟨b,cap,cur,h1,h2,h3,⟨h4.le,h4.tight,h4.ko⟩,h5,h6.low hn⟩
 | bld T k=>exact h
 | dead=>trivial
theorem DR.anywhere [Base] {ro:Nat->Option (Array Value)} {c:DC} {v:Value} (h:DR ro c v):match c with
  | .arr .cmd xs=>DR ro (.arr .lcmd xs) v
  | .arr .fact xs=>DR ro (.arr .lfact xs) v
  | .arr .atom xs=>DR ro (.arr .latom xs) v
  | .ne .cmd xs=>DR ro (.arr .lcmd xs) v
  | _=>True:=by
 induction h with
 | val x h=>trivial
 | nil t=>cases t <;> first | exact trivial | exact .nil _
 | emp t a=>cases t <;> first | exact trivial | exact .emp _ a
 | arr t xs b off cap vs g hb hpm hl hc h1 h2 ih =>
  have flat2:∀ (t2:Ty) (e:t2.den=t.den) (ys:List t2.den),True:=fun _ _ _=>trivial
  cases t with
  | cmd =>
   refine .arr .lcmd xs b off cap vs g hb (fun h=>by cases h) hl hc (fun k c hk=>?_) fun k c hk=>?_
   all_goals
    have hkl:k < xs.length * 10:=by have:=(List.getElem?_eq_some_iff.1 hk).1;rwa [flat_len] at this
    have e1:=flat_get .lcmd xs (k / 10) (k % 10) (by show k / 10 < xs.length;omega) (by show k % 10 < 10;omega)
    have e2:=flat_get .cmd xs (k / 10) (k % 10) (by omega) (by show k % 10 < 10;omega)
    have e3:k / 10 * 10+k % 10=k:=by omega
    rw [show k / 10 * Ty.sz .lcmd+k % 10=k from e3,hk] at e1
    rw [show k / 10 * Ty.sz .cmd+k % 10=k from e3] at e2
    have hj:k % 10 < 10:=by omega
    generalize hjj:k % 10=j at *
   ·have:∃ c',(Ty.cells .cmd (xs.getD (k / 10) (Ty.zero .cmd)))[j]?=some c':=⟨_,List.getElem?_eq_getElem (by rw [cells_len];exact hj)⟩
    obtain ⟨c',hc'⟩:=this
    exact h1 k c' (by rw [e2];exact hc')
   ·have h3:∀ c',(Ty.cells .cmd (xs.getD (k / 10) (Ty.zero .cmd)))[j]?=some c'->(flat .cmd xs)[k]?=some c':=fun c' h=>by rw [e2];exact h
    match j,hj with
    | 0,_=>cases e1;exact h2 k _ (h3 _ rfl)
    | 1,_=>cases e1;exact h2 k _ (h3 _ rfl)
    | 2,_=>cases e1;exact h2 k _ (h3 _ rfl)
    | 3,_=>cases e1;exact h2 k _ (h3 _ rfl)
    | 4,_=>cases e1;exact h2 k _ (h3 _ rfl)
    | 5,_=>cases e1;exact h2 k _ (h3 _ rfl)
    | 6,_=>cases e1;exact ih k _ (h3 _ rfl)
    | 7,_=>cases e1;exact ih k _ (h3 _ rfl)
    | 8,_=>cases e1;exact ih k _ (h3 _ rfl)
    | 9,_=>cases e1;exact ih k _ (h3 _ rfl)
  | fact=>exact .arr .lfact xs b off cap vs g hb (fun h=>by cases h) hl hc h1 h2
  | atom=>exact .arr .latom xs b off cap vs g hb (fun h=>by cases h) hl hc h1 h2
  | _=>trivial
 | fix t xs v h ih=>trivial
 | ne t xs v h h0 ih =>
  cases t with
  | cmd=>exact ih
  | _=>trivial
section
variable {P:Program} {E:Ty->TypeId} {tab:TypeId->Option TI} {hp:Nat->Bool} {gcs:Nat->Option (List Nat × List Nat)} {perm:Nat->List (List Nat)} {nr:Nat->Bool}
theorem fnN_at [Base] {K:FuncId->Option Con} {pts:FuncId->Option PT} (ht:TabOk P E tab) (hKA:KAll P E K) (hPA:PAll P E pts) (hmix:P.follows .mixedOrders=true) (hdr:∀ w0 M n,DrawSound P E tab K w0 M n) {f:FuncId} {fn:Func} {c:Code} {con:Con} (hf:P.funcs[f]?=some fn) (hb:fn.body=some c) (hn:con.aks.length<=fn.ntmps) (hn70:70<=fn.ntmps)
  (hok:codeOkN tab K hp perm nr fn.ntmps c=true) {ts tc:TypeId} {s1 s2 s3:Nat} {zc:Array Value} (hts:tab ts=some ⟨s1,s2,.sl true tc .cmd⟩)
  (htc:tab tc=some ⟨10,s3,.st [.sc (.int .i64 0),.sc (.int .i64 0),.sc (.int .i64 0),.sc (.bool false),.sc (.int .i64 0),.sc (.int .i64 0),.sl .fact,.sl .atom,.sl .cmd,.sl .cmd] [(0,1,false),(1,1,false),(2,1,false),(3,3,true),(6,2,true),(8,1,false),(9,1,false)]⟩)
  (hrg:RegsOk ts tc zc nr c)
  {anns:Args con.aks->Nat->Nat->St->Option Ann} (hvc:∀ x k,con.pre x->(hasRdr con.aks=true->k+con.cost x<=rdLimit)->vcN tab K pts hp gcs (anns x k) perm nr c (entry (encs con.aks x) (rdOf (hasRdr con.aks) k)) (retOk tab con fn.results.toList x k))
  {w0:World} (hB:w0.heap.size<=Base.n0) (ro0:Nat->Option (Array Value)) (ρ k:Nat) (x:Args con.aks) (vs:List Value) (id0:Nat) (hpre:con.pre x) (hin:ROin w0 ro0) (hrd:hasRdr con.aks=true->RdOk w0 ro0 ρ k/\k+con.cost x<=rdLimit) (hargs:ArgsR (argG ro0 ρ) (encs con.aks x) vs) :
  Calls P f vs.toArray w0 fun e w=>∃ v r g,e=.returned v/\con.post x r/\Ext (fun b=>hasRdr con.aks=true/\b=ρ) w0 w/\g.ρ=ρ/\ResOk E w0 w ro0 con.rks id0 r v g/\(hasRdr con.aks=true->RdStep w0 w ρ (k+con.cost x)):=by
 have hlen:vs.length=con.aks.length:=by
  rw [hargs.1]
  have:∀ (ks:List AK) (x:Args ks),(encs ks x).length=ks.length:=by
   intro ks
   induction ks with
   | nil=>intro x;rfl
   | cons k ks ih=>intro x;obtain ⟨x,xs⟩:=x;simp [encs,ih]
  exact this _ _
 have hrd1:hasRdr con.aks=true->RdOk w0 ro0 ρ k:=fun h=>(hrd h).1
 refine calls_of_wp hf hb ?_
 refine codeN_sound ht hKA hPA hmix (hdr _ _ _) OOk.none hts htc hn70 hB (fun _=>rfl) c _ _ _ (retOk tab con fn.results.toList x k) _ hrg hok (entry_rel hin hrd1 hargs (by omega)) (hvc x k hpre fun h=>(hrd h).2) ?_
 intro xk st' a' w' hr hk
 have fin:retOk tab con fn.results.toList x k .ret st'->a'.defers=[]/\∃ v,(results fn a'.tmps).run P w'=.ok v w'/\∃ v1 r g,Ending.returned v=.returned v1/\con.post x r/\Ext (fun b=>hasRdr con.aks=true/\b=ρ) w0 w'/\g.ρ=ρ/\ResOk E w0 w' ro0 con.rks id0 r v1 g/\(hasRdr con.aks=true->RdStep w0 w' ρ (k+con.cost x)):=by
  intro hv
  obtain ⟨v,h1,r,g,h2,h3,h4,h5,h6⟩:=exit_ok id0 ht hin hrd1 hr hv
  exact ⟨hr.defers,v,h1,v,r,g,rfl,h2,h3,h4,h5,h6⟩
 cases xk with
 | normal=>exact fin hk
 | ret=>exact fin hk
 | exit id=>exact hk.elim
theorem fn_okN [B:Base] {l:List (FuncId × Con)} {lp:List (FuncId × PT)} (ht:TabOk P E tab) (hmix:P.follows .mixedOrders=true) (hl:∀ B':Base,@AllOk B' P E l) (hlp:∀ B':Base,@AllPt B' P E lp) {f:FuncId} {fn:Func}
  {pre:Args [.rdr,.sl .lcmd]->Prop} {sem:(Args [.rdr,.sl .lcmd]->Args [.sl .cmd]) ⊕ (Args [.rdr,.sl .lcmd]->Args [.sl .cmd]->Prop)} {cost:Args [.rdr,.sl .lcmd]->Nat}
  (hf : P.funcs[f]? = some fn) (hb : fn.body = some (bodyOf fn)) (hname : (fn.name == "runtime.NumGoroutine") = false) (hn70 : 70 <= fn.ntmps)
  {ts tc:TypeId} {s1 s2 s3:Nat} {zc:Array Value} (hts:tab ts=some ⟨s1,s2,.sl true tc .cmd⟩)
  (htc:tab tc=some ⟨10,s3,.st [.sc (.int .i64 0),.sc (.int .i64 0),.sc (.int .i64 0),.sc (.bool false),.sc (.int .i64 0),.sc (.int .i64 0),.sl .fact,.sl .atom,.sl .cmd,.sl .cmd] [(0,1,false),(1,1,false),(2,1,false),(3,3,true),(6,2,true),(8,1,false),(9,1,false)]⟩)
  (hrg:RegsOk ts tc zc nr (bodyOf fn)) (hok:codeOkN tab (lookF l) hp perm nr fn.ntmps (bodyOf fn)=true)
  {anns:Args [.rdr,.sl .lcmd]->Nat->Nat->St->Option Ann}
  (hvc:∀ x k,pre x->(True->k+cost x<=rdLimit)->vcN tab (lookF l) (lookP lp) hp gcs (anns x k) perm nr (bodyOf fn) (entry (encs [.rdr,.sl .lcmd] x) (some k)) (retOk tab ⟨[.rdr,.sl .lcmd],[.sl .cmd],pre,sem,cost⟩ fn.results.toList x k))
  (htot:∀ x,pre x->∃ r,(⟨[.rdr,.sl .lcmd],[.sl .cmd],pre,sem,cost⟩:Con).post x r):FnOk P E f ⟨[.rdr,.sl .cmd],[.sl .cmd],pre,sem,cost⟩:=by
 refine ⟨⟨fn,_,hf,hname,hb⟩,fun w0 ro0 ρ k x vs id0 hpre hin hrd hargs=>?_,by cases sem <;> exact htot⟩
 let B':Base:=atB B w0 (@BaseIn.le B w0 hin.1)
 have hlow:B.n0<=B'.n0:=@BaseIn.le B w0 hin.1
 have key:=@fnN_at P E tab hp gcs perm nr B' (lookF l) (lookP lp) ht (@kall_of B' _ _ _ (hl B')) (@pall_of B' _ _ _ (hlp B')) hmix (fun _ _ _=>@draw_sound B' _ _ _ _ ht (@tab_small B' _ _ _ ht) (@kall_of B' _ _ _ (hl B')) hmix _ _ _) f fn _ ⟨[.rdr,.sl .lcmd],[.sl .cmd],pre,sem,cost⟩ hf hb (by show 2<=_;omega) hn70 hok ts tc s1 s2 s3 zc hts htc hrg anns
  (fun x k hp hk=>hvc x k hp fun _=>hk rfl) w0 (Nat.le_refl _) ro0 ρ k x vs id0 hpre ⟨BaseIn.base (B1:=B) (B2:=B') hin.1 (Nat.le_refl _) rfl rfl,hin.2⟩ (fun h=>?_) ?_
 ·refine Calls.mono key fun e w h=>?_
  obtain ⟨v,r,g,h1,h2,h3,h4,h5,h6⟩:=h
  exact ⟨v,r,g,h1,by cases sem <;> exact h2,h3,h4,@ResOk.mk B E w0 w ro0 [.sl .cmd] id0 r v g h5.ro h5.ro' (@S.R.low B' B hlow g _ v h5.val) (fun id q hq=>@ResR.low B' B hlow E w g id q (h5.res id q hq)) h5.new h5.dist,h6⟩
 ·obtain ⟨⟨hlim,hout,code,v,p,ty,hc,hd,hrest⟩,hle⟩:=hrd h
  exact ⟨⟨hlim,hout,code,v,p,ty,hc,DR.npm hd trivial,hrest⟩,hle⟩
 ·refine ⟨hargs.1,fun j s hj=>?_⟩
  match j,hj with
  | 0,hj =>
   cases hj
   obtain ⟨v,h1,h2⟩:=hargs.2 0 _ rfl
   exact ⟨v,h1,h2⟩
  | 1,hj =>
   cases hj
   obtain ⟨v,h1,h2⟩:=hargs.2 1 _ rfl
   refine ⟨v,h1,?_⟩
   have h3:=@DR.anywhere B ro0 (.arr .cmd x.2.1) v h2
   exact DR.npm (B1:=B) (B2:=B') h3 trivial
end
end Go.SE

namespace Go.SE
open Go.RowKit
theorem mut_le {xs:List GCmd} {k:Nat} {y:GCmd} (hk:k < xs.length) (hy:wtC y<=wtC (xs.getD k (Ty.zero .cmd))):(xs.set k y).length+wcL (xs.set k y)<=xs.length+wcL xs+17:=by
 have:=wcL_set (m:=0) hk (by omega)
 rw [List.length_set]
 omega
theorem mut_app {xs:List GCmd} {y:GCmd} {n:Nat} (h:wcL xs<=n) (hy:wtC y=0):wcL (xs ++ [y])<=n:=by
 rw [wcL_append,wcL_cons,wcL_nil,hy];omega
def zc0:Array Value:=(Ty.zvals .cmd).toArray
def regL:Code->List (Nat × Array Oper × Bool)
 | .region id ops draw=>[(id,ops,draw)]
 | .seq a b=>regL a ++ regL b
 | .block _ c=>regL c
 | .loop c=>regL c
 | .cond _ a b=>regL a ++ regL b
 | _=>[]
def nestReg (nr:Nat->Bool) (c:Code):Nat × Array Oper × Bool:=((regL c).filter fun p=>nr p.1).headD (0,#[],false)
def opSig (ops:Array Oper):List (Option Nat × Op × Option (Nat × Bool)):=(List.range 14).map fun i=>((ops.getD i default).dst,(ops.getD i default).op,(ops.getD i default).guard)
def depsB (ops:Array Oper):Bool:=(List.range 14).all fun i=>(nestDep i).all fun j=>(ops.getD i default).after.toList.any fun e=>Region.binds .any e && Nat.beq e.on j
theorem NestOps.of {ts tc:TypeId} {ops:Array Oper} (h1:ops.size=14) (h2:backOk ops=true) (h3:opSig ops=(nestTab ts tc zc0).map fun x=>(x.1,x.2.1,none)) (h4:depsB ops=true):NestOps ts tc zc0 ops:=by
 refine ⟨h1,h2,rfl,fun i d op deps h=>?_⟩
 have hi:i < 14:=(List.getElem?_eq_some_iff.1 h).1
 have hlt:i < ops.size:=by omega
 have e0:ops.getD i default=ops[i]:=by simp [Array.getD,hlt]
 have e1:(opSig ops)[i]?=some (d,op,none):=by rw [h3,List.getElem?_map,h];rfl
 have e2:(opSig ops)[i]?=some ((ops.getD i default).dst,(ops.getD i default).op,(ops.getD i default).guard):=by
  unfold opSig
  rw [List.getElem?_map,List.getElem?_range hi]
  rfl
 rw [e2] at e1
 injection e1 with e1
 injection e1 with f1 e1
 injection e1 with f2 f3
 refine ⟨ops[i],by simp [hlt],by rw [← e0];exact f1,by rw [← e0];exact f2,by rw [← e0];exact f3,fun j hj=>?_⟩
 unfold depsB at h4
 rw [List.all_eq_true] at h4
 have h5:=h4 i (List.mem_range.2 hi)
 have hd:nestDep i=deps:=by
  have h6:(nestTab 0 0 #[])[i]?.map (·.2.2)=(nestTab ts tc zc0)[i]?.map (·.2.2):=by
   match i,hi with
   | 0,_=>rfl
   | 1,_=>rfl
   | 2,_=>rfl
   | 3,_=>rfl
   | 4,_=>rfl
   | 5,_=>rfl
   | 6,_=>rfl
   | 7,_=>rfl
   | 8,_=>rfl
   | 9,_=>rfl
   | 10,_=>rfl
   | 11,_=>rfl
   | 12,_=>rfl
   | 13,_=>rfl
  unfold nestDep
  rw [h6,h]
  rfl
 rw [hd,List.all_eq_true] at h5
 have h6:=h5 j hj
 rw [List.any_eq_true] at h6
 obtain ⟨e,he,h7⟩:=h6
 rw [Bool.and_eq_true] at h7
 exact ⟨e,by rw [← e0];exact he,h7.1,Nat.eq_of_beq_eq_true h7.2⟩
theorem RegsOk.of {ts tc:TypeId} {nr:Nat->Bool} {c:Code} (hlen:((regL c).filter fun p=>nr p.1).length=1) (hd:(nestReg nr c).2.2=true) (h1:(nestReg nr c).2.1.size=14) (h2:backOk (nestReg nr c).2.1=true)
  (h3:opSig (nestReg nr c).2.1=(nestTab ts tc zc0).map fun x=>(x.1,x.2.1,none)) (h4:depsB (nestReg nr c).2.1=true):RegsOk ts tc zc0 nr c:=by
 have key:∀ p ∈ regL c,nr p.1=true->NestOps ts tc zc0 p.2.1/\p.2.2=true:=by
  intro p hp hn
  have hm:p ∈ (regL c).filter fun p=>nr p.1:=List.mem_filter.2 ⟨hp,hn⟩
  obtain ⟨q,hq⟩:∃ q,(regL c).filter (fun p=>nr p.1)=[q]:=by
   generalize (regL c).filter (fun p=>nr p.1)=l at hlen
   cases l with
   | nil=>cases hlen
   | cons q l=>cases l with
    | nil=>exact ⟨q,rfl⟩
    | cons _ _=>simp at hlen
  rw [hq,List.mem_singleton] at hm
  have e:nestReg nr c=p:=by unfold nestReg;rw [hq,hm];rfl
  rw [e] at hd h1 h2 h3 h4
  exact ⟨NestOps.of h1 h2 h3 h4,hd⟩
 clear hlen hd h1 h2 h3 h4
 induction c with
 | region id ops draw=>exact fun hn=>key (id,ops,draw) (List.mem_singleton.2 rfl) hn
 | seq a b iha ihb=>exact ⟨iha fun p hp=>key p (List.mem_append_left _ hp),ihb fun p hp=>key p (List.mem_append_right _ hp)⟩
 | cond _ a b iha ihb=>exact ⟨iha fun p hp=>key p (List.mem_append_left _ hp),ihb fun p hp=>key p (List.mem_append_right _ hp)⟩
 | block _ c ih=>exact ih key
 | loop c ih=>exact ih key
 | _=>trivial
end Go.SE

namespace Go.SE
def cE:Nat->Nat
 | 0=>40
 | n+1=>40+9 * cE n
def wE:Nat->Nat
 | 0=>24
 | n+1=>24+6 * wE n
def rdD (i:Int) (c:Nat):Nat:=(3 - i.toNat) * c
theorem cE_step {d:Int} (h:1 < d):cE d.toNat=40+9 * cE (d - 1).toNat:=by
 have:d.toNat=(d - 1).toNat+1:=by omega
 rw [this];rfl
theorem wE_step {d:Int} (h:1 < d):wE d.toNat=24+6 * wE (d - 1).toNat:=by
 have:d.toNat=(d - 1).toNat+1:=by omega
 rw [this];rfl
theorem cE_ge (n:Nat):40<=cE n:=by cases n <;> simp only [cE] <;> omega
theorem wE_ge (n:Nat):24<=wE n:=by cases n <;> simp only [wE] <;> omega
theorem cE_le {d:Int} (h:d<=3):cE d.toNat<=32800:=by
 have h1:d.toNat<=3:=by omega
 match d.toNat,h1 with
 | 0,_=>decide
 | 1,_=>decide
 | 2,_=>decide
 | 3,_=>decide
theorem wE_le {d:Int} (h:d<=3):wE d.toNat<=6216+24:=by
 have h1:d.toNat<=3:=by omega
 match d.toNat,h1 with
 | 0,_=>decide
 | 1,_=>decide
 | 2,_=>decide
 | 3,_=>decide
theorem rdD_step {i:Int} {c:Nat} (h0:0 < i) (h1:i<=3):rdD (i - 1) c=rdD i c+c:=by
 unfold rdD
 rw [show 3 - (i - 1).toNat=(3 - i.toNat)+1 from by omega,Nat.add_mul,Nat.one_mul]
theorem rdD_le (i:Int) (c:Nat):rdD i c<=3 * c:=by
 unfold rdD
 exact Nat.mul_le_mul_right _ (by omega)
theorem rdD_all {i:Int} {c:Nat} (h:¬ 0 < i):rdD i c=3 * c:=by
 unfold rdD
 rw [show 3 - i.toNat=3 from by omega]
theorem prog_cost {d:Int} (h:d=1 ∨ d=2 ∨ d=3 ∨ d=1):1+(1+3 * cE d.toNat)<=98402:=by
 have:=cE_le (d:=d) (by omega)
 omega
theorem prog_w {l:List GCmd} {d:Int} (h:d=1 ∨ d=2 ∨ d=3 ∨ d=1) (h1:l.length<=3) (h2:wcL l<=3 * wE d.toNat):l.length+wcL l<=19000:=by
 have:=wE_le (d:=d) (by omega)
 omega
theorem prog_one {l:List GCmd} (h0:0 < l.length) (h:l.length+wcL l<=19000):1+wcL [l.getD 0 (Ty.zero .cmd)]<=20000:=by
 have:=wcL_get (d:=Ty.zero .cmd) h0
 rw [wcL_cons,wcL_nil]
 omega
theorem rdD_st {i:Int} {c:Nat} (h0:0 < i) (h1:i<=3):rdD (i - 1) c=rdD i c+c/\rdD (i - 1) c<=3 * c:=⟨rdD_step h0 h1,rdD_le _ _⟩
theorem asV_len {a:GAsn} (h:asV a=true):a.facts.length<=12/\a.atoms.length<=6:=by
 simp only [asV,fsV,Bool.and_eq_true,decide_eq_true_eq] at h
 omega
theorem asV_of {fs:List GFact} {az:List GAtom} (h1:fs.length<=2) (h2:fs.all fV=true) (h3:az.length<=4) (h4:az.all atV=true):asV ⟨fs,az⟩=true:=by
 simp only [asV,fsV,h2,h4,Bool.and_eq_true,decide_eq_true_eq,Bool.and_true]
 omega
end Go.SE

namespace Go.SE
mutual
def accC:GCmd->List GCmd
 | .mk k a b t i bo el=>.mk k a b t i bo el :: (accL bo ++ accL el)
def accL:List GCmd->List GCmd
 | []=>[]
 | c :: l=>accC c ++ accL l
end
theorem accC_eq (c:GCmd):accC c=c :: (accL c.body ++ accL c.els):=by cases c;simp [accC,GCmd.body,GCmd.els]
theorem accL_cons (c:GCmd) (l):accL (c :: l)=accC c ++ accL l:=by simp [accL]
theorem accL_append (a b:List GCmd):accL (a ++ b)=accL a ++ accL b:=by
 induction a with
 | nil=>simp [accL]
 | cons c a ih=>simp only [List.cons_append,accL_cons,ih,List.append_assoc]
def chgK (k:Int):Bool:=k == 1 || (k == 2 || k == 4)
variable [Base]
structure OkA (l:List GCmd):Prop where
 all:∀ c ∈ accL l,chgK c.kind=true->1<=c.a/\c.a<=4
theorem OkA.get {l:List GCmd} (h:OkA l) {i:Nat} {z:GCmd} (hi:i < l.length):(chgK (l.getD i z).kind=true->1<=(l.getD i z).a/\(l.getD i z).a<=4)/\OkA (l.getD i z).body/\OkA (l.getD i z).els:=by
 have hm:∀ c ∈ accC (l.getD i z),c ∈ accL l:=by
  intro c hc
  have h1:=getD_mem' (d:=z) hi
  obtain ⟨l1,l2,hl⟩:=List.append_of_mem h1
  rw [hl,accL_append,accL_cons]
  exact List.mem_append_right _ (List.mem_append_left _ hc)
 rw [accC_eq] at hm
 exact ⟨h.all _ (hm _ (by simp)),⟨fun c hc=>h.all c (hm c (List.mem_cons_of_mem _ (List.mem_append_left _ hc)))⟩,⟨fun c hc=>h.all c (hm c (List.mem_cons_of_mem _ (List.mem_append_right _ hc)))⟩⟩
end Go.SE

namespace Go.SE
open Go.RowKit
end Go.SE

namespace Go.SE
variable [Base]
open Go.RowKit
structure CCon where
 k1:List AK
 t:Ty
 k2:List AK
 pre:Args k1->List t.den->Args k2->Prop
 out:Args k1->List t.den->Args k2->List t.den
section
variable {P:Program} {E:Ty->TypeId} {tab:TypeId->Option TI} {K:FuncId->Option Con} {pts:FuncId->Option PT} {hp:Nat->Bool} {perm:Nat->List (List Nat)}
abbrev CCon.lim (c:CCon) (mu:Args c.k1->List c.t.den->Args c.k2->Nat) (m:Nat):CCon:={ c with pre:=fun x l y=>c.pre x l y/\mu x l y < m }
end
end Go.SE

namespace Go.SE
variable [Base]
open Go.RowKit
end Go.SE

namespace Go.SE
open Go.RowKit
variable [Base]
end Go.SE

namespace Go.SE
open Go.RowKit
structure VCon where
 g:Nat
 pre:List GCmd->Int->Prop
 out:List GCmd->Int->Int
variable [Base]
section
variable {P:Program} {E:Ty->TypeId} {tab:TypeId->Option TI} {K:FuncId->Option Con} {pts:FuncId->Option PT} {hp:Nat->Bool} {perm:Nat->List (List Nat)}
abbrev VCon.lim (c:VCon) (m:Nat):VCon:={ c with pre:=fun xs s=>c.pre xs s/\ndL xs < m }
end
end Go.SE

namespace Go.SE
open Go.RowKit Go.Shelf Go.Proofs
variable [Base]
theorem cc_small {l:List GCmd} (h:prV l=true):ndL l<=16:=by
 simp only [prV,Bool.and_eq_true,decide_eq_true_eq] at h
 exact h.2
theorem tz_size (l:List GCmd):(if prV l=true then cmL l else ⟨#[]⟩:ByteArray).size<=251658240:=by
 split
 ·rename_i h;exact (VlL.of h).size
 ·decide
section
variable {a b:List GCmd}
theorem pc_text (h:prV (a ++ b)=true):(if prV (a ++ b)=true then cmL (a ++ b) else ⟨#[]⟩:ByteArray)=(if prV a=true then cmL a else ⟨#[]⟩) ++ (if prV b=true then cmL b else ⟨#[]⟩):=by
 have h2:=prV_append h
 rw [if_pos h,if_pos h2.1,if_pos h2.2,cmL_append]
theorem pc_size:(((if prV a=true then cmL a else ⟨#[]⟩:ByteArray).size+(if prV b=true then cmL b else ⟨#[]⟩:ByteArray).size:Nat):Int)<=9223372036854775807:=by
 have h1:=tz_size a
 have h2:=tz_size b
 omega
theorem pc_cnt (h:prV (a ++ b)=true):(if prV (a ++ b)=true then (ndL (a ++ b):Int) else 0)=(if prV a=true then (ndL a:Int) else 0)+(if prV b=true then (ndL b:Int) else 0):=by
 have h2:=prV_append h
 rw [if_pos h,if_pos h2.1,if_pos h2.2,ndL_append]
 omega
theorem pc_i:-9223372036854775808<=(if prV a=true then (ndL a:Int) else 0)+(if prV b=true then (ndL b:Int) else 0)/\(if prV a=true then (ndL a:Int) else 0)+(if prV b=true then (ndL b:Int) else 0)<=9223372036854775807:=by
 have h1:=fun h=>cc_small (l:=a) h
 have h2:=fun h=>cc_small (l:=b) h
 split <;> split <;> rename_i x y <;> (try have:=h1 x) <;> (try have:=h2 y) <;> omega
end
end Go.SE
