/-
  Parts of a symbolic engine over the program's code: how operations, regions, loops and calls are shown to keep contracts. No conditions.
-/
import Derived.Test.YtkafaeeianofnaaEd
set_option linter.unusedSimpArgs false
set_option linter.unusedVariables false
set_option linter.unusedSectionVars false

namespace Go.SE
open Go.RowKit
def nestSt (st:St) (io fam:Nat) (ys:List GCmd):St where
 env:=fun x=>match x with
  | 5=>.s (.c (.own io))
  | _=>junk
 mem:=fun i=>match st.mem i with
  | none=>none
  | some _=>some (cond (Nat.beq i io) (.sl fam .cmd ys) .dead)
 sp:=st.sp
 fr:=st.fr
 base:=st.base
 rd:=st.rd
theorem nestSt_live {st:St} {io fam:Nat} {ys:List GCmd} {i:Nat} {r:Res} (h:(nestSt st io fam ys).mem i=some r) (hl:r.live):i=io/\r=.sl fam .cmd ys:=by
 simp only [nestSt] at h
 split at h
 ·cases h
 ·injection h with h
  cases hb:Nat.beq i io with
  | true=>rw [hb] at h;exact ⟨Nat.eq_of_beq_eq_true hb,h.symm⟩
  | false=>rw [hb] at h;subst h;exact hl.elim
theorem nestSt_env {st:St} {io fam:Nat} {ys:List GCmd} {x:Nat} (h:x ≠ 5):(nestSt st io fam ys).env x=junk:=by
 simp only [nestSt]
theorem nestSt_some {st:St} {io fam:Nat} {ys:List GCmd} {i:Nat}:((nestSt st io fam ys).mem i).isSome=(st.mem i).isSome:=by
 simp only [nestSt]
 cases st.mem i <;> rfl
def vcNest (st:St) (k':St->Prop):Prop :=
 match st.env 5,st.env 6 with
 | .s (.c (.own io)),.s (.c (.d (.val (.int .i64 k))))=>match st.mem io with
  | some (.sl fam .cmd xs)=>(st.sp io=false/\st.fr io=false)/\(0<=k/\k < (List.length (α:=GCmd) xs))/\wcL xs<=1048576/\∀ ys:List GCmd,ys.length=List.length (α:=GCmd) xs->wcL ys<=wcL xs+1->k' (nestSt st io fam ys)
  | _=>False
 | _,_=>False
theorem wcL_set {xs:List GCmd} {k:Nat} {y:GCmd} (hk:k < xs.length) {m:Nat} (hy:wtC y<=wtC (xs.getD k (Ty.zero .cmd))+m):wcL (xs.set k y)<=wcL xs+m:=by
 induction xs generalizing k with
 | nil=>simp at hk
 | cons x xs ih =>
  cases k with
  | zero =>
   rw [List.set_cons_zero,wcL_cons,wcL_cons]
   simp only [List.getD_cons_zero] at hy
   omega
  | succ k =>
   rw [List.set_cons_succ,wcL_cons,wcL_cons]
   have:=ih (k:=k) (by simpa using hk) (by simpa using hy)
   omega
end Go.SE
namespace Go.SE
variable [Base]
open Go.RowKit
theorem Chg.u8 {ro:Nat->Option (Array Value)} {b:Nat} {vs vs':Array Value} (h:Chg ro b vs vs') {code:List UInt8} {v:Value} (hd:DR ro (.arr .u8 code) v):DR (chg ro b vs') (.arr .u8 code) v:=by
 rcases hd.arr_inv with ⟨⟨aa,rfl⟩,rfl⟩ | ⟨b1,off,cap,vs1,rfl,hb,hle,hcm,hrow,hpm⟩
 ·cases aa with
  | none=>exact .nil _
  | some aa=>exact .emp _ _
 ·by_cases e:b1=b
  ·subst e
   have e1:vs1=vs:=by rw [h.hb] at hb;injection hb with hb;exact hb.symm
   subst e1
   cases code with
   | nil=>exact DR.of_row (vs:=vs') (by simp [chg]) (fun h=>by cases h) hle hcm (by simp [flat];exact RowR.nil)
   | cons c code =>
    exfalso
    obtain ⟨u,h1,h2⟩:=hrow 0 (.val (.int .u8 (c.toNat:Int))) rfl
    have h3:=h2.val_eq
    subst h3
    have h4:=h.ko _ _ h1
    have h5:∀ i,i < 10->cmdK i ≠ 0:=by decide
    exact h5 _ (Nat.mod_lt _ (by omega)) h4.symm
  ·exact DR.of_row (vs:=vs1) (by simp [chg,e,hb]) (fun h=>by cases h) hle hcm fun k c hk=>by
    obtain ⟨u,h1,h2⟩:=hrow k c hk
    refine ⟨u,h1,?_⟩
    obtain ⟨x,_,hx⟩:=List.mem_flatMap.1 (List.mem_of_getElem? hk)
    simp [Ty.cells] at hx
    subst hx
    have h3:=h2.val_eq
    subst h3
    exact .val _ rfl
theorem free_new:∀ (j:Nat) (u:Value),cmds63[j]?=some u->NewC u j:=by
 intro j u hu
 have hj:j < 10:=(List.getElem?_eq_some_iff.1 hu).1
 match j,hj with
 | 0,_=>cases hu;exact ⟨rfl,fun h=>by cases h⟩
 | 1,_=>cases hu;exact ⟨rfl,fun h=>by cases h⟩
 | 2,_=>cases hu;exact ⟨rfl,fun h=>by cases h⟩
 | 3,_=>cases hu;exact ⟨rfl,fun h=>by cases h⟩
 | 4,_=>cases hu;exact ⟨rfl,fun h=>by cases h⟩
 | 5,_=>cases hu;exact ⟨rfl,fun h=>by cases h⟩
 | 6,_=>cases hu;exact ⟨rfl,fun _=>rfl⟩
 | 7,_=>cases hu;exact ⟨rfl,fun _=>rfl⟩
 | 8,_=>cases hu;exact ⟨rfl,fun _=>rfl⟩
 | 9,_=>cases hu;exact ⟨rfl,fun _=>rfl⟩
def freeCmd:GCmd:=.mk 5 1 0 ⟨false,0,0⟩ ⟨[],[]⟩ [] []
theorem free_row (ro:Nat->Option (Array Value)):∀ (k:Nat) (c:DC),(flat .cmd [freeCmd])[k]?=some c->∃ u,cmds63[k]?=some u/\DR ro c u:=by
 intro k c hk
 have hj:k < 10:=(List.getElem?_eq_some_iff.1 hk).1
 match k,hj with
 | 0,_=>cases hk;exact ⟨_,rfl,.val _ rfl⟩
 | 1,_=>cases hk;exact ⟨_,rfl,.val _ rfl⟩
 | 2,_=>cases hk;exact ⟨_,rfl,.val _ rfl⟩
 | 3,_=>cases hk;exact ⟨_,rfl,.val _ rfl⟩
 | 4,_=>cases hk;exact ⟨_,rfl,.val _ rfl⟩
 | 5,_=>cases hk;exact ⟨_,rfl,.val _ rfl⟩
 | 6,_=>cases hk;exact ⟨_,rfl,.nil _⟩
 | 7,_=>cases hk;exact ⟨_,rfl,.nil _⟩
 | 8,_=>cases hk;exact ⟨_,rfl,.ne _ _ _ (.nil _) fun _=>⟨none,rfl⟩⟩
 | 9,_=>cases hk;exact ⟨_,rfl,.ne _ _ _ (.nil _) fun _=>⟨none,rfl⟩⟩
section
variable {P:Program} {E:Ty->TypeId} {tab:TypeId->Option TI} {w0:World} {M:MM} {n:Nat}
theorem nest_lists {g:G} {wd:World} {bo:Nat} {cur:Array Value} {k:Int} {v62:Value} {b' o' cap':Nat} {row:Array Value} {wF:World} {xs:List GCmd} {cap:Nat}
  (h:NestOut g wd bo cur k v62 (xs.getD k.toNat (Ty.zero .cmd)).body b' o' cap' row wF) (hk:k.toNat < xs.length) (hrow:RowR g.ro (flat .cmd xs) cur 0) (hcs:cur.size=cap * 10) (hle:xs.length<=cap) (hd62:DR g.ro (.ne .cmd (xs.getD k.toNat (Ty.zero .cmd)).body) v62) :
  ∃ ys:List GCmd,ys.length=xs.length/\wcL ys<=wcL xs+1/\RowR (chg g.ro b' (over row (o'+(xs.getD k.toNat (Ty.zero .cmd)).body.length * 10) cmds63)) (flat .cmd ys) (over cur (k.toNat * 10+8) [.slice (some ⟨b',o',none⟩) ((xs.getD k.toNat (Ty.zero .cmd)).body.length+1) cap']) 0 /\
   ∀ code v,DR g.ro (.arr .u8 code) v->DR (chg g.ro b' (over row (o'+(xs.getD k.toNat (Ty.zero .cmd)).body.length * 10) cmds63)) (.arr .u8 code) v:=by
 generalize hbody:(xs.getD k.toNat (Ty.zero .cmd)).body=body at h hd62 ⊢
 have hfit:o'+body.length * 10+cmds63.length<=row.size:=by
  have:=h.fit;have:=h.cap.1
  have e:cmds63.length=10:=rfl
  omega
 have hl63:cmds63.length=10:=rfl
 generalize hr10:over row (o'+body.length * 10) cmds63=r10 at *
 have hr10get:∀ j,r10[j]?=if o'+body.length * 10<=j/\j < o'+body.length * 10+10 then cmds63[j - (o'+body.length * 10)]? else row[j]?:=fun j=>by rw [← hr10];exact over_get hfit j
 have hr10sz:r10.size=row.size:=by rw [← hr10];exact over_size hfit
 have hko10:KO r10:=by
  intro i u hu
  rw [hr10get] at hu
  split at hu
  ·rename_i hi
   rw [(free_new _ u hu).1]
   have:=h.off
   congr 1
   omega
  ·exact h.ko i u hu
 -- data under the new rows
 have main:∃ (xs1:List GCmd) (body1:List GCmd),xs1.length=xs.length/\wcL xs1<=wcL xs/\(∀ i,i < xs.length->LeE .cmd (xs.getD i (Ty.zero .cmd)) (xs1.getD i (Ty.zero .cmd)))/\RowR (chg g.ro b' r10) (flat .cmd xs1) cur 0/\body1.length=body.length/\wcL body1<=wcL body/\RowR (chg g.ro b' r10) (flat .cmd body1) r10 o' /\
   ∀ code v,DR g.ro (.arr .u8 code) v->DR (chg g.ro b' r10) (.arr .u8 code) v:=by
  rcases h.kind with ⟨vs,k1,k2,k3,k4⟩ | ⟨k1,k2⟩
  ·have hc:Chg g.ro b' vs r10:=by
    refine ⟨k1,k2,by rw [hr10sz,k3],fun i u hu=>?_⟩
    rw [hr10get] at hu
    split at hu
    ·rename_i hi
     right
     have h9:=free_new _ u hu
     have:=h.off
     rw [show i % 10=i - (o'+body.length * 10) from by omega]
     exact h9
    ·left
     rw [← k4 i (by omega)]
     exact hu
   obtain ⟨xs1,m1,m2,m3,m4⟩:=hc.row hrow
   obtain ⟨body1,n1,n2,n3,n4⟩:=hc.row h.elems
   refine ⟨xs1,body1,m2,m3,m4,m1,n2,n3,fun j c hj=>?_,fun code v hv=>hc.u8 hv⟩
   obtain ⟨u,q1,q2⟩:=n1 j c hj
   have hj1:j < body.length * 10:=by have:=(List.getElem?_eq_some_iff.1 hj).1;rw [flat_len,n2] at this;exact this
   exact ⟨u,by rw [hr10get,if_neg (by omega)];exact q1,q2⟩
  ·have hmono:∀ b vs,g.ro b=some vs->chg g.ro b' r10 b=some vs:=by
    intro b vs hb
    have:b ≠ b':=by intro e;subst e;rw [k2] at hb;cases hb
    simp [chg,this,hb]
   refine ⟨xs,body,rfl,Nat.le_refl _,fun i hi=>⟨Nat.le_refl _,Nat.le_refl _⟩,hrow.mono hmono,rfl,Nat.le_refl _,fun j c hj=>?_,fun code v hv=>hv.mono hmono⟩
   obtain ⟨u,q1,q2⟩:=h.elems j c hj
   have hj1:j < body.length * 10:=by have:=(List.getElem?_eq_some_iff.1 hj).1;rw [flat_len] at this;exact this
   exact ⟨u,by rw [hr10get,if_neg (by omega)];exact q1,q2.mono hmono⟩
 obtain ⟨xs1,body1,h1,h2,h3,h4,h5,h6,h7,h8⟩:=main
 have hx1:k.toNat < xs1.length:=by omega
 let x1:=xs1.getD k.toNat (Ty.zero .cmd)
 let y:GCmd:=.mk x1.kind x1.a x1.b x1.test x1.inv (body1 ++ [freeCmd]) x1.els
 have hy:updElem .cmd (xs1.getD k.toNat (Ty.zero .cmd)) 8 [.ne .cmd (body1 ++ [freeCmd])]=some y:=rfl
 have hb1:RowR (chg g.ro b' r10) (flat .cmd (body1 ++ [freeCmd])) r10 o':=by
  rw [flat_append]
  refine RowR.append h7 (RowR.of_vals (free_row _) fun j u hj=>?_)
  have hj10:j < 10:=(List.getElem?_eq_some_iff.1 hj).1
  have e:(flat .cmd body1).length=body.length * 10:=by rw [flat_len,h5];rfl
  rw [e,hr10get,if_pos (by omega)]
  rw [show o'+body.length * 10+j - (o'+body.length * 10)=j from by omega]
  exact hj
 have hd66:DR (chg g.ro b' r10) (.ne .cmd (body1 ++ [freeCmd])) (.slice (some ⟨b',o',none⟩) (body.length+1) cap'):=by
  have hl:(body1 ++ [freeCmd]).length=body.length+1:=by simp [h5]
  have:=DR.of_row (t:=.cmd) (xs:=body1 ++ [freeCmd]) (cap:=cap') (vs:=r10) (b:=b') (off:=o') (by simp [chg]) (fun _=>⟨h.n0,fun _=>⟨h.off,hko10,by rw [hr10sz];exact h.fit⟩⟩) (by rw [hl];exact h.cap.1) h.cap.2 hb1
  rw [hl] at this
  exact .ne _ _ _ this fun e=>by simp at e
 refine ⟨xs1.set k.toNat y,by simp [h1],?_,?_,h8⟩
 ·have e1:wcL (xs1.set k.toNat y)<=wcL (xs.set k.toNat y):=by
   refine wcL_mono _ _ (by simp [h1]) fun i hi=>?_
   rw [List.length_set] at hi
   by_cases e:i=k.toNat
   ·subst e
    rw [getD_set_self hx1,getD_set_self hk]
    exact Nat.le_refl _
   ·rw [List.getD_eq_getElem?_getD,List.getD_eq_getElem?_getD,List.getElem?_set_ne (Ne.symm e),List.getElem?_set_ne (Ne.symm e)]
    have:=(h3 i hi).1
    rw [List.getD_eq_getElem?_getD,List.getD_eq_getElem?_getD] at this
    exact this
  refine Nat.le_trans e1 (wcL_set hk ?_)
  have q1:=(h3 k.toNat hk).2
  rw [wtC_eq,wtC_eq,hbody]
  show x1.inv.facts.length+x1.inv.atoms.length+((body1 ++ [freeCmd]).length+wcL (body1 ++ [freeCmd]))+(x1.els.length+wcL x1.els)<=_
  have q2:nbC x1<=nbC (xs.getD k.toNat (Ty.zero .cmd)):=q1
  unfold nbC at q2
  have q3:wcL [freeCmd]=0:=rfl
  rw [wcL_append,q3,List.length_append,h5]
  simp only [List.length_singleton]
  omega
 ·refine RowR.setElem h4 hx1 hy rfl (fun j c hj=>?_) ?_
  ·match j,hj with
   | 0,hj=>cases hj;exact ⟨_,rfl,hd66⟩
  ·have e:[Value.slice (some ⟨b',o',none⟩) (body.length+1) cap'].length=1:=rfl
   show k.toNat * 10+8+_<=_
   omega
theorem nest_sound (ht:TabOk P E tab) (hmix:P.follows .mixedOrders=true) {ts tc:TypeId} {s1 s2 s3:Nat} (hts:tab ts=some ⟨s1,s2,.sl true tc .cmd⟩)
  (htc:tab tc=some ⟨10,s3,.st [.sc (.int .i64 0),.sc (.int .i64 0),.sc (.int .i64 0),.sc (.bool false),.sc (.int .i64 0),.sc (.int .i64 0),.sl .fact,.sl .atom,.sl .cmd,.sl .cmd] [(0,1,false),(1,1,false),(2,1,false),(3,3,true),(6,2,true),(8,1,false),(9,1,false)]⟩)
  {zc:Array Value} {ops:Array Oper} (hops:NestOps ts tc zc ops) {id:Nat} {st:St} {a:Act} {w:World} (h:Rel E w0 M n st a w) (hn:70<=n) (hB:w0.heap.size<=Base.n0) (hrok:∀ b,M.rok b=none)
  {k':St->Prop} (hv:vcNest st k') {Q:Exit->Act->World->Prop} (hQ:∀ st' a' w',Rel E w0 M n st' a' w'->k' st'->Q .normal a' w'):(Code.region id ops true).wp P Q a w:=by
 unfold vcNest at hv
 split at hv
 ·rename_i io k he5 he6
  split at hv
  ·rename_i fam xs hm
   obtain ⟨⟨hsp,hfr⟩,⟨hk0,hk1⟩,hwl,hv⟩:=hv
   have h':=h.drawn
   generalize hwd:({ w with drawn:=w.drawn+1 }:World)=wd at h'
   obtain ⟨g,hg,henv⟩:=h'.good
   have hx5:=henv 5
   rw [he5] at hx5
   have hx6:=henv 6
   rw [he6] at hx6
   have t6:a.tmps.getD 6 undef=.int .i64 k:=DR.val_eq (show DR g.ro (.val _) _ from hx6)
   obtain ⟨hln,hres⟩:=hg.res _ _ hm
   rcases hres with ⟨_,hx0⟩ | ⟨bo,cap,cur,hκ,hbo,hle,hcap,hcs,hrow⟩
   ·exfalso
    have:List.length (α:=GCmd) xs=0:=by rw [hx0];rfl
    omega
   have hkl:k.toNat < List.length (α:=GCmd) xs:=by omega
   replace hcs:cur.size=cap * 10:=hcs
   have hgbo:g.ro bo=none:=hg.wro io _ hm trivial bo (by rw [hκ];rfl) hsp hfr
   obtain ⟨v62,h62,hd62⟩:=hrow (k.toNat * 10+8) (.ne .cmd (List.getD (α:=GCmd) xs k.toNat (Ty.zero .cmd)).body) (by
    rw [show k.toNat * 10+8=k.toNat * Ty.sz .cmd+8 from rfl,flat_get .cmd xs k.toNat 8 hkl (by decide)]
    rfl)
   rw [Nat.zero_add] at h62
   have hnz:Base.n0<=wd.heap.size:=Nat.le_trans hg.rho.2.1 hg.ext.size
   have hbl:(List.getD (α:=GCmd) xs k.toNat (Ty.zero .cmd)).body.length<=281474976710:=by
    have q1:=wcL_get (d:=Ty.zero .cmd) hkl
    rw [wtC_eq] at q1
    omega
   have hin:NestIn P ts tc g a wd bo (List.length (α:=GCmd) xs) cap cur k v62 (List.getD (α:=GCmd) xs k.toNat (Ty.zero .cmd)).body :=
    ⟨by rw [h.size];exact hn,by rw [hx5.1,hκ],t6,⟨hk0,hk1⟩,⟨_,hbo⟩,by omega,h62,hd62,hbl,hg.ro,hgbo,hnz⟩
   subst hwd
   refine nest_raw ht hmix hts htc hops hin fun a' wF b' o' cap' row hs' hd' hlo hO=>?_
   generalize hwd:({ w with drawn:=w.drawn+1 }:World)=wd at *
   obtain ⟨ys,hyl,hyw,hyr,hu8⟩:=nest_lists hO hkl hrow hcs hle hd62
   refine hQ (nestSt st io fam ys) a' wF ?_ (hv ys hyl hyw)
   have hblt:bo < wd.heap.size:=lt_of_some hbo
   have hwF:=hO.hbo _ hbo
   obtain ⟨tyb,hwb⟩:=hO.hb
   have hfit13:k.toNat * 10+8+[Value.slice (some ⟨b',o',none⟩) ((List.getD (α:=GCmd) xs k.toNat (Ty.zero .cmd)).body.length+1) cap'].length<=cur.size:=by
    have e:[Value.slice (some ⟨b',o',none⟩) ((List.getD (α:=GCmd) xs k.toNat (Ty.zero .cmd)).body.length+1) cap'].length=1:=rfl
    omega
   have hb'0:w0.heap.size<=b':=Nat.le_trans hB hO.n0
   have hbo0:w0.heap.size<=bo:=Nat.le_trans hB (hg.nb hm trivial (by rw [hκ];rfl))
   have hoth:∀ b,b < wd.heap.size->g.ro b=none ∨ b ≠ b'->b ≠ b' ∨ (wd.heap.size<=b' ∨ ∃ vs,g.ro b'=some vs):=fun b _ _=>by
    rcases hO.kind with ⟨vs,h1,_⟩ | ⟨h1,_⟩
    ·exact .inr (.inr ⟨vs,h1⟩)
    ·exact .inr (.inl h1)
   -- a block that is not read and was there is not the one that was written
   have hnb':∀ b,b < wd.heap.size->g.ro b=none->b ≠ b':=fun b hb hr e=>by
    subst e
    rcases hO.kind with ⟨vs,h1,_⟩ | ⟨h1,_⟩
    ·rw [hr] at h1;cases h1
    ·omega
   generalize hr10:over row (o'+(List.getD (α:=GCmd) xs k.toNat (Ty.zero .cmd)).body.length * 10) cmds63=r10 at *
   have hgood:Good E w0 M { g with ro:=chg g.ro b' r10 } (nestSt st io fam ys) wF:=by
    refine ⟨?_,?_,?_,?_,?_,?_,?_,?_,?_,hg.rho,fun id v hv=>?_,fun id m hv=>?_,fun b vs hv=>?_⟩
    ·obtain ⟨p1,p2,p3,p4⟩:=hO.os
     refine ⟨p1.trans hg.ext.os,p2.trans hg.ext.tape,p3.trans hg.ext.output,Nat.le_trans hg.ext.size p4,fun b hb hM=>?_⟩
     rw [hO.old b (Nat.lt_of_lt_of_le hb hg.ext.size) (by omega) (by omega)]
     exact hg.ext.block b hb hM
    ·intro b vs hb
     by_cases e:b=b'
     ·subst e
      have e1:vs=r10:=by simp [chg] at hb;exact hb.symm
      subst e1
      exact ⟨tyb,(0,0),hwb,fun _=>rfl⟩
     ·have hb1:g.ro b=some vs:=by simp [chg,e] at hb;exact hb
      refine (hg.ro b vs hb1).keep fun hlt=>hO.old b hlt e fun e2=>?_
      subst e2
      rw [hgbo] at hb1;cases hb1
    ·intro id r hr
     by_cases hl:r.live
     ·obtain ⟨rfl,rfl⟩:=nestSt_live hr hl
      refine ⟨by rw [hyl];exact hln,.inr ⟨bo,cap,_,by rw [hyl];exact hκ,hwF,by rw [hyl];exact hle,⟨hcap.le,fun ht h0=>hcap.tight ht (by rw [← hyl];exact h0),fun ht=>?_⟩,by rw [over_size hfit13];exact hcs,hyr⟩⟩
      intro i u hu
      rw [over_get hfit13] at hu
      split at hu
      ·rename_i hi
       have e:[Value.slice (some ⟨b',o',none⟩) ((List.getD (α:=GCmd) xs k.toNat (Ty.zero .cmd)).body.length+1) cap'].length=1:=rfl
       have e2:i=k.toNat * 10+8:=by omega
       subst e2
       rw [Nat.sub_self] at hu
       injection hu with hu
       subst hu
       rw [show (k.toNat * 10+8) % 10=8 from by omega]
       rfl
      ·exact hcap.ko rfl i u hu
     ·cases r with
      | dead=>trivial
      | _=>exact (hl trivial).elim
    ·intro i j r s hi hj hij hli hlj
     obtain ⟨e1,_⟩:=nestSt_live hi hli
     obtain ⟨e2,_⟩:=nestSt_live hj hlj
     exact (hij (e1.trans e2.symm)).elim
    ·intro id r hr hl b hb
     obtain ⟨rfl,rfl⟩:=nestSt_live hr hl
     exact hg.fresh id _ hm trivial b hb
    ·intro id r hr hl b hb h1 h2
     obtain ⟨rfl,rfl⟩:=nestSt_live hr hl
     have e:b=bo:=by rw [hκ] at hb;injection hb with hb;exact hb.symm
     subst e
     show chg g.ro b' r10 b=none
     simp only [chg,if_neg (Ne.symm hO.ne)]
     exact hgbo
    ·intro m hmr
     obtain ⟨⟨hlim,hout,code,v,p,ty,hc,hd,hrest⟩,hin,hno⟩:=hg.rd m hmr
     have hρlt:g.ρ < wd.heap.size:=lt_of_some hc
     have hρb:g.ρ ≠ b':=hnb' _ hρlt hout
     refine ⟨⟨hlim,?_,code,v,p,ty,?_,hu8 code v hd,hrest⟩,hin,fun id r hr hl=>?_⟩
     ·show chg g.ro b' r10 g.ρ=none
      simp only [chg,if_neg hρb]
      exact hout
     ·show wF.heap[g.ρ]?=_
      rw [hO.old _ hρlt hρb fun e=>hno io _ hm trivial (by rw [hκ,e];rfl)]
      exact hc
     ·obtain ⟨rfl,rfl⟩:=nestSt_live hr hl
      exact hno id _ hm trivial
    ·intro hn0
     have hn0':st.rd ≠ none:=hn0
     cases hrd:st.rd with
     | none=>exact (hn0' hrd).elim
     | some m =>
      obtain ⟨⟨hlim,hout,_⟩,hin,hno⟩:=hg.rd m hrd
      exact (hg.rds hn0').next fun hb=>hO.old _ hb (hnb' _ hb hout) fun e=>hno io _ hm trivial (by rw [hκ,e];rfl)
    ·intro b vs hb
     by_cases e:b=b'
     ·subst e;exact .inr (.inl hb'0)
     ·have hb1:g.ro b=some vs:=by simp only [chg,if_neg e] at hb;exact hb
      exact hg.roo b vs hb1
    ·rw [nestSt_some];exact hg.pin id v hv
    ·rw [nestSt_some];exact hg.keep.1 id m hv
    ·rw [hrok b] at hv;cases hv
   refine ⟨⟨?_,?_⟩,by rw [hs'];exact h.size,by rw [hd'];exact h.defers,_,hgood,?_⟩
   ·intro x id hid
    rw [nestSt_some]
    by_cases e:x=5
    ·subst e
     have hid:id ∈ [io]:=hid
     rw [List.mem_singleton] at hid
     rw [hid,hm];rfl
    ·have:(nestSt st io fam ys).env x=junk:=nestSt_env e
     rw [this] at hid
     cases hid
   ·intro j r hj id hid
    by_cases hl:r.live
    ·obtain ⟨_,rfl⟩:=nestSt_live hj hl
     cases hid
    ·cases r with
     | dead=>cases hid
     | _=>exact (hl trivial).elim
   ·intro x
    by_cases e:x=5
    ·subst e
     show CV.R _ (.own io) _
     rw [hlo 5 (by omega)]
     exact hx5
    ·have:(nestSt st io fam ys).env x=junk:=nestSt_env e
     rw [this]
     trivial
  ·exact hv.elim
 ·exact hv.elim
end
end Go.SE

namespace Go.SE
variable [Base]
open Go.RowKit
end Go.SE

namespace Go.SE
variable [Base]
open Go.RowKit
def nestK (tab:TypeId->Option TI) (K:FuncId->Option Con) (pts:FuncId->Option PT) (ops:Array Oper) (st:St) (k:St->Prop) (h:Bool) (p:List (List Nat)):Bool->Prop
 | true=>vcNest st k
 | false=>vcRegP tab K pts ops st k h p
section
variable (tab:TypeId->Option TI) (K:FuncId->Option Con) (pts:FuncId->Option PT) (hp:Nat->Bool) (gcs:Nat->Option (List Nat × List Nat)) (anns:Nat->St->Option Ann) (perm:Nat->List (List Nat)) (nr:Nat->Bool)
def vcN:Code->St->(XK->St->Prop)->Prop
 | .skip,st,Q=>Q .normal st
 | .region id ops _,st,Q=>nestK tab K pts ops st (Q .normal) (hp id) (perm id) (nr id)
 | .seq a b,st,Q=>vcN a st (seqK (fun st'=>gcQ st' (fun s=>vcN b s Q) (gcs (firstReg b))) Q)
 | .cond c a b,st,Q=>condK (vcN a st Q) (vcN b st Q) (ev st c)
 | .block id c,st,Q=>vcN c st (blockK id Q)
 | .loop c,st,Q=>vcLoopQ (fun st' Q'=>vcN c st' Q') st Q (anns (firstReg c) st)
 | .exit id,st,Q=>Q (.exit id) st
 | .ret,st,Q=>Q .ret st
 | _,_,_=>False
end
def codeOkN (tab:TypeId->Option TI) (K:FuncId->Option Con) (hp:Nat->Bool) (perm:Nat->List (List Nat)) (nr:Nat->Bool) (n:Nat):Code->Bool
 | .region id ops draw=>match nr id with
  | true=>true
  | false=>codeOkP tab K hp perm n (.region id ops draw)
 | .seq a b=>codeOkN tab K hp perm nr n a && codeOkN tab K hp perm nr n b
 | .block _ c=>codeOkN tab K hp perm nr n c
 | .loop c=>codeOkN tab K hp perm nr n c
 | .cond _ a b=>codeOkN tab K hp perm nr n a && codeOkN tab K hp perm nr n b
 | _=>true
def RegsOk (ts tc:TypeId) (zc:Array Value) (nr:Nat->Bool):Code->Prop
 | .region id ops draw=>nr id=true->NestOps ts tc zc ops/\draw=true
 | .seq a b=>RegsOk ts tc zc nr a/\RegsOk ts tc zc nr b
 | .block _ c=>RegsOk ts tc zc nr c
 | .loop c=>RegsOk ts tc zc nr c
 | .cond _ a b=>RegsOk ts tc zc nr a/\RegsOk ts tc zc nr b
 | _=>True
section
variable {P:Program} {E:Ty->TypeId} {tab:TypeId->Option TI} {K:FuncId->Option Con} {pts:FuncId->Option PT} {hp:Nat->Bool} {gcs:Nat->Option (List Nat × List Nat)} {anns:Nat->St->Option Ann} {perm:Nat->List (List Nat)} {nr:Nat->Bool} {w0:World} {M:MM} {n:Nat}
open Classical in
theorem codeN_sound (ht:TabOk P E tab) (hKA:KAll P E K) (hPA:PAll P E pts) (hmix:P.follows .mixedOrders=true) (hdr:DrawSound P E tab K w0 M n) (hOO:OOk (fun _=>none) M) {ts tc:TypeId} {s1 s2 s3:Nat} {zc:Array Value} (hts:tab ts=some ⟨s1,s2,.sl true tc .cmd⟩)
  (htc:tab tc=some ⟨10,s3,.st [.sc (.int .i64 0),.sc (.int .i64 0),.sc (.int .i64 0),.sc (.bool false),.sc (.int .i64 0),.sc (.int .i64 0),.sl .fact,.sl .atom,.sl .cmd,.sl .cmd] [(0,1,false),(1,1,false),(2,1,false),(3,3,true),(6,2,true),(8,1,false),(9,1,false)]⟩)
  (hn:70<=n) (hB:w0.heap.size<=Base.n0) (hrok:∀ b,M.rok b=none):∀ (c:Code) (st:St) (a:Act) (w:World) (Qs:XK->St->Prop) (Q:Exit->Act->World->Prop),RegsOk ts tc zc nr c->codeOkN tab K hp perm nr n c=true->Rel E w0 M n st a w->vcN tab K pts hp gcs anns perm nr c st Qs ->
  (∀ x st' a' w',Rel E w0 M n st' a' w'->Qs x st'->Q x.exit' a' w')->c.wp P Q a w:=by
 have hO:=hOO
 intro c
 induction c with
 | skip=>intro st a w Qs Q _ _ h hv hQ;exact _root_.Go.wp_skip (hQ .normal st a w h hv)
 | region id ops draw =>
  intro st a w Qs Q hrg hok h hv hQ
  simp only [vcN] at hv
  cases hnr:nr id with
  | true =>
   rw [hnr] at hv
   obtain ⟨hno,hdw⟩:=hrg hnr
   subst hdw
   exact nest_sound ht hmix hts htc hno h hn hB hrok hv fun st' a' w' hr hk=>hQ .normal st' a' w' hr hk
  | false =>
  rw [hnr] at hv
  simp only [nestK] at hv
  simp only [codeOkN,hnr,codeOkP,Bool.and_eq_true] at hok
  obtain ⟨hok1,hok2⟩:=hok
  cases hh:hp id with
  | false =>
   rw [hh] at hv hok2
   cases hpm:perm id with
   | nil =>
    rw [hpm] at hv hok2
    simp only [vcRegP,vcReg] at hv
    simp only at hok2
    cases draw with
    | false=>exact wp_region_list (seq_sound ht hKA (fun st' a' w' hr hk=>hQ .normal st' a' w' hr hk) ops.toList st a w (opsOk_mem hok1) h hv)
    | true=>exact hdr id ops st a w _ Q (by simpa using hok2) hok1 h hv fun st' a' w' hr hk=>hQ .normal st' a' w' hr hk
   | cons l ls =>
    rw [hpm] at hv hok2
    simp only [vcRegP,vcReg] at hv
    simp only [Bool.and_eq_true,permOk,List.all_eq_true] at hok2
    obtain ⟨hd,hp1,hp2⟩:=hok2
    subst hd
    refine wp_region_any hmix (any_sound ht hKA hok1 (fun st' a' w' hr hk=>hQ .normal st' a' w' hr hk) _ _ st a _ hp1 h.drawn fun x hx=>vcEach_mem hv x ?_)
    have:=hp2 x hx
    simpa using this
  | true =>
   rw [hh] at hv hok2
   cases hpm:perm id with
   | nil =>
    rw [hpm] at hv hok2
    simp only [vcRegP] at hv
    simp only [Bool.not_eq_true'] at hok2
    subst hok2
    exact wp_region_list (seqP_sound ht hKA hPA (fun st' a' w' hr hk=>hQ .normal st' a' w' hr hk) ops.toList st a w (opsOk_mem hok1) h hv)
   | cons l ls =>
    rw [hpm] at hv hok2
    cases ls with
    | cons l' ls =>
     rcases l with _ | ⟨i0,l⟩
     ·rcases l' with _ | ⟨s1,_ | ⟨s2,_ | ⟨_,_⟩⟩⟩
      ·cases hok2
      ·cases hok2
      ·rcases ls with _ | ⟨_,_⟩
       ·simp only [vcRegP] at hv
        simp only [Bool.and_eq_true] at hok2
        obtain ⟨hd,hdl⟩:=hok2
        subst hd
        exact draw_swap (pts:=pts) ht (tab_small ht) hKA hmix hdl hok1 h hv fun st' a' w' hr hk=>hQ .normal st' a' w' hr hk
       ·cases hok2
      ·cases hok2
     ·cases hok2
    | nil =>
    cases l with
    | nil =>
     simp only [vcRegP] at hv
     simp only [Bool.and_eq_true] at hok2
     obtain ⟨hd,hdl⟩:=hok2
     subst hd
     exact draw_last ht (tab_small ht) hKA hPA hmix hdl hok1 h hv fun st' a' w' hr hk=>hQ .normal st' a' w' hr hk
    | cons i0 l =>
     simp only [vcRegP] at hv
     simp only [Bool.and_eq_true,permOk,List.all_eq_true] at hok2
     obtain ⟨hd,hp1,hp2⟩:=hok2
     subst hd
     refine wp_region_any hmix (one_sound ht hKA hPA hok1 (fun st' a' w' hr hk=>hQ .normal st' a' w' hr hk) _ (i0 :: l) _ st a _ hp1 (fun x hx=>?_) h.drawn hv)
     have:=hp2 x hx
     simpa using this
 | seq x y ihx ihy =>
  intro st a w Qs Q hrg hok h hv hQ
  simp only [codeOkN,Bool.and_eq_true] at hok
  refine wp_seq (ihx st a w _ _ hrg.1 hok.1 h hv fun k st' a' w' hr hk=>?_)
  cases k with
  | normal =>
   simp only [seqK] at hk
   have hk2:=gcQ_ok (k':=fun s=>vcN tab K pts hp gcs anns perm nr y s Qs) (fun _ h=>h) hk
   unfold gcK at hk2
   split at hk2
   ·exact ihy st' a' w' Qs Q hrg.2 hok.2 hr hk2 hQ
   ·exact ihy _ a' w' Qs Q hrg.2 hok.2 (hr.gc hO hk2.1) hk2.2 hQ
  | exit id=>exact hQ (.exit id) st' a' w' hr hk
  | ret=>exact hQ .ret st' a' w' hr hk
 | cond cnd x y ihx ihy =>
  intro st a w Qs Q hrg hok h hv hQ
  simp only [codeOkN,Bool.and_eq_true] at hok
  simp only [vcN] at hv
  unfold condK at hv
  split at hv
  ·rename_i t he
   have hval:=(ev_val h he).1
   cases t with
   | true=>exact wp_cond_true hval (ihx st a w Qs Q hrg.1 hok.1 h (vcIf_t hv) hQ)
   | false=>exact wp_cond_false hval (ihy st a w Qs Q hrg.2 hok.2 h (vcIf_f hv) hQ)
  ·exact hv.elim
 | block id x ih =>
  intro st a w Qs Q hrg hok h hv hQ
  refine wp_block (ih st a w _ _ hrg hok h hv fun k st' a' w' hr hk=>?_)
  cases k with
  | normal=>exact hQ .normal st' a' w' hr hk
  | exit id' =>
   simp only [XK.exit',Exit.inBlock]
   simp only [blockK] at hk
   split
   ·rename_i e;rw [if_pos e] at hk;exact hQ .normal st' a' w' hr hk
   ·rename_i e;rw [if_neg e] at hk;exact hQ (.exit id') st' a' w' hr hk
  | ret=>exact hQ .ret st' a' w' hr hk
 | loop x ih =>
  intro st a w Qs Q hrg hok h hv hQ
  simp only [vcN] at hv
  unfold vcLoopQ at hv
  split at hv
  ·exact hv.elim
  ·rename_i α ok mu i0 nx live sets mids blks owns rd base hA
   obtain ⟨⟨ho0,hf0⟩,hround⟩:=hv
   let α0:α:=i0 st
   let hd:α->St:=fun α=>SE.headP (fun _=>none) live (sets α) mids (blks α) (owns α) base (rd st.rd α) st
   have hex:∀ (a:Act) (w:World),(∃ α,ok α/\Rel E w0 M n (hd α) a w)->∃ m,∃ α,ok α/\Rel E w0 M n (hd α) a w/\mu α=m :=
    fun a w ⟨α,h1,h2⟩=>⟨_,α,h1,h2,rfl⟩
   let μ:Act->World->Nat:=fun a w=>if hh:∃ m,∃ α,ok α/\Rel E w0 M n (hd α) a w/\mu α=m then Classical.choose (least hh) else 0
   refine wp_loop (fun a w=>∃ α,ok α/\Rel E w0 M n (hd α) a w) μ ⟨α0,ho0,h.headP hO (fitsQ_ok hf0)⟩ ?_
   intro a w hI
   have hh:=hex a w hI
   obtain ⟨α,h1,h2,h3⟩:=(Classical.choose_spec (least hh)).1
   have hμ:μ a w=mu α:=by simp only [μ,dif_pos hh];exact h3.symm
   refine ih _ a w _ _ hrg hok h2 (hround α h1) fun k st' a' w' hr hk=>?_
   cases k with
   | normal =>
    obtain ⟨g1,g2,g3⟩:=hk
    have hrel:Rel E w0 M n (hd (nx α st')) a' w':=hr.headP hO (fitsQ_ok g3)
    refine ⟨⟨nx α st',g1,hrel⟩,?_⟩
    have hh':∃ m,∃ α,ok α/\Rel E w0 M n (hd α) a' w'/\mu α=m:=⟨_,nx α st',g1,hrel,rfl⟩
    have:μ a' w'<=mu (nx α st'):=by simp only [μ,dif_pos hh'];exact (Classical.choose_spec (least hh')).2 _ ⟨nx α st',g1,hrel,rfl⟩
    omega
   | exit id=>exact hQ (.exit id) st' a' w' hr hk
   | ret=>exact hQ .ret st' a' w' hr hk
 | exit id=>intro st a w Qs Q _ _ h hv hQ;exact wp_exit (hQ (.exit id) st a w h hv)
 | ret=>intro st a w Qs Q _ _ h hv hQ;exact wp_ret (hQ .ret st a w h hv)
 | _=>intro st a w Qs Q _ _ h hv hQ;exact hv.elim
end
end Go.SE

namespace Go.SE
open Go.RowKit
@[reducible] def atB (B:Base) (w0:World) (h:B.n0<=w0.heap.size):Base:=⟨w0.heap.size,B.nz,Nat.le_trans B.le h⟩
def npC:DC->Prop
 | .val _=>True
 | .arr .lcmd _=>True
 | .arr .lfact _=>True
 | .arr .latom _=>True
 | .arr .u8 _=>True
 | _=>False
theorem npC_arr {t:Ty} {xs:List t.den} (h:npC (.arr t xs)):t=.lcmd ∨ t=.lfact ∨ t=.latom ∨ t=.u8:=by
 cases t <;> first | exact h.elim | simp
theorem npC_cells {t:Ty} (h:t=.lcmd ∨ t=.lfact ∨ t=.latom ∨ t=.u8) (x:t.den):∀ c ∈ t.cells x,npC c:=by
 rcases h with rfl | rfl | rfl | rfl <;> simp [Ty.cells,npC]
theorem DR.npm {B1 B2:Base} {ro:Nat->Option (Array Value)} {c:DC} {v:Value} (h:@DR B1 ro c v):npC c->@DR B2 ro c v:=by
 induction h with
 | val x h=>exact fun _=>@DR.val B2 _ x h
 | nil t=>exact fun _=>@DR.nil B2 _ t
 | emp t a=>exact fun _=>@DR.emp B2 _ t a
 | arr t xs b off cap vs g hb hpm hl hc h1 h2 ih =>
  intro hp
  have ht:=npC_arr hp
  refine @DR.arr B2 _ t xs b off cap vs g hb (fun hq=>?_) hl hc h1 fun k c hk=>ih k c hk ?_
  ·rcases ht with rfl | rfl | rfl | rfl <;> cases hq
  ·obtain ⟨x,_,hx⟩:=List.mem_flatMap.1 (List.mem_of_getElem? hk)
   exact npC_cells ht x c hx
 | fix=>exact fun h=>h.elim
 | ne t xs v h h0 ih=>exact fun h=>h.elim
theorem RowR.low {B1 B2:Base} (hn:B2.n0<=B1.n0) {ro:Nat->Option (Array Value)} {ds:List DC} {vs:Array Value} {o:Nat} (h:@RowR B1 ro ds vs o):@RowR B2 ro ds vs o :=
 fun k c hk=>let ⟨u,hu,hd⟩:=h k c hk;⟨u,hu,@DR.low B1 B1 B2 hn _ _ _ hd⟩
theorem CV.R.low {B1 B2:Base} (hn:B2.n0<=B1.n0) {g:G} {c:CV} {v:Value} (h:@CV.R B1 g c v):@CV.R B2 g c v:=by
 cases c with
 | d x=>exact @DR.low B1 B1 B2 hn _ _ _ h
 | nil=>exact h
 | own id=>exact h
 | ptr id off=>exact h
 | vp id t k off=>exact h
 | rp t xs k off=>obtain ⟨b,o,vs,h1,h2,h3,h4,h5⟩:=h;exact ⟨b,o,vs,h1,h2,h3,h4.low hn,h5⟩
 | rv t xs=>obtain ⟨b,vs,h1,h2,h3,h4⟩:=h;exact ⟨b,vs,h1,h2,h3.low hn,h4⟩
 | rdr=>exact h
 | fn f ids=>exact h
 | junk=>trivial
theorem Cells.low {B1 B2:Base} (hn:B2.n0<=B1.n0) {g:G} {cs:List CV} {vs:Array Value} (h:@Cells B1 g cs vs):@Cells B2 g cs vs :=
 ⟨h.1,fun j c hj=>let ⟨u,hu,hr⟩:=h.2 j c hj;⟨u,hu,hr.low hn⟩⟩
theorem S0.R.low {B1 B2:Base} (hn:B2.n0<=B1.n0) {g:G} {s:S0} {v:Value} (h:@S0.R B1 g s v):@S0.R B2 g s v:=by
 cases s with
 | c x=>exact CV.R.low hn h
 | agg cs=>obtain ⟨vs,h1,h2⟩:=h;exact ⟨vs,h1,h2.low hn⟩
 | vec t xs=>obtain ⟨vs,h1,h2,h3⟩:=h;exact ⟨vs,h1,h2,h3.low hn⟩
theorem S.R.low {B1 B2:Base} (hn:B2.n0<=B1.n0) {g:G} {s:S} {v:Value} (h:@S.R B1 g s v):@S.R B2 g s v:=by
 cases s with
 | s x=>exact S0.R.low hn h
 | tup l=>obtain ⟨vs,h1,h2,h3⟩:=h;exact ⟨vs,h1,h2,fun j s hj=>let ⟨u,hu,hr⟩:=h3 j s hj;⟨u,hu,hr.low hn⟩⟩
theorem ResR.low {B1 B2:Base} (hn:B2.n0<=B1.n0) {E:Ty->TypeId} {w:World} {g:G} {id:Nat} {r:Res} (h:@ResR B1 E w g id r):@ResR B2 E w g id r:=by
 cases r with
 | blk cs=>obtain ⟨b,vs,ty,h1,h2,h3⟩:=h;exact ⟨b,vs,ty,h1,h2,h3.low hn⟩
 | vec t xs=>obtain ⟨h0,b,vs,ty,h1,h2,h3,h4⟩:=h;exact ⟨h0,b,vs,ty,h1,h2,h3,h4.low hn⟩
 | sl f t xs =>
  obtain ⟨h0,h⟩:=h
  refine ⟨h0,?_⟩
  rcases h with ⟨h1,h2⟩ | ⟨b,cap,cur,h1,h2,h3,h4,h5,h6⟩
  ·exact .inl ⟨h1,h2⟩
  ·exact .inr ⟨b,cap,cur,h1,h2,h3,⟨h4.le,h4.tight,h4.ko⟩,h5,h6.low hn⟩
 | dead=>trivial
theorem DR.anywhere [Base] {ro:Nat->Option (Array Value)} {c:DC} {v:Value} (h:DR ro c v):match c with
  | .arr .cmd xs=>DR ro (.arr .lcmd xs) v
  | .arr .fact xs=>DR ro (.arr .lfact xs) v
  | .arr .atom xs=>DR ro (.arr .latom xs) v
  | .ne .cmd xs=>DR ro (.arr .lcmd xs) v
  | _=>True:=by
 induction h with
 | val x h=>trivial
 | nil t=>cases t <;> first | exact trivial | exact .nil _
 | emp t a=>cases t <;> first | exact trivial | exact .emp _ a
 | arr t xs b off cap vs g hb hpm hl hc h1 h2 ih =>
  have flat2:∀ (t2:Ty) (e:t2.den=t.den) (ys:List t2.den),True:=fun _ _ _=>trivial
  cases t with
  | cmd =>
   refine .arr .lcmd xs b off cap vs g hb (fun h=>by cases h) hl hc (fun k c hk=>?_) fun k c hk=>?_
   all_goals
    have hkl:k < xs.length * 10:=by have:=(List.getElem?_eq_some_iff.1 hk).1;rwa [flat_len] at this
    have e1:=flat_get .lcmd xs (k / 10) (k % 10) (by show k / 10 < xs.length;omega) (by show k % 10 < 10;omega)
    have e2:=flat_get .cmd xs (k / 10) (k % 10) (by omega) (by show k % 10 < 10;omega)
    have e3:k / 10 * 10+k % 10=k:=by omega
    rw [show k / 10 * Ty.sz .lcmd+k % 10=k from e3,hk] at e1
    rw [show k / 10 * Ty.sz .cmd+k % 10=k from e3] at e2
    have hj:k % 10 < 10:=by omega
    generalize hjj:k % 10=j at *
   ·have:∃ c',(Ty.cells .cmd (xs.getD (k / 10) (Ty.zero .cmd)))[j]?=some c':=⟨_,List.getElem?_eq_getElem (by rw [cells_len];exact hj)⟩
    obtain ⟨c',hc'⟩:=this
    exact h1 k c' (by rw [e2];exact hc')
   ·have h3:∀ c',(Ty.cells .cmd (xs.getD (k / 10) (Ty.zero .cmd)))[j]?=some c'->(flat .cmd xs)[k]?=some c':=fun c' h=>by rw [e2];exact h
    match j,hj with
    | 0,_=>cases e1;exact h2 k _ (h3 _ rfl)
    | 1,_=>cases e1;exact h2 k _ (h3 _ rfl)
    | 2,_=>cases e1;exact h2 k _ (h3 _ rfl)
    | 3,_=>cases e1;exact h2 k _ (h3 _ rfl)
    | 4,_=>cases e1;exact h2 k _ (h3 _ rfl)
    | 5,_=>cases e1;exact h2 k _ (h3 _ rfl)
    | 6,_=>cases e1;exact ih k _ (h3 _ rfl)
    | 7,_=>cases e1;exact ih k _ (h3 _ rfl)
    | 8,_=>cases e1;exact ih k _ (h3 _ rfl)
    | 9,_=>cases e1;exact ih k _ (h3 _ rfl)
  | fact=>exact .arr .lfact xs b off cap vs g hb (fun h=>by cases h) hl hc h1 h2
  | atom=>exact .arr .latom xs b off cap vs g hb (fun h=>by cases h) hl hc h1 h2
  | _=>trivial
 | fix t xs v h ih=>trivial
 | ne t xs v h h0 ih =>
  cases t with
  | cmd=>exact ih
  | _=>trivial
section
variable {P:Program} {E:Ty->TypeId} {tab:TypeId->Option TI} {hp:Nat->Bool} {gcs:Nat->Option (List Nat × List Nat)} {perm:Nat->List (List Nat)} {nr:Nat->Bool}
theorem fnN_at [Base] {K:FuncId->Option Con} {pts:FuncId->Option PT} (ht:TabOk P E tab) (hKA:KAll P E K) (hPA:PAll P E pts) (hmix:P.follows .mixedOrders=true) (hdr:∀ w0 M n,DrawSound P E tab K w0 M n) {f:FuncId} {fn:Func} {c:Code} {con:Con} (hf:P.funcs[f]?=some fn) (hb:fn.body=some c) (hn:con.aks.length<=fn.ntmps) (hn70:70<=fn.ntmps)
  (hok:codeOkN tab K hp perm nr fn.ntmps c=true) {ts tc:TypeId} {s1 s2 s3:Nat} {zc:Array Value} (hts:tab ts=some ⟨s1,s2,.sl true tc .cmd⟩)
  (htc:tab tc=some ⟨10,s3,.st [.sc (.int .i64 0),.sc (.int .i64 0),.sc (.int .i64 0),.sc (.bool false),.sc (.int .i64 0),.sc (.int .i64 0),.sl .fact,.sl .atom,.sl .cmd,.sl .cmd] [(0,1,false),(1,1,false),(2,1,false),(3,3,true),(6,2,true),(8,1,false),(9,1,false)]⟩)
  (hrg:RegsOk ts tc zc nr c)
  {anns:Args con.aks->Nat->Nat->St->Option Ann} (hvc:∀ x k,con.pre x->(hasRdr con.aks=true->k+con.cost x<=rdLimit)->vcN tab K pts hp gcs (anns x k) perm nr c (entry (encs con.aks x) (rdOf (hasRdr con.aks) k)) (retOk tab con fn.results.toList x k))
  {w0:World} (hB:w0.heap.size<=Base.n0) (ro0:Nat->Option (Array Value)) (ρ k:Nat) (x:Args con.aks) (vs:List Value) (id0:Nat) (hpre:con.pre x) (hin:ROin w0 ro0) (hrd:hasRdr con.aks=true->RdOk w0 ro0 ρ k/\k+con.cost x<=rdLimit) (hargs:ArgsR (argG ro0 ρ) (encs con.aks x) vs) :
  Calls P f vs.toArray w0 fun e w=>∃ v r g,e=.returned v/\con.post x r/\Ext (fun b=>hasRdr con.aks=true/\b=ρ) w0 w/\g.ρ=ρ/\ResOk E w0 w ro0 con.rks id0 r v g/\(hasRdr con.aks=true->RdStep w0 w ρ (k+con.cost x)):=by
 have hlen:vs.length=con.aks.length:=by
  rw [hargs.1]
  have:∀ (ks:List AK) (x:Args ks),(encs ks x).length=ks.length:=by
   intro ks
   induction ks with
   | nil=>intro x;rfl
   | cons k ks ih=>intro x;obtain ⟨x,xs⟩:=x;simp [encs,ih]
  exact this _ _
 have hrd1:hasRdr con.aks=true->RdOk w0 ro0 ρ k:=fun h=>(hrd h).1
 refine calls_of_wp hf hb ?_
 refine codeN_sound ht hKA hPA hmix (hdr _ _ _) OOk.none hts htc hn70 hB (fun _=>rfl) c _ _ _ (retOk tab con fn.results.toList x k) _ hrg hok (entry_rel hin hrd1 hargs (by omega)) (hvc x k hpre fun h=>(hrd h).2) ?_
 intro xk st' a' w' hr hk
 have fin:retOk tab con fn.results.toList x k .ret st'->a'.defers=[]/\∃ v,(results fn a'.tmps).run P w'=.ok v w'/\∃ v1 r g,Ending.returned v=.returned v1/\con.post x r/\Ext (fun b=>hasRdr con.aks=true/\b=ρ) w0 w'/\g.ρ=ρ/\ResOk E w0 w' ro0 con.rks id0 r v1 g/\(hasRdr con.aks=true->RdStep w0 w' ρ (k+con.cost x)):=by
  intro hv
  obtain ⟨v,h1,r,g,h2,h3,h4,h5,h6⟩:=exit_ok id0 ht hin hrd1 hr hv
  exact ⟨hr.defers,v,h1,v,r,g,rfl,h2,h3,h4,h5,h6⟩
 cases xk with
 | normal=>exact fin hk
 | ret=>exact fin hk
 | exit id=>exact hk.elim
theorem fn_okN [B:Base] {l:List (FuncId × Con)} {lp:List (FuncId × PT)} (ht:TabOk P E tab) (hmix:P.follows .mixedOrders=true) (hl:∀ B':Base,@AllOk B' P E l) (hlp:∀ B':Base,@AllPt B' P E lp) {f:FuncId} {fn:Func}
  {pre:Args [.rdr,.sl .lcmd]->Prop} {sem:(Args [.rdr,.sl .lcmd]->Args [.sl .cmd]) ⊕ (Args [.rdr,.sl .lcmd]->Args [.sl .cmd]->Prop)} {cost:Args [.rdr,.sl .lcmd]->Nat}
  (hf : P.funcs[f]? = some fn) (hb : fn.body = some (bodyOf fn)) (hname : (fn.name == "runtime.NumGoroutine") = false) (hn70 : 70 <= fn.ntmps)
  {ts tc:TypeId} {s1 s2 s3:Nat} {zc:Array Value} (hts:tab ts=some ⟨s1,s2,.sl true tc .cmd⟩)
  (htc:tab tc=some ⟨10,s3,.st [.sc (.int .i64 0),.sc (.int .i64 0),.sc (.int .i64 0),.sc (.bool false),.sc (.int .i64 0),.sc (.int .i64 0),.sl .fact,.sl .atom,.sl .cmd,.sl .cmd] [(0,1,false),(1,1,false),(2,1,false),(3,3,true),(6,2,true),(8,1,false),(9,1,false)]⟩)
  (hrg:RegsOk ts tc zc nr (bodyOf fn)) (hok:codeOkN tab (lookF l) hp perm nr fn.ntmps (bodyOf fn)=true)
  {anns:Args [.rdr,.sl .lcmd]->Nat->Nat->St->Option Ann}
  (hvc:∀ x k,pre x->(True->k+cost x<=rdLimit)->vcN tab (lookF l) (lookP lp) hp gcs (anns x k) perm nr (bodyOf fn) (entry (encs [.rdr,.sl .lcmd] x) (some k)) (retOk tab ⟨[.rdr,.sl .lcmd],[.sl .cmd],pre,sem,cost⟩ fn.results.toList x k))
  (htot:∀ x,pre x->∃ r,(⟨[.rdr,.sl .lcmd],[.sl .cmd],pre,sem,cost⟩:Con).post x r):FnOk P E f ⟨[.rdr,.sl .cmd],[.sl .cmd],pre,sem,cost⟩:=by
 refine ⟨⟨fn,_,hf,hname,hb⟩,fun w0 ro0 ρ k x vs id0 hpre hin hrd hargs=>?_,by cases sem <;> exact htot⟩
 let B':Base:=atB B w0 hin.1
 have hlow:B.n0<=B'.n0:=hin.1
 have key:=@fnN_at P E tab hp gcs perm nr B' (lookF l) (lookP lp) ht (@kall_of B' _ _ _ (hl B')) (@pall_of B' _ _ _ (hlp B')) hmix (fun _ _ _=>@draw_sound B' _ _ _ _ ht (@tab_small B' _ _ _ ht) (@kall_of B' _ _ _ (hl B')) hmix _ _ _) f fn _ ⟨[.rdr,.sl .lcmd],[.sl .cmd],pre,sem,cost⟩ hf hb (by show 2<=_;omega) hn70 hok ts tc s1 s2 s3 zc hts htc hrg anns
  (fun x k hp hk=>hvc x k hp fun _=>hk rfl) w0 (Nat.le_refl _) ro0 ρ k x vs id0 hpre ⟨Nat.le_refl _,hin.2⟩ (fun h=>?_) ?_
 ·refine Calls.mono key fun e w h=>?_
  obtain ⟨v,r,g,h1,h2,h3,h4,h5,h6⟩:=h
  exact ⟨v,r,g,h1,by cases sem <;> exact h2,h3,h4,@ResOk.mk B E w0 w ro0 [.sl .cmd] id0 r v g h5.ro h5.ro' (@S.R.low B' B hlow g _ v h5.val) (fun id q hq=>@ResR.low B' B hlow E w g id q (h5.res id q hq)) h5.new h5.dist,h6⟩
 ·obtain ⟨⟨hlim,hout,code,v,p,ty,hc,hd,hrest⟩,hle⟩:=hrd h
  exact ⟨⟨hlim,hout,code,v,p,ty,hc,DR.npm hd trivial,hrest⟩,hle⟩
 ·refine ⟨hargs.1,fun j s hj=>?_⟩
  match j,hj with
  | 0,hj =>
   cases hj
   obtain ⟨v,h1,h2⟩:=hargs.2 0 _ rfl
   exact ⟨v,h1,h2⟩
  | 1,hj =>
   cases hj
   obtain ⟨v,h1,h2⟩:=hargs.2 1 _ rfl
   refine ⟨v,h1,?_⟩
   have h3:=@DR.anywhere B ro0 (.arr .cmd x.2.1) v h2
   exact DR.npm (B1:=B) (B2:=B') h3 trivial
end
end Go.SE

namespace Go.SE
open Go.RowKit
theorem mut_le {xs:List GCmd} {k:Nat} {y:GCmd} (hk:k < xs.length) (hy:wtC y<=wtC (xs.getD k (Ty.zero .cmd))):(xs.set k y).length+wcL (xs.set k y)<=xs.length+wcL xs+17:=by
 have:=wcL_set (m:=0) hk (by omega)
 rw [List.length_set]
 omega
theorem mut_app {xs:List GCmd} {y:GCmd} {n:Nat} (h:wcL xs<=n) (hy:wtC y=0):wcL (xs ++ [y])<=n:=by
 rw [wcL_append,wcL_cons,wcL_nil,hy];omega
def zc0:Array Value:=(Ty.zvals .cmd).toArray
def regL:Code->List (Nat × Array Oper × Bool)
 | .region id ops draw=>[(id,ops,draw)]
 | .seq a b=>regL a ++ regL b
 | .block _ c=>regL c
 | .loop c=>regL c
 | .cond _ a b=>regL a ++ regL b
 | _=>[]
def nestReg (nr:Nat->Bool) (c:Code):Nat × Array Oper × Bool:=((regL c).filter fun p=>nr p.1).headD (0,#[],false)
def opSig (ops:Array Oper):List (Option Nat × Op × Option (Nat × Bool)):=(List.range 14).map fun i=>((ops.getD i default).dst,(ops.getD i default).op,(ops.getD i default).guard)
def depsB (ops:Array Oper):Bool:=(List.range 14).all fun i=>(nestDep i).all fun j=>(ops.getD i default).after.toList.any fun e=>Region.binds .any e && Nat.beq e.on j
theorem NestOps.of {ts tc:TypeId} {ops:Array Oper} (h1:ops.size=14) (h2:backOk ops=true) (h3:opSig ops=(nestTab ts tc zc0).map fun x=>(x.1,x.2.1,none)) (h4:depsB ops=true):NestOps ts tc zc0 ops:=by
 refine ⟨h1,h2,rfl,fun i d op deps h=>?_⟩
 have hi:i < 14:=(List.getElem?_eq_some_iff.1 h).1
 have hlt:i < ops.size:=by omega
 have e0:ops.getD i default=ops[i]:=by simp [Array.getD,hlt]
 have e1:(opSig ops)[i]?=some (d,op,none):=by rw [h3,List.getElem?_map,h];rfl
 have e2:(opSig ops)[i]?=some ((ops.getD i default).dst,(ops.getD i default).op,(ops.getD i default).guard):=by
  unfold opSig
  rw [List.getElem?_map,List.getElem?_range hi]
  rfl
 rw [e2] at e1
 injection e1 with e1
 injection e1 with f1 e1
 injection e1 with f2 f3
 refine ⟨ops[i],by simp [hlt],by rw [← e0];exact f1,by rw [← e0];exact f2,by rw [← e0];exact f3,fun j hj=>?_⟩
 unfold depsB at h4
 rw [List.all_eq_true] at h4
 have h5:=h4 i (List.mem_range.2 hi)
 have hd:nestDep i=deps:=by
  have h6:(nestTab 0 0 #[])[i]?.map (·.2.2)=(nestTab ts tc zc0)[i]?.map (·.2.2):=by
   match i,hi with
   | 0,_=>rfl
   | 1,_=>rfl
   | 2,_=>rfl
   | 3,_=>rfl
   | 4,_=>rfl
   | 5,_=>rfl
   | 6,_=>rfl
   | 7,_=>rfl
   | 8,_=>rfl
   | 9,_=>rfl
   | 10,_=>rfl
   | 11,_=>rfl
   | 12,_=>rfl
   | 13,_=>rfl
  unfold nestDep
  rw [h6,h]
  rfl
 rw [hd,List.all_eq_true] at h5
 have h6:=h5 j hj
 rw [List.any_eq_true] at h6
 obtain ⟨e,he,h7⟩:=h6
 rw [Bool.and_eq_true] at h7
 exact ⟨e,by rw [← e0];exact he,h7.1,Nat.eq_of_beq_eq_true h7.2⟩
theorem RegsOk.of {ts tc:TypeId} {nr:Nat->Bool} {c:Code} (hlen:((regL c).filter fun p=>nr p.1).length=1) (hd:(nestReg nr c).2.2=true) (h1:(nestReg nr c).2.1.size=14) (h2:backOk (nestReg nr c).2.1=true)
  (h3:opSig (nestReg nr c).2.1=(nestTab ts tc zc0).map fun x=>(x.1,x.2.1,none)) (h4:depsB (nestReg nr c).2.1=true):RegsOk ts tc zc0 nr c:=by
 have key:∀ p ∈ regL c,nr p.1=true->NestOps ts tc zc0 p.2.1/\p.2.2=true:=by
  intro p hp hn
  have hm:p ∈ (regL c).filter fun p=>nr p.1:=List.mem_filter.2 ⟨hp,hn⟩
  obtain ⟨q,hq⟩:∃ q,(regL c).filter (fun p=>nr p.1)=[q]:=by
   generalize (regL c).filter (fun p=>nr p.1)=l at hlen
   cases l with
   | nil=>cases hlen
   | cons q l=>cases l with
    | nil=>exact ⟨q,rfl⟩
    | cons _ _=>simp at hlen
  rw [hq,List.mem_singleton] at hm
  have e:nestReg nr c=p:=by unfold nestReg;rw [hq,hm];rfl
  rw [e] at hd h1 h2 h3 h4
  exact ⟨NestOps.of h1 h2 h3 h4,hd⟩
 clear hlen hd h1 h2 h3 h4
 induction c with
 | region id ops draw=>exact fun hn=>key (id,ops,draw) (List.mem_singleton.2 rfl) hn
 | seq a b iha ihb=>exact ⟨iha fun p hp=>key p (List.mem_append_left _ hp),ihb fun p hp=>key p (List.mem_append_right _ hp)⟩
 | cond _ a b iha ihb=>exact ⟨iha fun p hp=>key p (List.mem_append_left _ hp),ihb fun p hp=>key p (List.mem_append_right _ hp)⟩
 | block _ c ih=>exact ih key
 | loop c ih=>exact ih key
 | _=>trivial
end Go.SE

namespace Go.SE
mutual
def accC:GCmd->List GCmd
 | .mk k a b t i bo el=>.mk k a b t i bo el :: (accL bo ++ accL el)
def accL:List GCmd->List GCmd
 | []=>[]
 | c :: l=>accC c ++ accL l
end
theorem accC_eq (c:GCmd):accC c=c :: (accL c.body ++ accL c.els):=by cases c;simp [accC,GCmd.body,GCmd.els]
theorem accL_nil:accL []=[]:=by simp [accL]
theorem accL_cons (c:GCmd) (l):accL (c :: l)=accC c ++ accL l:=by simp [accL]
theorem accL_append (a b:List GCmd):accL (a ++ b)=accL a ++ accL b:=by
 induction a with
 | nil=>simp [accL]
 | cons c a ih=>simp only [List.cons_append,accL_cons,ih,List.append_assoc]
theorem accL_step {l:List GCmd} {i:Nat} {z:GCmd} (h:i < l.length):accL (l.take (i+1))=accL (l.take i) ++ (l.getD i z :: (accL (l.getD i z).body ++ accL (l.getD i z).els)):=by
 rw [take_step (d:=z) h,accL_append,accL_cons,accL_nil,List.append_nil,accC_eq]
def chgK (k:Int):Bool:=k == 1 || (k == 2 || k == 4)
def stF (f:List Bool) (c:GCmd):List Bool:=if chgK c.kind=true then f.set c.a.toNat true else f
def stS (s:Int) (c:GCmd):Int:=if chgK c.kind=true then tsWith s c.a else s
def chF (f:List Bool) (l:List GCmd):List Bool:=(accL l).foldl stF f
def chS (s:Int) (l:List GCmd):Int:=(accL l).foldl stS s
def chB (l:List GCmd) (t:Int):Bool:=(accL l).any fun c=>chgK c.kind && c.a == t
variable [Base]
theorem chF_nil (f:List Bool):chF f []=f:=by simp [chF,accL_nil]
theorem chS_nil (s:Int):chS s []=s:=by simp [chS,accL_nil]
theorem chF_step {f:List Bool} {l:List GCmd} {i:Nat} {z:GCmd} (h:i < l.length):chF f (l.take (i+1))=chF (chF (stF (chF f (l.take i)) (l.getD i z)) (l.getD i z).body) (l.getD i z).els:=by
 unfold chF
 rw [accL_step (z:=z) h,List.foldl_append,List.foldl_cons,List.foldl_append]
theorem chS_step {s:Int} {l:List GCmd} {i:Nat} {z:GCmd} (h:i < l.length):chS s (l.take (i+1))=chS (chS (stS (chS s (l.take i)) (l.getD i z)) (l.getD i z).body) (l.getD i z).els:=by
 unfold chS
 rw [accL_step (z:=z) h,List.foldl_append,List.foldl_cons,List.foldl_append]
theorem stF_len (f:List Bool) (c:GCmd):(stF f c).length=f.length:=by unfold stF;split <;> simp
theorem foldF_len:∀ (m:List GCmd) (f:List Bool),(m.foldl stF f).length=f.length:=by
 intro m
 induction m with
 | nil=>intro f;rfl
 | cons c m ih=>intro f;rw [List.foldl_cons,ih,stF_len]
theorem chF_len (f:List Bool) (l:List GCmd):(chF f l).length=f.length:=foldF_len _ _
theorem stS_bd {s:Int} (h:0<=s/\s < 512) (c:GCmd):0<=stS s c/\stS s c < 512:=by
 unfold stS
 split
 ·exact tsWith_bd h.1 h.2
 ·exact h
theorem foldS_bd:∀ (m:List GCmd) (s:Int),0<=s/\s < 512->0<=m.foldl stS s/\m.foldl stS s < 512:=by
 intro m
 induction m with
 | nil=>intro s h;exact h
 | cons c m ih=>intro s h;exact ih _ (stS_bd h c)
theorem chS_bd {s:Int} (h:0<=s/\s < 512) (l:List GCmd):0<=chS s l/\chS s l < 512:=foldS_bd _ _ h
structure OkA (l:List GCmd):Prop where
 all:∀ c ∈ accL l,chgK c.kind=true->1<=c.a/\c.a<=4
theorem OkA.get {l:List GCmd} (h:OkA l) {i:Nat} {z:GCmd} (hi:i < l.length):(chgK (l.getD i z).kind=true->1<=(l.getD i z).a/\(l.getD i z).a<=4)/\OkA (l.getD i z).body/\OkA (l.getD i z).els:=by
 have hm:∀ c ∈ accC (l.getD i z),c ∈ accL l:=by
  intro c hc
  have h1:=getD_mem' (d:=z) hi
  obtain ⟨l1,l2,hl⟩:=List.append_of_mem h1
  rw [hl,accL_append,accL_cons]
  exact List.mem_append_right _ (List.mem_append_left _ hc)
 rw [accC_eq] at hm
 exact ⟨h.all _ (hm _ (by simp)),⟨fun c hc=>h.all c (hm c (List.mem_cons_of_mem _ (List.mem_append_left _ hc)))⟩,⟨fun c hc=>h.all c (hm c (List.mem_cons_of_mem _ (List.mem_append_right _ hc)))⟩⟩
theorem fok_chg {c:GCmd} (h:fokC c=true) (hk:chgK c.kind=true):1<=c.a/\c.a<=4:=by
 unfold chgK at hk
 simp only [Bool.or_eq_true,beq_iff_eq] at hk
 unfold fokC at h
 rw [if_neg (by omega),if_neg (by omega)] at h
 unfold fokB at h
 rw [Bool.and_eq_true] at h
 have h2:=h.2
 rcases hk with hk | hk | hk <;> simp [hk,pvV] at h2 <;> omega
theorem okA_n:∀ n:Nat,∀ c:GCmd,ndC c<=n->∀ d,shC d c=true->∀ x ∈ accC c,chgK x.kind=true->1<=x.a/\x.a<=4:=by
 intro n
 induction n with
 | zero=>intro c h;rw [ndC_eq] at h;omega
 | succ n ih =>
  intro c h d hs x hx hk
  rw [ndC_eq] at h
  rw [shC_eq,Bool.and_eq_true,Bool.and_eq_true] at hs
  have key:∀ l:List GCmd,ndL l<=n->∀ d,shL d l=true->x ∈ accL l->1<=x.a/\x.a<=4:=by
   intro l
   induction l with
   | nil=>intro _ d _ hx;rw [accL_nil] at hx;cases hx
   | cons y l ihl =>
    intro hn d hd hx
    rw [ndL_cons] at hn
    rw [shL_cons] at hd
    simp only [Bool.and_eq_true,decide_eq_true_eq] at hd
    rw [accL_cons] at hx
    rcases List.mem_append.1 hx with hx | hx
    ·exact ih y (by omega) d hd.1.2 x hx hk
    ·exact ihl (by omega) d hd.2 hx
  rw [accC_eq] at hx
  rcases List.mem_cons.1 hx with rfl | hx
  ·exact fok_chg hs.1.1 hk
  ·rcases List.mem_append.1 hx with hx | hx
   ·exact key _ (by omega) _ hs.1.2 hx
   ·exact key _ (by omega) _ hs.2 hx
theorem okA_sh {d:Int} {l:List GCmd} (h:shL d l=true):OkA l:=by
 refine ⟨?_⟩
 induction l with
 | nil=>intro c hc;rw [accL_nil] at hc;cases hc
 | cons y l ih =>
  intro c hc hk
  rw [shL_cons] at h
  simp only [Bool.and_eq_true,decide_eq_true_eq] at h
  rw [accL_cons] at hc
  rcases List.mem_append.1 hc with hc | hc
  ·exact okA_n _ y (Nat.le_refl _) d h.1.2 c hc hk
  ·exact ih h.2 c hc hk
theorem okA_pr {l:List GCmd} (h:prV l=true):OkA l:=by
 unfold prV at h
 rw [Bool.and_eq_true] at h
 exact okA_sh h.1
theorem foldS_has {t:Int}:∀ (m:List GCmd) (s:Int),(∀ c ∈ m,chgK c.kind=true->isT c.a=true)->0<=s/\s < 512->tsHas (m.foldl stS s) t=(tsHas s t || m.any fun c=>chgK c.kind && c.a == t):=by
 intro m
 induction m with
 | nil=>intro s _ _;simp
 | cons c m ih =>
  intro s hm hs
  rw [List.foldl_cons,ih _ (fun c hc=>hm c (by simp [hc])) (stS_bd hs c),List.any_cons]
  unfold stS
  by_cases hk:chgK c.kind=true
  ·rw [if_pos hk,tsHas_with hs.1 (hm c (by simp) hk),hk,Bool.true_and,Bool.or_assoc]
  ·rw [if_neg hk]
   have:chgK c.kind=false:=by simpa using hk
   rw [this,Bool.false_and,Bool.false_or]
theorem foldF_get {t:Nat}:∀ (m:List GCmd) (f:List Bool),t < f.length->(∀ c ∈ m,chgK c.kind=true->0<=c.a)->(m.foldl stF f).getD t false=(f.getD t false || m.any fun c=>chgK c.kind && c.a == (t:Int)):=by
 intro m
 induction m with
 | nil=>intro f _ _;simp
 | cons c m ih =>
  intro f hf hm
  rw [List.foldl_cons,ih _ (by rw [stF_len];exact hf) (fun c hc=>hm c (by simp [hc])),List.any_cons,← Bool.or_assoc]
  congr 1
  unfold stF
  by_cases hk:chgK c.kind=true
  ·rw [if_pos hk,hk,Bool.true_and]
   have h0:=hm c (by simp) hk
   by_cases e:c.a.toNat=t
   ·subst e
    rw [getD_set_self hf]
    have:(c.a == ((c.a.toNat:Nat):Int))=true:=by rw [beq_iff_eq];omega
    rw [this,Bool.or_true]
   ·rw [List.getD_eq_getElem?_getD,List.getElem?_set_ne e,← List.getD_eq_getElem?_getD]
    have:(c.a == (t:Int))=false:=by rw [beq_eq_false_iff_ne];omega
    rw [this,Bool.or_false]
  ·rw [if_neg hk]
   have:chgK c.kind=false:=by simpa using hk
   rw [this,Bool.false_and,Bool.or_false]
theorem okA_isT {l:List GCmd} (h:OkA l):∀ c ∈ accL l,chgK c.kind=true->isT c.a=true:=fun c hc hk=>by
 have:=h.all c hc hk
 exact isT_iff.2 ⟨by omega,by omega⟩
theorem chS_has {l:List GCmd} (h:OkA l) (t:Int):tsHas (chS 0 l) t=chB l t:=by
 unfold chS chB
 rw [foldS_has _ _ (okA_isT h) (by omega),tsHas_zero,Bool.false_or]
theorem chF_fl {l:List GCmd} (h:OkA l):chF (List.replicate 9 false) l=fl9 (chB l):=by
 apply List.ext_getElem?
 intro j
 by_cases hj:j < 9
 ·have l1:j < (chF (List.replicate 9 false) l).length:=by rw [chF_len];simpa using hj
  have l2:j < (fl9 (chB l)).length:=by rw [fl9_len];exact hj
  rw [List.getElem?_eq_getElem l1,List.getElem?_eq_getElem l2]
  have e1:(chF (List.replicate 9 false) l).getD j false=chB l (j:Int):=by
   unfold chF chB
   rw [foldF_get _ _ (by simpa using hj) (fun c hc hk=>by have:=h.all c hc hk;omega)]
   have:(List.replicate 9 false).getD j false=false:=by
    rw [List.getD_eq_getElem?_getD,List.getElem?_replicate]
    split <;> rfl
   rw [this,Bool.false_or]
  have e2:=fl9_get (p:=chB l) (t:=(j:Int)) (isT_iff.2 ⟨by omega,by omega⟩)
  rw [Int.toNat_natCast] at e2
  rw [List.getD_eq_getElem?_getD,List.getElem?_eq_getElem l1] at e1
  rw [List.getD_eq_getElem?_getD,List.getElem?_eq_getElem l2] at e2
  have e1:(chF (List.replicate 9 false) l)[j]=chB l j:=e1
  have e2:(fl9 (chB l))[j]=chB l j:=e2
  rw [e1,e2]
 ·rw [List.getElem?_eq_none (by rw [chF_len];simp;omega),List.getElem?_eq_none (by rw [fl9_len];omega)]
def chT (l:List GCmd):List Int:=cond (prV l) (terms9.filter (chB l)) []
theorem chT_spec {l:List GCmd} (h:prV l=true):flL (chF (List.replicate 9 false) l)=chT l:=by
 rw [chF_fl (okA_pr h),flL_fl9,chT,h];rfl
theorem chT_impl {l:List GCmd} (h:prV l=true):tsLk (chS 0 l) 9=chT l:=by
 rw [tsLk_eq,chT,h,cond_true]
 exact List.filter_congr fun t _=>chS_has (okA_pr h) t
theorem chT_no {l:List GCmd} (h:prV l=false):chT l=[]:=by rw [chT,h];rfl
theorem chT_len (l:List GCmd):(chT l).length<=9:=by
 unfold chT
 cases prV l
 ·simp
 ·exact Nat.le_trans (List.length_filter_le _ _) (by decide)
theorem chB_rng {l:List GCmd} (h:OkA l) {t:Int} (hb:chB l t=true):1<=t/\t<=4:=by
 unfold chB at hb
 rw [List.any_eq_true] at hb
 obtain ⟨c,hc,hb⟩:=hb
 rw [Bool.and_eq_true,beq_iff_eq] at hb
 rw [← hb.2]
 exact h.all c hc hb.1
theorem chT_has {l:List GCmd} (t:Int):(chT l).contains t=(prV l && chB l t):=by
 unfold chT
 cases hp:prV l with
 | false=>rfl
 | true =>
  rw [cond_true,Bool.true_and,Bool.eq_iff_iff,List.contains_iff_mem,List.mem_filter]
  refine ⟨fun h=>h.2,fun h=>⟨?_,h⟩⟩
  have:=chB_rng (okA_pr hp) h
  have h4:t=1 ∨ t=2 ∨ t=3 ∨ t=4:=by omega
  rcases h4 with rfl | rfl | rfl | rfl <;> decide
theorem chT_rng {l:List GCmd} {t:Int} (h:(chT l).contains t=true):1<=t/\t<=4:=by
 rw [chT_has,Bool.and_eq_true] at h
 exact chB_rng (okA_pr h.1) h.2
theorem chB_cons (c:GCmd) (l:List GCmd) (t:Int):chB (c :: l) t=(chB [c] t || chB l t):=by
 unfold chB
 rw [accL_cons,accL_cons,accL_nil,List.append_nil,List.any_append]
theorem chB_any (l:List GCmd) (t:Int):chB l t=l.any fun c=>chB [c] t:=by
 induction l with
 | nil=>rfl
 | cons c l ih=>rw [chB_cons,ih];rfl
theorem prV_one {l:List GCmd} (h:prV l=true) {c:GCmd} (hc:c ∈ l):prV [c]=true:=by
 unfold prV at h ⊢
 rw [Bool.and_eq_true,decide_eq_true_eq] at h ⊢
 obtain ⟨h1,h2⟩:=h
 have h3:=(shL_iff 4 l).1 h1
 refine ⟨(shL_iff 4 [c]).2 ⟨.inr (by decide),fun x hx=>?_⟩,?_⟩
 ·rw [List.mem_singleton] at hx;subst hx;exact h3.2 x hc
 ·obtain ⟨l1,l2,rfl⟩:=List.append_of_mem hc
  rw [ndL_append,ndL_cons] at h2
  rw [ndL_cons,ndL_nil]
  omega
def smB (l:List GCmd) (t:Int):Bool:=l.any fun c=>(chT [c]).contains t
theorem smB_step {l:List GCmd} {i:Nat} {z:GCmd} {t:Int} (h:i < l.length):smB (l.take (i+1)) t=(smB (l.take i) t || (chT [l.getD i z]).contains t):=by
 unfold smB
 rw [take_step (d:=z) h,List.any_append,List.any_cons,List.any_nil,Bool.or_false]
theorem smB_all {l:List GCmd} (h:prV l=true) (t:Int):smB l t=(chT l).contains t:=by
 rw [chT_has,h,Bool.true_and,chB_any]
 unfold smB
 rw [Bool.eq_iff_iff,List.any_eq_true,List.any_eq_true]
 constructor
 ·rintro ⟨c,hc,h1⟩
  rw [chT_has,Bool.and_eq_true] at h1
  exact ⟨c,hc,h1.2⟩
 ·rintro ⟨c,hc,h1⟩
  exact ⟨c,hc,by rw [chT_has,prV_one h hc,Bool.true_and];exact h1⟩
theorem one_take {l:List GCmd} {i:Nat} {z:GCmd} (h:i < l.length):(l.drop i).take (i+1 - i)=[l.getD i z]:=by
 rw [show i+1 - i=1 from by omega,List.drop_eq_getElem_cons h,List.getD_eq_getElem?_getD,List.getElem?_eq_getElem h]
 rfl
theorem stS_yes {s:Int} {c:GCmd} (h:c.kind=1 ∨ c.kind=2 ∨ c.kind=4):stS s c=tsWith s c.a:=by
 unfold stS;rw [if_pos];unfold chgK;rcases h with h | h | h <;> rw [h] <;> rfl
theorem stS_no {s:Int} {c:GCmd} (h1:¬ c.kind=1) (h2:¬ c.kind=2) (h4:¬ c.kind=4):stS s c=s:=by
 unfold stS;rw [if_neg];unfold chgK;simp [h1,h2,h4]
theorem stF_yes {f:List Bool} {c:GCmd} (h:c.kind=1 ∨ c.kind=2 ∨ c.kind=4):stF f c=f.set c.a.toNat true:=by
 unfold stF;rw [if_pos];unfold chgK;rcases h with h | h | h <;> rw [h] <;> rfl
theorem stF_no {f:List Bool} {c:GCmd} (h1:¬ c.kind=1) (h2:¬ c.kind=2) (h4:¬ c.kind=4):stF f c=f:=by
 unfold stF;rw [if_neg];unfold chgK;simp [h1,h2,h4]
theorem chgK_yes {k:Int} (h:k=1 ∨ k=2 ∨ k=4):chgK k=true:=by
 unfold chgK;rcases h with h | h | h <;> rw [h] <;> rfl
theorem chS_y {s:Int} {l:List GCmd} {i:Nat} (hi:i < l.length) (h:(l.getD i (Ty.zero .cmd)).kind=1 ∨ (l.getD i (Ty.zero .cmd)).kind=2 ∨ (l.getD i (Ty.zero .cmd)).kind=4) :
  chS (chS (tsWith (chS s (l.take i)) (l.getD i (Ty.zero .cmd)).a) (l.getD i (Ty.zero .cmd)).body) (l.getD i (Ty.zero .cmd)).els=chS s (l.take (i+1)):=by
 rw [chS_step (z:=Ty.zero .cmd) hi,stS_yes h]
theorem chS_n {s:Int} {l:List GCmd} {i:Nat} (hi:i < l.length) (h1:¬ (l.getD i (Ty.zero .cmd)).kind=1) (h2:¬ (l.getD i (Ty.zero .cmd)).kind=2) (h4:¬ (l.getD i (Ty.zero .cmd)).kind=4) :
  chS (chS (chS s (l.take i)) (l.getD i (Ty.zero .cmd)).body) (l.getD i (Ty.zero .cmd)).els=chS s (l.take (i+1)):=by
 rw [chS_step (z:=Ty.zero .cmd) hi,stS_no h1 h2 h4]
theorem chF_y {f g:List Bool} {l:List GCmd} {i:Nat} (hi:i < l.length) (hg:g=chF f (l.take i)) (h:(l.getD i (Ty.zero .cmd)).kind=1 ∨ (l.getD i (Ty.zero .cmd)).kind=2 ∨ (l.getD i (Ty.zero .cmd)).kind=4) :
  chF (chF (g.set (l.getD i (Ty.zero .cmd)).a.toNat true) (l.getD i (Ty.zero .cmd)).body) (l.getD i (Ty.zero .cmd)).els=chF f (l.take (i+1)):=by
 rw [chF_step (z:=Ty.zero .cmd) hi,stF_yes h,hg]
theorem chF_n {f g:List Bool} {l:List GCmd} {i:Nat} (hi:i < l.length) (hg:g=chF f (l.take i)) (h1:¬ (l.getD i (Ty.zero .cmd)).kind=1) (h2:¬ (l.getD i (Ty.zero .cmd)).kind=2) (h4:¬ (l.getD i (Ty.zero .cmd)).kind=4) :
  chF (chF g (l.getD i (Ty.zero .cmd)).body) (l.getD i (Ty.zero .cmd)).els=chF f (l.take (i+1)):=by
 rw [chF_step (z:=Ty.zero .cmd) hi,stF_no h1 h2 h4,hg]
theorem take_all' {l:List GCmd} {i:Nat} (h:i<=l.length) (hn:¬ i < l.length):l.take i=l:=List.take_of_length_le (by omega)
theorem sub_get {l:List GCmd} (hB:BdL l) {i:Nat} (hi:i < l.length):BdL (l.getD i (Ty.zero .cmd)).body/\BdL (l.getD i (Ty.zero .cmd)).els/\ndL (l.getD i (Ty.zero .cmd)).body < ndL l/\ndL (l.getD i (Ty.zero .cmd)).els < ndL l:=by
 have h1:=(bcL_iff l).1 hB.all _ (getD_mem' (d:=Ty.zero .cmd) hi)
 have h2:=ndL_get (d:=Ty.zero .cmd) hi
 rw [ndC_eq] at h2
 exact ⟨h1.b,h1.e,by omega,by omega⟩
theorem chF_e2 {g f:List Bool} {l:List GCmd} {i:Nat} (h:g=chF f (l.take i)) (hf:f.length=9):g.length=9:=by rw [h,chF_len,hf]
theorem okA_0 {l:List GCmd} (hO:OkA l) {i:Nat} (hi:i < l.length) (h:(l.getD i (Ty.zero .cmd)).kind=1 ∨ (l.getD i (Ty.zero .cmd)).kind=2 ∨ (l.getD i (Ty.zero .cmd)).kind=4):0<=(l.getD i (Ty.zero .cmd)).a:=by
 have:=(hO.get hi).1 (chgK_yes h);omega
theorem okA_9 {l:List GCmd} (hO:OkA l) {i:Nat} (hi:i < l.length) (h:(l.getD i (Ty.zero .cmd)).kind=1 ∨ (l.getD i (Ty.zero .cmd)).kind=2 ∨ (l.getD i (Ty.zero .cmd)).kind=4) {g:List Bool} (hg:g.length=9):(l.getD i (Ty.zero .cmd)).a < (g.length:Int):=by
 have:=(hO.get hi).1 (chgK_yes h);omega
def cmdsAt (st:St) (x:Nat):List GCmd :=
 match st.env x with
 | .s (.c (.d (.arr .cmd xs)))=>xs
 | _=>[]
def flagAt (st:St) (k:Nat):Bool :=
 match st.env k with
 | .s (.c (.d (.val (.bool b))))=>b
 | _=>false
theorem one_sl {l:List GCmd} {i:Nat} (h:i < l.length):(l.drop i).take (((i:Int)+1).toNat - i)=[l.getD i (Ty.zero .cmd)]:=by
 rw [show ((i:Int)+1).toNat=i+1 from by omega]
 exact one_take h
theorem sm_y {l:List GCmd} {i:Nat} {t:Int} {a:Bool} (h:i < l.length) (ha:a=true) (hs:a=smB (l.take i) t):true=smB (l.take (i+1)) t:=by
 rw [smB_step (z:=Ty.zero .cmd) h,← hs,ha];rfl
theorem sm_n {l:List GCmd} {i:Nat} {t:Int} {a:Bool} (h:i < l.length) (ha:a=false) (hs:a=smB (l.take i) t):(chT ((l.drop i).take (((i:Int)+1).toNat - i))).contains t=smB (l.take (i+1)) t:=by
 rw [smB_step (z:=Ty.zero .cmd) h,← hs,ha,one_sl h];rfl
theorem one_bd {l:List GCmd} {i:Nat} (h:i < l.length) (hb:l.length+wcL l<=20100):BdL ((l.drop i).take (((i:Int)+1).toNat - i)):=by
 rw [one_sl h]
 have:=wcL_get (d:=Ty.zero .cmd) h
 refine small_bdL ?_
 rw [wcL_cons,wcL_nil]
 simp only [List.length_singleton]
 omega
theorem sm_end {l:List GCmd} {i:Nat} {t:Int} {a:Bool} (h:¬ i < l.length) (hs:a=smB (l.take i) t) (hp:prV l=true):a=(chT l).contains t:=by
 rw [hs,List.take_of_length_le (by omega),smB_all hp]
end Go.SE

namespace Go.SE
open Go.RowKit
section
variable (tab:TypeId->Option TI)
def lightT (o:Oper) (e:Nat->S):Option (Prop × S) :=
 match o.op with
 | .move (.tmp x)=>match e x with
  | .s (.c .nil)=>none
  | v=>some (True,v)
 | .indexAddr ty (.tmp x) (.tmp i)=>match tab ty,e i with
  | some ⟨_,_,.sl _ _ t⟩,.s (.c (.d (.val (.int _ k))))=>match xfix (e x) with
   | some _=>none
   | none=>match wkS (e x) with
    | .s (.c (.d (.arr t' xs)))=>match castL t t' xs with
     | some xs=>some (0<=k/\k < xs.length,.s (.c (.rp t xs k 0)))
     | none=>none
    | _=>none
  | _,_=>none
 | .fieldAddr ty (.tmp x) f=>match tab ty with
  | some ⟨_,_,.st _ fs⟩=>match fs[f]? with
   | some (off,_+1,_)=>match e x with
    | .s (.c (.rp t xs k o))=>some (True,.s (.c (.rp t xs k (o+off))))
    | _=>none
   | _=>none
  | _=>none
 | .load ty (.tmp x)=>match tab ty,e x with
  | some ti,.s (.c (.rp t xs k off))=>(dcellsAt ti.k ti.sz off (t.cells (xs.getD k.toNat t.zero))).map fun v=>(True,v)
  | _,_=>none
 | _=>none
def lightSl (o:Oper):List Nat :=
 match o.op with
 | .move (.tmp x)=>[x]
 | .indexAddr _ (.tmp x) (.tmp i)=>[x,i]
 | .fieldAddr _ (.tmp x) _=>[x]
 | .load _ (.tmp x)=>[x]
 | _=>[]
def tmpsL:List Operand->List Nat
 | []=>[]
 | .tmp x :: l=>x :: tmpsL l
 | _ :: l=>tmpsL l
def callSl (o:Oper):List Nat :=
 match o.op with
 | .call ⟨.value (.func _),args,_⟩=>tmpsL args.toList
 | _=>[]
theorem lightT_cg {o:Oper} {e e':Nat->S} (h:∀ x ∈ lightSl o,e' x=e x):lightT tab o e'=lightT tab o e:=by
 unfold lightT
 unfold lightSl at h
 split
 ·rename_i x ho;rw [ho] at h;rw [h x (by simp)]
 ·rename_i ty x i ho;rw [ho] at h;rw [h x (by simp),h i (by simp)]
 ·rename_i ty x f ho;rw [ho] at h;rw [h x (by simp)]
 ·rename_i ty x ho;rw [ho] at h;rw [h x (by simp)]
 ·rfl
def lightK (d:Option Nat) (st:St) (k:St->Prop):Option (Prop × S)->Prop
 | some (p,v)=>match d with
  | some d=>p/\k { st with env:=upd st.env d v }
  | none=>False
 | none=>False
variable (K:FuncId->Option Con) (pts:FuncId->Option PT)
def heavyK (o:Oper) (st:St) (k:St->Prop):Option (PT × List Operand)->Prop
 | some (pt,args)=>vcPt pt o.dst st k (argsS st args)
 | none=>match o.op with
  | .assign x=>vcOp tab K o st k
  | _=>False
def vcStepL (o:Oper) (st:St) (k:St->Prop):Bool->Prop
 | true=>lightK o.dst st k (lightT tab o st.env)
 | false=>heavyK tab K o st k (ptOf pts o)
def memN:Nat->List Nat->Bool
 | _,[]=>false
 | x,y :: l=>Nat.beq x y || memN x l
def vcOpsL (ops:Array Oper) (hv:List Nat):List Nat->St->(St->Prop)->Prop
 | [],st,k=>k st
 | i :: l,st,k=>match ops[i]? with
  | some o=>vcStepL tab K pts o st (fun s=>vcOpsL ops hv l s k) (!memN i hv)
  | none=>False
end
def Blind (pt:PT):Prop:=∀ args base st e (k k':S->St->Prop),(∀ s st',k s st'->∀ e',k' s { st' with env:=e' })->pt args base st k->pt args base { st with env:=e } k'
theorem lightK_mono {d:Option Nat} {st:St} {k k':St->Prop} (h:∀ s,k s->k' s) {q:Option (Prop × S)} (hq:lightK d st k q):lightK d st k' q:=by
 cases q with
 | none=>exact hq
 | some q =>
  obtain ⟨p,v⟩:=q
  cases d with
  | none=>exact hq
  | some d=>exact ⟨hq.1,h _ hq.2⟩
theorem upd_comm {α:Type} (f:Nat->α) {a b:Nat} (x y:α) (h:a ≠ b):upd (upd f a x) b y=upd (upd f b y) a x:=by
 funext j
 unfold upd
 by_cases h1:j=a
 ·subst h1
  rw [if_neg h,if_pos rfl,if_pos rfl]
 ·by_cases h2:j=b
  ·subst h2;rw [if_pos rfl,if_neg h1,if_pos rfl]
  ·rw [if_neg h2,if_neg h1,if_neg h1,if_neg h2]
theorem tmps_cg {st:St} {d:Nat} {v:S}:∀ {l:List Operand},memN d (tmpsL l)=false->argsS { st with env:=upd st.env d v } l=argsS st l:=by
 intro l
 induction l with
 | nil=>intro _;rfl
 | cons x l ih =>
  intro h
  cases x with
  | tmp t =>
   simp only [tmpsL,memN,Bool.or_eq_false_iff] at h
   have hne:t ≠ d:=fun e=>by rw [e] at h;have:=Nat.ne_of_beq_eq_false h.1;exact this rfl
   have e1:ev { st with env:=upd st.env d v } (.tmp t)=ev st (.tmp t):=by simp [ev,upd,hne]
   simp only [argsS,ih h.2,e1]
  | const c=>simp only [tmpsL] at h;simp only [argsS,ih h];rfl
  | func f=>simp only [tmpsL] at h;simp only [argsS,ih h];rfl
  | global g=>simp only [tmpsL] at h;simp only [argsS,ih h];rfl
theorem memN_false {x:Nat} {l:List Nat} (h:memN x l=false):x ∉ l:=by
 induction l with
 | nil=>simp
 | cons y l ih =>
  simp only [memN,Bool.or_eq_false_iff] at h
  intro hm
  rcases List.mem_cons.1 hm with e | hm
  ·exact Nat.ne_of_beq_eq_false h.1 e
  ·exact ih h.2 hm
def apartL2 (ops:Array Oper) (hv:List Nat) (i j:Nat):Bool :=
 match ops[i]?,ops[j]? with
 | some x,some y=>match x.dst,y.dst with
  | some dx,some dy=>!Nat.beq dx dy && (!memN dx (match memN j hv with
    | true=>callSl y
    | false=>lightSl y) && !memN dy (lightSl x))
  | _,_=>false
 | _,_=>false
section
variable {tab:TypeId->Option TI} {K:FuncId->Option Con} {pts:FuncId->Option PT}
theorem light_past (hbl:∀ f pt,pts f=some pt->Blind pt) {ops:Array Oper} {hv:List Nat} {i j:Nat} {x y:Oper} (hx:ops[i]?=some x) (hy:ops[j]?=some y) (hi:memN i hv=false) (hap:apartL2 ops hv i j=true) (hyc:memN j hv=true->(ptOf pts y).isSome=true)
  {st:St} {k:St->Prop} (h:vcStepL tab K pts x st (fun s=>vcStepL tab K pts y s k (!memN j hv)) (!memN i hv)):vcStepL tab K pts y st (fun s=>vcStepL tab K pts x s k (!memN i hv)) (!memN j hv):=by
 unfold apartL2 at hap
 rw [hx,hy] at hap
 simp only at hap
 split at hap
 ·rename_i dx dy hdx hdy
  simp only [Bool.and_eq_true,Bool.not_eq_true'] at hap
  obtain ⟨h1,h2,h3⟩:=hap
  have hne:dx ≠ dy:=Nat.ne_of_beq_eq_false h1
  rw [hi] at h ⊢
  simp only [Bool.not_false,vcStepL] at h ⊢
  cases hlx:lightT tab x st.env with
  | none=>rw [hlx] at h;exact h.elim
  | some q =>
   obtain ⟨p,v⟩:=q
   rw [hlx,hdx] at h
   obtain ⟨hp,h⟩:=h
   have xcg:∀ u,lightT tab x (upd st.env dy u)=some (p,v):=fun u=>by
    rw [← hlx]
    refine lightT_cg tab fun z hz=>?_
    have:z ≠ dy:=fun e=>by subst e;exact memN_false h3 hz
    simp [upd,this]
   cases hj:memN j hv with
   | false =>
    rw [hj] at h h2
    simp only [Bool.not_false,vcStepL] at h ⊢
    have ycg:lightT tab y (upd st.env dx v)=lightT tab y st.env:=lightT_cg tab fun z hz=>by
     have:z ≠ dx:=fun e=>by subst e;exact memN_false h2 hz
     simp [upd,this]
    rw [ycg] at h
    cases hly:lightT tab y st.env with
    | none=>rw [hly] at h;exact h.elim
    | some q2 =>
     obtain ⟨p2,v2⟩:=q2
     rw [hly,hdy] at h
     obtain ⟨hp2,h⟩:=h
     rw [hdy]
     refine ⟨hp2,?_⟩
     show lightK x.dst _ k (lightT tab x (upd st.env dy v2))
     rw [xcg,hdx]
     refine ⟨hp,?_⟩
     rw [upd_comm st.env v2 v (Ne.symm hne)]
     exact h
   | true =>
    rw [hj] at h h2
    simp only [Bool.not_true,vcStepL] at h ⊢
    have hyc:=hyc hj
    cases hpt:ptOf pts y with
    | none=>rw [hpt] at hyc;cases hyc
    | some q2 =>
     obtain ⟨pt,args⟩:=q2
     rw [hpt] at h
     simp only [heavyK] at h ⊢
     have hargs:args=(match y.op with
      | .call ⟨.value (.func _),args,_⟩=>args.toList
      | _=>[])/\∃ f,pts f=some pt/\callSl y=tmpsL args:=by
      unfold ptOf at hpt
      split at hpt
      ·rename_i f ar tys ho
       split at hpt
       ·rename_i pt' hq
        injection hpt with hpt
        injection hpt with e1 e2
        subst e1 e2
        refine ⟨by rw [ho],f,hq,?_⟩
        unfold callSl
        rw [ho]
       ·cases hpt
      ·cases hpt
     obtain ⟨-,f,hf,hcs⟩:=hargs
     simp only [hcs] at h2
     rw [tmps_cg h2] at h
     cases hss:argsS st args with
     | none=>rw [hss] at h;exact h.elim
     | some ss =>
      rw [hss] at h
      have h:pt ss (ptBase st.base (y.dst.getD 0)) { st with env:=upd st.env dx v } (fun s st'=>k (({ st with env:=upd st.env dx v }:St).back y.dst s st')):=h
      have:=hbl f pt hf ss _ _ st.env _ (fun s st'=>lightK (some dx) (st.back y.dst s st') k (lightT tab x (st.back y.dst s st').env)) (fun s st' hk e'=>?_) h
      ·rw [hdx]
       exact this
      ·rw [hdy] at hk ⊢
       show lightK (some dx) _ k (lightT tab x (upd st.env dy s))
       rw [xcg]
       refine ⟨hp,?_⟩
       show k _
       have e:({ (st.back (some dy) s { st' with env:=e' }) with env:=upd (upd st.env dy s) dx v }:St)=(({ st with env:=upd st.env dx v }:St).back (some dy) s st'):=by
        simp only [St.back]
        rw [upd_comm st.env s v (Ne.symm hne)]
       exact e ▸ hk
 ·cases hap
theorem light_extract (hbl:∀ f pt,pts f=some pt->Blind pt) {ops:Array Oper} {hv:List Nat} {j:Nat} {y:Oper} (hy:ops[j]?=some y) (hyc:memN j hv=true->(ptOf pts y).isSome=true) {l2:List Nat} {k:St->Prop} :
  ∀ {l1:List Nat} {st:St},(∀ i ∈ l1,memN i hv=false/\apartL2 ops hv i j=true)->vcOpsL tab K pts ops hv (l1 ++ j :: l2) st k->vcStepL tab K pts y st (fun s=>vcOpsL tab K pts ops hv (l1 ++ l2) s k) (!memN j hv):=by
 intro l1
 induction l1 with
 | nil =>
  intro st _ h
  simp only [List.nil_append,vcOpsL,hy] at h
  exact h
 | cons i l1 ih =>
  intro st hl h
  obtain ⟨hi,hap⟩:=hl i (by simp)
  simp only [List.cons_append,vcOpsL] at h
  cases hx:ops[i]? with
  | none=>rw [hx] at h;exact h.elim
  | some x =>
   rw [hx] at h
   simp only at h
   have h2:vcStepL tab K pts x st (fun s=>vcStepL tab K pts y s (fun s'=>vcOpsL tab K pts ops hv (l1 ++ l2) s' k) (!memN j hv)) (!memN i hv):=by
    rw [hi] at h ⊢
    simp only [Bool.not_false,vcStepL] at h ⊢
    exact lightK_mono (fun s hs=>ih (fun q hq=>hl q (by simp [hq])) hs) h
   have h3:=light_past hbl hx hy hi hap hyc h2
   have e:(fun s=>vcOpsL tab K pts ops hv (i :: l1 ++ l2) s k)=fun s=>vcStepL tab K pts x s (fun s'=>vcOpsL tab K pts ops hv (l1 ++ l2) s' k) (!memN i hv):=by
    funext s
    simp only [List.cons_append,vcOpsL,hx]
   rw [e]
   exact h3
theorem light_op [Base] {o:Oper} {st:St} {d:Nat} {p:Prop} {v:S} (hd:o.dst=some d) (h:lightT tab o st.env=some (p,v)) {k:St->Prop} (hp:p) (hk:k { st with env:=upd st.env d v }):vcOp tab K o st k:=by
 have key:trOp tab K o st=some (.one v) ∨ trOp tab K o st=some (.one v p):=by
  unfold lightT at h
  unfold trOp
  split at h
  ·rename_i x ho
   rw [ho]
   simp only [trMove,ev]
   split at h
   ·cases h
   ·rename_i hn
    injection h with h
    injection h with h1 h2
    subst h2
    left
    split
    ·rename_i e;exact (hn e).elim
    ·rfl
  ·rename_i ty x i ho
   rw [ho]
   simp only [trIndexAddr,ev]
   split at h
   ·rename_i e1 e2
    rw [e1,e2]
    simp only
    split at h
    ·cases h
    ·rename_i e3
     rw [e3]
     simp only
     split at h
     ·rename_i e4
      rw [e4]
      simp only
      split at h
      ·rename_i e5
       rw [e5]
       injection h with h
       injection h with h1 h2
       subst h1 h2
       exact .inr rfl
      ·cases h
     ·cases h
   ·cases h
  ·rename_i ty x f ho
   rw [ho]
   simp only [trFieldAddr,ev]
   split at h
   ·rename_i e1
    rw [e1]
    simp only
    split at h
    ·rename_i e2
     rw [e2]
     simp only
     split at h
     ·rename_i e3
      rw [e3]
      injection h with h
      injection h with h1 h2
      subst h2
      exact .inl rfl
     ·cases h
    ·cases h
   ·cases h
  ·rename_i ty x ho
   rw [ho]
   simp only [trLoad,ev]
   split at h
   ·rename_i e1 e2
    rw [e1,e2]
    simp only
    cases hc:dcellsAt _ _ _ _ with
    | none=>rw [hc] at h;cases h
    | some u =>
     rw [hc] at h
     injection h with h
     injection h with h1 h2
     subst h2
     exact .inl rfl
   ·cases h
  ·cases h
 unfold vcOp
 have e:∀ pre,St.app st o.dst (Tr.one v pre) ()={ st with env:=upd st.env d v }:=fun pre=>by
  rw [app_one,hd]
  rfl
 rcases key with h1 | h1
 ·rw [h1]
  refine ⟨True.intro,?_⟩
  show k (St.app st o.dst (Tr.one v) ())
  rw [e];exact hk
 ·rw [h1]
  refine ⟨hp,?_⟩
  show k (St.app st o.dst (Tr.one v p) ())
  rw [e];exact hk
variable {P:Program} {E:Ty->TypeId} {w0:World} {M:MM} {n:Nat}
variable [Base]
theorem stepL_sound (ht:TabOk P E tab) (hKA:KAll P E K) (hPA:PAll P E pts) {o:Oper} (hok:opOk o=true) {st:St} {a:Act} {w:World} (h:Rel E w0 M n st a w) (hd:∀ d,o.dst=some d->d < n) {b:Bool} {k:St->Prop} (hv:vcStepL tab K pts o st k b)
  {next:Act->World->Prop} {Q:Exit->Act->World->Prop} (hk:∀ st' a' w',Rel E w0 M n st' a' w'->k st'->next a' w'):o.wp P a w next Q:=by
 cases b with
 | true =>
  simp only [vcStepL] at hv
  cases hl:lightT tab o st.env with
  | none=>rw [hl] at hv;exact hv.elim
  | some q =>
   obtain ⟨p,v⟩:=q
   rw [hl] at hv
   cases hdst:o.dst with
   | none=>rw [hdst] at hv;exact hv.elim
   | some d =>
    rw [hdst] at hv
    exact vcOp_sound h ht hKA hd hok (light_op hdst hl hv.1 hv.2) hk
 | false =>
  simp only [vcStepL] at hv
  cases hp:ptOf pts o with
  | none =>
   rw [hp] at hv
   simp only [heavyK] at hv
   split at hv
   ·exact vcOp_sound h ht hKA hd hok hv hk
   ·exact hv.elim
  | some q =>
   obtain ⟨pt,args⟩:=q
   rw [hp] at hv
   unfold ptOf at hp
   split at hp
   ·rename_i f ar tys ho
    split at hp
    ·rename_i pt' hq
     injection hp with hp
     injection hp with e1 e2
     subst e1 e2
     exact snd_pt h hd (hPA f _ hq) ho hv hk
    ·cases hp
   ·cases hp
end
def depL (ops:Array Oper) (i:Nat):List Nat :=
 match ops[i]? with
 | some o=>(o.after.toList.filter (Region.binds .any)).map (·.on)
 | none=>[]
def reachB (ops:Array Oper):Nat->Nat->Nat->Bool
 | 0,_,_=>false
 | f+1,i,j=>(depL ops i).any fun d=>Nat.beq d j || reachB ops f d j
def pairsB (pts:FuncId->Option PT) (ops:Array Oper) (hv:List Nat):List Nat->Bool
 | []=>true
 | i :: l=>(l.all fun j=>reachB ops ops.size j i || (!memN i hv && (apartL2 ops hv i j && (!memN j hv || (match ops[j]? with
  | some o=>(ptOf pts o).isSome
  | none=>false))))) && pairsB pts ops hv l
def nodupB:List Nat->Bool
 | []=>true
 | i :: l=>!memN i l && nodupB l
def lightOk (pts:FuncId->Option PT) (ops:Array Oper) (hv ord:List Nat):Bool :=
 backOk ops && ((ops.toList.all fun o=>o.guard.isNone) && (pairsB pts ops hv ord && (nodupB ord && ((List.range ops.size).all (fun i=>memN i ord) && ord.all fun i=>Nat.blt i ops.size))))
theorem nodupB_ok:∀ {l:List Nat},nodupB l=true->l.Nodup:=by
 intro l
 induction l with
 | nil=>intro _;exact List.nodup_nil
 | cons x l ih =>
  intro h
  simp only [nodupB,Bool.and_eq_true,Bool.not_eq_true'] at h
  exact List.nodup_cons.2 ⟨memN_false h.1,ih h.2⟩
theorem memN_mem {x:Nat} {l:List Nat} (h:memN x l=true):x ∈ l:=by
 induction l with
 | nil=>cases h
 | cons y l ih =>
  simp only [memN,Bool.or_eq_true] at h
  rcases h with h | h
  ·rw [Nat.eq_of_beq_eq_true h];simp
  ·exact List.mem_cons_of_mem _ (ih h)
theorem pairsB_ok {pts:FuncId->Option PT} {ops:Array Oper} {hv:List Nat} {i j:Nat} {l2 l3:List Nat}:∀ {l1:List Nat},pairsB pts ops hv (l1 ++ i :: (l2 ++ j :: l3))=true ->
  reachB ops ops.size j i=true ∨ (memN i hv=false/\apartL2 ops hv i j=true/\(memN j hv=true->∃ o,ops[j]?=some o/\(ptOf pts o).isSome=true)):=by
 intro l1
 induction l1 with
 | nil =>
  intro h
  simp only [List.nil_append,pairsB,Bool.and_eq_true,List.all_eq_true] at h
  have h1:=h.1 j (by simp)
  simp only [Bool.or_eq_true,Bool.and_eq_true,Bool.not_eq_true'] at h1
  rcases h1 with h1 | ⟨h1,h2,h3⟩
  ·exact .inl h1
  ·refine .inr ⟨h1,h2,fun hj=>?_⟩
   rcases h3 with h3 | h3
   ·rw [hj] at h3;cases h3
   ·cases ho:ops[j]? with
    | none=>rw [ho] at h3;cases h3
    | some o=>rw [ho] at h3;exact ⟨o,rfl,h3⟩
 | cons x l1 ih =>
  intro h
  simp only [List.cons_append,pairsB,Bool.and_eq_true] at h
  exact ih h.2
theorem reach_closed {ops:Array Oper} {L:Nat->Bool} (hcl:∀ i,L i=true->∀ j ∈ depL ops i,L j=true):∀ (f i j:Nat),(∀ d ∈ depL ops i,L d=true)->reachB ops f i j=true->L j=true:=by
 intro f
 induction f with
 | zero=>intro i j _ h;cases h
 | succ f ih =>
  intro i j hi h
  simp only [reachB,List.any_eq_true] at h
  obtain ⟨d,hd,h⟩:=h
  rw [Bool.or_eq_true] at h
  rcases h with h | h
  ·rw [← Nat.eq_of_beq_eq_true h];exact hi d hd
  ·exact ih d j (hcl d (hi d hd)) h
section
variable [Base]
variable {P:Program} {E:Ty->TypeId} {tab:TypeId->Option TI} {K:FuncId->Option Con} {pts:FuncId->Option PT} {w0:World} {M:MM} {n:Nat}
theorem draw_light (ht:TabOk P E tab) (hKA:KAll P E K) (hPA:PAll P E pts) (hmix:P.follows .mixedOrders=true) (hbl:∀ f pt,pts f=some pt->Blind pt) {id:Nat} {ops:Array Oper} {hv ord:List Nat} (hok:lightOk pts ops hv ord=true) (hops:opsOk n ops.toList=true)
  {st:St} {a:Act} {w:World} {k:St->Prop} {Q:Exit->Act->World->Prop} (hrel:Rel E w0 M n st a w) (hvc:vcOpsL tab K pts ops hv ord st k) (hQ:∀ st' a' w',Rel E w0 M n st' a' w'->k st'->Q .normal a' w'):(Code.region id ops true).wp P Q a w:=by
 unfold lightOk at hok
 simp only [Bool.and_eq_true] at hok
 obtain ⟨hback,hg,hpairs,hnd,hall,hlt⟩:=hok
 have hnd:=nodupB_ok hnd
 rw [List.all_eq_true] at hall hlt
 have hin:∀ i,i < ops.size->i ∈ ord:=fun i hi=>memN_mem (hall i (List.mem_range.2 hi))
 refine region_raw (P:=P) (I:=fun L a w=>∃ st,Rel E w0 M n st a w/\vcOpsL tab K pts ops hv (ord.filter fun i=>!L i) st k) hmix hback (dep:=depL ops) (fun i hi=>?_) (fun i o L a' w' ho hL hdep hcl hI=>?_) (fun L a' w' hall' hI=>?_) ?_
 ·have ho:ops[i]?=some ops[i]:=by simp [hi]
  refine ⟨_,_,ops[i],ho,rfl,rfl,?_,fun j hj=>?_⟩
  ·rw [List.all_eq_true] at hg
   have:=hg ops[i] (by simp)
   cases hq:ops[i].guard with
   | none=>rfl
   | some q=>rw [hq] at this;cases this
  ·unfold depL at hj
   rw [ho] at hj
   obtain ⟨e,he,rfl⟩:=List.mem_map.1 hj
   obtain ⟨h1,h2⟩:=List.mem_filter.1 he
   exact ⟨e,h1,h2,rfl⟩
 ·obtain ⟨st,hr,hv2⟩:=hI
  have hi:i < ops.size:=(Array.getElem?_eq_some_iff.1 ho).1
  obtain ⟨l1,l2,hsp⟩:=List.append_of_mem (hin i hi)
  have hnd2:=hnd
  rw [hsp] at hnd2
  have hi1:i ∉ l1:=fun h=>(List.nodup_append.1 hnd2).2.2 i h i (by simp) rfl
  have hi2:i ∉ l2:=(List.nodup_cons.1 (List.nodup_append.1 hnd2).2.1).1
  have e1:ord.filter (fun x=>!L x)=(l1.filter fun x=>!L x) ++ i :: (l2.filter fun x=>!L x):=by
   rw [hsp,List.filter_append,List.filter_cons_of_pos (by rw [hL];rfl)]
  have ef:∀ (l:List Nat),i ∉ l->l.filter (fun x=>!(x == i || L x))=l.filter fun x=>!L x:=by
   intro l hl
   refine List.filter_congr fun x hx=>?_
   have:(x == i)=false:=by simp;exact fun e=>hl (e ▸ hx)
   rw [this,Bool.false_or]
  have e2:ord.filter (fun x=>!(x == i || L x))=(l1.filter fun x=>!L x) ++ (l2.filter fun x=>!L x):=by
   rw [hsp,List.filter_append,List.filter_cons_of_neg (by simp),ef l1 hi1,ef l2 hi2]
  rw [e1] at hv2
  have hfree:∀ x ∈ l1.filter (fun x=>!L x),memN x hv=false/\apartL2 ops hv x i=true/\(memN i hv=true->∃ o,ops[i]?=some o/\(ptOf pts o).isSome=true):=by
   intro x hx
   obtain ⟨hx1,hx2⟩:=List.mem_filter.1 hx
   obtain ⟨m1,m2,hm⟩:=List.append_of_mem hx1
   have hpp:=hpairs
   rw [hsp,hm,List.append_assoc] at hpp
   rcases pairsB_ok (l1:=m1) (i:=x) (l2:=m2) (j:=i) (l3:=l2) hpp with h | h
   ·have:=reach_closed hcl _ i x hdep h
    rw [this] at hx2;cases hx2
   ·exact h
  have hyc:l1.filter (fun x=>!L x) ≠ []->memN i hv=true->(ptOf pts o).isSome=true:=by
   intro hne hh
   obtain ⟨x,hx⟩:=List.exists_mem_of_ne_nil _ hne
   obtain ⟨o',ho',hp⟩:=(hfree x hx).2.2 hh
   rw [ho] at ho'
   injection ho' with ho'
   subst ho'
   exact hp
  have hstep:vcStepL tab K pts o st (fun s=>vcOpsL tab K pts ops hv ((l1.filter fun x=>!L x) ++ (l2.filter fun x=>!L x)) s k) (!memN i hv):=by
   by_cases hne:l1.filter (fun x=>!L x)=[]
   ·rw [hne] at hv2 ⊢
    simp only [List.nil_append,vcOpsL,ho] at hv2
    exact hv2
   ·exact light_extract hbl ho (hyc hne) (fun x hx=>⟨(hfree x hx).1,(hfree x hx).2.1⟩) hv2
  obtain ⟨hok1,hok2⟩:=opsOk_mem hops o (by have:=Array.mem_of_getElem? ho;simpa using this)
  refine stepL_sound ht hKA hPA hok1 hr hok2 hstep fun st' a'' w'' hr' hk'=>⟨st',hr',?_⟩
  rw [e2]
  exact hk'
 ·obtain ⟨st,hr,hv2⟩:=hI
  have e:ord.filter (fun i=>!L i)=[]:=by
   refine List.filter_eq_nil_iff.2 fun i hi=>?_
   rw [hall' i (Nat.le_of_ble_eq_true (hlt i hi))]
   simp
  rw [e] at hv2
  exact hQ st a' w' hr hv2
 ·refine ⟨st,hrel.drawn,?_⟩
  have e:ord.filter (fun _=>!false)=ord:=List.filter_eq_self.2 fun _ _=>rfl
  rw [e]
  exact hvc
end
end Go.SE

namespace Go.SE
variable [Base]
open Go.RowKit
structure CCon where
 k1:List AK
 t:Ty
 k2:List AK
 pre:Args k1->List t.den->Args k2->Prop
 out:Args k1->List t.den->Args k2->List t.den
def ptCk {t:Ty} (pre:Prop) (ys:List t.den) (fam id base:Nat) (ids:List Nat) (st:St) (k:S->St->Prop):Prop :=
 st.sp id=false/\st.fr id=false/\notSpent st ids/\notIn id ids/\st.rd=none/\st.mem base=none/\pre /\
  k (.s (.c (.own base))) { st with mem:=upd (upd (kill fam id st.mem) id (some .dead)) base (some (.sl base t ys)),fr:=sets st.fr ids }
def ptC4 (c:CCon) (base:Nat) (st:St) (k:S->St->Prop) (x1:Args c.k1) (x2:Args c.k2) (id:Nat) (ids:List Nat):Option Res->Prop
 | some (.sl fam t' xs)=>match castL c.t t' xs with
  | some xs=>ptCk (c.pre x1 xs x2) (c.out x1 xs x2) fam id base ids st k
  | none=>False
 | _=>False
def ptC3 (c:CCon) (base:Nat) (st:St) (k:S->St->Prop) (x1:Args c.k1) (id:Nat) (ids:Option (List Nat)) (x2:Option (Args c.k2)):Prop :=
 match ids,x2 with
 | some ids,some x2=>ptC4 c base st k x1 x2 id ids (st.mem id)
 | _,_=>False
def ptC2 (c:CCon) (args:List S0) (base:Nat) (st:St) (k:S->St->Prop) (x1:Option (Args c.k1)):Option S0->Prop
 | some (.c (.own id))=>match x1 with
  | some x1=>ptC3 c base st k x1 id (ownsC st.mem (refsAr (args.take c.k1.length ++ args.drop (c.k1.length+1)))) (decs st.mem c.k2 (args.drop (c.k1.length+1)))
  | none=>False
 | _=>False
def ptC (c:CCon):PT:=fun args base st k=>ptC2 c args base st k (decs st.mem c.k1 (args.take c.k1.length)) args[c.k1.length]?
section
variable {P:Program} {E:Ty->TypeId} {tab:TypeId->Option TI} {K:FuncId->Option Con} {pts:FuncId->Option PT} {hp:Nat->Bool} {perm:Nat->List (List Nat)}
def isoStC (c:CCon) (x1:Args c.k1) (xs:List c.t.den) (x2:Args c.k2):St :=
 { env:=envOf (encs c.k1 x1 ++ .c (.own 7) :: encs c.k2 x2) 0,mem:=upd (fun _=>none) 7 (some (.sl 7 c.t xs)),sp:=fun _=>false,fr:=fun _=>false,base:=16,rd:=none }
def isoC (t:Ty) (ys:List t.den) (st:St):List S0->Prop
 | [.c (.own k)]=>isoM t ys (st.mem k)/\st.sp k=false/\st.fr k=false
 | _=>False
def isoQC (tab:TypeId->Option TI) (c:CCon) (rvs:List ResultVar) (x1:Args c.k1) (xs:List c.t.den) (x2:Args c.k2):XK->St->Prop
 | .exit _,_=>False
 | _,st=>match loadsS tab st rvs with
  | some ss=>isoC c.t (c.out x1 xs x2) st ss
  | none=>False
abbrev CCon.lim (c:CCon) (mu:Args c.k1->List c.t.den->Args c.k2->Nat) (m:Nat):CCon:={ c with pre:=fun x l y=>c.pre x l y/\mu x l y < m }
theorem ptC_lim {c:CCon} (mu:Args c.k1->List c.t.den->Args c.k2->Nat) {args:List S0} {base:Nat} {st:St} {k:S->St->Prop} (h:ptC c args base st k):∃ m,ptC (c.lim mu m) args base st k:=by
 unfold ptC ptC2 at h
 split at h
 ·rename_i id hid
  split at h
  ·rename_i x1 hx1
   unfold ptC3 at h
   split at h
   ·rename_i ids x2 hids hx2
    unfold ptC4 at h
    split at h
    ·rename_i fam t' xs hm
     split at h
     ·rename_i xs' hc
      obtain ⟨a1,a2,a3,a4,a5,a6,a7,a8⟩:=h
      refine ⟨mu x1 xs' x2+1,?_⟩
      have e4:ptC4 (c.lim mu (mu x1 xs' x2+1)) base st k x1 x2 id ids (st.mem id):=by
       rw [hm]
       unfold ptC4
       dsimp only
       split
       ·rename_i ys hys
        have hy2:castL c.t t' xs=some ys:=hys
        rw [hc] at hy2
        cases hy2
        exact ⟨a1,a2,a3,a4,a5,a6,⟨a7,Nat.lt_succ_self _⟩,a8⟩
       ·rename_i hys
        have hy2:castL c.t t' xs=none:=hys
        rw [hc] at hy2
        cases hy2
      have e3:ptC3 (c.lim mu (mu x1 xs' x2+1)) base st k x1 id (ownsC st.mem (refsAr (args.take c.k1.length ++ args.drop (c.k1.length+1)))) (decs st.mem c.k2 (args.drop (c.k1.length+1))):=by
       rw [hids,hx2];exact e4
      show ptC2 (c.lim mu (mu x1 xs' x2+1)) args base st k (decs st.mem c.k1 (args.take c.k1.length)) args[c.k1.length]?
      rw [hid,hx1]
      exact e3
     ·exact h.elim
    ·exact h.elim
   ·exact h.elim
  ·exact h.elim
 ·exact h.elim
theorem ptC_zero {c:CCon} {mu:Args c.k1->List c.t.den->Args c.k2->Nat} {args:List S0} {base:Nat} {st:St} {k:S->St->Prop} (h:ptC (c.lim mu 0) args base st k):False:=by
 unfold ptC ptC2 at h
 split at h
 ·split at h
  ·unfold ptC3 at h
   split at h
   ·unfold ptC4 at h
    split at h
    ·split at h
     ·obtain ⟨_,_,_,_,_,_,a7,_⟩:=h
      exact absurd a7.2 (Nat.not_lt_zero _)
     ·exact h
    ·exact h
   ·exact h
  ·exact h
 ·exact h
theorem ptC_rec {f : FuncId} {c : CCon} {mu : Args c.k1 -> List c.t.den -> Args c.k2 -> Nat} (h : ∀ m, PTOk P E f (ptC (c.lim mu m)) -> PTOk P E f (ptC (c.lim mu (m + 1)))) (h0 : ∃ fn b, P.funcs[f]? = some fn /\ (fn.name == "runtime.NumGoroutine") = false /\ fn.body = some b) : PTOk P E f (ptC c) := by
 have all:∀ m,PTOk P E f (ptC (c.lim mu m)):=by
  intro m
  induction m with
  | zero=>exact ⟨h0,fun _ _ _ _ _ _ _ _ _ _ _ _ _ hv=>(ptC_zero hv).elim⟩
  | succ m ih=>exact h m ih
 refine ⟨h0,fun w0 M g st w args vs base k h1 h2 h3 h4 hv=>?_⟩
 obtain ⟨m,hv'⟩:=ptC_lim mu hv
 exact (all m).call w0 M g st w args vs base k h1 h2 h3 h4 hv'
end
end Go.SE

namespace Go.SE
variable [Base]
open Go.RowKit
def lrK (tab:TypeId->Option TI) (K:FuncId->Option Con) (pts:FuncId->Option PT) (ops:Array Oper) (st:St) (k:St->Prop) (h:Bool) (p:List (List Nat)):Option (List Nat × List Nat)->Prop
 | some (hv,ord)=>vcOpsL tab K pts ops hv ord st k
 | none=>vcRegP tab K pts ops st k h p
section
variable (tab:TypeId->Option TI) (K:FuncId->Option Con) (pts:FuncId->Option PT) (hp:Nat->Bool) (gcs:Nat->Option (List Nat × List Nat)) (anns:Nat->St->Option Ann) (perm:Nat->List (List Nat)) (lr:Nat->Option (List Nat × List Nat))
def vcL:Code->St->(XK->St->Prop)->Prop
 | .skip,st,Q=>Q .normal st
 | .region id ops _,st,Q=>lrK tab K pts ops st (Q .normal) (hp id) (perm id) (lr id)
 | .seq a b,st,Q=>vcL a st (seqK (fun st'=>gcQ st' (fun s=>vcL b s Q) (gcs (firstReg b))) Q)
 | .cond c a b,st,Q=>condK (vcL a st Q) (vcL b st Q) (ev st c)
 | .block id c,st,Q=>vcL c st (blockK id Q)
 | .loop c,st,Q=>vcLoopQ (fun st' Q'=>vcL c st' Q') st Q (anns (firstReg c) st)
 | .exit id,st,Q=>Q (.exit id) st
 | .ret,st,Q=>Q .ret st
 | _,_,_=>False
end
def codeOkL (tab:TypeId->Option TI) (K:FuncId->Option Con) (pts:FuncId->Option PT) (hp:Nat->Bool) (perm:Nat->List (List Nat)) (lr:Nat->Option (List Nat × List Nat)) (n:Nat):Code->Bool
 | .region id ops draw=>match lr id with
  | some (hv,ord)=>draw && (lightOk pts ops hv ord && opsOk n ops.toList)
  | none=>codeOkP tab K hp perm n (.region id ops draw)
 | .seq a b=>codeOkL tab K pts hp perm lr n a && codeOkL tab K pts hp perm lr n b
 | .block _ c=>codeOkL tab K pts hp perm lr n c
 | .loop c=>codeOkL tab K pts hp perm lr n c
 | .cond _ a b=>codeOkL tab K pts hp perm lr n a && codeOkL tab K pts hp perm lr n b
 | _=>true
def AllBlind:List (FuncId × PT)->Prop
 | []=>True
 | (_,p) :: l=>Blind p/\AllBlind l
theorem blind_of:∀ {l:List (FuncId × PT)},AllBlind l->∀ f pt,lookP l f=some pt->Blind pt:=by
 intro l
 induction l with
 | nil=>intro _ f pt h;cases h
 | cons p l ih =>
  intro h f pt hf
  obtain ⟨a,b⟩:=p
  simp only [lookP] at hf
  split at hf
  ·injection hf with hf;subst hf;exact h.1
  ·exact ih h.2 f pt hf
theorem ptC_blind (c:CCon):Blind (ptC c):=by
 intro args base st e k k' hk h
 unfold ptC ptC2 at h ⊢
 split at h
 ·split at h
  ·unfold ptC3 at h ⊢
   split at h
   ·unfold ptC4 at h ⊢
    split at h
    ·split at h
     ·obtain ⟨a1,a2,a3,a4,a5,a6,a7,a8⟩:=h
      rename_i e1 _ _ e2 _ _ _ _ e3 e4 _ _ _ _ e5 _ _ e6
      simp only [e1,e2,e3,e4,e5,e6]
      exact ⟨a1,a2,(notSpent_ag (st:=st) (st':={ st with env:=e }) fun _ _=>rfl).mpr a3,a4,a5,a6,a7,hk _ _ a8 e⟩
     ·exact h.elim
    ·exact h.elim
   ·exact h.elim
  ·exact h.elim
 ·exact h.elim
section
variable {P:Program} {E:Ty->TypeId} {tab:TypeId->Option TI} {K:FuncId->Option Con} {pts:FuncId->Option PT} {hp:Nat->Bool} {gcs:Nat->Option (List Nat × List Nat)} {anns:Nat->St->Option Ann} {perm:Nat->List (List Nat)} {lr:Nat->Option (List Nat × List Nat)} {w0:World} {M:MM} {n:Nat}
open Classical in
theorem codeL_sound (ht:TabOk P E tab) (hKA:KAll P E K) (hPA:PAll P E pts) (hmix:P.follows .mixedOrders=true) (hdr:DrawSound P E tab K w0 M n) (hOO:OOk (fun _=>none) M) (hbl:∀ f pt,pts f=some pt->Blind pt):∀ (c:Code) (st:St) (a:Act) (w:World) (Qs:XK->St->Prop) (Q:Exit->Act->World->Prop),codeOkL tab K pts hp perm lr n c=true->Rel E w0 M n st a w->vcL tab K pts hp gcs anns perm lr c st Qs ->
  (∀ x st' a' w',Rel E w0 M n st' a' w'->Qs x st'->Q x.exit' a' w')->c.wp P Q a w:=by
 have hO:=hOO
 intro c
 induction c with
 | skip=>intro st a w Qs Q _ h hv hQ;exact _root_.Go.wp_skip (hQ .normal st a w h hv)
 | region id ops draw =>
  intro st a w Qs Q hok h hv hQ
  simp only [vcL] at hv
  cases hlr:lr id with
  | some q =>
   obtain ⟨hvs,ord⟩:=q
   rw [hlr] at hv
   simp only [lrK] at hv
   simp only [codeOkL,hlr,Bool.and_eq_true] at hok
   obtain ⟨hdw,hl,hops⟩:=hok
   subst hdw
   exact draw_light ht hKA hPA hmix hbl hl hops h hv fun st' a' w' hr hk=>hQ .normal st' a' w' hr hk
  | none =>
  rw [hlr] at hv
  simp only [lrK] at hv
  simp only [codeOkL,hlr,codeOkP,Bool.and_eq_true] at hok
  obtain ⟨hok1,hok2⟩:=hok
  cases hh:hp id with
  | false =>
   rw [hh] at hv hok2
   cases hpm:perm id with
   | nil =>
    rw [hpm] at hv hok2
    simp only [vcRegP,vcReg] at hv
    simp only at hok2
    cases draw with
    | false=>exact wp_region_list (seq_sound ht hKA (fun st' a' w' hr hk=>hQ .normal st' a' w' hr hk) ops.toList st a w (opsOk_mem hok1) h hv)
    | true=>exact hdr id ops st a w _ Q (by simpa using hok2) hok1 h hv fun st' a' w' hr hk=>hQ .normal st' a' w' hr hk
   | cons l ls =>
    rw [hpm] at hv hok2
    simp only [vcRegP,vcReg] at hv
    simp only [Bool.and_eq_true,permOk,List.all_eq_true] at hok2
    obtain ⟨hd,hp1,hp2⟩:=hok2
    subst hd
    refine wp_region_any hmix (any_sound ht hKA hok1 (fun st' a' w' hr hk=>hQ .normal st' a' w' hr hk) _ _ st a _ hp1 h.drawn fun x hx=>vcEach_mem hv x ?_)
    have:=hp2 x hx
    simpa using this
  | true =>
   rw [hh] at hv hok2
   cases hpm:perm id with
   | nil =>
    rw [hpm] at hv hok2
    simp only [vcRegP] at hv
    simp only [Bool.not_eq_true'] at hok2
    subst hok2
    exact wp_region_list (seqP_sound ht hKA hPA (fun st' a' w' hr hk=>hQ .normal st' a' w' hr hk) ops.toList st a w (opsOk_mem hok1) h hv)
   | cons l ls =>
    rw [hpm] at hv hok2
    cases ls with
    | cons l' ls =>
     rcases l with _ | ⟨i0,l⟩
     ·rcases l' with _ | ⟨s1,_ | ⟨s2,_ | ⟨_,_⟩⟩⟩
      ·cases hok2
      ·cases hok2
      ·rcases ls with _ | ⟨_,_⟩
       ·simp only [vcRegP] at hv
        simp only [Bool.and_eq_true] at hok2
        obtain ⟨hd,hdl⟩:=hok2
        subst hd
        exact draw_swap (pts:=pts) ht (tab_small ht) hKA hmix hdl hok1 h hv fun st' a' w' hr hk=>hQ .normal st' a' w' hr hk
       ·cases hok2
      ·cases hok2
     ·cases hok2
    | nil =>
    cases l with
    | nil =>
     simp only [vcRegP] at hv
     simp only [Bool.and_eq_true] at hok2
     obtain ⟨hd,hdl⟩:=hok2
     subst hd
     exact draw_last ht (tab_small ht) hKA hPA hmix hdl hok1 h hv fun st' a' w' hr hk=>hQ .normal st' a' w' hr hk
    | cons i0 l =>
     simp only [vcRegP] at hv
     simp only [Bool.and_eq_true,permOk,List.all_eq_true] at hok2
     obtain ⟨hd,hp1,hp2⟩:=hok2
     subst hd
     refine wp_region_any hmix (one_sound ht hKA hPA hok1 (fun st' a' w' hr hk=>hQ .normal st' a' w' hr hk) _ (i0 :: l) _ st a _ hp1 (fun x hx=>?_) h.drawn hv)
     have:=hp2 x hx
     simpa using this
 | seq x y ihx ihy =>
  intro st a w Qs Q hok h hv hQ
  simp only [codeOkL,Bool.and_eq_true] at hok
  refine wp_seq (ihx st a w _ _ hok.1 h hv fun k st' a' w' hr hk=>?_)
  cases k with
  | normal =>
   simp only [seqK] at hk
   have hk2:=gcQ_ok (k':=fun s=>vcL tab K pts hp gcs anns perm lr y s Qs) (fun _ h=>h) hk
   unfold gcK at hk2
   split at hk2
   ·exact ihy st' a' w' Qs Q hok.2 hr hk2 hQ
   ·exact ihy _ a' w' Qs Q hok.2 (hr.gc hO hk2.1) hk2.2 hQ
  | exit id=>exact hQ (.exit id) st' a' w' hr hk
  | ret=>exact hQ .ret st' a' w' hr hk
 | cond cnd x y ihx ihy =>
  intro st a w Qs Q hok h hv hQ
  simp only [codeOkL,Bool.and_eq_true] at hok
  simp only [vcL] at hv
  unfold condK at hv
  split at hv
  ·rename_i t he
   have hval:=(ev_val h he).1
   cases t with
   | true=>exact wp_cond_true hval (ihx st a w Qs Q hok.1 h (vcIf_t hv) hQ)
   | false=>exact wp_cond_false hval (ihy st a w Qs Q hok.2 h (vcIf_f hv) hQ)
  ·exact hv.elim
 | block id x ih =>
  intro st a w Qs Q hok h hv hQ
  refine wp_block (ih st a w _ _ hok h hv fun k st' a' w' hr hk=>?_)
  cases k with
  | normal=>exact hQ .normal st' a' w' hr hk
  | exit id' =>
   simp only [XK.exit',Exit.inBlock]
   simp only [blockK] at hk
   split
   ·rename_i e;rw [if_pos e] at hk;exact hQ .normal st' a' w' hr hk
   ·rename_i e;rw [if_neg e] at hk;exact hQ (.exit id') st' a' w' hr hk
  | ret=>exact hQ .ret st' a' w' hr hk
 | loop x ih =>
  intro st a w Qs Q hok h hv hQ
  simp only [vcL] at hv
  unfold vcLoopQ at hv
  split at hv
  ·exact hv.elim
  ·rename_i α ok mu i0 nx live sets mids blks owns rd base hA
   obtain ⟨⟨ho0,hf0⟩,hround⟩:=hv
   let α0:α:=i0 st
   let hd:α->St:=fun α=>SE.headP (fun _=>none) live (sets α) mids (blks α) (owns α) base (rd st.rd α) st
   have hex:∀ (a:Act) (w:World),(∃ α,ok α/\Rel E w0 M n (hd α) a w)->∃ m,∃ α,ok α/\Rel E w0 M n (hd α) a w/\mu α=m :=
    fun a w ⟨α,h1,h2⟩=>⟨_,α,h1,h2,rfl⟩
   let μ:Act->World->Nat:=fun a w=>if hh:∃ m,∃ α,ok α/\Rel E w0 M n (hd α) a w/\mu α=m then Classical.choose (least hh) else 0
   refine wp_loop (fun a w=>∃ α,ok α/\Rel E w0 M n (hd α) a w) μ ⟨α0,ho0,h.headP hO (fitsQ_ok hf0)⟩ ?_
   intro a w hI
   have hh:=hex a w hI
   obtain ⟨α,h1,h2,h3⟩:=(Classical.choose_spec (least hh)).1
   have hμ:μ a w=mu α:=by simp only [μ,dif_pos hh];exact h3.symm
   refine ih _ a w _ _ hok h2 (hround α h1) fun k st' a' w' hr hk=>?_
   cases k with
   | normal =>
    obtain ⟨g1,g2,g3⟩:=hk
    have hrel:Rel E w0 M n (hd (nx α st')) a' w':=hr.headP hO (fitsQ_ok g3)
    refine ⟨⟨nx α st',g1,hrel⟩,?_⟩
    have hh':∃ m,∃ α,ok α/\Rel E w0 M n (hd α) a' w'/\mu α=m:=⟨_,nx α st',g1,hrel,rfl⟩
    have:μ a' w'<=mu (nx α st'):=by simp only [μ,dif_pos hh'];exact (Classical.choose_spec (least hh')).2 _ ⟨nx α st',g1,hrel,rfl⟩
    omega
   | exit id=>exact hQ (.exit id) st' a' w' hr hk
   | ret=>exact hQ .ret st' a' w' hr hk
 | exit id=>intro st a w Qs Q _ h hv hQ;exact wp_exit (hQ (.exit id) st a w h hv)
 | ret=>intro st a w Qs Q _ h hv hQ;exact wp_ret (hQ .ret st a w h hv)
 | _=>intro st a w Qs Q _ h hv hQ;exact hv.elim
theorem iso_callL (ht:TabOk P E tab) (hKA:KAll P E K) (hPA:PAll P E pts) (hmix:P.follows .mixedOrders=true) (hbl:∀ f pt,pts f=some pt->Blind pt) (hdr:∀ w0 M n,DrawSound P E tab K w0 M n) {f:FuncId} {fn:Func} (hf:P.funcs[f]?=some fn) (hb:fn.body=some (bodyOf fn)) {c:CCon} (hn:c.k1.length+c.k2.length+1<=fn.ntmps)
  (hok:codeOkL tab K pts hp perm lr fn.ntmps (bodyOf fn)=true) {anns:Args c.k1->List c.t.den->Args c.k2->Nat->St->Option Ann}
  (hvc:∀ x1 xs x2,c.pre x1 xs x2->vcL tab K pts hp (fun _=>none) (anns x1 xs x2) perm lr (bodyOf fn) (isoStC c x1 xs x2) (isoQC tab c fn.results.toList x1 xs x2))
  {w:World} {ro:Nat->Option (Array Value)} {ρ:Nat} {x1:Args c.k1} {xs:List c.t.den} {x2:Args c.k2} (hpre:c.pre x1 xs x2) {vs1 vs2:List Value} {v:Value} (hin:ROin w ro) (h1:ArgsR (argG ro ρ) (encs c.k1 x1) vs1) (h2:ArgsR (argG ro ρ) (encs c.k2 x2) vs2)
  (hone:v.oneCell'=true) (hv:ResR E w { ro,κ:=fun _=>v,ln:=fun _=>xs.length,ρ } 7 (.sl 7 c.t xs)) (hvb:∀ b,blkOf v=some b->ro b=none) (hvn:∀ b,blkOf v=some b->Base.n0<=b) :
  Calls P f (vs1 ++ v :: vs2).toArray w fun e w'=>∃ u ro',e=.returned u/\u.oneCell'=true/\Ext (fun b=>blkOf v=some b) w w'/\ROin w' ro'/\(∀ b vs,ro b=some vs->ro' b=some vs)/\(∀ b vs,ro' b=some vs->ro b=some vs ∨ w.heap.size<=b ∨ blkOf v=some b) /\
   ResR E w' { ro:=ro',κ:=fun _=>u,ln:=fun _=>(c.out x1 xs x2).length,ρ } 7 (.sl 7 c.t (c.out x1 xs x2))/\∀ b,blkOf u=some b->(w.heap.size<=b ∨ blkOf v=some b)/\ro' b=none:=by
 let M:MM:=⟨fun b=>blkOf v=some b,ro,ρ,fun _=>none,fun _=>none,ro⟩
 let g:G:={ ro,κ:=fun id=>if id=7 then v else undef,ln:=fun id=>if id=7 then xs.length else 0,ρ }
 have one:∀ id r,(isoStC c x1 xs x2).mem id=some r->id=7/\r=.sl 7 c.t xs:=by
  intro id r h
  simp only [isoStC,upd] at h
  split at h
  ·rename_i e;injection h with h;exact ⟨e,h.symm⟩
  ·cases h
 have hκ:∀ b,blkOf (g.κ 7)=some b->blkOf v=some b:=fun b h=>h
 have hgood:Good E w M g (isoStC c x1 xs x2) w:=by
  refine ⟨Ext.refl _ _,hin.2,?_,?_,?_,?_,(fun m hm=>by cases hm),(fun h=>(h rfl).elim),(fun b vs hb=>.inl hb),⟨rfl,hin.1,fun b hb=>.inl (hvn b hb)⟩,(fun _ _ h=>by cases h),⟨(fun _ _ h=>by cases h),fun b vs hb=>hb⟩⟩
  ·intro id r h
   obtain ⟨rfl,rfl⟩:=one id r h
   exact hv
  ·intro i j r s hi hj hij
   exact (hij ((one i r hi).1.trans (one j s hj).1.symm)).elim
  ·intro id r h _ b hb
   rw [(one id r h).1] at hb
   exact .inr (hκ b hb)
  ·intro id r h _ b hb _ _
   rw [(one id r h).1] at hb
   exact hvb b (hκ b hb)
 have hOO:OOk (fun _=>none) M:=⟨fun _ _ h=>(by cases h),fun _ h=>(by rcases h with h | h <;> cases h),fun _ h=>(by cases h)⟩
 have hargs:∀ (j:Nat) (s:S0),(encs c.k1 x1 ++ .c (.own 7) :: encs c.k2 x2)[j]?=some s->∃ u,(vs1 ++ v :: vs2)[j]?=some u/\s.R g u/\∀ id ∈ s.refs,id=7:=by
  intro j s hj
  have l1:=h1.1
  by_cases hlt:j < (encs c.k1 x1).length
  ·rw [List.getElem?_append_left hlt] at hj
   obtain ⟨u,hu,hr⟩:=h1.2 j s hj
   have hrf:=encs_refs c.k1 x1 j s hj
   exact ⟨u,by rw [List.getElem?_append_left (by omega)];exact hu,S0.R.mono (g:=argG ro ρ) (g':=g) (fun _ _ h=>h) rfl (fun id hid=>by rw [hrf] at hid;cases hid) hr,fun id hid=>by rw [hrf] at hid;cases hid⟩
  ·rw [List.getElem?_append_right (by omega)] at hj
   rw [List.getElem?_append_right (by omega)]
   have hjj:j - vs1.length=j - (encs c.k1 x1).length:=by rw [l1]
   rw [hjj]
   cases hm:j - (encs c.k1 x1).length with
   | zero =>
    rw [hm] at hj
    simp at hj
    subst hj
    exact ⟨v,rfl,⟨rfl,hone⟩,fun id hid=>by simpa [S0.refs,CV.refs] using hid⟩
   | succ i =>
    rw [hm] at hj
    have hj:(encs c.k2 x2)[i]?=some s:=by simpa using hj
    obtain ⟨u,hu,hr⟩:=h2.2 i s hj
    have hrf:=encs_refs c.k2 x2 i s hj
    exact ⟨u,by simpa using hu,S0.R.mono (g:=argG ro ρ) (g':=g) (fun _ _ h=>h) rfl (fun id hid=>by rw [hrf] at hid;cases hid) hr,fun id hid=>by rw [hrf] at hid;cases hid⟩
 have hvl:(vs1 ++ v :: vs2).length=(encs c.k1 x1 ++ S0.c (.own 7) :: encs c.k2 x2).length:=by simp [h1.1,h2.1]
 have hel:(encs c.k1 x1 ++ S0.c (.own 7) :: encs c.k2 x2).length<=fn.ntmps:=by simp [encs_len];omega
 have hrel:Rel E w M fn.ntmps (isoStC c x1 xs x2) { tmps:=(vs1 ++ v :: vs2).toArray ++ Array.replicate (fn.ntmps - (vs1 ++ v :: vs2).toArray.size) undef,defers:=[] } w:=by
  refine ⟨⟨?_,?_⟩,by simp at hvl hel ⊢;omega,rfl,g,hgood,?_⟩
  ·intro j id hid
   have e:(isoStC c x1 xs x2).env j=envOf (encs c.k1 x1 ++ .c (.own 7) :: encs c.k2 x2) 0 j:=rfl
   rw [e] at hid
   rcases envOf_cases (encs c.k1 x1 ++ .c (.own 7) :: encs c.k2 x2) 0 j with h3 | ⟨i,s,h3,_,h5⟩
   ·rw [h3] at hid;simp [SE.junk,S.refs,S0.refs,CV.refs] at hid
   ·rw [h5] at hid
    obtain ⟨_,_,_,h6⟩:=hargs i s h3
    have:=h6 id hid
    subst this
    rfl
  ·intro j r h id hid
   obtain ⟨rfl,rfl⟩:=one j r h
   simp [Res.refs] at hid
  ·intro j
   have e:(isoStC c x1 xs x2).env j=envOf (encs c.k1 x1 ++ .c (.own 7) :: encs c.k2 x2) 0 j:=rfl
   rw [e]
   rcases envOf_cases (encs c.k1 x1 ++ .c (.own 7) :: encs c.k2 x2) 0 j with h3 | ⟨i,s,h3,h4,h5⟩
   ·rw [h3];trivial
   ·rw [h5]
    obtain ⟨u,hu,hr,_⟩:=hargs i s h3
    have hj:j=i:=by omega
    subst hj
    have hlt:j < (vs1 ++ v :: vs2).length:=(List.getElem?_eq_some_iff.1 hu).1
    have:((vs1 ++ v :: vs2).toArray ++ Array.replicate (fn.ntmps - (vs1 ++ v :: vs2).toArray.size) undef).getD j undef=u:=by
     rw [Array.getD_eq_getD_getElem?,Array.getElem?_append_left (by simpa using hlt),List.getElem?_toArray,hu];rfl
    show S.R _ _ (((vs1 ++ v :: vs2).toArray ++ Array.replicate (fn.ntmps - (vs1 ++ v :: vs2).toArray.size) undef).getD j undef)
    rw [this]
    exact hr
 refine calls_of_wp hf hb ?_
 refine codeL_sound ht hKA hPA hmix (hdr _ _ _) hOO hbl (bodyOf fn) _ _ _ _ _ hok hrel (hvc x1 xs x2 hpre) ?_
 intro xk st' a' w' hr hk
 have fin:isoQC tab c fn.results.toList x1 xs x2 .ret st'->a'.defers=[]/\∃ u,(results fn a'.tmps).run P w'=.ok u w'/\∃ u' ro',Ending.returned u=.returned u'/\u'.oneCell'=true/\Ext (fun b=>blkOf v=some b) w w'/\ROin w' ro'/\(∀ b vs,ro b=some vs->ro' b=some vs)/\(∀ b vs,ro' b=some vs->ro b=some vs ∨ w.heap.size<=b ∨ blkOf v=some b) /\
   ResR E w' { ro:=ro',κ:=fun _=>u',ln:=fun _=>(c.out x1 xs x2).length,ρ } 7 (.sl 7 c.t (c.out x1 xs x2))/\∀ b,blkOf u'=some b->(w.heap.size<=b ∨ blkOf v=some b)/\ro' b=none:=by
  intro hk
  unfold isoQC at hk
  simp only at hk
  split at hk
  ·rename_i ss hload
   unfold isoC at hk
   split at hk
   ·rename_i k'
    obtain ⟨hm7,hsp,hfr⟩:=hk
    obtain ⟨g',hg',henv⟩:=hr.good
    obtain ⟨us,hrun,hus,_⟩:=loads_run (P:=P) ht hg' henv hr.cl hload
    obtain ⟨u,hu,hur⟩:=hus.2 0 _ rfl
    have hus1:us=[u]:=by
     have hl:=hus.1
     match us,hl with
     | [q],_=>simp at hu;rw [hu]
    subst hus1
    have hres:=results_run (fn:=fn) hrun
    obtain ⟨huκ,hone'⟩:u=g'.κ k'/\u.oneCell'=true:=hur
    unfold isoM at hm7
    split at hm7
    ·rename_i fam t' ys hm
     obtain ⟨ht',hq⟩:=castL_eq hm7
     subst ht'
     cases hq
     obtain ⟨hln,hR⟩:=hg'.res k' _ hm
     refine ⟨hr.defers,u,hres,u,g'.ro,rfl,hone',hg'.ext,hg'.roin,hg'.keep.2,fun b vs hb=>?_,⟨rfl,?_⟩,fun b hb=>⟨?_,?_⟩⟩
     ·rcases hg'.roo b vs hb with h | h | h
      ·exact .inl h
      ·exact .inr (.inl h)
      ·exact .inr (.inr h)
     ·rw [← huκ] at hR
      exact hR
     ·exact hg'.fresh k' _ hm trivial b (by rw [← huκ];exact hb)
     ·exact hg'.wro k' _ hm trivial b (by rw [← huκ];exact hb) hsp hfr
    ·exact hm7.elim
   ·exact hk.elim
  ·exact hk.elim
 cases xk with
 | normal=>exact fin hk
 | ret=>exact fin hk
 | exit id=>exact hk.elim
theorem ptC_okL (ht : TabOk P E tab) (hKA : KAll P E K) (hPA : PAll P E pts) (hmix : P.follows .mixedOrders = true) (hbl : ∀ f pt, pts f = some pt -> Blind pt) (hdr : ∀ w0 M n, DrawSound P E tab K w0 M n) {f : FuncId} {fn : Func} (hf : P.funcs[f]? = some fn) (hb : fn.body = some (bodyOf fn)) (hname : (fn.name == "runtime.NumGoroutine") = false) {c : CCon} (hn : c.k1.length + c.k2.length + 1 <= fn.ntmps)
  (hok:codeOkL tab K pts hp perm lr fn.ntmps (bodyOf fn)=true) {anns:Args c.k1->List c.t.den->Args c.k2->Nat->St->Option Ann}
  (hvc:∀ x1 xs x2,c.pre x1 xs x2->vcL tab K pts hp (fun _=>none) (anns x1 xs x2) perm lr (bodyOf fn) (isoStC c x1 xs x2) (isoQC tab c fn.results.toList x1 xs x2)):PTOk P E f (ptC c):=by
 refine ⟨⟨fn,_,hf,hname,hb⟩,?_⟩
 intro w0 M g st w args vs base k hg hcl hrefs hargs hv
 unfold ptC ptC2 at hv
 split at hv
 ·rename_i id hid
  split at hv
  ·rename_i x1 hx1
   unfold ptC3 at hv
   split at hv
   ·rename_i ids x2 hids hx2
    unfold ptC4 at hv
    split at hv
    ·rename_i fam t' xs0 hm
     split at hv
     ·rename_i xs hcast
      obtain ⟨ht',hq⟩:=castL_eq hcast
      subst ht'
      cases hq
      obtain ⟨hsp,hfr,hns,hni,hrd,hbase,hpre,hk⟩:=hv
      rw [refsAr_eq] at hids
      obtain ⟨rfl,hsl⟩:=ownsC_mem hids
      have hnotin:id ∉ refsT (args.take c.k1.length ++ args.drop (c.k1.length+1)):=notIn_mem hni
      obtain ⟨ro',hro,hdr',hg1⟩:=hg.freeze (refsT (args.take c.k1.length ++ args.drop (c.k1.length+1))) fun i hi=>⟨notSpent_mem hns i hi,hsl i hi⟩
      have hlent:∀ i ∈ refsT (args.take c.k1.length ++ args.drop (c.k1.length+1)),Lent st.mem g.κ ro' i:=by
       intro i hi
       refine ⟨fun f t xs hmm=>hdr' i hi f t xs hmm,fun t xs hmm=>?_⟩
       obtain ⟨f,t',xs',hm'⟩:=hsl i hi
       rw [hmm] at hm';cases hm'
      have hlt:c.k1.length < args.length:=(List.getElem?_eq_some_iff.1 hid).1
      have hvl:=hargs.1
      obtain ⟨v,hv0,hvr⟩:=hargs.2 c.k1.length _ hid
      obtain ⟨hvκ,hvone⟩:v=g.κ id/\v.oneCell'=true:=hvr
      have happ:∀ (l1 l2:List S0),refsT (l1 ++ l2)=refsT l1 ++ refsT l2:=by
       intro l1 l2
       induction l1 with
       | nil=>rfl
       | cons x l ih=>simp [refsT,ih]
      have hA1:ArgsR g (args.take c.k1.length) (vs.take c.k1.length):=by
       refine ⟨by simp [hvl],fun j s hj=>?_⟩
       have hj1:j < c.k1.length:=by
        have:=(List.getElem?_eq_some_iff.1 hj).1
        simp at this;omega
       rw [List.getElem?_take_of_lt hj1] at hj ⊢
       exact hargs.2 j s hj
      have hA2:ArgsR g (args.drop (c.k1.length+1)) (vs.drop (c.k1.length+1)):=by
       refine ⟨by simp [hvl],fun j s hj=>?_⟩
       rw [List.getElem?_drop] at hj ⊢
       exact hargs.2 _ s hj
      have hB1:=decs_R (ro':=ro') hro hx1 hA1 fun i hi=>hlent i (by rw [happ];exact List.mem_append_left _ hi)
      have hB2:=decs_R (ro':=ro') hro hx2 hA2 fun i hi=>hlent i (by rw [happ];exact List.mem_append_right _ hi)
      have hfr1:({ st with fr:=sets st.fr (refsT (args.take c.k1.length ++ args.drop (c.k1.length+1))) }:St).fr id=false:=by
       show sets st.fr _ id=false
       rw [sets_get,hfr]
       simp [hnotin]
      have hvb:∀ b,blkOf v=some b->ro' b=none:=fun b hb'=>hg1.wro id _ hm trivial b (by show blkOf (g.κ id)=some b;rw [← hvκ];exact hb') hsp hfr1
      have hRes:ResR E w { ro:=ro',κ:=fun _=>v,ln:=fun _=>xs.length,ρ:=g.ρ } 7 (.sl 7 c.t xs):=by
       obtain ⟨hln,hR⟩:=hg1.res id _ hm
       have hR:((g.κ id=.slice none 0 0/\xs=[]) ∨ ∃ b cap cur,g.κ id=.slice (some ⟨b,0,none⟩) xs.length cap/\w.heap[b]?=some (.cells cur (E c.t) (0,0))/\xs.length<=cap/\CapOk c.t xs.length cap cur/\cur.size=cap * c.t.sz/\RowR ro' (flat c.t xs) cur 0):=hR
       rw [← hvκ] at hR
       exact ⟨rfl,hR⟩
      have hvs:vs=vs.take c.k1.length ++ v :: vs.drop (c.k1.length+1):=by
       have h1:vs.drop c.k1.length=v :: vs.drop (c.k1.length+1):=by
        rw [List.drop_eq_getElem_cons (by omega)]
        congr 1
        rw [List.getElem?_eq_getElem (by omega)] at hv0
        injection hv0
       rw [← h1,List.take_append_drop]
      rw [hvs]
      refine Calls.mono (iso_callL ht hKA hPA hmix hbl hdr hf hb hn hok hvc (ρ:=g.ρ) hpre hg1.roin hB1 hB2 hvone hRes hvb (fun b hb=>hg.nb hm trivial (by rw [← hvκ];exact hb))) fun e w' he=>?_
      obtain ⟨u,ro2,rfl,hone2,hext,hin2,hmono,hroo,hR2,hblk⟩:=he
      obtain ⟨g2,hg2⟩:∃ g2:G,g2={ ro:=ro2,κ:=fun i=>if i=base then u else g.κ i,ln:=fun i=>if i=base then (c.out x1 xs x2).length else g.ln i,ρ:=g.ρ }:=⟨_,rfl⟩
      obtain ⟨st2,hst2⟩:∃ st2:St,st2={ st with mem:=upd (upd (kill fam id st.mem) id (some .dead)) base (some (.sl base c.t (c.out x1 xs x2))),fr:=sets st.fr (refsT (args.take c.k1.length ++ args.drop (c.k1.length+1))) }:=⟨_,rfl⟩
      rw [← hst2] at hk
      have hidb:id ≠ base:=fun e=>by rw [e,hbase] at hm;cases hm
      have κo:∀ i,(st.mem i).isSome=true->g2.κ i=g.κ i/\g2.ln i=g.ln i:=fun i hi=>by
       have:i ≠ base:=fun e=>by rw [e,hbase] at hi;cases hi
       rw [hg2];simp [this]
      have κb:g2.κ base=u/\g2.ln base=(c.out x1 xs x2).length:=by rw [hg2];simp
      have hro2:g2.ro=ro2:=by rw [hg2]
      have hmono2:∀ b vs,g.ro b=some vs->ro2 b=some vs:=fun b vs h=>hmono b vs (hro b vs h)
      -- what lives afterwards
      have memc:∀ i r,st2.mem i=some r->r.live->(i=base/\r=.sl base c.t (c.out x1 xs x2)) ∨ (i ≠ base/\i ≠ id/\st.mem i=some r/\∀ t ys,r ≠ .sl fam t ys):=by
       intro i r hi hl
       rw [hst2] at hi
       rcases upd_cases hi with ⟨h1,h2⟩ | ⟨h1,h2⟩
       ·exact .inl ⟨h1,h2⟩
       ·rcases upd_cases h2 with ⟨_,h4⟩ | ⟨h3,h4⟩
        ·subst h4;exact hl.elim
        ·refine .inr ⟨h1,h3,?_⟩
         unfold kill at h4
         split at h4
         ·rename_i f t xs' hmi
          split at h4
          ·injection h4 with h4;subst h4;exact hl.elim
          ·rename_i hne
           injection h4 with h4
           subst h4
           exact ⟨hmi,fun t' ys e=>by injection e with e1;exact hne ⟨h3,e1⟩⟩
         ·rename_i hno
          exact ⟨h4,fun t' ys e=>by subst e;exact hno _ _ _ h4⟩
      have hother:∀ i r,st.mem i=some r->r.live->i ≠ id->(∀ t ys,r ≠ .sl fam t ys)->∀ b,blkOf (g.κ i)=some b->b < w.heap.size/\blkOf v ≠ some b:=by
       intro i r hi hl hne hnf b hb
       refine ⟨(hg.res i r hi).lt hl hb,fun e=>?_⟩
       obtain ⟨f,t,xs1,ys1,e1,e2,_⟩:=hg.sep i id r _ hi hm hne hl trivial b hb (by rw [← hvκ];exact e)
       injection e2 with e3
       subst e3
       exact hnf _ _ e1
      have hstay:∀ b,b < w.heap.size->blkOf v ≠ some b->w'.heap[b]?=w.heap[b]?:=fun b hb' hne=>hext.block b hb' hne
      have hvfresh:∀ b,blkOf v=some b->w0.heap.size<=b ∨ M.can b:=fun b hb=>hg.fresh id _ hm trivial b (by rw [← hvκ];exact hb)
      have hub:∀ b,blkOf u=some b->w0.heap.size<=b ∨ M.can b:=fun b hb=>by
       rcases (hblk b hb).1 with h | h
       ·exact .inl (Nat.le_trans hg.ext.size h)
       ·exact hvfresh b h
      refine ⟨u,_,st2,g2,rfl,hk,?_,⟨κb.1.symm,hone2⟩,?_,?_,fun i hi=>⟨?_,(κo i hi).1,(κo i hi).2⟩,fun b vs h=>by rw [hro2];exact hmono2 b vs h,by rw [hg2]⟩
      ·refine ⟨⟨hext.os.trans hg.ext.os,hext.tape.trans hg.ext.tape,hext.output.trans hg.ext.output,Nat.le_trans hg.ext.size hext.size,fun b hb hc=>?_⟩,by rw [hro2];exact hin2.2,?_,?_,?_,?_,?_,?_,?_,by rw [hg2,hst2];exact hg.rho,?_,?_,?_⟩
       ·rw [hstay b (Nat.lt_of_lt_of_le hb hg.ext.size) fun e=>by
         rcases hvfresh b e with h | h
         ·omega
         ·exact hc h]
        exact hg.ext.block b hb hc
       ·intro i r hi
        by_cases hl:r.live
        ·rcases memc i r hi hl with ⟨rfl,rfl⟩ | ⟨h1,h2,h3,h4⟩
         ·obtain ⟨_,q⟩:=hR2
          refine ⟨κb.2,?_⟩
          rw [κb.1,hro2]
          exact q
         ·have ho:=hother i r h3 hl h2 h4
          exact (hg.res i r h3).keep (fun b hb=>hstay b (ho b hb).1 (ho b hb).2) (fun b vs h=>by rw [hro2];exact hmono2 b vs h) (by rw [hg2]) (κo i (by rw [h3];rfl)) fun j hj=>κo j (hcl i r h3 j hj)
        ·cases r <;> first | exact (hl trivial).elim | trivial
       ·intro i j r s hi hj hij hli hlj b hbi hbj
        rcases memc i r hi hli with ⟨rfl,rfl⟩ | ⟨h1,h2,h3,h4⟩ <;> rcases memc j s hj hlj with ⟨rfl,rfl⟩ | ⟨k1,k2,k3,k4⟩
        ·exact (hij rfl).elim
        ·exfalso
         rw [κb.1] at hbi
         rw [(κo j (by rw [k3];rfl)).1] at hbj
         have ho:=hother j s k3 hlj k2 k4 b hbj
         rcases (hblk b hbi).1 with h | h
         ·omega
         ·exact ho.2 h
        ·exfalso
         rw [κb.1] at hbj
         rw [(κo i (by rw [h3];rfl)).1] at hbi
         have ho:=hother i r h3 hli h2 h4 b hbi
         rcases (hblk b hbj).1 with h | h
         ·omega
         ·exact ho.2 h
        ·rw [(κo i (by rw [h3];rfl)).1] at hbi
         rw [(κo j (by rw [k3];rfl)).1] at hbj
         rw [hst2]
         exact hg.sep i j r s h3 k3 hij hli hlj b hbi hbj
       ·intro i r hi hl b hb
        rcases memc i r hi hl with ⟨rfl,rfl⟩ | ⟨h1,h2,h3,h4⟩
        ·rw [κb.1] at hb;exact hub b hb
        ·rw [(κo i (by rw [h3];rfl)).1] at hb;exact hg.fresh i r h3 hl b hb
       ·intro i r hi hl b hb hs1 hs2
        rw [hro2]
        rcases memc i r hi hl with ⟨rfl,rfl⟩ | ⟨h1,h2,h3,h4⟩
        ·rw [κb.1] at hb;exact (hblk b hb).2
        ·rw [(κo i (by rw [h3];rfl)).1] at hb
         have ho:=hother i r h3 hl h2 h4 b hb
         have hn:=hg1.wro i r h3 hl b hb (by rw [hst2] at hs1;exact hs1) (by rw [hst2] at hs2;exact hs2)
         cases hq:ro2 b with
         | none=>rfl
         | some vs =>
          rcases hroo b vs hq with h | h | h
          ·have h:ro' b=some vs:=h
           rw [show ro' b=none from hn] at h;cases h
          ·omega
          ·exact (ho.2 h).elim
       ·intro m hm2;rw [hst2] at hm2;have hm2:st.rd=some m:=hm2;rw [hrd] at hm2;cases hm2
       ·intro hm2;rw [hst2] at hm2;exact absurd hrd hm2
       ·intro b vs hb
        rw [hro2] at hb
        rcases hroo b vs hb with h | h | h
        ·exact hg1.roo b vs h
        ·exact .inr (.inl (Nat.le_trans hg.ext.size h))
        ·rcases hvfresh b h with h | h
         ·exact .inr (.inl h)
         ·exact .inr (.inr h)
       ·intro i u' hu'
        obtain ⟨p1,p2⟩:=hg.pin i u' hu'
        exact ⟨by rw [hst2];exact upd_dom (upd_dom (kill_dom p1)),(κo i p1).1.trans p2⟩
       ·intro i u' hu'
        obtain ⟨p1,p2⟩:=hg.keep.1 i u' hu'
        exact ⟨by rw [hst2];exact upd_dom (upd_dom (kill_dom p1)),(κo i p1).2.trans p2⟩
       ·intro b vs hb
        rw [hro2]
        exact hmono2 b vs (hg.keep.2 b vs hb)
      ·intro i hi
       simp only [S.refs,S0.refs,CV.refs,List.mem_singleton] at hi
       subst hi
       rw [hst2]
       simp [upd]
      ·intro i r hi j hj
       rw [hst2]
       refine upd_dom (upd_dom (kill_dom ?_))
       rw [hst2] at hi
       rcases upd_cases hi with ⟨_,h⟩ | ⟨_,h⟩
       ·subst h;simp [Res.refs] at hj
       ·rcases upd_cases h with ⟨_,h⟩ | ⟨_,h⟩
        ·subst h;simp [Res.refs] at hj
        ·rcases kill_cases h with h | h
         ·exact hcl i r h j hj
         ·subst h;simp [Res.refs] at hj
      ·rw [hst2];exact upd_dom (upd_dom (kill_dom hi))
     ·exact hv.elim
    ·exact hv.elim
   ·exact hv.elim
  ·exact hv.elim
 ·exact hv.elim
theorem cons_okL {l : List (FuncId × Con)} {lp : List (FuncId × PT)} (ht : TabOk P E tab) (hmix : P.follows .mixedOrders = true) (hl : AllOk P E l) (hlp : AllPt P E lp) (hbl : AllBlind lp) {f : FuncId} {fn : Func} (hf : P.funcs[f]? = some fn) (hb : fn.body = some (bodyOf fn)) (hname : (fn.name == "runtime.NumGoroutine") = false) {c : CCon} (hn : c.k1.length + c.k2.length + 1 <= fn.ntmps)
  (hok:codeOkL tab (lookF l) (lookP lp) hp perm lr fn.ntmps (bodyOf fn)=true) {anns:Args c.k1->List c.t.den->Args c.k2->Nat->St->Option Ann}
  (hvc:∀ x1 xs x2,c.pre x1 xs x2->vcL tab (lookF l) (lookP lp) hp (fun _=>none) (anns x1 xs x2) perm lr (bodyOf fn) (isoStC c x1 xs x2) (isoQC tab c fn.results.toList x1 xs x2)):PTOk P E f (ptC c) :=
 ptC_okL ht (kall_of hl) (pall_of hlp) hmix (blind_of hbl) (fun _ _ _=>draw_sound ht (tab_small ht) (kall_of hl) hmix _ _ _) hf hb hname hn hok hvc
end
end Go.SE

namespace Go.SE
open Go.RowKit
variable [Base]
section
variable {P:Program} {E:Ty->TypeId} {tab:TypeId->Option TI} {K:FuncId->Option Con} {pts:FuncId->Option PT} {hp:Nat->Bool} {perm:Nat->List (List Nat)}
theorem dr_val' {ro:Nat->Option (Array Value)} {x v:Value} (h:DR ro (.val x) v):v=x/\x.oneCell'=true:=by
 generalize hc:DC.val x=c at h
 cases h with
 | val y hy=>injection hc with hc;subst hc;exact ⟨rfl,hy⟩
 | nil=>cases hc
 | emp=>cases hc
 | arr=>cases hc
 | fix=>cases hc
 | ne=>cases hc
end
end Go.SE

namespace Go.SE
open Go.RowKit
structure VCon where
 g:Nat
 pre:List GCmd->Int->Prop
 out:List GCmd->Int->Int
def listV:CV->Option (List GCmd)
 | .d (.arr .cmd xs)=>some xs
 | .d (.ne .cmd xs)=>some xs
 | _=>none
def boxV (n:Int):Res:=.blk [.d (.val (.int .u16 n))]
def ptV2 (c:VCon) (st:St) (k:S->St->Prop) (id:Nat):Option (List GCmd)->Option Res->Prop
 | some xs,some (.blk [.d (.val (.int .u16 s))])=>st.sp id=false/\st.fr id=false/\c.pre xs s/\k (.tup []) { st with mem:=upd st.mem id (some (boxV (c.out xs s))) }
 | _,_=>False
def ptV (c:VCon):PT:=fun args _ st k=>match args with
 | [.c l,.c (.fn g' [id])]=>g'=c.g/\ptV2 c st k id (listV l) (st.mem id)
 | _=>False
def isoStV (c:VCon) (xs:List GCmd) (s:Int):St :=
 { env:=envOf [.c (.d (.arr .cmd xs)),.c (.fn c.g [7])] 0,mem:=upd (fun _=>none) 7 (some (boxV s)),sp:=fun _=>false,fr:=fun _=>false,base:=16,rd:=none }
def isBV (n:Int):Option Res->Prop
 | some (.blk [.d (.val (.int .u16 m))])=>m=n
 | _=>False
def isoV (c:VCon) (xs:List GCmd) (s:Int) (st:St):Option (List S0)->Prop
 | some []=>(st.sp 7=false/\st.fr 7=false)/\isBV (c.out xs s) (st.mem 7)
 | _=>False
def isoQV (tab:TypeId->Option TI) (c:VCon) (rvs:List ResultVar) (xs:List GCmd) (s:Int):XK->St->Prop
 | .exit _,_=>False
 | _,st=>isoV c xs s st (loadsS tab st rvs)
variable [Base]
theorem listV_DR {ro:Nat->Option (Array Value)} {g:G} (hro:g.ro=ro) {l:CV} {xs:List GCmd} (h:listV l=some xs) {v:Value} (hr:l.R g v):DR ro (.arr .cmd xs) v:=by
 subst hro
 unfold listV at h
 split at h
 ·injection h with h;subst h;exact hr
 ·injection h with h;subst h;exact DR.unne hr
 ·cases h
section
variable {P:Program} {E:Ty->TypeId} {tab:TypeId->Option TI} {K:FuncId->Option Con} {pts:FuncId->Option PT} {hp:Nat->Bool} {perm:Nat->List (List Nat)}
theorem iso_callV (ht:TabOk P E tab) (hKA:KAll P E K) (hPA:PAll P E pts) (hmix:P.follows .mixedOrders=true) (hdr:∀ w0 M n,DrawSound P E tab K w0 M n) {f:FuncId} {fn:Func} (hf:P.funcs[f]?=some fn) (hb:fn.body=some (bodyOf fn)) {c:VCon} (hn:2<=fn.ntmps)
  (hok:codeOkP tab K hp perm fn.ntmps (bodyOf fn)=true) {anns:List GCmd->Int->Nat->St->Option Ann}
  (hvc:∀ xs s,c.pre xs s->vcR tab K pts hp (anns xs s) perm [7] (bodyOf fn) (isoStV c xs s) (isoQV tab c fn.results.toList xs s))
  {w:World} {ro:Nat->Option (Array Value)} {ρ:Nat} {xs:List GCmd} {s:Int} (hpre:c.pre xs s) {b:Nat} {ty:TypeId} {v0:Value} (hin:ROin w ro) (h0:DR ro (.arr .cmd xs) v0)
  (hbk:w.heap[b]?=some (.cells #[.int .u16 s] ty (0,0))) (hrob:ro b=none) (hnb:Base.n0<=b) :
  Calls P f #[v0,.func (.func c.g) #[] #[.pointer (some ⟨b,0,none⟩)]] w fun e w'=>∃ ty',e=.returned (.tuple #[])/\Ext (fun b'=>b'=b) w w'/\w'.heap[b]?=some (.cells #[.int .u16 (c.out xs s)] ty' (0,0)):=by
 let M:MM:=⟨fun b'=>b'=b,ro,ρ,fun id=>if id=7 then some (.pointer (some ⟨b,0,none⟩)) else none,fun _=>none,ro⟩
 let g:G:={ ro,κ:=fun id=>if id=7 then .pointer (some ⟨b,0,none⟩) else undef,ln:=fun _=>0,ρ }
 have one:∀ id r,(isoStV c xs s).mem id=some r->id=7/\r=boxV s:=by
  intro id r h
  simp only [isoStV,upd] at h
  split at h
  ·rename_i e;injection h with h;exact ⟨e,h.symm⟩
  ·cases h
 have hκ:∀ b',blkOf (g.κ 7)=some b'->b'=b:=fun b' h=>by
  have h:some b=some b':=h
  injection h with h;exact h.symm
 have hcells:Cells g [.d (.val (.int .u16 s))] #[.int .u16 s]:=⟨rfl,fun j c' hj=>by
  match j,hj with
  | 0,hj=>injection hj with hj;subst hj;exact ⟨_,rfl,.val _ rfl⟩
  | j+1,hj=>simp at hj⟩
 have hgood:Good E w M g (isoStV c xs s) w:=by
  refine ⟨Ext.refl _ _,hin.2,?_,?_,?_,?_,(fun m hm=>by cases hm),(fun h=>(h rfl).elim),(fun b vs hb=>.inl hb),⟨rfl,hin.1,fun b' hb=>.inl (by have e:b'=b:=hb;rw [e];exact hnb)⟩,?_,⟨(fun _ _ h=>by cases h),fun b vs hb=>hb⟩⟩
  ·intro id r h
   obtain ⟨rfl,rfl⟩:=one id r h
   exact ⟨b,_,ty,rfl,hbk,hcells⟩
  ·intro i j r s hi hj hij
   exact (hij ((one i r hi).1.trans (one j s hj).1.symm)).elim
  ·intro id r h _ b' hb'
   rw [(one id r h).1] at hb'
   exact .inr (hκ b' hb')
  ·intro id r h _ b' hb' _ _
   rw [(one id r h).1] at hb'
   rw [hκ b' hb']
   exact hrob
  ·intro id q hq
   simp only [M] at hq
   split at hq
   ·rename_i e;subst e;injection hq with hq;subst hq;exact ⟨rfl,rfl⟩
   ·cases hq
 have hOO:OOk (dom [7]) M:=by
  have d7:∀ j,(dom [7] j).isSome=true ↔ j=7:=fun j=>by rw [dom_some];simp [inL]
  refine ⟨fun j r hj id hid=>?_,fun id hid=>?_,fun id hid=>?_⟩
  ·unfold dom at hj
   split at hj
   ·injection hj with hj;subst hj;simp [Res.refs] at hid
   ·cases hj
  ·refine (d7 id).2 ?_
   rcases hid with hid | hid
   ·have hid:(if id=7 then some (Value.pointer (some ⟨b,0,none⟩)) else none).isSome=true:=hid
    split at hid
    ·assumption
    ·cases hid
   ·cases hid
  ·have:=(d7 id).1 hid
   subst this
   rfl
 have henv:∀ j,((isoStV c xs s).env j).R g ((#[v0,.func (.func c.g) #[] #[.pointer (some ⟨b,0,none⟩)]] ++ Array.replicate (fn.ntmps - 2) undef:Array Value).getD j undef)/\∀ id ∈ ((isoStV c xs s).env j).refs,id=7:=by
  intro j
  have e:(isoStV c xs s).env j=envOf [.c (.d (.arr .cmd xs)),.c (.fn c.g [7])] 0 j:=rfl
  rw [e]
  match j with
  | 0 =>
   refine ⟨?_,fun id hid=>by simp [envOf,S.refs,S0.refs,CV.refs] at hid⟩
   rw [Array.getD_eq_getD_getElem?,Array.getElem?_append_left (by simp)]
   exact h0
  | 1 =>
   refine ⟨?_,fun id hid=>by simpa [envOf,S.refs,S0.refs,CV.refs] using hid⟩
   rw [Array.getD_eq_getD_getElem?,Array.getElem?_append_left (by simp)]
   rfl
  | j+2 =>
   have e2:envOf [.c (.d (.arr .cmd xs)),.c (.fn c.g [7])] 0 (j+2)=junk:=by simp [envOf]
   rw [e2]
   exact ⟨trivial,fun id hid=>by cases hid⟩
 have hrel:Rel E w M fn.ntmps (isoStV c xs s) { tmps:=#[v0,.func (.func c.g) #[] #[.pointer (some ⟨b,0,none⟩)]] ++ Array.replicate (fn.ntmps - (#[v0,.func (.func c.g) #[] #[.pointer (some ⟨b,0,none⟩)]]:Array Value).size) undef,defers:=[] } w:=by
  refine ⟨⟨?_,?_⟩,by simp;omega,rfl,g,hgood,fun j=>(henv j).1⟩
  ·intro j id hid
   rw [(henv j).2 id hid];rfl
  ·intro j r h id hid
   obtain ⟨rfl,rfl⟩:=one j r h
   cases hid
 refine calls_of_wp hf hb ?_
 refine codeR_sound ht hKA hPA hmix (hdr _ _ _) hOO (bodyOf fn) _ _ _ _ _ hok hrel (hvc xs s hpre) ?_
 intro xk st' a' w' hr hk
 have fin:isoQV tab c fn.results.toList xs s .ret st'->a'.defers=[]/\∃ q,(results fn a'.tmps).run P w'=.ok q w'/\∃ ty',Ending.returned q=.returned (.tuple #[])/\Ext (fun b'=>b'=b) w w'/\w'.heap[b]?=some (.cells #[.int .u16 (c.out xs s)] ty' (0,0)):=by
  intro hk
  unfold isoQV at hk
  simp only at hk
  cases hss:loadsS tab st' fn.results.toList with
  | none=>rw [hss] at hk;exact hk.elim
  | some ss =>
   rw [hss] at hk
   cases ss with
   | cons _ _=>exact hk.elim
   | nil =>
    obtain ⟨⟨hs7,hf7⟩,hbm⟩:=hk
    obtain ⟨ge,hge,henv'⟩:=hr.good
    obtain ⟨us,hrun,hargs',_⟩:=loads_run (P:=P) ht hge henv' hr.cl hss
    have hus:us=[]:=by
     have hl:=hargs'.1
     cases us with
     | nil=>rfl
     | cons _ _=>simp at hl
    subst hus
    have hres:=results_run (fn:=fn) hrun
    unfold isBV at hbm
    split at hbm
    ·rename_i m hm7
     subst hbm
     have hp7:ge.κ 7=.pointer (some ⟨b,0,none⟩):=(hge.pin 7 _ rfl).2
     obtain ⟨bb,vs',ty',hκ7,hheap,hcells'⟩:=hge.res 7 _ hm7
     rw [hp7] at hκ7
     injection hκ7 with hκ7
     injection hκ7 with hκ7
     injection hκ7 with hbb
     subst hbb
     obtain ⟨y,hy,hR⟩:=hcells'.2 0 _ rfl
     have hyv:=(dr_val' hR).1
     have hvs:vs'=#[.int .u16 (c.out xs s)]:=by
      have hsz:vs'.size=1:=hcells'.1
      apply Array.ext
      ·rw [hsz];rfl
      ·intro i h1 h2
       have:i=0:=by omega
       subst this
       rw [Array.getElem?_eq_getElem h1] at hy
       injection hy with hy
       rw [hy,hyv]
       rfl
     refine ⟨hr.defers,_,hres,ty',rfl,hge.ext,by rw [hheap,hvs]⟩
    ·exact hbm.elim
 cases xk with
 | normal=>exact fin hk
 | ret=>exact fin hk
 | exit id=>exact hk.elim
theorem ptV_ok (ht : TabOk P E tab) (hKA : KAll P E K) (hPA : PAll P E pts) (hmix : P.follows .mixedOrders = true) (hdr : ∀ w0 M n, DrawSound P E tab K w0 M n) {f : FuncId} {fn : Func} (hf : P.funcs[f]? = some fn) (hb : fn.body = some (bodyOf fn)) (hname : (fn.name == "runtime.NumGoroutine") = false) {c : VCon} (hn : 2 <= fn.ntmps)
  (hok:codeOkP tab K hp perm fn.ntmps (bodyOf fn)=true) {anns:List GCmd->Int->Nat->St->Option Ann}
  (hvc:∀ xs s,c.pre xs s->vcR tab K pts hp (anns xs s) perm [7] (bodyOf fn) (isoStV c xs s) (isoQV tab c fn.results.toList xs s)):PTOk P E f (ptV c):=by
 refine ⟨⟨fn,_,hf,hname,hb⟩,?_⟩
 intro w0 M g st w args vs base k hg hcl hrefs hargs hv
 unfold ptV at hv
 split at hv
 ·rename_i l g' id
  obtain ⟨rfl,hv⟩:=hv
  unfold ptV2 at hv
  split at hv
  ·rename_i xs s hl hm
   obtain ⟨hsp,hfr,hpre,hk⟩:=hv
   obtain ⟨b,cur,ty,hκ,hheap,hcells⟩:=hg.res id _ hm
   have hblk:blkOf (g.κ id)=some b:=by rw [hκ];rfl
   have hblt:b < w.heap.size:=lt_of_some hheap
   have hgrob:g.ro b=none:=hg.wro id _ hm trivial b hblk hsp hfr
   obtain ⟨u,hu,hR⟩:=hcells.2 0 _ rfl
   have hcur:cur=#[.int .u16 s]:=by
    have hsz:cur.size=1:=hcells.1
    apply Array.ext
    ·rw [hsz];rfl
    ·intro i h1 h2
     have:i=0:=by omega
     subst this
     rw [Array.getElem?_eq_getElem h1] at hu
     injection hu with hu
     rw [hu,(dr_val' hR).1]
     rfl
   subst hcur
   obtain ⟨v0,hv0,hv0R⟩:=hargs.2 0 _ rfl
   obtain ⟨v1,hv1,hv1R⟩:=hargs.2 1 _ rfl
   have hv1e:v1=.func (.func c.g) #[] #[g.κ id]:=hv1R
   rw [hκ] at hv1e
   have hvs:vs=[v0,v1]:=by
    have hlen:vs.length=2:=hargs.1
    match vs,hlen with
    | [p,q],_ =>
     simp at hv0 hv1
     rw [hv0,hv1]
   have hd0:DR g.ro (.arr .cmd xs) v0:=listV_DR rfl hl hv0R
   rw [hvs,hv1e]
   refine Calls.mono (iso_callV ht hKA hPA hmix hdr hf hb hn hok hvc (ρ:=g.ρ) hpre hg.roin hd0 hheap hgrob (hg.nb hm trivial hblk)) fun e w' he=>?_
   obtain ⟨ty',rfl,hext,hheap'⟩:=he
   have hgood:Good E w0 M g { st with mem:=upd st.mem id (some (boxV (c.out xs s))) } w':=by
    refine Good.write' hg (id:=id) (b:=b) (r':=boxV (c.out xs s)) hm trivial (.inl hblk) ?_ ?_ hgrob hext.os hext.tape hext.output hext.size (fun b' hb' hne=>hext.block b' hb' hne) ?_ fun j hj=>upd_dom hj
    ·intro j q hq
     rcases upd_cases hq with h | ⟨h1,h2⟩
     ·exact .inl h
     ·exact .inr ⟨h1,.inl h2⟩
    ·intro j q hj hq hl'
     rcases upd_cases hq with ⟨h,_⟩ | ⟨_,h2⟩
     ·exact (hj h).elim
     ·exact alone hg hm trivial (fun _ _ _ h=>by cases h) hblk j q hj h2 hl'
    ·exact ⟨b,_,ty',hκ,hheap',rfl,fun j c' hj=>by
      match j,hj with
      | 0,hj=>injection hj with hj;subst hj;exact ⟨_,rfl,.val _ rfl⟩
      | j+1,hj=>simp at hj⟩
   refine ⟨_,_,_,g,rfl,hk,hgood,⟨#[],rfl,rfl,(fun j q hq=>by cases hq)⟩,(fun i hi=>by cases hi),?_,fun i hi=>⟨upd_dom hi,rfl,rfl⟩,fun _ _ h=>h,rfl⟩
   intro j r hj i hi
   refine upd_dom ?_
   rcases upd_cases hj with ⟨_,h⟩ | ⟨_,h⟩
   ·subst h;cases hi
   ·exact hcl j r h i hi
  ·exact hv.elim
 ·exact hv.elim
abbrev VCon.lim (c:VCon) (m:Nat):VCon:={ c with pre:=fun xs s=>c.pre xs s/\ndL xs < m }
theorem ptV_rec {f : FuncId} {c : VCon} (h : ∀ m, PTOk P E f (ptV (c.lim m)) -> PTOk P E f (ptV (c.lim (m + 1)))) (h0 : ∃ fn b, P.funcs[f]? = some fn /\ (fn.name == "runtime.NumGoroutine") = false /\ fn.body = some b) : PTOk P E f (ptV c) := by
 have all:∀ m,PTOk P E f (ptV (c.lim m)):=by
  intro m
  induction m with
  | zero =>
   refine ⟨h0,fun _ _ _ _ _ _ _ _ _ _ _ _ _ hv=>?_⟩
   exfalso
   unfold ptV at hv
   split at hv
   ·obtain ⟨_,hv⟩:=hv
    unfold ptV2 at hv
    split at hv
    ·exact absurd hv.2.2.1.2 (Nat.not_lt_zero _)
    ·exact hv
   ·exact hv
  | succ m ih=>exact h m ih
 refine ⟨h0,fun w0 M g st w args vs base k h1 h2 h3 h4 hv=>?_⟩
 have:∃ m,ptV (c.lim m) args base st k:=by
  unfold ptV at hv
  split at hv
  ·obtain ⟨hg,hv⟩:=hv
   unfold ptV2 at hv
   split at hv
   ·rename_i xs s hl hm
    refine ⟨ndL xs+1,hg,?_⟩
    rw [hl,hm]
    exact ⟨hv.1,hv.2.1,⟨hv.2.2.1,Nat.lt_succ_self _⟩,hv.2.2.2⟩
   ·exact hv.elim
  ·exact hv.elim
 obtain ⟨m,hv'⟩:=this
 exact (all m).call w0 M g st w args vs base k h1 h2 h3 h4 hv'
theorem vis_ok {l : List (FuncId × Con)} {lp : List (FuncId × PT)} (ht : TabOk P E tab) (hmix : P.follows .mixedOrders = true) (hl : AllOk P E l) (hlp : AllPt P E lp) {f : FuncId} {fn : Func} (hf : P.funcs[f]? = some fn) (hb : fn.body = some (bodyOf fn)) (hname : (fn.name == "runtime.NumGoroutine") = false) {c : VCon} (hn : 2 <= fn.ntmps)
  (hok:codeOkP tab (lookF l) hp perm fn.ntmps (bodyOf fn)=true) {anns:List GCmd->Int->Nat->St->Option Ann}
  (hvc:∀ xs s,c.pre xs s->vcR tab (lookF l) (lookP lp) hp (anns xs s) perm [7] (bodyOf fn) (isoStV c xs s) (isoQV tab c fn.results.toList xs s)):PTOk P E f (ptV c) :=
 ptV_ok ht (kall_of hl) (pall_of hlp) hmix (fun _ _ _=>draw_sound ht (tab_small ht) (kall_of hl) hmix _ _ _) hf hb hname hn hok hvc
end
end Go.SE
