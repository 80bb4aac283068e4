/-
  Parts of a symbolic engine over the program's code: how operations, regions, loops and calls are shown to keep contracts. No conditions.
-/
import Derived.Test.YtopjgjelkpkmmaaEd
set_option linter.unusedSimpArgs false
set_option linter.unusedVariables false
set_option linter.unusedSectionVars false

namespace Go.SE
open Go.RowKit
section
variable {fin:List Int->Bool} {a:GAsn} {tm:List Bool} {c:List Int} {t:Int} {i:Nat}
end
def bgn (l:List GAtom) (c:Int):Bool:=l.any fun x=>x.a == c
theorem bgn_yes {l:List GAtom} {c:Int} {i:Nat} {d:GAtom} (hi:i < l.length) (h:(l.getD i d).a=c):bgn l c=true:=by
 unfold bgn
 rw [List.any_eq_true]
 refine ⟨l.getD i d,?_,by simpa using h⟩
 rw [List.getD_eq_getElem?_getD,List.getElem?_eq_getElem hi];exact List.getElem_mem hi
theorem bgn_step {l:List GAtom} {c:Int} {i:Nat} {d:GAtom} (hi:i < l.length) (h:bgn (l.take i) c=false) (hn:¬ (l.getD i d).a=c):bgn (l.take (i+1)) c=false:=by
 have e:l.take (i+1)=l.take i ++ [l.getD i d]:=by
  rw [List.take_add_one,List.getD_eq_getElem?_getD,List.getElem?_eq_getElem hi];rfl
 unfold bgn at h ⊢
 rw [e,List.any_append,h]
 simpa using hn
theorem bgn_end {l:List GAtom} {c:Int} {i:Nat} (hi:¬ i < l.length) (h:bgn (l.take i) c=false):bgn l c=false:=by
 rw [List.take_of_length_le (by omega)] at h;exact h
section
variable {a:GAsn} {t:Int}
end
end Go.SE

namespace Go.SE
open Go.RowKit
structure CCon where
 k1:List AK
 t:Ty
 k2:List AK
 pre:Args k1->List t.den->Args k2->Prop
 out:Args k1->List t.den->Args k2->List t.den
section
variable {P:Program} {E:Ty->TypeId} {tab:TypeId->Option TI} {K:FuncId->Option Con} {pts:FuncId->Option PT} {hp:Nat->Bool} {perm:Nat->List (List Nat)}
abbrev CCon.lim (c:CCon) (mu:Args c.k1->List c.t.den->Args c.k2->Nat) (m:Nat):CCon:={ c with pre:=fun x l y=>c.pre x l y/\mu x l y < m }
end
end Go.SE

namespace Go.SE
open Go.RowKit
def six (a b c d e f:Bool):List Bool:=[a,b,c,d,e,f]
theorem six_eta {u:List Bool} (h:u.length=6):six (u.getD 0 false) (u.getD 1 false) (u.getD 2 false) (u.getD 3 false) (u.getD 4 false) (u.getD 5 false)=u:=by
 match u,h with
 | [_,_,_,_,_,_],_=>rfl
def sx6 (u:List Bool):List Bool:=six (u.getD 0 false) (u.getD 1 false) (u.getD 2 false) (u.getD 3 false) (u.getD 4 false) (u.getD 5 false)
theorem sx6_eta {u:List Bool} (h:u.length=6):sx6 u=u:=six_eta h
def usedAt (st:St) (id:Nat):List Bool :=
 match st.mem id with
 | some (.blk [_,.d (.val (.bool b0)),.d (.val (.bool b1)),.d (.val (.bool b2)),.d (.val (.bool b3)),.d (.val (.bool b4)),.d (.val (.bool b5)),_])=>six b0 b1 b2 b3 b4 b5
 | _=>[]
def numAt (st:St) (id:Nat):Int :=
 match st.mem id with
 | some (.blk [_,_,_,_,_,_,_,.d (.val (.int .i64 n))])=>n
 | _=>0
structure BCon where
 k2:List AK
 rks:List AK
 pre:List GAtom->List Bool->Int->Args k2->Prop
 used:List GAtom->List Bool->Int->Args k2->List Bool
 num:List GAtom->List Bool->Int->Args k2->Int
 val:List GAtom->List Bool->Int->Args k2->Args rks
def bmCells (c0:CV) (u:List Bool) (n:Int):List CV :=
 [c0,.d (.val (.bool (u.getD 0 false))),.d (.val (.bool (u.getD 1 false))),.d (.val (.bool (u.getD 2 false))),.d (.val (.bool (u.getD 3 false))),.d (.val (.bool (u.getD 4 false))),.d (.val (.bool (u.getD 5 false))),.d (.val (.int .i64 n))]
def ptBk (c:BCon) (id base:Nat) (st:St) (k:S->St->Prop) (c0:CV) (l:List GAtom) (u:List Bool) (n:Int) (ids:List Nat) (x2:Args c.k2):Prop :=
 st.sp id=false/\st.fr id=false/\notSpent st ids/\freeL st (rids c.rks base)/\c.pre l u n x2 /\
  k (pack1 (ress c.rks base (c.val l u n x2)).1) { st with mem:=upd (adds st.mem (ress c.rks base (c.val l u n x2)).2) id (some (.blk (bmCells c0 (c.used l u n x2) (c.num l u n x2)))) }
def ptB3 (c:BCon) (id base:Nat) (st:St) (k:S->St->Prop) (c0:CV) (u:List Bool) (n:Int):Option (List GAtom)->Option (List Nat)->Option (Args c.k2)->Prop
 | some l,some ids,some x2=>ptBk c id base st k c0 l u n ids x2
 | _,_,_=>False
def ptB2 (c:BCon) (id base:Nat) (st:St) (k:S->St->Prop) (rest:List S0):Option Res->Prop
 | some (.blk [c0,.d (.val (.bool b0)),.d (.val (.bool b1)),.d (.val (.bool b2)),.d (.val (.bool b3)),.d (.val (.bool b4)),.d (.val (.bool b5)),.d (.val (.int .i64 n))]) =>
  ptB3 c id base st k c0 (six b0 b1 b2 b3 b4 b5) n (rdl st.mem .atom (weak c0)) (ownsC st.mem (refsC c0 ++ refsAr rest)) (decs st.mem c.k2 rest)
 | _=>False
def ptB (c:BCon):PT:=fun args base st k=>match args with
 | .c (.ptr id 0) :: rest=>ptB2 c id base st k rest (st.mem id)
 | _=>False
section
variable {P:Program} {E:Ty->TypeId} {tab:TypeId->Option TI} {K:FuncId->Option Con} {pts:FuncId->Option PT} {hp:Nat->Bool} {perm:Nat->List (List Nat)}
def isoStB (c:BCon) (l:List GAtom) (u:List Bool) (n:Int) (x2:Args c.k2) (v:Value):St :=
 { env:=envOf (.c (.ptr 7 0) :: encs c.k2 x2) 0,mem:=upd (fun _=>none) 7 (some (.blk (bmCells (.d (.fix .atom l v)) u n))),sp:=fun _=>false,fr:=fun _=>false,base:=16,rd:=none }
def isBm (v:Value) (u:List Bool) (n:Int):Option Res->Prop
 | some (.blk [.d (.fix _ _ v'),.d (.val (.bool b0)),.d (.val (.bool b1)),.d (.val (.bool b2)),.d (.val (.bool b3)),.d (.val (.bool b4)),.d (.val (.bool b5)),.d (.val (.int .i64 n'))]) =>
  v'=v/\six b0 b1 b2 b3 b4 b5=u/\n'=n
 | _=>False
def noneL:List Nat->Prop
 | []=>True
 | _=>False
def retB (tab:TypeId->Option TI) (c:BCon) (rvs:List ResultVar) (l:List GAtom) (u:List Bool) (n:Int) (x2:Args c.k2) (v:Value):XK->St->Prop
 | .exit _,_=>False
 | _,st=>match loadsS tab st rvs with
  | none=>False
  | some ss=>match decRs st.mem c.rks ss with
   | none=>False
   | some (r,out,fz)=>r=c.val l u n x2/\allDiff out/\notFrozen st out/\noneL fz/\(st.sp 7=false/\st.fr 7=false)/\isBm v (c.used l u n x2) (c.num l u n x2) (st.mem 7)
theorem dr_val' {ro:Nat->Option (Array Value)} {x v:Value} (h:DR ro (.val x) v):v=x/\x.oneCell'=true:=by
 generalize hc:DC.val x=c at h
 cases h with
 | val y hy=>injection hc with hc;subst hc;exact ⟨rfl,hy⟩
 | nil=>cases hc
 | arr=>cases hc
 | fix=>cases hc
theorem dr_fix {ro:Nat->Option (Array Value)} {t:Ty} {xs:List t.den} {u v:Value} (h:DR ro (.fix t xs u) v):v=u:=by
 generalize hc:DC.fix t xs u=c at h
 cases h with
 | val y hy=>cases hc
 | nil=>cases hc
 | arr=>cases hc
 | fix t' xs' v' h'=>injection hc with h1 h2 h3;exact h3.symm
theorem iso_callB (ht:TabOk P E tab) (hKA:KAll P E K) (hPA:PAll P E pts) (hmix:P.follows .mixedOrders=true) (hdr:∀ w0 M n,DrawSound P E tab K w0 M n) {f:FuncId} {fn:Func} (hf:P.funcs[f]?=some fn) (hb:fn.body=some (bodyOf fn)) {c:BCon} (hn:c.k2.length+1<=fn.ntmps)
  (hok:codeOkP tab K hp perm fn.ntmps (bodyOf fn)=true) {anns:List GAtom->List Bool->Int->Args c.k2->Value->Nat->St->Option Ann}
  (hvc:∀ l u n x2 v,c.pre l u n x2->vcR tab K pts hp (anns l u n x2 v) perm [7] (bodyOf fn) (isoStB c l u n x2 v) (retB tab c fn.results.toList l u n x2 v))
  {w:World} {ro:Nat->Option (Array Value)} {ρ:Nat} {l:List GAtom} {u:List Bool} {n:Int} {x2:Args c.k2} (id0:Nat) (hpre:c.pre l u n x2) {b:Nat} {vs:Array Value} {ty:TypeId} {v0:Value} {vs2:List Value} (hin:ROin w ro) (h2:ArgsR (argG ro ρ) (encs c.k2 x2) vs2)
  (hbk:w.heap[b]?=some (.cells vs ty (0,0))) (hvs:Cells (argG ro ρ) (bmCells (.d (.fix .atom l v0)) u n) vs) (hrob:ro b=none) :
  Calls P f (.pointer (some ⟨b,0,none⟩) :: vs2).toArray w fun e w'=>∃ v gc vs' ty',e=.returned v/\Ext (fun b'=>b'=b) w w'/\gc.ρ=ρ/\ResOk E w w' ro c.rks id0 (c.val l u n x2) v gc/\w'.heap[b]?=some (.cells vs' ty' (0,0)) /\
   vs'=#[v0,.bool ((c.used l u n x2).getD 0 false),.bool ((c.used l u n x2).getD 1 false),.bool ((c.used l u n x2).getD 2 false),.bool ((c.used l u n x2).getD 3 false),.bool ((c.used l u n x2).getD 4 false),.bool ((c.used l u n x2).getD 5 false),.int .i64 (c.num l u n x2)] /\
   (∀ id q,(id,q) ∈ (ress c.rks id0 (c.val l u n x2)).2->blkOf (gc.κ id) ≠ some b):=by
 let M:MM:=⟨fun b'=>b'=b,ro,ρ,fun id=>if id=7 then some (.pointer (some ⟨b,0,none⟩)) else none,fun _=>none,ro⟩
 let g:G:={ ro,κ:=fun id=>if id=7 then .pointer (some ⟨b,0,none⟩) else undef,ln:=fun _=>0,ρ }
 have one:∀ id r,(isoStB c l u n x2 v0).mem id=some r->id=7/\r=.blk (bmCells (.d (.fix .atom l v0)) u n):=by
  intro id r h
  simp only [isoStB,upd] at h
  split at h
  ·rename_i e;injection h with h;exact ⟨e,h.symm⟩
  ·cases h
 have hκ:∀ b',blkOf (g.κ 7)=some b'->b'=b:=fun b' h=>by
  have h:some b=some b':=h
  injection h with h;exact h.symm
 have norefs:refsL (bmCells (.d (.fix .atom l v0)) u n)=[]:=rfl
 have hgood:Good E w M g (isoStB c l u n x2 v0) w:=by
  refine ⟨Ext.refl _ _,hin,?_,?_,?_,?_,(fun m hm=>by cases hm),(fun h=>(h rfl).elim),(fun b vs hb=>.inl hb),rfl,?_,⟨(fun _ _ h=>by cases h),fun b vs hb=>hb⟩⟩
  ·intro id r h
   obtain ⟨rfl,rfl⟩:=one id r h
   exact ⟨b,vs,ty,rfl,hbk,hvs.mono (g:=argG ro ρ) (g':=g) (fun _ _ h=>h) rfl fun id hid=>by rw [norefs] at hid;cases hid⟩
  ·intro i j r s hi hj hij
   exact (hij ((one i r hi).1.trans (one j s hj).1.symm)).elim
  ·intro id r h _ b' hb'
   rw [(one id r h).1] at hb'
   exact .inr (hκ b' hb')
  ·intro id r h _ b' hb' _ _
   rw [(one id r h).1] at hb'
   rw [hκ b' hb']
   exact hrob
  ·intro id q hq
   simp only [M] at hq
   split at hq
   ·rename_i e;subst e;injection hq with hq;subst hq;exact ⟨rfl,rfl⟩
   ·cases hq
 have hOO:OOk (dom [7]) M:=by
  have d7:∀ j,(dom [7] j).isSome=true ↔ j=7:=fun j=>by rw [dom_some];simp [inL]
  refine ⟨fun j r hj id hid=>?_,fun id hid=>?_,fun id hid=>?_⟩
  ·unfold dom at hj
   split at hj
   ·injection hj with hj;subst hj;simp [Res.refs] at hid
   ·cases hj
  ·refine (d7 id).2 ?_
   rcases hid with hid | hid
   ·have hid:(if id=7 then some (Value.pointer (some ⟨b,0,none⟩)) else none).isSome=true:=hid
    split at hid
    ·assumption
    ·cases hid
   ·cases hid
  ·have:=(d7 id).1 hid
   subst this
   rfl
 have hargs:∀ (j:Nat) (s:S0),(S0.c (.ptr 7 0) :: encs c.k2 x2)[j]?=some s->∃ u',(.pointer (some ⟨b,0,none⟩) :: vs2)[j]?=some u'/\s.R g u'/\∀ id ∈ s.refs,id=7:=by
  intro j s hj
  cases j with
  | zero =>
   simp at hj
   subst hj
   exact ⟨_,rfl,⟨b,rfl,rfl⟩,fun id hid=>by simpa [S0.refs,CV.refs] using hid⟩
  | succ i =>
   have hj:(encs c.k2 x2)[i]?=some s:=by simpa using hj
   obtain ⟨u',hu,hr⟩:=h2.2 i s hj
   have hrf:=encs_refs c.k2 x2 i s hj
   exact ⟨u',by simpa using hu,S0.R.mono (g:=argG ro ρ) (g':=g) (fun _ _ h=>h) rfl (fun id hid=>by rw [hrf] at hid;cases hid) hr,fun id hid=>by rw [hrf] at hid;cases hid⟩
 have hvl:(Value.pointer (some ⟨b,0,none⟩) :: vs2).length=(S0.c (.ptr 7 0) :: encs c.k2 x2).length:=by simp [h2.1]
 have hel:(S0.c (.ptr 7 0) :: encs c.k2 x2).length<=fn.ntmps:=by simp [encs_len];omega
 have hrel:Rel E w M fn.ntmps (isoStB c l u n x2 v0) { tmps:=(Value.pointer (some ⟨b,0,none⟩) :: vs2).toArray ++ Array.replicate (fn.ntmps - (Value.pointer (some ⟨b,0,none⟩) :: vs2).toArray.size) undef,defers:=[] } w:=by
  refine ⟨⟨?_,?_⟩,by simp at hvl hel ⊢;omega,rfl,g,hgood,?_⟩
  ·intro j id hid
   have e:(isoStB c l u n x2 v0).env j=envOf (.c (.ptr 7 0) :: encs c.k2 x2) 0 j:=rfl
   rw [e] at hid
   rcases envOf_cases (.c (.ptr 7 0) :: encs c.k2 x2) 0 j with h3 | ⟨i,s,h3,_,h5⟩
   ·rw [h3] at hid;simp [SE.junk,S.refs,S0.refs,CV.refs] at hid
   ·rw [h5] at hid
    obtain ⟨_,_,_,h6⟩:=hargs i s h3
    have:=h6 id hid
    subst this
    rfl
  ·intro j r h id hid
   obtain ⟨rfl,rfl⟩:=one j r h
   simp only [Res.refs,norefs] at hid
   cases hid
  ·intro j
   have e:(isoStB c l u n x2 v0).env j=envOf (.c (.ptr 7 0) :: encs c.k2 x2) 0 j:=rfl
   rw [e]
   rcases envOf_cases (.c (.ptr 7 0) :: encs c.k2 x2) 0 j with h3 | ⟨i,s,h3,h4,h5⟩
   ·rw [h3];trivial
   ·rw [h5]
    obtain ⟨u',hu,hr,_⟩:=hargs i s h3
    have hj:j=i:=by omega
    subst hj
    have hlt:j < (Value.pointer (some ⟨b,0,none⟩) :: vs2).length:=(List.getElem?_eq_some_iff.1 hu).1
    have:((Value.pointer (some ⟨b,0,none⟩) :: vs2).toArray ++ Array.replicate (fn.ntmps - (Value.pointer (some ⟨b,0,none⟩) :: vs2).toArray.size) undef).getD j undef=u':=by
     rw [Array.getD_eq_getD_getElem?,Array.getElem?_append_left (by simpa using hlt),List.getElem?_toArray,hu];rfl
    show S.R _ _ (((Value.pointer (some ⟨b,0,none⟩) :: vs2).toArray ++ Array.replicate (fn.ntmps - (Value.pointer (some ⟨b,0,none⟩) :: vs2).toArray.size) undef).getD j undef)
    rw [this]
    exact hr
 refine calls_of_wp hf hb ?_
 refine codeR_sound ht hKA hPA hmix (hdr _ _ _) hOO (bodyOf fn) _ _ _ _ _ hok hrel (hvc l u n x2 v0 hpre) ?_
 intro xk st' a' w' hr hk
 have fin:retB tab c fn.results.toList l u n x2 v0 .ret st'->a'.defers=[]/\∃ q,(results fn a'.tmps).run P w'=.ok q w'/\∃ v gc vs' ty',Ending.returned q=.returned v/\Ext (fun b'=>b'=b) w w'/\gc.ρ=ρ/\ResOk E w w' ro c.rks id0 (c.val l u n x2) v gc/\w'.heap[b]?=some (.cells vs' ty' (0,0)) /\
   vs'=#[v0,.bool ((c.used l u n x2).getD 0 false),.bool ((c.used l u n x2).getD 1 false),.bool ((c.used l u n x2).getD 2 false),.bool ((c.used l u n x2).getD 3 false),.bool ((c.used l u n x2).getD 4 false),.bool ((c.used l u n x2).getD 5 false),.int .i64 (c.num l u n x2)] /\
   (∀ id q,(id,q) ∈ (ress c.rks id0 (c.val l u n x2)).2->blkOf (gc.κ id) ≠ some b):=by
  intro hk
  unfold retB at hk
  simp only at hk
  split at hk
  ·exact hk.elim
  ·rename_i ss hss
   split at hk
   ·exact hk.elim
   ·rename_i r out fz hdec
    obtain ⟨hval,hdiff,hnf,hfz,⟨hs7,hf7⟩,hbm⟩:=hk
    subst hval
    obtain ⟨ge,hge,henv⟩:=hr.good
    obtain ⟨us,hrun,hargs',_⟩:=loads_run (P:=P) ht hge henv hr.cl hss
    have hfz0:fz=[]:=by cases fz with | nil=>rfl | cons _ _=>exact hfz.elim
    subst hfz0
    have hρ:ge.ρ=ρ:=hge.rho
    -- the block
    unfold isBm at hbm
    split at hbm
    ·rename_i t7 l7 v7 b0 b1 b2 b3 b4 b5 n7 hm7
     obtain ⟨rfl,hu7,rfl⟩:=hbm
     have hp7:ge.κ 7=.pointer (some ⟨b,0,none⟩):=(hge.pin 7 _ rfl).2
     obtain ⟨bb,vs',ty',hκ7,hheap,hcells⟩:=hge.res 7 _ hm7
     rw [hp7] at hκ7
     injection hκ7 with hκ7
     injection hκ7 with hκ7
     injection hκ7 with hbb
     subst hbb
     have hblk7:blkOf (ge.κ 7)=some b:=by rw [hp7];rfl
     have hro7:ge.ro b=none:=hge.wro 7 _ hm7 trivial b hblk7 hs7 hf7
     let mp:=resMap c.rks id0 ss
     let gc:G:={ ro:=ge.ro,κ:=fun i=>match lookM mp i with | some old=>ge.κ old | none=>.slice none 0 0,ln:=fun i=>match lookM mp i with | some old=>ge.ln old | none=>0,ρ:=ge.ρ }
     have hlook:∀ i src,(i,src) ∈ mp->lookM mp i=src:=fun i src hi=>lookM_of (resMap_nodup _ _ _) hi
     obtain ⟨a1,a2,a3,_⟩:=decRs_R (g:=ge) (g':=gc) (id0:=id0) (fun b vs hb=>hb) rfl hdec hargs' (fun id hid=>by cases hid)
      (fun i src hi=>⟨fun old ho=>by simp [gc,hlook i src hi,ho],fun ho=>by simp [gc,hlook i src hi,ho]⟩)
     have hnd:(mp.filterMap (·.2)).Nodup:=by rw [← a2];exact allDiff_nodup hdiff
     have hout:∀ i old,(i,some old) ∈ mp->old ∈ out:=fun i old hi=>by rw [a2];exact List.mem_filterMap.2 ⟨(i,some old),hi,rfl⟩
     have key:∀ (l:List S0) (vs:List Value),ArgsR gc l vs->(pack1 l).R gc (match vs with | [v]=>v | vs=>.tuple vs.toArray):=by
      intro l vs h
      have:=pack1_R h
      rcases vs with _ | ⟨v,_ | ⟨u,l⟩⟩ <;> exact this
     have key2:∀ (vs:List Value),(fn.results.toList.mapM (rvRead a'.tmps)).run P w'=.ok vs w'->(results fn a'.tmps).run P w'=.ok (match vs with | [v]=>v | vs=>.tuple vs.toArray) w':=by
      intro vs h
      have:=results_run h
      rcases vs with _ | ⟨v,_ | ⟨u,l⟩⟩ <;> exact this
     have hnot7:∀ old f t xs,st'.mem old=some (.sl f t xs)->blkOf (ge.κ old) ≠ some b:=by
      intro old f t xs hm hb'
      have hne:old ≠ 7:=fun e=>by subst e;rw [hm7] at hm;cases hm
      obtain ⟨_,_,_,_,_,h,_⟩:=hge.sep old 7 _ _ hm hm7 hne trivial trivial b hb' hblk7
      cases h
     refine ⟨hr.defers,_,key2 _ hrun,_,gc,vs',ty',rfl,hge.ext,hρ,?_,hheap,?_,?_⟩
     ·refine ⟨hge.keep.2,?_,key _ _ a1,?_,?_,?_⟩
      ·intro b' vs hb'
       rcases hge.roo b' vs hb' with h1 | h1 | h1
       ·exact .inl h1
       ·exact .inr ⟨h1,hge.ro b' vs hb'⟩
       ·have h1:b'=b:=h1
        subst h1
        have hb':ge.ro b'=some vs:=hb'
        rw [hro7] at hb';cases hb'
      ·intro id q hq
       obtain ⟨src,t,xs,h1,h2,h3,h4⟩:=a3 id q hq
       subst h2
       cases src with
       | none =>
        have:=h4 rfl
        subst this
        exact ⟨by simp [gc,hlook id none h1],.inl ⟨by simp [gc,hlook id none h1],rfl⟩⟩
       | some old =>
        obtain ⟨f,hm⟩:=h3 old rfl
        obtain ⟨hl,hres⟩:=hge.res _ _ hm
        have e1:gc.κ id=ge.κ old:=by simp [gc,hlook id _ h1]
        have e2:gc.ln id=ge.ln old:=by simp [gc,hlook id _ h1]
        refine ⟨by rw [e2];exact hl,?_⟩
        rw [e1]
        exact hres
      ·intro id q hq b' hb'
       obtain ⟨src,t,xs,h1,h2,h3,h4⟩:=a3 id q hq
       cases src with
       | none =>
        have e:gc.κ id=.slice none 0 0:=by simp [gc,hlook id none h1]
        rw [e] at hb';simp [blkOf] at hb'
       | some old =>
        obtain ⟨f,hm⟩:=h3 old rfl
        have e1:gc.κ id=ge.κ old:=by simp [gc,hlook id _ h1]
        rw [e1] at hb'
        obtain ⟨s1,s2⟩:=notFrozen_mem hnf old (hout id old h1)
        refine ⟨?_,hge.wro old _ hm trivial b' hb' s1 s2⟩
        rcases hge.fresh old _ hm trivial b' hb' with h5 | h5
        ·exact h5
        ·have h5:b'=b:=h5
         subst h5
         exact (hnot7 old _ _ _ hm hb').elim
      ·intro i q j s hi hj hij b' hbi hbj
       obtain ⟨src,t,xs,h1,h2,h3,h4⟩:=a3 i q hi
       obtain ⟨src',t',xs',k1,k2,k3,k4⟩:=a3 j s hj
       cases src with
       | none =>
        have e:gc.κ i=.slice none 0 0:=by simp [gc,hlook i none h1]
        rw [e] at hbi;simp [blkOf] at hbi
       | some oi =>
        cases src' with
        | none =>
         have e:gc.κ j=.slice none 0 0:=by simp [gc,hlook j none k1]
         rw [e] at hbj;simp [blkOf] at hbj
        | some oj =>
         obtain ⟨f,hm⟩:=h3 oi rfl
         obtain ⟨f',hm'⟩:=k3 oj rfl
         have e1:gc.κ i=ge.κ oi:=by simp [gc,hlook i _ h1]
         have e2:gc.κ j=ge.κ oj:=by simp [gc,hlook j _ k1]
         rw [e1] at hbi
         rw [e2] at hbj
         have hne:oi ≠ oj:=fun e=>by
          subst e
          exact hij (resMap_diff hnd h1 k1)
         obtain ⟨_,_,_,_,_,_,h7⟩:=hge.sep oi oj _ _ hm hm' hne trivial trivial b' hbi hbj
         have h8:=(h7 (notFrozen_mem hnf oi (hout i oi h1)).1).1
         rw [(notFrozen_mem hnf oj (hout j oj k1)).1] at h8
         cases h8
     ·obtain ⟨hsz,hc⟩:=hcells
      have get:∀ (j:Nat) (x:Value),([CV.d (.fix t7 l7 v7),.d (.val (.bool b0)),.d (.val (.bool b1)),.d (.val (.bool b2)),.d (.val (.bool b3)),.d (.val (.bool b4)),.d (.val (.bool b5)),.d (.val (.int .i64 (c.num l u n x2)))]:List CV)[j]?=some (.d (.val x))->vs'[j]?=some x:=by
       intro j x hj
       obtain ⟨y,hy,hR⟩:=hc j _ hj
       rw [hy,(dr_val' hR).1]
      have e0:vs'[0]?=some v7:=by
       obtain ⟨y,hy,hR⟩:=hc 0 _ rfl
       rw [hy,dr_fix hR]
      have e1:=get 1 _ rfl
      have e2:=get 2 _ rfl
      have e3:=get 3 _ rfl
      have e4:=get 4 _ rfl
      have e5:=get 5 _ rfl
      have e6:=get 6 _ rfl
      have e7:=get 7 _ rfl
      rw [← hu7]
      have hsz8:vs'.size=8:=hsz
      apply Array.ext
      ·rw [hsz8];rfl
      ·intro i h1 h2
       have:vs'[i]?=some vs'[i]:=Array.getElem?_eq_getElem h1
       match i,h1,this with
       | 0,_,h=>rw [e0] at h;injection h with h;rw [← h];rfl
       | 1,_,h=>rw [e1] at h;injection h with h;rw [← h];rfl
       | 2,_,h=>rw [e2] at h;injection h with h;rw [← h];rfl
       | 3,_,h=>rw [e3] at h;injection h with h;rw [← h];rfl
       | 4,_,h=>rw [e4] at h;injection h with h;rw [← h];rfl
       | 5,_,h=>rw [e5] at h;injection h with h;rw [← h];rfl
       | 6,_,h=>rw [e6] at h;injection h with h;rw [← h];rfl
       | 7,_,h=>rw [e7] at h;injection h with h;rw [← h];rfl
       | i+8,h,_=>omega
     ·intro id q hq hb'
      obtain ⟨src,t,xs,h1,h2,h3,h4⟩:=a3 id q hq
      cases src with
      | none =>
       have e:gc.κ id=.slice none 0 0:=by simp [gc,hlook id none h1]
       rw [e] at hb';simp [blkOf] at hb'
      | some old =>
       obtain ⟨f,hm⟩:=h3 old rfl
       have e1:gc.κ id=ge.κ old:=by simp [gc,hlook id _ h1]
       rw [e1] at hb'
       exact hnot7 old _ _ _ hm hb'
    ·exact hbm.elim
 cases xk with
 | normal=>exact fin hk
 | ret=>exact fin hk
 | exit id=>exact hk.elim
theorem cells8 {g:G} {c0:CV} {b0 b1 b2 b3 b4 b5:Bool} {n:Int} {vs:Array Value} (h:Cells g [c0,.d (.val (.bool b0)),.d (.val (.bool b1)),.d (.val (.bool b2)),.d (.val (.bool b3)),.d (.val (.bool b4)),.d (.val (.bool b5)),.d (.val (.int .i64 n))] vs) {g':G} {c0':CV} (h0:∀ v,vs[0]?=some v->c0.R g v->c0'.R g' v) :
  Cells g' (bmCells c0' (six b0 b1 b2 b3 b4 b5) n) vs:=by
 obtain ⟨hsz,hc⟩:=h
 refine ⟨hsz,fun j c hj=>?_⟩
 have sc:∀ x:Value,([c0,.d (.val (.bool b0)),.d (.val (.bool b1)),.d (.val (.bool b2)),.d (.val (.bool b3)),.d (.val (.bool b4)),.d (.val (.bool b5)),.d (.val (.int .i64 n))]:List CV)[j]?=some (.d (.val x))->∃ u,vs[j]?=some u/\(CV.d (.val x)).R g' u:=by
  intro x hx
  obtain ⟨u,hu,hR⟩:=hc j _ hx
  obtain ⟨rfl,ho⟩:=dr_val' hR
  exact ⟨_,hu,.val _ ho⟩
 match j,hj with
 | 0,hj =>
  obtain ⟨u,hu,hR⟩:=hc 0 _ rfl
  injection hj with hj
  subst hj
  exact ⟨u,hu,h0 u hu hR⟩
 | 1,hj=>injection hj with hj;subst hj;exact sc _ rfl
 | 2,hj=>injection hj with hj;subst hj;exact sc _ rfl
 | 3,hj=>injection hj with hj;subst hj;exact sc _ rfl
 | 4,hj=>injection hj with hj;subst hj;exact sc _ rfl
 | 5,hj=>injection hj with hj;subst hj;exact sc _ rfl
 | 6,hj=>injection hj with hj;subst hj;exact sc _ rfl
 | 7,hj=>injection hj with hj;subst hj;exact sc _ rfl
 | j+8,hj=>simp [bmCells] at hj
theorem weak_refs' {c:CV} {i:Nat} (h:i ∈ (weak c).refs):i ∈ c.refs:=by
 unfold weak at h
 split at h
 ·cases h
 ·exact h
theorem ptB_ok (ht : TabOk P E tab) (hKA : KAll P E K) (hPA : PAll P E pts) (hmix : P.follows .mixedOrders = true) (hdr : ∀ w0 M n, DrawSound P E tab K w0 M n) {f : FuncId} {fn : Func} (hf : P.funcs[f]? = some fn) (hb : fn.body = some (bodyOf fn)) (hname : (fn.name == "runtime.NumGoroutine") = false) {c : BCon} (hflat : nested c.rks = false) (hn : c.k2.length + 1 <= fn.ntmps)
  (hok:codeOkP tab K hp perm fn.ntmps (bodyOf fn)=true) {anns:List GAtom->List Bool->Int->Args c.k2->Value->Nat->St->Option Ann}
  (hvc:∀ l u n x2 v,c.pre l u n x2->vcR tab K pts hp (anns l u n x2 v) perm [7] (bodyOf fn) (isoStB c l u n x2 v) (retB tab c fn.results.toList l u n x2 v)):PTOk P E f (ptB c):=by
 refine ⟨⟨fn,_,hf,hname,hb⟩,?_⟩
 intro w0 M g st w args vs base k hg hcl hrefs hargs hv
 unfold ptB at hv
 split at hv
 ·rename_i id rest
  unfold ptB2 at hv
  split at hv
  ·rename_i c0 b0 b1 b2 b3 b4 b5 n hm
   unfold ptB3 at hv
   split at hv
   ·rename_i l ids x2 hl hids hx2
    obtain ⟨hsp,hfr,hns,hfree,hpre,hk⟩:=hv
    rw [refsC_eq,refsAr_eq] at hids
    obtain ⟨rfl,hsl⟩:=ownsC_mem hids
    obtain ⟨ro',hro,hdr',hg1⟩:=hg.freeze (c0.refs ++ refsT rest) fun i hi=>⟨notSpent_mem hns i hi,hsl i hi⟩
    have hlent:∀ i ∈ c0.refs ++ refsT rest,Lent st.mem g.κ ro' i:=by
     intro i hi
     refine ⟨fun f t xs hmm=>hdr' i hi f t xs hmm,fun t xs hmm=>?_⟩
     obtain ⟨f,t',xs',hm'⟩:=hsl i hi
     rw [hmm] at hm';cases hm'
    have hidn:id ∉ c0.refs ++ refsT rest:=fun hi=>by
     obtain ⟨f,t',xs',hm'⟩:=hsl id hi
     rw [hm] at hm';cases hm'
    obtain ⟨b,cur,ty,hκ,hheap,hcells⟩:=hg.res id _ hm
    have hblk:blkOf (g.κ id)=some b:=by rw [hκ];rfl
    have hblt:b < w.heap.size:=lt_of_some hheap
    have hrob:ro' b=none:=hg1.wro id _ hm trivial b hblk hsp (by
     show sets st.fr _ id=false
     rw [sets_get,hfr]
     simp [hidn])
    have hgrob:g.ro b=none:=hg.wro id _ hm trivial b hblk hsp hfr
    -- the arguments
    obtain ⟨p0,hp0,hp0R⟩:=hargs.2 0 _ rfl
    have hvl:=hargs.1
    obtain ⟨vs2,rfl⟩:∃ vs2,vs=.pointer (some ⟨b,0,none⟩) :: vs2:=by
     cases vs with
     | nil=>simp at hp0
     | cons q vs2 =>
      simp at hp0
      subst hp0
      obtain ⟨b',h1,h2⟩:=hp0R
      rw [hκ] at h1
      injection h1 with h1;injection h1 with h1;injection h1 with h1
      subst h1
      exact ⟨vs2,by rw [h2]⟩
    have hA2:ArgsR g rest vs2:=⟨by simpa using hvl,fun j s hj=>by simpa using hargs.2 (j+1) s (by simpa using hj)⟩
    have hB2:=decs_R (ro':=ro') hro hx2 hA2 fun i hi=>hlent i (List.mem_append_right _ hi)
    obtain ⟨v0,hv0,hv0R⟩:=hcells.2 0 _ rfl
    have hd0:DR ro' (.arr .atom l) v0:=by
     refine rdl_DR hro hl (c:=weak c0) (v:=v0) ?_ fun i hi=>hlent i (List.mem_append_left _ ?_)
     ·exact weak_R hv0R
     ·exact weak_refs' hi
    have hCe:Cells (argG ro' g.ρ) (bmCells (.d (.fix .atom l v0)) (six b0 b1 b2 b3 b4 b5) n) cur :=
     cells8 hcells fun v hv _=>by
      rw [hv0] at hv
      injection hv with hv
      subst hv
      exact .fix .atom l v0 hd0
    refine Calls.mono (iso_callB ht hKA hPA hmix hdr hf hb hn hok hvc (ρ:=g.ρ) base hpre hg1.ro hB2 hheap hCe hrob) fun e w' he=>?_
    obtain ⟨v,gc,vs',ty',rfl,hext,hρc,hres,hheap',hvs',hnb⟩:=he
    obtain ⟨R,hR⟩:∃ R,R=(ress c.rks base (c.val l (six b0 b1 b2 b3 b4 b5) n x2)).2:=⟨_,rfl⟩
    rw [← hR] at hk
    have hfr0:∀ id q,(id,q) ∈ R->st.mem id=none:=fun i q hq=>by rw [hR] at hq;exact allFree_mem (freeL_ress _ _ _ hfree) (i,q) hq
    have hRres:∀ id q,(id,q) ∈ R->ResR E w' gc id q:=fun i q hq=>hres.res i q (by rw [← hR];exact hq)
    have hRnew:∀ id q,(id,q) ∈ R->∀ b',blkOf (gc.κ id)=some b'->w.heap.size<=b'/\gc.ro b'=none:=fun i q hq=>hres.new i q (by rw [← hR];exact hq)
    have hRdist:∀ i q j s,(i,q) ∈ R->(j,s) ∈ R->i ≠ j->∀ b',blkOf (gc.κ i)=some b'->blkOf (gc.κ j)=some b'->False:=fun i q j s hi hj=>hres.dist i q j s (by rw [← hR];exact hi) (by rw [← hR];exact hj)
    have hRsl:∀ id q,(id,q) ∈ R->∃ f t xs,q=.sl f t xs/\t.flat=true:=fun i q hq=>by rw [hR] at hq;exact ress_flat _ _ _ hflat i q hq
    have hidR:∀ p ∈ R,p.1 ≠ id:=fun p hp e=>by
     have:=hfr0 p.1 p.2 hp
     rw [e,hm] at this;cases this
    -- the world before the block was changed
    obtain ⟨w1,hw1⟩:∃ w1:World,w1={ w' with heap:=w'.heap.setIfInBounds b (.cells cur ty (0,0)) }:=⟨_,rfl⟩
    have hlt':b < w'.heap.size:=lt_of_some hheap'
    have hw1s:w1.heap.size=w'.heap.size:=by rw [hw1];simp
    have hw1b:w1.heap[b]?=some (.cells cur ty (0,0)):=by rw [hw1];simp [hlt']
    have hw1o:∀ b',b' ≠ b->w1.heap[b']?=w'.heap[b']?:=fun b' h=>by rw [hw1];exact Array.getElem?_setIfInBounds_ne (Ne.symm h)
    have hold:∀ b',b' < w.heap.size->w1.heap[b']?=w.heap[b']?:=fun b' hb'=>by
     by_cases e:b'=b
     ·subst e;rw [hw1b,hheap]
     ·rw [hw1o b' e];exact hext.block b' hb' e
    obtain ⟨g2,hg2⟩:∃ g2:G,g2={ ro:=g.ro,κ:=fun j=>if (st.mem j).isSome then g.κ j else gc.κ j,ln:=fun j=>if (st.mem j).isSome then g.ln j else gc.ln j,ρ:=g.ρ }:=⟨_,rfl⟩
    have κn:∀ id q,(id,q) ∈ R->g2.κ id=gc.κ id/\g2.ln id=gc.ln id:=fun i q hq=>by rw [hg2];simp [hfr0 i q hq]
    have κo:∀ id,(st.mem id).isSome=true->g2.κ id=g.κ id/\g2.ln id=g.ln id:=fun i hi=>by rw [hg2];simp [hi]
    have hro2:g2.ro=g.ro:=by rw [hg2]
    have hρ2:g2.ρ=g.ρ:=by rw [hg2]
    have hresW:∀ (w2:World) id q,(∀ b',w.heap.size<=b'->w2.heap[b']?=w'.heap[b']?)->(id,q) ∈ R->ResR E w2 g2 id q:=by
     intro w2 i q hw2 hq
     obtain ⟨f,t,xs,rfl,hflat'⟩:=hRsl i q hq
     obtain ⟨h1,h2⟩:=hRres _ _ hq
     refine ⟨by rw [(κn _ _ hq).2];exact h1,?_⟩
     rw [(κn _ _ hq).1]
     rcases h2 with h2 | ⟨b',cap,cur',h3,h4,h5,h6,h7,h8⟩
     ·exact .inl h2
     ·refine .inr ⟨b',cap,cur',h3,?_,h5,h6,h7,RowR.flat_any hflat' h8⟩
      rw [hw2 b' (hRnew _ _ hq b' (by rw [h3];rfl)).1]
      exact h4
    have hge:∀ b',w.heap.size<=b'->w1.heap[b']?=w'.heap[b']?:=fun b' hb'=>hw1o b' (by omega)
    have hGood1:Good E w0 M g2 { st with mem:=adds st.mem R } w1:=by
     have hgj:Good E w0 M g { st with env:=fun _=>SE.junk } w:=hg.env rfl rfl rfl rfl
     refine Good.env (st:={ st with env:=fun _=>SE.junk,mem:=adds st.mem R }) ?_ rfl rfl rfl rfl
     refine hgj.extend ⟨fun x id hid=>(by simp [SE.junk,S.refs,S0.refs,CV.refs] at hid),hcl⟩ R ?_ hold (fun b' vs hb'=>by rw [hro2];exact hb') (fun b' vs hb'=>.inl (by rw [hro2] at hb';exact hb')) κo hρ2 (fun p hp=>hfr0 p.1 p.2 hp) (fun i q hq=>hresW w1 i q hge hq) ?_ ?_
     ·refine ⟨?_,?_,?_,by rw [hw1s];exact Nat.le_trans hg.ext.size hext.size,fun b' hb' hM=>?_⟩
      ·rw [hw1];exact hext.os.trans hg.ext.os
      ·rw [hw1];exact hext.tape.trans hg.ext.tape
      ·rw [hw1];exact hext.output.trans hg.ext.output
      ·rw [hold b' (Nat.lt_of_lt_of_le hb' hg.ext.size)]
       exact hg.ext.block b' hb' hM
     ·intro i q hq _ b' hb'
      rw [(κn i q hq).1] at hb'
      refine ⟨(hRnew i q hq b' hb').1,?_⟩
      rw [hro2]
      cases hr:g.ro b' with
      | none=>rfl
      | some vs =>
       obtain ⟨_,_,hh⟩:=hg.ro b' vs hr
       have:=lt_of_some hh
       have:=(hRnew i q hq b' hb').1
       omega
     ·intro i q j s hi hj hij b' hbi hbj
      rw [(κn i q hi).1] at hbi
      rw [(κn j s hj).1] at hbj
      exact hRdist i q j s hi hj hij b' hbi hbj
    have hm1:adds st.mem R id=some (.blk [c0,.d (.val (.bool b0)),.d (.val (.bool b1)),.d (.val (.bool b2)),.d (.val (.bool b3)),.d (.val (.bool b4)),.d (.val (.bool b5)),.d (.val (.int .i64 n))]):=by
     rw [adds_old hidR];exact hm
    have hblk2:blkOf (g2.κ id)=some b:=by rw [(κo id (by rw [hm];rfl)).1];exact hblk
    have hGood2:Good E w0 M g2 { st with mem:=upd (adds st.mem R) id (some (.blk (bmCells c0 (c.used l (six b0 b1 b2 b3 b4 b5) n x2) (c.num l (six b0 b1 b2 b3 b4 b5) n x2)))) } w':=by
     refine Good.write' hGood1 (id:=id) (b:=b) (r':=.blk (bmCells c0 (c.used l (six b0 b1 b2 b3 b4 b5) n x2) (c.num l (six b0 b1 b2 b3 b4 b5) n x2))) hm1 trivial (.inl hblk2) ?_ ?_ (by rw [hro2];exact hgrob) (by rw [hw1]) (by rw [hw1]) (by rw [hw1]) (by rw [hw1s];exact Nat.le_refl _) (fun b' _ hne=>(hw1o b' hne).symm) ?_ fun j hj=>upd_dom hj
     ·intro j s hs
      rcases upd_cases hs with h | ⟨h1,h2⟩
      ·exact .inl h
      ·exact .inr ⟨h1,.inl h2⟩
     ·intro j s hj hs hl'
      rcases upd_cases hs with ⟨h,_⟩ | ⟨_,h2⟩
      ·exact (hj h).elim
      ·exact alone hGood1 hm1 trivial (fun _ _ _ h=>by cases h) hblk2 j s hj h2 hl'
     ·refine ⟨b,vs',ty',by rw [(κo id (by rw [hm];rfl)).1];exact hκ,hheap',?_⟩
      rw [hvs']
      refine ⟨rfl,fun j c' hj=>?_⟩
      match j,hj with
      | 0,hj =>
       injection hj with hj
       subst hj
       refine ⟨v0,rfl,CV.R.mono (g:=g) (g':=g2) (fun b' vs hb'=>by rw [hro2];exact hb') hρ2 (fun i hi=>κo i (hcl id _ hm i ?_)) hv0R⟩
       simp [Res.refs,refsL,hi]
      | 1,hj=>injection hj with hj;subst hj;exact ⟨_,rfl,.val _ rfl⟩
      | 2,hj=>injection hj with hj;subst hj;exact ⟨_,rfl,.val _ rfl⟩
      | 3,hj=>injection hj with hj;subst hj;exact ⟨_,rfl,.val _ rfl⟩
      | 4,hj=>injection hj with hj;subst hj;exact ⟨_,rfl,.val _ rfl⟩
      | 5,hj=>injection hj with hj;subst hj;exact ⟨_,rfl,.val _ rfl⟩
      | 6,hj=>injection hj with hj;subst hj;exact ⟨_,rfl,.val _ rfl⟩
      | 7,hj=>injection hj with hj;subst hj;exact ⟨_,rfl,.val _ rfl⟩
      | j+8,hj=>simp [bmCells] at hj
    refine ⟨v,_,_,g2,rfl,hk,hGood2,?_,?_,?_,fun i hi=>⟨upd_dom (adds_isSome hi),κo i hi⟩,fun b' vs hb'=>by rw [hro2];exact hb',hρ2⟩
    ·refine pack1_any (ress_any (g:=gc) (g':=g2) (by rw [hρ2,hρc]) c.rks base _ hflat fun i hi=>?_) hres.val
     obtain ⟨q,hq⟩:=ress_refs _ _ _ i hi
     exact κn i q (by rw [hR];exact hq)
    ·intro i hi
     obtain ⟨q,hq⟩:=ress_refs _ _ _ i (pack1_refs _ i hi)
     exact upd_dom (adds_new (r:=q) (by rw [hR];exact hq))
    ·intro j r hj i hi
     refine upd_dom ?_
     rcases upd_cases hj with ⟨_,h⟩ | ⟨_,h⟩
     ·subst h
      have hi:i ∈ c0.refs:=by simpa [Res.refs,bmCells,refsL,CV.refs] using hi
      exact adds_isSome (hcl id _ hm i (by simp [Res.refs,refsL,hi]))
     ·rcases adds_cases h with h | h
      ·obtain ⟨f,t,xs,rfl,_⟩:=hRsl j r h
       simp [Res.refs] at hi
      ·exact adds_isSome (hcl j r h i hi)
   ·exact hv.elim
  ·exact hv.elim
 ·exact hv.elim
theorem blk_ok {l : List (FuncId × Con)} {lp : List (FuncId × PT)} (ht : TabOk P E tab) (hmix : P.follows .mixedOrders = true) (hl : AllOk P E l) (hlp : AllPt P E lp) {f : FuncId} {fn : Func} (hf : P.funcs[f]? = some fn) (hb : fn.body = some (bodyOf fn)) (hname : (fn.name == "runtime.NumGoroutine") = false) {c : BCon} (hflat : nested c.rks = false) (hn : c.k2.length + 1 <= fn.ntmps)
  (hok:codeOkP tab (lookF l) hp perm fn.ntmps (bodyOf fn)=true) {anns:List GAtom->List Bool->Int->Args c.k2->Value->Nat->St->Option Ann}
  (hvc:∀ l' u n x2 v,c.pre l' u n x2->vcR tab (lookF l) (lookP lp) hp (anns l' u n x2 v) perm [7] (bodyOf fn) (isoStB c l' u n x2 v) (retB tab c fn.results.toList l' u n x2 v)):PTOk P E f (ptB c) :=
 ptB_ok ht (kall_of hl) (pall_of hlp) hmix (fun _ _ _=>draw_sound ht (tab_small ht) (kall_of hl) hmix _ _ _) hf hb hname hflat hn hok hvc
end
end Go.SE

namespace Go.SE
open Go.RowKit
abbrev nA:GAtom:=⟨0,0,0⟩
def cnt (u:List Bool):Int:=((u.filter id).length:Nat)
def uaP (l:List GAtom) (u:List Bool) (k:Int) (i:Nat):Bool:=(l.getD i nA).a == k && !u.getD i false
def uaO (l:List GAtom) (u:List Bool) (k:Int):Option Nat:=(List.range l.length).find? (uaP l u k)
def uaI (l:List GAtom) (u:List Bool) (k:Int):Int:=(((uaO l u k).getD 0:Nat):Int)
def uaB (l:List GAtom) (u:List Bool) (k:Int):Bool:=(uaO l u k).isSome
def uaN (l:List GAtom) (u:List Bool) (k:Int) (i:Nat):Bool:=(List.range i).all fun j=>!uaP l u k j
theorem sx {u:List Bool} (h:u.length=6):six true (u.getD 1 false) (u.getD 2 false) (u.getD 3 false) (u.getD 4 false) (u.getD 5 false)=u.set 0 true/\six (u.getD 0 false) true (u.getD 2 false) (u.getD 3 false) (u.getD 4 false) (u.getD 5 false)=u.set 1 true/\six (u.getD 0 false) (u.getD 1 false) true (u.getD 3 false) (u.getD 4 false) (u.getD 5 false)=u.set 2 true/\six (u.getD 0 false) (u.getD 1 false) (u.getD 2 false) true (u.getD 4 false) (u.getD 5 false)=u.set 3 true/\six (u.getD 0 false) (u.getD 1 false) (u.getD 2 false) (u.getD 3 false) true (u.getD 5 false)=u.set 4 true/\six (u.getD 0 false) (u.getD 1 false) (u.getD 2 false) (u.getD 3 false) (u.getD 4 false) true=u.set 5 true:=by
 match u,h with
 | [_,_,_,_,_,_],_=>exact ⟨rfl,rfl,rfl,rfl,rfl,rfl⟩
theorem cnt_bd (u:List Bool):0<=cnt u/\cnt u<=u.length:=by
 unfold cnt
 have:=List.length_filter_le id u
 omega
theorem cnt_set:∀ {u:List Bool} {i:Nat},i < u.length->u.getD i false=false->cnt (u.set i true)=cnt u+1:=by
 intro u
 induction u with
 | nil=>intro i h;simp at h
 | cons x u ih =>
  intro i h h2
  cases i with
  | zero =>
   have:x=false:=h2
   subst this
   simp [cnt]
  | succ i =>
   have:=ih (i:=i) (by simpa using h) (by simpa using h2)
   unfold cnt at this ⊢
   cases x <;> simp_all <;> omega
theorem uaN_step {l:List GAtom} {u:List Bool} {k:Int} {i:Nat} (h:uaN l u k i=true) (h2:uaP l u k i=false):uaN l u k (i+1)=true:=by
 unfold uaN at h ⊢
 rw [List.range_succ,List.all_append,h]
 simp [h2]
theorem uaN_s1 {l:List GAtom} {u:List Bool} {k:Int} {i:Nat} (h:uaN l u k i=true) (h2:¬ (l.getD i ⟨0,0,0⟩).a=k):uaN l u k (i+1)=true :=
 uaN_step h (by unfold uaP;rw [beq_eq_false_iff_ne.2 h2];rfl)
theorem uaN_s2 {l:List GAtom} {u:List Bool} {k:Int} {i j:Nat} (h:uaN l u k i=true) (hj:(i:Int)=(j:Int)) (h2:u.getD j false=true):uaN l u k (i+1)=true:=by
 have:i=j:=by omega
 subst this
 exact uaN_step h (by unfold uaP;rw [h2];simp)
theorem uaO_some {l:List GAtom} {u:List Bool} {k:Int} {i:Nat} (hi:i < l.length) (h:uaN l u k i=true) (h2:uaP l u k i=true):uaO l u k=some i:=by
 unfold uaO
 rw [List.find?_range_eq_some]
 refine ⟨h2,List.mem_range.2 hi,fun j hj=>?_⟩
 have:=List.all_eq_true.1 h j (List.mem_range.2 hj)
 simpa using this
theorem uaO_none {l:List GAtom} {u:List Bool} {k:Int} {i:Nat} (hi:¬ i < l.length) (hi2:i<=l.length) (h:uaN l u k i=true):uaO l u k=none:=by
 have:i=l.length:=by omega
 subst this
 unfold uaO
 rw [List.find?_range_eq_none]
 intro j hj
 have:=List.all_eq_true.1 h j (List.mem_range.2 hj)
 simpa using this
theorem ua_hit {l:List GAtom} {u:List Bool} {k:Int} {i j:Nat} (hi:i < l.length) (h:uaN l u k i=true) (ha:(l.getD i ⟨0,0,0⟩).a=k) (hj:(i:Int)=(j:Int)) (hu:u.getD j false=false):(i:Int)=uaI l u k/\true=uaB l u k:=by
 have:i=j:=by omega
 subst this
 have:=uaO_some hi h (by unfold uaP;rw [hu];simpa using ha)
 unfold uaI uaB
 rw [this]
 exact ⟨rfl,rfl⟩
theorem ua_miss {l:List GAtom} {u:List Bool} {k:Int} {i:Nat} (hi:¬ i < l.length) (hi2:i<=l.length) (h:uaN l u k i=true):(0:Int)=uaI l u k/\false=uaB l u k:=by
 unfold uaI uaB
 rw [uaO_none hi hi2 h]
 exact ⟨rfl,rfl⟩
theorem uaO_spec {l:List GAtom} {u:List Bool} {k:Int} {i:Nat} (h:uaO l u k=some i):i < l.length/\(l.getD i nA).a=k/\u.getD i false=false:=by
 unfold uaO at h
 obtain ⟨h1,h2,_⟩:=List.find?_range_eq_some.1 h
 unfold uaP at h1
 simp only [Bool.and_eq_true,beq_iff_eq,Bool.not_eq_true'] at h1
 exact ⟨List.mem_range.1 h2,h1.1,h1.2⟩
theorem uaB_spec {l:List GAtom} {u:List Bool} {k:Int} (h:uaB l u k=true):∃ i:Nat,uaO l u k=some i/\uaI l u k=(i:Int)/\i < l.length/\(l.getD i nA).a=k/\u.getD i false=false:=by
 unfold uaB at h
 cases hq:uaO l u k with
 | none=>rw [hq] at h;cases h
 | some i=>exact ⟨i,rfl,by unfold uaI;rw [hq];rfl,uaO_spec hq⟩
theorem uaB_bd {l:List GAtom} {u:List Bool} {k:Int} (hl:l.length<=6) (h:uaB l u k=true):0<=uaI l u k/\uaI l u k < 6/\uaI l u k < (l.length:Nat)/\u.getD (uaI l u k).toNat false=false:=by
 obtain ⟨i,_,h2,h3,_,h5⟩:=uaB_spec h
 rw [h2]
 exact ⟨by omega,by omega,by omega,by rw [Int.toNat_natCast];exact h5⟩
def ucO (l:List GAtom) (u:List Bool) (x:GAtom):Option Nat:=(uaO l u x.a).bind fun i=>cond (decide (l.getD i nA=x)) (some i) none
def ucL (l:List GAtom) (u:List Bool) (x:GAtom):List Int:=match ucO l u x with
 | some i=>[(i:Int)]
 | none=>[]
def ucB (l:List GAtom) (u:List Bool) (x:GAtom):Bool:=(ucO l u x).isSome
def ucU (l:List GAtom) (u:List Bool) (x:GAtom):List Bool:=match ucO l u x with
 | some i=>u.set i true
 | none=>u
section
variable {l:List GAtom} {u:List Bool} {x:GAtom}
theorem uc_no (h:ucO l u x=none):ucL l u x=[]/\ucB l u x=false/\ucU l u x=u:=by unfold ucL ucB ucU;rw [h];exact ⟨rfl,rfl,rfl⟩
theorem uc_no1 (h:uaB l u x.a=false):ucO l u x=none:=by
 unfold uaB at h
 unfold ucO
 cases hq:uaO l u x.a with
 | none=>rfl
 | some i=>rw [hq] at h;cases h
theorem uc_no2 (h:uaB l u x.a=true) (h2:¬ l.getD (uaI l u x.a).toNat ⟨0,0,0⟩=x):ucO l u x=none:=by
 obtain ⟨i,h3,h4,_⟩:=uaB_spec h
 rw [h4,Int.toNat_natCast] at h2
 unfold ucO
 rw [h3]
 show cond (decide _) _ _=_
 rw [decide_eq_false h2]
 rfl
theorem uc_yes (h:uaB l u x.a=true) (h2:l.getD (uaI l u x.a).toNat ⟨0,0,0⟩=x):ucL l u x=[uaI l u x.a]/\ucB l u x=true/\ucU l u x=u.set (uaI l u x.a).toNat true:=by
 obtain ⟨i,h3,h4,_⟩:=uaB_spec h
 have:ucO l u x=some i:=by
  rw [h4,Int.toNat_natCast] at h2
  unfold ucO
  rw [h3]
  show cond (decide _) _ _=_
  rw [decide_eq_true h2]
  rfl
 unfold ucL ucB ucU
 rw [this,h4]
 exact ⟨rfl,rfl,rfl⟩
end
def clB (l:List GAtom) (y:Int):Bool:=y == 0 || bgn l y
theorem cl1 {l:List GAtom} {y:Int} (h:y=0):clB l y=true:=by unfold clB;rw [h];rfl
theorem cl2 {l:List GAtom} {y:Int} (h:bgn l y=true):clB l y=true:=by unfold clB;rw [h,Bool.or_true]
theorem cl3 {l:List GAtom} {y:Int} (h:¬ y=0) (h2:bgn l y=false):clB l y=false:=by unfold clB;rw [h2,beq_eq_false_iff_ne.2 h];rfl
def chn (l:List GAtom) (y:Int):Nat->List Bool->Int->List Int->List Bool × Option (List Int)
 | 0,u,_,_=>(u,none)
 | f+1,u,q,us=>match uaO l u q with
  | none=>(u,none)
  | some i=>if (l.getD i nA).b=y then (u.set i true,some (us ++ [(i:Int)]))
   else if (l.getD i nA).kind=2/\clB l y=false then (u.set i true,none)
   else chn l y f (u.set i true) (l.getD i nA).b (us ++ [(i:Int)])
def chU (l:List GAtom) (u:List Bool) (x:GAtom):List Bool:=(chn l x.b 7 u x.a []).1
def chL (l:List GAtom) (u:List Bool) (x:GAtom):List Int:=(chn l x.b 7 u x.a []).2.getD []
def chB (l:List GAtom) (u:List Bool) (x:GAtom):Bool:=(chn l x.b 7 u x.a []).2.isSome
structure chI (l:List GAtom) (u:List Bool) (x:GAtom) (u':List Bool) (q:Int) (us:List Int):Prop where
 len:u'.length=6
 le:us.length<=6
 cn:cnt u'=cnt u+us.length
 eq:chn l x.b (7 - us.length) u' q us=chn l x.b 7 u x.a []
section
variable {l:List GAtom} {u u':List Bool} {x:GAtom} {q:Int} {us:List Int}
theorem chI_zero (h:u.length=6):chI l u x u x.a []:=⟨h,by simp,by simp,rfl⟩
theorem chI_lt (h:chI l u x u' q us) (hb:uaB l u' q=true) (hl:l.length<=6):us.length < 6:=by
 obtain ⟨i,_,_,h3,_,h5⟩:=uaB_spec hb
 have h1:=cnt_set (u:=u') (i:=i) (by rw [h.len];omega) h5
 have h2:=cnt_bd (u'.set i true)
 have h4:=cnt_bd u
 have h6:=h.cn
 have h7:=h.len
 simp only [List.length_set] at h2
 omega
theorem ch_fuel (h:us.length < 6):7 - us.length=(7 - (us ++ [q]).length)+1:=by simp;omega
theorem ch_no (h:chI l u x u' q us) (hb:uaB l u' q=false):chU l u x=u'/\chL l u x=[]/\chB l u x=false:=by
 have hq:uaO l u' q=none:=by
  unfold uaB at hb
  cases hq:uaO l u' q with
  | none=>rfl
  | some i=>rw [hq] at hb;cases hb
 obtain ⟨f,hf⟩:∃ f,7 - us.length=f+1:=⟨6 - us.length,by have:=h.le;omega⟩
 have h1:=h.eq
 rw [hf,chn,hq] at h1
 unfold chU chL chB
 rw [← h1]
 exact ⟨rfl,rfl,rfl⟩
theorem ch_end (h:chI l u x u' q us) (hb:uaB l u' q=true) (hl:l.length<=6) (hy:(l.getD (uaI l u' q).toNat ⟨0,0,0⟩).b=x.b):chU l u x=u'.set (uaI l u' q).toNat true/\chL l u x=us ++ [uaI l u' q]/\chB l u x=true:=by
 have hlt:=chI_lt h hb hl
 obtain ⟨i,h3,h4,_⟩:=uaB_spec hb
 rw [h4,Int.toNat_natCast] at hy ⊢
 have h1:=h.eq
 rw [ch_fuel (q:=0) hlt,chn,h3] at h1
 simp only [if_pos hy] at h1
 unfold chU chL chB
 rw [← h1]
 exact ⟨rfl,rfl,rfl⟩
theorem ch_open (h:chI l u x u' q us) (hb:uaB l u' q=true) (hl:l.length<=6) (hy:¬ (l.getD (uaI l u' q).toNat ⟨0,0,0⟩).b=x.b) (hk:(l.getD (uaI l u' q).toNat ⟨0,0,0⟩).kind=2) (hc:clB l x.b=false):chU l u x=u'.set (uaI l u' q).toNat true/\chL l u x=[]/\chB l u x=false:=by
 have hlt:=chI_lt h hb hl
 obtain ⟨i,h3,h4,_⟩:=uaB_spec hb
 rw [h4,Int.toNat_natCast] at hy hk ⊢
 have h1:=h.eq
 rw [ch_fuel (q:=0) hlt,chn,h3] at h1
 simp only [if_neg hy,if_pos (And.intro hk hc)] at h1
 unfold chU chL chB
 rw [← h1]
 exact ⟨rfl,rfl,rfl⟩
theorem ch_go (h:chI l u x u' q us) (hb:uaB l u' q=true) (hl:l.length<=6) (hy:¬ (l.getD (uaI l u' q).toNat ⟨0,0,0⟩).b=x.b) (hk:¬ (l.getD (uaI l u' q).toNat ⟨0,0,0⟩).kind=2 ∨ clB l x.b=true):chI l u x (u'.set (uaI l u' q).toNat true) (l.getD (uaI l u' q).toNat ⟨0,0,0⟩).b (us ++ [uaI l u' q]):=by
 have hlt:=chI_lt h hb hl
 obtain ⟨i,h3,h4,h5,_,h6⟩:=uaB_spec hb
 rw [h4,Int.toNat_natCast] at hy hk ⊢
 refine ⟨by rw [List.length_set];exact h.len,by simp;omega,?_,?_⟩
 ·rw [cnt_set (by rw [h.len];omega) h6,h.cn];simp;omega
 ·have h1:=h.eq
  have hn:¬ ((l.getD i nA).kind=2/\clB l x.b=false):=by
   rintro ⟨e1,e2⟩
   rcases hk with hk | hk
   ·exact hk e1
   ·rw [e2] at hk;cases hk
  rw [ch_fuel (q:=(i:Int)) hlt,chn,h3] at h1
  simp only [if_neg hy,if_neg hn] at h1
  exact h1
theorem ch_kit (h:chI l u x u' q us) (hb:uaB l u' q=true) (hl:l.length<=6):0<=uaI l u' q/\uaI l u' q < 6/\uaI l u' q < (l.length:Nat)/\u'.getD (uaI l u' q).toNat false=false/\us.length < 6 /\
  sx6 (u'.set (uaI l u' q).toNat true)=u'.set (uaI l u' q).toNat true /\
  cnt (u'.set (uaI l u' q).toNat true)=cnt u'+1:=by
 have h9:=uaB_bd hl hb
 exact ⟨h9.1,h9.2.1,h9.2.2.1,h9.2.2.2,chI_lt h hb hl,sx6_eta (by rw [List.length_set];exact h.len),cnt_set (by rw [h.len];omega) h9.2.2.2⟩
end
def useU (l:List GAtom) (u:List Bool) (x:GAtom):List Bool:=cond (x.kind == 1) (ucU l u x) (chU l u x)
def useB (l:List GAtom) (u:List Bool) (x:GAtom):Bool:=cond (x.kind == 1) (ucB l u x) (chB l u x)
def mcF (l:List GAtom):List GAtom->List Bool->Option (List Bool)
 | [],u=>some u
 | x :: g,u=>cond (useB l u x) (mcF l g (useU l u x)) none
def u0:List Bool:=six false false false false false false
def mcM (l g:List GAtom):Bool:=match mcF l g u0 with
 | some u=>cnt u == (l.length:Nat)
 | none=>false
def MC (a b:GAsn) (c:List Int):Bool:=b.facts.all (fh c) && mcM (fL c a.atoms) (fL c b.atoms)
theorem chn_len {l:List GAtom} {y:Int}:∀ (f:Nat) (u:List Bool) (q:Int) (us:List Int),(chn l y f u q us).1.length=u.length:=by
 intro f
 induction f with
 | zero=>intros;rfl
 | succ f ih =>
  intro u q us
  rw [chn]
  split
  ·rfl
  ·split
   ·simp
   ·split
    ·simp
    ·rw [ih];simp
theorem useU_len {l:List GAtom} {u:List Bool} {x:GAtom}:(useU l u x).length=u.length:=by
 unfold useU
 cases x.kind == 1
 ·exact chn_len _ _ _ _
 ·show (ucU l u x).length=_
  unfold ucU
  split <;> simp
structure mcI (l g:List GAtom) (i:Nat) (u:List Bool):Prop where
 len:u.length=6
 eq:mcF l (g.drop i) u=mcF l g u0
section
variable {l g:List GAtom} {i:Nat} {u:List Bool}
theorem mcI_zero:mcI l g 0 (six false false false false false false):=⟨rfl,rfl⟩
theorem mcF_at (hi:i < g.length):mcF l (g.drop i) u=cond (useB l u (g.getD i ⟨0,0,0⟩)) (mcF l (g.drop (i+1)) (useU l u (g.getD i ⟨0,0,0⟩))) none:=by
 rw [List.drop_eq_getElem_cons hi,mcF,List.getD_eq_getElem?_getD,List.getElem?_eq_getElem hi]
 rfl
theorem mcI_bad (h:mcI l g i u) (hi:i < g.length) (hb:useB l u (g.getD i ⟨0,0,0⟩)=false):mcM l g=false:=by
 have:=h.eq
 rw [mcF_at hi,hb] at this
 unfold mcM
 rw [← this]
 rfl
theorem mcI_go (h:mcI l g i u) (hi:i < g.length) (hb:useB l u (g.getD i ⟨0,0,0⟩)=true):mcI l g (i+1) (useU l u (g.getD i ⟨0,0,0⟩)):=by
 refine ⟨useU_len.trans h.len,?_⟩
 have:=h.eq
 rw [mcF_at hi,hb] at this
 exact this
theorem mcI_end (h:mcI l g i u) (hi:¬ i < g.length):mcM l g=(cnt u == (l.length:Nat)):=by
 have:=h.eq
 rw [List.drop_of_length_le (by omega),mcF] at this
 unfold mcM
 rw [← this]
theorem use_cell {x:GAtom} (hk:x.kind=1):useB l u x=ucB l u x/\useU l u x=ucU l u x:=by unfold useB useU;rw [hk];exact ⟨rfl,rfl⟩
theorem use_chain {x:GAtom} (hk:¬ x.kind=1):useB l u x=chB l u x/\useU l u x=chU l u x:=by unfold useB useU;rw [beq_eq_false_iff_ne.2 hk];exact ⟨rfl,rfl⟩
end
section
variable {a b:GAsn} {c:List Int} {l g:List GAtom} {i:Nat} {u:List Bool} {x:GAtom}
theorem ucU_len:(ucU l u x).length=u.length:=by unfold ucU;split <;> simp
theorem chU_len:(chU l u x).length=u.length:=chn_len _ _ _ _
theorem six_uc (h:u.length=6):sx6 (ucU l u x)=ucU l u x:=sx6_eta (ucU_len.trans h)
theorem six_ch (h:u.length=6):sx6 (chU l u x)=chU l u x:=sx6_eta (chU_len.trans h)
theorem mc_no (h:b.facts.all (fh c)=false):false=MC a b c:=by unfold MC;rw [h];rfl
theorem mc_bad (hf:b.facts.all (fh c)=true) (h:mcI (fL c a.atoms) (fL c b.atoms) i u) (hi:i < (fL c b.atoms).length) (hb:useB (fL c a.atoms) u ((fL c b.atoms).getD i ⟨0,0,0⟩)=false):false=MC a b c:=by
 unfold MC
 rw [hf,mcI_bad h hi hb];rfl
theorem mc_bad1 (hf:b.facts.all (fh c)=true) (h:mcI (fL c a.atoms) (fL c b.atoms) i u) (hi:i < (fL c b.atoms).length) (hk:((fL c b.atoms).getD i ⟨0,0,0⟩).kind=1) (hb:ucB (fL c a.atoms) u ((fL c b.atoms).getD i ⟨0,0,0⟩)=false):false=MC a b c :=
 mc_bad hf h hi (by rw [(use_cell hk).1];exact hb)
theorem mc_bad2 (hf:b.facts.all (fh c)=true) (h:mcI (fL c a.atoms) (fL c b.atoms) i u) (hi:i < (fL c b.atoms).length) (hk:¬ ((fL c b.atoms).getD i ⟨0,0,0⟩).kind=1) (hb:chB (fL c a.atoms) u ((fL c b.atoms).getD i ⟨0,0,0⟩)=false):false=MC a b c :=
 mc_bad hf h hi (by rw [(use_chain hk).1];exact hb)
theorem mc_go1 (h:mcI l g i u) (hi:i < g.length) (hk:(g.getD i ⟨0,0,0⟩).kind=1) (hb:ucB l u (g.getD i ⟨0,0,0⟩)=true):mcI l g (i+1) (ucU l u (g.getD i ⟨0,0,0⟩)):=by
 have:=mcI_go h hi (by rw [(use_cell hk).1];exact hb)
 rw [(use_cell hk).2] at this
 exact this
theorem mc_go2 (h:mcI l g i u) (hi:i < g.length) (hk:¬ (g.getD i ⟨0,0,0⟩).kind=1) (hb:chB l u (g.getD i ⟨0,0,0⟩)=true):mcI l g (i+1) (chU l u (g.getD i ⟨0,0,0⟩)):=by
 have:=mcI_go h hi (by rw [(use_chain hk).1];exact hb)
 rw [(use_chain hk).2] at this
 exact this
theorem mc_end1 (hf:b.facts.all (fh c)=true) (h:mcI (fL c a.atoms) (fL c b.atoms) i u) (hi:¬ i < (fL c b.atoms).length) (hc:¬ cnt u=((fL c a.atoms).length:Nat)):false=MC a b c:=by
 unfold MC
 rw [hf,mcI_end h hi,beq_eq_false_iff_ne.2 hc];rfl
theorem mc_end2 (hf:b.facts.all (fh c)=true) (h:mcI (fL c a.atoms) (fL c b.atoms) i u) (hi:¬ i < (fL c b.atoms).length) (hc:cnt u=((fL c a.atoms).length:Nat)):true=MC a b c:=by
 unfold MC
 rw [hf,mcI_end h hi,beq_iff_eq.2 hc];rfl
end
end Go.SE

namespace Go.SE
open Go.RowKit
def fdI (l:List GAtom) (u:List Bool) (k:Int):Int:=match uaO l u k with
 | some i=>(i:Int)
 | none=>-1
section
variable {l:List GAtom} {u:List Bool} {k:Int} {i:Nat}
theorem fd_hit (hi:i < l.length) (h:uaN l u k i=true) (hu:u.getD i false=false) (ha:(l.getD i ⟨0,0,0⟩).a=k):(i:Int)=fdI l u k:=by
 unfold fdI
 rw [uaO_some hi h (by unfold uaP;rw [hu];simpa using ha)]
theorem fd_miss (hi:¬ i < l.length) (hi2:i<=l.length) (h:uaN l u k i=true):(-1:Int)=fdI l u k:=by
 unfold fdI
 rw [uaO_none hi hi2 h]
theorem uaN_s3 (h:uaN l u k i=true) (h2:u.getD i false=true):uaN l u k (i+1)=true:=uaN_step h (by unfold uaP;rw [h2];simp)
theorem fd_neg (h:fdI l u k < 0):uaO l u k=none:=by
 unfold fdI at h
 split at h
 ·omega
 ·assumption
theorem fd_pos (h:¬ fdI l u k < 0):∃ i:Nat,uaO l u k=some i/\fdI l u k=(i:Int)/\i < l.length/\(l.getD i nA).a=k/\u.getD i false=false:=by
 unfold fdI at h ⊢
 split at h
 ·rename_i i hi
  rw [hi]
  exact ⟨i,rfl,rfl,uaO_spec hi⟩
 ·omega
theorem fd_bd (h:¬ fdI l u k < 0):0<=fdI l u k/\fdI l u k < (l.length:Nat)/\u.getD (fdI l u k).toNat false=false:=by
 obtain ⟨i,_,h2,h3,_,h5⟩:=fd_pos h
 rw [h2]
 exact ⟨by omega,by omega,by rw [Int.toNat_natCast];exact h5⟩
end
def rch (l:List GAtom) (y:Int):Nat->List Bool->Int->List Bool × Bool
 | 0,u,_=>(u,false)
 | f+1,u,q=>if q=y then (u,true) else match uaO l u q with
  | none=>(u,false)
  | some i=>if (l.getD i nA).kind=2/\(l.getD i nA).b ≠ y/\clB l y=false then (u,false) else rch l y f (u.set i true) (l.getD i nA).b
def rchU (l:List GAtom) (u:List Bool) (q y:Int):List Bool:=(rch l y 8 u q).1
def rchB (l:List GAtom) (u:List Bool) (q y:Int):Bool:=(rch l y 8 u q).2
structure rcI (l:List GAtom) (u:List Bool) (q y:Int) (k:Nat) (u':List Bool) (q':Int):Prop where
 len:u'.length=l.length
 cn:cnt u'=cnt u+k
 eq:rch l y (8 - k) u' q'=rch l y 8 u q
theorem rch_len {l:List GAtom} {y:Int}:∀ (f:Nat) (u:List Bool) (q:Int),(rch l y f u q).1.length=u.length:=by
 intro f
 induction f with
 | zero=>intros;rfl
 | succ f ih =>
  intro u q
  rw [rch]
  split
  ·rfl
  ·split
   ·rfl
   ·split
    ·rfl
    ·rw [ih];simp
section
variable {l:List GAtom} {u u':List Bool} {q q' y:Int} {k:Nat}
theorem rcI_zero (h:u.length=l.length):rcI l u q y 0 u q:=⟨h,by simp,rfl⟩
theorem rcI_le (h:rcI l u q y k u' q') (hl:l.length<=6):k<=6:=by
 have h1:=cnt_bd u'
 have h2:=cnt_bd u
 have:=h.cn
 have:=h.len
 omega
theorem rc_end (h:rcI l u q y k u' q') (hl:l.length<=6) (e:q'=y):rchU l u q y=u'/\rchB l u q y=true:=by
 have hk:=rcI_le h hl
 have h1:=h.eq
 rw [show 8 - k=(7 - k)+1 by omega,rch,if_pos e] at h1
 unfold rchU rchB
 rw [← h1]
 exact ⟨rfl,rfl⟩
theorem rc_no (h:rcI l u q y k u' q') (hl:l.length<=6) (e:¬ q'=y) (hn:fdI l u' q' < 0):rchU l u q y=u'/\rchB l u q y=false:=by
 have hk:=rcI_le h hl
 have h1:=h.eq
 rw [show 8 - k=(7 - k)+1 by omega,rch,if_neg e,fd_neg hn] at h1
 unfold rchU rchB
 rw [← h1]
 exact ⟨rfl,rfl⟩
theorem rc_open (h:rcI l u q y k u' q') (hl:l.length<=6) (e:¬ q'=y) (hn:¬ fdI l u' q' < 0) (hk2:(l.getD (fdI l u' q').toNat ⟨0,0,0⟩).kind=2) (hb:¬ (l.getD (fdI l u' q').toNat ⟨0,0,0⟩).b=y) (hc:clB l y=false):rchU l u q y=u'/\rchB l u q y=false:=by
 have hk:=rcI_le h hl
 have h1:=h.eq
 obtain ⟨i,h3,h4,_⟩:=fd_pos hn
 rw [h4,Int.toNat_natCast] at hk2 hb
 rw [show 8 - k=(7 - k)+1 by omega,rch,if_neg e,h3] at h1
 simp only [if_pos (And.intro hk2 (And.intro hb hc))] at h1
 unfold rchU rchB
 rw [← h1]
 exact ⟨rfl,rfl⟩
theorem rc_go (h:rcI l u q y k u' q') (hl:l.length<=6) (e:¬ q'=y) (hn:¬ fdI l u' q' < 0) (hg:¬ (l.getD (fdI l u' q').toNat ⟨0,0,0⟩).kind=2 ∨ (l.getD (fdI l u' q').toNat ⟨0,0,0⟩).b=y ∨ clB l y=true):rcI l u q y (k+1) (u'.set (fdI l u' q').toNat true) (l.getD (fdI l u' q').toNat ⟨0,0,0⟩).b/\k+1<=6:=by
 have h1:=h.eq
 obtain ⟨i,h3,h4,h5,_,h6⟩:=fd_pos hn
 rw [h4,Int.toNat_natCast] at hg ⊢
 have hcs:=cnt_set (u:=u') (i:=i) (by rw [h.len];exact h5) h6
 have hcn:=h.cn
 have hlen:(u'.set i true).length=l.length:=by rw [List.length_set];exact h.len
 have hb:=cnt_bd (u'.set i true)
 have hb0:=cnt_bd u
 have hk:k+1<=6:=by omega
 refine ⟨⟨hlen,by rw [hcs,hcn];omega,?_⟩,hk⟩
 rw [show 8 - k=(8 - (k+1))+1 by omega,rch,if_neg e,h3] at h1
 have hng:¬ ((l.getD i nA).kind=2/\(l.getD i nA).b ≠ y/\clB l y=false):=by
  rintro ⟨e1,e2,e3⟩
  rcases hg with hg | hg | hg
  ·exact hg e1
  ·exact e2 hg
  ·rw [e3] at hg;cases hg
 simp only [if_neg hng] at h1
 exact h1
end
def ruU (l:List GAtom) (u:List Bool) (x:GAtom):List Bool:=cond (x.kind == 2) (rchU l u x.a x.b) (ucU l u x)
def ruB (l:List GAtom) (u:List Bool) (x:GAtom):Bool:=cond (x.kind == 2) (rchB l u x.a x.b) (ucB l u x)
def rmF (l:List GAtom):List GAtom->List Bool->Option (List Bool)
 | [],u=>some u
 | x :: g,u=>cond (ruB l u x) (rmF l g (ruU l u x)) none
def rmM (l g:List GAtom):Bool:=match rmF l g (List.replicate l.length false) with
 | some u=>u.all id
 | none=>false
structure rmI (l g:List GAtom) (i:Nat) (u:List Bool):Prop where
 len:u.length=l.length
 eq:rmF l (g.drop i) u=rmF l g (List.replicate l.length false)
section
variable {l g:List GAtom} {i:Nat} {u:List Bool} {x:GAtom}
theorem ruU_len:(ruU l u x).length=u.length:=by
 unfold ruU
 cases x.kind == 2
 ·exact ucU_len
 ·exact rch_len _ _ _
theorem rmI_zero:rmI l g 0 (List.replicate l.length false):=⟨by simp,rfl⟩
theorem rmF_at (hi:i < g.length):rmF l (g.drop i) u=cond (ruB l u (g.getD i ⟨0,0,0⟩)) (rmF l (g.drop (i+1)) (ruU l u (g.getD i ⟨0,0,0⟩))) none:=by
 rw [List.drop_eq_getElem_cons hi,rmF,List.getD_eq_getElem?_getD,List.getElem?_eq_getElem hi]
 rfl
theorem rmI_bad (h:rmI l g i u) (hi:i < g.length) (hb:ruB l u (g.getD i ⟨0,0,0⟩)=false):false=rmM l g:=by
 have:=h.eq
 rw [rmF_at hi,hb] at this
 unfold rmM
 rw [← this]
 rfl
theorem rmI_go (h:rmI l g i u) (hi:i < g.length) (hb:ruB l u (g.getD i ⟨0,0,0⟩)=true):rmI l g (i+1) (ruU l u (g.getD i ⟨0,0,0⟩)):=by
 refine ⟨ruU_len.trans h.len,?_⟩
 have:=h.eq
 rw [rmF_at hi,hb] at this
 exact this
theorem rmI_end (h:rmI l g i u) (hi:¬ i < g.length):rmM l g=u.all id:=by
 have:=h.eq
 rw [List.drop_of_length_le (by omega),rmF] at this
 unfold rmM
 rw [← this]
theorem ru_chain (hk:x.kind=2):ruB l u x=rchB l u x.a x.b/\ruU l u x=rchU l u x.a x.b:=by unfold ruB ruU;rw [hk];exact ⟨rfl,rfl⟩
theorem ru_cell (hk:¬ x.kind=2):ruB l u x=ucB l u x/\ruU l u x=ucU l u x:=by unfold ruB ruU;rw [beq_eq_false_iff_ne.2 hk];exact ⟨rfl,rfl⟩
theorem rm_bad1 (h:rmI l g i u) (hi:i < g.length) (hk:(g.getD i ⟨0,0,0⟩).kind=2) (hb:rchB l u (g.getD i ⟨0,0,0⟩).a (g.getD i ⟨0,0,0⟩).b=false):false=rmM l g:=rmI_bad h hi (by rw [(ru_chain hk).1];exact hb)
theorem rm_go1 (h:rmI l g i u) (hi:i < g.length) (hk:(g.getD i ⟨0,0,0⟩).kind=2) (hb:rchB l u (g.getD i ⟨0,0,0⟩).a (g.getD i ⟨0,0,0⟩).b=true):rmI l g (i+1) (rchU l u (g.getD i ⟨0,0,0⟩).a (g.getD i ⟨0,0,0⟩).b):=by
 have:=rmI_go h hi (by rw [(ru_chain hk).1];exact hb)
 rw [(ru_chain hk).2] at this
 exact this
theorem rm_bad2 (h:rmI l g i u) (hi:i < g.length) (hk:¬ (g.getD i ⟨0,0,0⟩).kind=2) (hb:fdI l u (g.getD i ⟨0,0,0⟩).a < 0):false=rmM l g :=
 rmI_bad h hi (by rw [(ru_cell hk).1];exact (uc_no (by unfold ucO;rw [fd_neg hb];rfl)).2.1)
theorem fd_ua (hb:¬ fdI l u x.a < 0):uaB l u x.a=true/\uaI l u x.a=fdI l u x.a:=by
 obtain ⟨i,h1,h2,_⟩:=fd_pos hb
 unfold uaB uaI
 rw [h1,h2]
 exact ⟨rfl,rfl⟩
theorem rm_bad3 (h:rmI l g i u) (hi:i < g.length) (hk:¬ (g.getD i ⟨0,0,0⟩).kind=2) (hb:¬ fdI l u (g.getD i ⟨0,0,0⟩).a < 0) (hx:¬ l.getD (fdI l u (g.getD i ⟨0,0,0⟩).a).toNat ⟨0,0,0⟩=g.getD i ⟨0,0,0⟩):false=rmM l g :=
 rmI_bad h hi (by
  rw [(ru_cell hk).1]
  obtain ⟨h1,h2⟩:=fd_ua (x:=g.getD i ⟨0,0,0⟩) hb
  exact (uc_no (uc_no2 h1 (by rw [h2];exact hx))).2.1)
theorem rm_go2 (h:rmI l g i u) (hi:i < g.length) (hk:¬ (g.getD i ⟨0,0,0⟩).kind=2) (hb:¬ fdI l u (g.getD i ⟨0,0,0⟩).a < 0) (hx:l.getD (fdI l u (g.getD i ⟨0,0,0⟩).a).toNat ⟨0,0,0⟩=g.getD i ⟨0,0,0⟩):rmI l g (i+1) (u.set (fdI l u (g.getD i ⟨0,0,0⟩).a).toNat true):=by
 obtain ⟨h1,h2⟩:=fd_ua (x:=g.getD i ⟨0,0,0⟩) hb
 have hy:=uc_yes h1 (by rw [h2];exact hx)
 have:=rmI_go h hi (by rw [(ru_cell hk).1];exact hy.2.1)
 rw [(ru_cell hk).2,hy.2.2,h2] at this
 exact this
theorem rm_all (h:rmI l g i u) (hi:¬ i < g.length) {j:Nat} (hj:j < u.length) (hf:u.getD j false=false):false=rmM l g:=by
 rw [rmI_end h hi]
 symm
 rw [List.all_eq_false]
 refine ⟨u.getD j false,?_,by rw [hf];simp⟩
 rw [List.getD_eq_getElem?_getD,List.getElem?_eq_getElem hj];exact List.getElem_mem hj
theorem rm_yes (h:rmI l g i u) (hi:¬ i < g.length) {j:Nat} (hj:¬ j < u.length) (hf:(u.take j).all id=true):true=rmM l g:=by
 rw [rmI_end h hi]
 rw [List.take_of_length_le (by omega)] at hf
 exact hf.symm
theorem id_step {j:Nat} (hj:j < u.length) (h:(u.take j).all id=true) (hf:u.getD j false=true):(u.take (j+1)).all id=true:=by
 rw [List.take_add_one,List.all_append,h]
 rw [List.getD_eq_getElem?_getD] at hf
 rw [List.getElem?_eq_getElem hj] at hf ⊢
 simpa using hf
end
section
variable {l:List GAtom} {r:List Bool}
theorem getD_app {v:List Bool} {i:Nat} (hi:i < v.length):(v ++ r).getD i false=v.getD i false:=by
 rw [List.getD_eq_getElem?_getD,List.getD_eq_getElem?_getD,List.getElem?_append_left hi]
theorem uaO_app {v:List Bool} (hv:v.length=l.length) (k:Int):uaO l (v ++ r) k=uaO l v k:=by
 unfold uaO
 have key:∀ L:List Nat,(∀ i ∈ L,i < l.length)->L.find? (uaP l (v ++ r) k)=L.find? (uaP l v k):=by
  intro L
  induction L with
  | nil=>intro _;rfl
  | cons i L ih =>
   intro h
   have e:uaP l (v ++ r) k i=uaP l v k i:=by
    unfold uaP
    rw [getD_app (by rw [hv];exact h i (by simp))]
   rw [List.find?_cons,List.find?_cons,e,ih fun j hj=>h j (by simp [hj])]
 exact key _ fun i hi=>List.mem_range.1 hi
theorem set_app {v:List Bool} {i:Nat} (hi:i < v.length):(v ++ r).set i true=v.set i true ++ r:=by
 rw [List.set_append_left _ _ hi]
theorem uc_app {v:List Bool} (hv:v.length=l.length) (x:GAtom):ucB l (v ++ r) x=ucB l v x/\ucU l (v ++ r) x=ucU l v x ++ r:=by
 have e:ucO l (v ++ r) x=ucO l v x:=by unfold ucO;rw [uaO_app hv]
 unfold ucB ucU
 rw [e]
 refine ⟨rfl,?_⟩
 split
 ·rename_i i hi
  unfold ucO at hi
  cases hq:uaO l v x.a with
  | none=>rw [hq] at hi;cases hi
  | some j =>
   rw [hq] at hi
   have hi:cond (decide (l.getD j nA=x)) (some j) none=some i:=hi
   cases hd:decide (l.getD j nA=x) with
   | false=>rw [hd] at hi;cases hi
   | true =>
    rw [hd] at hi
    injection hi with hi
    subst hi
    exact set_app (by rw [hv];exact (uaO_spec hq).1)
 ·rfl
theorem ch_app {y:Int}:∀ (f:Nat) (v:List Bool) (q:Int) (us:List Int),v.length=l.length->q ≠ y ->
  (chn l y f (v ++ r) q us).2.isSome=(rch l y (f+1) v q).2/\((rch l y (f+1) v q).2=true->(chn l y f (v ++ r) q us).1=(rch l y (f+1) v q).1 ++ r):=by
 intro f
 induction f with
 | zero =>
  intro v q us hv hq
  have e:(rch l y (0+1) v q).2=false:=by
   rw [rch,if_neg hq]
   split
   ·rfl
   ·split <;> rfl
  rw [e]
  exact ⟨rfl,fun h=>by cases h⟩
 | succ f ih =>
  intro v q us hv hq
  rw [chn,rch,if_neg hq,uaO_app hv]
  cases ho:uaO l v q with
  | none=>exact ⟨rfl,fun h=>by cases h⟩
  | some i =>
   have hi:=(uaO_spec ho).1
   have hv':(v.set i true).length=l.length:=by rw [List.length_set];exact hv
   dsimp only
   rw [show (v ++ r).set i true=v.set i true ++ r from set_app (by rw [hv];exact hi)]
   by_cases hb:(l.getD i nA).b=y
   ·rw [if_pos hb,if_neg (fun h=>h.2.1 hb),hb,rch,if_pos rfl]
    exact ⟨rfl,fun _=>rfl⟩
   ·rw [if_neg hb]
    by_cases hk:(l.getD i nA).kind=2/\clB l y=false
    ·rw [if_pos hk,if_pos ⟨hk.1,hb,hk.2⟩]
     exact ⟨rfl,fun h=>by cases h⟩
    ·rw [if_neg hk,if_neg fun h=>hk ⟨h.1,h.2.2⟩]
     exact ih _ _ _ hv' hb
theorem mc_rm:∀ (g:List GAtom) (v:List Bool),v.length=l.length->(∀ x ∈ g,(x.kind=1 ∨ x.kind=2)/\(x.kind=2->x.a ≠ x.b)) ->
  (∃ w,w.length=l.length/\mcF l g (v ++ r)=some (w ++ r)/\rmF l g v=some w) ∨ (mcF l g (v ++ r)=none/\rmF l g v=none):=by
 intro g
 induction g with
 | nil=>intro v hv _;exact .inl ⟨v,hv,rfl,rfl⟩
 | cons x g ih =>
  intro v hv hg
  obtain ⟨hk,hne⟩:=hg x (by simp)
  have key:∀ (b1 b2:Bool) (u1 u2:List Bool),useB l (v ++ r) x=b1->ruB l v x=b2->useU l (v ++ r) x=u1->ruU l v x=u2->b1=b2->(b2=true->u1=u2 ++ r)->(∃ w,w.length=l.length/\mcF l (x :: g) (v ++ r)=some (w ++ r)/\rmF l (x :: g) v=some w) ∨ (mcF l (x :: g) (v ++ r)=none/\rmF l (x :: g) v=none):=by
   intro b1 b2 u1 u2 e1 e2 e3 e4 e5 e6
   rw [mcF,rmF,e1,e2,e3,e4]
   subst e5
   cases b1 with
   | false=>exact .inr ⟨rfl,rfl⟩
   | true =>
    rw [e6 rfl]
    exact ih u2 (by rw [← e4,ruU_len];exact hv) fun y hy=>hg y (by simp [hy])
  rcases hk with hk | hk
  ·obtain ⟨a1,a2⟩:=uc_app (r:=r) hv x
   have hk2:¬ x.kind=2:=by omega
   exact key _ _ _ _ (use_cell hk).1 (ru_cell hk2).1 (use_cell hk).2 (ru_cell hk2).2 a1 fun _=>a2
  ·obtain ⟨a1,a2⟩:=ch_app (r:=r) (y:=x.b) 7 v x.a [] hv (hne hk)
   have hk2:¬ x.kind=1:=by omega
   exact key _ _ _ _ (use_chain hk2).1 (ru_chain hk).1 (use_chain hk2).2 (ru_chain hk).2 a1 fun h=>a2 h
end
theorem cnt_app (v r:List Bool):cnt (v ++ r)=cnt v+cnt r:=by unfold cnt;rw [List.filter_append,List.length_append];omega
theorem cnt_rep (n:Nat):cnt (List.replicate n false)=0:=by unfold cnt;induction n with
 | zero=>rfl
 | succ n ih=>rw [List.replicate_succ];exact ih
theorem cnt_all:∀ v:List Bool,(cnt v == (v.length:Int))=v.all id:=by
 intro v
 induction v with
 | nil=>rfl
 | cons x v ih =>
  have hb:=cnt_bd v
  cases x with
  | false =>
   have e:cnt (false :: v)=cnt v:=rfl
   rw [e]
   simp only [List.length_cons,List.all_cons,id_eq,Bool.false_and,beq_eq_false_iff_ne]
   omega
  | true =>
   have e:cnt (true :: v)=cnt v+1:=by unfold cnt;simp
   rw [e,List.all_cons,← ih]
   simp only [List.length_cons,id_eq,Bool.true_and]
   rw [Bool.eq_iff_iff,beq_iff_eq,beq_iff_eq]
   omega
theorem mcM_rmM {l g:List GAtom} (hl:l.length<=6) (hg:∀ x ∈ g,(x.kind=1 ∨ x.kind=2)/\(x.kind=2->x.a ≠ x.b)):mcM l g=rmM l g:=by
 have e:u0=List.replicate l.length false ++ List.replicate (6 - l.length) false:=by
  rw [List.replicate_append_replicate,show l.length+(6 - l.length)=6 by omega];rfl
 unfold mcM rmM
 rw [e]
 rcases mc_rm (l:=l) (r:=List.replicate (6 - l.length) false) g (List.replicate l.length false) (by simp) hg with ⟨w,hw,h1,h2⟩ | ⟨h1,h2⟩
 ·rw [h1,h2]
  dsimp only
  rw [cnt_app,cnt_rep,Int.add_zero,← hw]
  exact cnt_all w
 ·rw [h1,h2]
theorem fL_good {c:List Int} {l:List GAtom} (h:l.all atV=true):∀ x ∈ fL c l,(x.kind=1 ∨ x.kind=2)/\(x.kind=2->x.a ≠ x.b):=by
 intro x hx
 unfold fL at hx
 obtain ⟨h1,h2⟩:=List.mem_filter.1 hx
 obtain ⟨y,hy,rfl⟩:=List.mem_map.1 h1
 have h3:=List.all_eq_true.1 h y hy
 unfold atV at h3
 simp only [Bool.and_eq_true,Bool.or_eq_true,beq_iff_eq] at h3
 refine ⟨h3.1.1,fun hk=>?_⟩
 have hk:y.kind=2:=hk
 simp only [Bool.or_eq_true,beq_iff_eq,Bool.not_eq_true',beq_eq_false_iff_ne] at h2
 rcases h2 with h2 | h2
 ·omega
 ·exact h2
def EC (a b:GAsn) (c:List Int):Bool:=sFit b.facts c && rmM (fL c a.atoms) (fL c b.atoms)
theorem both_vA {a b:GAsn} (ha:asV a=true) (hb:asV b=true):vA ⟨a.facts ++ b.facts,a.atoms ++ b.atoms⟩=true:=by
 have h1:=asV_facts ha
 have h2:=asV_facts hb
 refine vA_iff.2 ⟨?_,?_,?_,?_⟩
 ·rw [List.all_append,h1.1,h2.1];rfl
 ·rw [List.all_append,h1.2.2.1,h2.2.2.1];rfl
 ·simp only [List.length_append];omega
 ·simp only [List.length_append];omega
theorem both_fl {a b:GAsn}:fl9 (occ ⟨a.facts ++ b.facts,a.atoms ++ b.atoms⟩)=fl9 (fun t=>occ a t || occ b t):=fl9_congr fun t=>by
 simp only [occ,occF_append,occG_append]
 cases occF a.facts t <;> cases occF b.facts t <;> cases occG a.atoms t <;> rfl
end Go.SE

namespace Go.SE
open Go.RowKit
def occB (b:GAsn):Int->Bool:=fun k=>occ b k
def sFn (a b:GAsn) (c:List Int):Bool:=sFin a c && !EC a b c
def FC (a b:GAsn):CG:=(casesB a (hz a (occB b))).filter fun c=>!MC a b c
def ENT (a b:GAsn):Bool:=asV a && (asV b && (casesB a (hz a (occB b))).all fun c=>MC a b c)
section
variable {a b:GAsn} {c:List Int}
theorem occ_isT (hb:asV b=true) {k:Int} (h:occ b k=true):isT k=true:=by
 rw [← tsA_has hb] at h
 unfold tsHas at h
 rw [Bool.and_eq_true] at h
 exact h.1
theorem hzB_has (hb:asV b=true) {k:Int} (h:occ b k=true):0<=k/\k<=8/\hz a (occB b) k.toNat=true:=by
 have ht:=occ_isT hb h
 have:=isT_iff.1 ht
 exact ⟨this.1,this.2,hz_has ht h⟩
theorem occ_fact (hb:asV b=true) {f:GFact} (hf:f ∈ b.facts):occ b f.a=true/\occ b f.b=true:=by
 unfold occ occF
 constructor
 ·rw [Bool.or_eq_true,List.any_eq_true];exact .inl ⟨f,hf,by simp⟩
 ·rw [Bool.or_eq_true,List.any_eq_true];exact .inl ⟨f,hf,by simp⟩
theorem full_val {has:Nat->Bool} (hc:c ∈ fulls has) {k:Int} (h0:0<=k) (h8:k<=8) (hk:has k.toNat=true):0<=cl c k/\cl c k<=k:=by
 obtain ⟨_,hv⟩:=fulls_mem hc
 have:=hv k.toNat (by omega)
 rw [hk] at this
 simp only [cond_true,Bool.and_eq_true,decide_eq_true_eq] at this
 unfold cl
 omega
theorem sFit_full {has:Nat->Bool} (hb:asV b=true) (hc:c ∈ fulls has) (hh:∀ k,occ b k=true->has k.toNat=true):sFit b.facts c=b.facts.all (fh c):=by
 unfold sFit
 rw [Bool.eq_iff_iff,List.all_eq_true,List.all_eq_true]
 have:∀ f ∈ b.facts,(!(decide (0<=cl c f.a) && decide (0<=cl c f.b)) || fh c f)=fh c f:=fun f hf=>by
  obtain ⟨o1,o2⟩:=occ_fact hb hf
  have t1:=isT_iff.1 (occ_isT hb o1)
  have t2:=isT_iff.1 (occ_isT hb o2)
  rw [decide_eq_true (full_val hc t1.1 t1.2 (hh _ o1)).1,decide_eq_true (full_val hc t2.1 t2.2 (hh _ o2)).1]
  rfl
 exact ⟨fun h f hf=>by rw [← this f hf];exact h f hf,fun h f hf=>by rw [this f hf];exact h f hf⟩
theorem ec_mc {has:Nat->Bool} (ha:asV a=true) (hb:asV b=true) (hc:c ∈ fulls has) (hh:∀ k,occ b k=true->has k.toNat=true):EC a b c=MC a b c:=by
 unfold EC MC
 rw [sFit_full hb hc hh,mcM_rmM (Nat.le_trans (fL_len c a.atoms) (asV_facts ha).2.2.2) (fL_good (asV_facts hb).2.2.1)]
theorem fc_mem (hc:c ∈ casesB a (hz a (occB b))) (ha:asV a=true):c ∈ fulls (hz a (occB b)):=by
 rw [casesB_eq (hz_named ha _)] at hc
 exact (List.mem_filter.1 hc).1
theorem sFC (ha:asV a=true) (hb:asV b=true):sQ (sFn a b) a (fl9 (fun t=>occ a t || occ b t)) opens 1=FC a b:=by
 rw [sQ_cases (has:=hz a (occB b)) fun k h1 h2=>by rw [hz_get h1 h2];rfl]
 unfold FC
 rw [show (sFn a b)=(fun c=>sFin a c && !EC a b c) from rfl,casesS_eq (hz_named ha _) rfl fun c=>!EC a b c]
 refine List.filter_congr fun c hc=>?_
 rw [ec_mc ha hb (fc_mem hc ha) fun k hk=>(hzB_has hb hk).2.2]
theorem ENT_FC (ha:asV a=true) (hb:asV b=true):ENT a b=(FC a b).isEmpty:=by
 unfold ENT FC
 rw [ha,hb,Bool.true_and,Bool.true_and,Bool.eq_iff_iff,List.isEmpty_iff,List.filter_eq_nil_iff,List.all_eq_true]
 exact ⟨fun h c hc=>by rw [h c hc];simp,fun h c hc=>by have:=h c hc;simpa using this⟩
theorem ent_no1 (h:asV a=false):ENT a b=false:=by unfold ENT;rw [h];rfl
theorem ent_no2 (h:asV b=false):ENT a b=false:=by unfold ENT;rw [h,Bool.false_and,Bool.and_false]
theorem itEn_ent (ha:asV a=true) (hb:asV b=true):itEn a (bits .or .u16 (tsWith (tsA a) 0) (tsA b))=casesB a (hz a (occB b))/\itPre a (bits .or .u16 (tsWith (tsA a) 0) (tsA b)):=by
 obtain ⟨h1,h2⟩:=tsA_bd b
 obtain ⟨e1,e2⟩:=itEn_or ha h1 h2
 refine ⟨?_,e2⟩
 rw [e1,hz_congr fun k _=>tsA_has hb k]
 rfl
theorem fc_hit (ha:asV a=true) (hb:asV b=true) {i:Nat} {d:List Int} (h:(itEn a (bits .or .u16 (tsWith (tsA a) 0) (tsA b)))[i]?=some c) (ht:((itEn a (bits .or .u16 (tsWith (tsA a) 0) (tsA b))).take i).all (fun c=>MC a b c)=true) (hm:MC a b c=false):(FC a b).headD d=c/\(FC a b).isEmpty=false:=by
 rw [(itEn_ent ha hb).1] at h ht
 have:=first_hit (d:=d) h ht hm
 exact ⟨this.1,this.2.1⟩
theorem fc_none (ha:asV a=true) (hb:asV b=true) (h:(itEn a (bits .or .u16 (tsWith (tsA a) 0) (tsA b))).all (fun c=>MC a b c)=true):FC a b=[]:=by
 rw [(itEn_ent ha hb).1] at h
 exact first_none h
theorem fc_len (ha:asV a=true) (hb:asV b=true):(List.headD (FC a b) (List.replicate 9 0)).length=9:=by
 cases h:FC a b with
 | nil=>rfl
 | cons c l =>
  have hc:c ∈ FC a b:=by rw [h];simp
  unfold FC at hc
  exact (fulls_mem (fc_mem (List.mem_filter.1 hc).1 ha)).1
variable {fin:List Int->Bool} {tm:List Bool} {t:Int}
theorem sk_last (h:sFit a.facts c=true) (h2:sEarly a.atoms c=true) (ht:8 < t) (h3:sApart (fL c a.atoms)=true) (h4:EC a b c=false):sQ (sFn a b) a tm c t=[c]:=last_yes h h2 ht (by unfold sFn sFin;rw [h3,h4];rfl)
theorem sk_no1 (h:sFit a.facts c=true) (h2:sEarly a.atoms c=true) (ht:8 < t) (h3:sApart (fL c a.atoms)=false):sQ (sFn a b) a tm c t=[]:=last_no h h2 ht (by unfold sFn sFin;rw [h3];rfl)
theorem sk_no2 (h:sFit a.facts c=true) (h2:sEarly a.atoms c=true) (ht:8 < t) (h4:EC a b c=true):sQ (sFn a b) a tm c t=[]:=last_no h h2 ht (by unfold sFn;rw [h4];simp)
end
section
variable {a:GAsn} {tm:Int} {c p:List Int} {i:Nat}
end
end Go.SE

namespace Go.SE
open Go.RowKit
inductive Pth (L:List GAtom) (y:Int):Int->List GAtom->Prop
 | last {x:GAtom}:x ∈ L->x.b=y->Pth L y x.a [x]
 | step {x:GAtom} {p:List GAtom}:x ∈ L->x.b ≠ y->Pth L y x.b p->Pth L y x.a (x :: p)
def Opn (z:Int) (L:List GAtom) (y:Int) (p:List GAtom):Prop:=y=z ∨ (∃ x ∈ L,x.a=y) ∨ ∀ x ∈ p.dropLast,x.kind ≠ 2
def OkA (z:Int) (L:List GAtom) (g:GAtom) (p:List GAtom):Prop:=(g.kind=1/\g ∈ L/\p=[g]) ∨ (g.kind ≠ 1/\Pth L g.b g.a p/\Opn z L g.b p)
structure MtF (z:Int) (L G:List GAtom) (f:GAtom->List GAtom):Prop where
 ok:∀ g ∈ G,OkA z L g (f g)
 all:(G.flatMap f).Perm L
def MtS (z:Int) (L G:List GAtom):Prop:=∃ f,MtF z L G f
structure Pos (z:Int) (L:List GAtom):Prop where
 nz:∀ x ∈ L,x.a ≠ z
 ap:L.Pairwise fun x y=>x.a ≠ y.a
 kd:∀ x ∈ L,x.kind ≠ 1->x.kind=2
section
variable {z y q:Int} {L M G H:List GAtom} {p:List GAtom} {f:GAtom->List GAtom} {g:GAtom}
theorem Pth.head (h:Pth L y q p):∃ x p',p=x :: p'/\x.a=q/\x ∈ L:=by
 cases h with
 | last h1 h2=>exact ⟨_,_,rfl,rfl,h1⟩
 | step h1 h2 h3=>exact ⟨_,_,rfl,rfl,h1⟩
theorem Pth.ne (h:Pth L y q p):p ≠ []:=by obtain ⟨x,p',rfl,_⟩:=h.head;simp
theorem Pth.sub (h:Pth L y q p):∀ x ∈ p,x ∈ L:=by
 induction h with
 | last h1 h2=>intro x hx;rw [List.mem_singleton] at hx;rw [hx];exact h1
 | step h1 h2 h3 ih =>
  intro x hx
  rcases List.mem_cons.1 hx with e | hx
  ·rw [e];exact h1
  ·exact ih x hx
theorem Pth.mono (h:Pth L y q p) (hs:∀ x ∈ L,x ∈ M):Pth M y q p:=by
 induction h with
 | last h1 h2=>exact .last (hs _ h1) h2
 | step h1 h2 h3 ih=>exact .step (hs _ h1) h2 ih
theorem Pth.fin (h:Pth L y q p):∃ i x,p=i ++ [x]/\x.b=y/\i=p.dropLast:=by
 induction h with
 | @last x h1 h2=>exact ⟨[],x,rfl,h2,rfl⟩
 | @step x p h1 h2 h3 ih =>
  obtain ⟨i,x',e,h,e2⟩:=ih
  refine ⟨x :: i,x',by rw [e];rfl,h,?_⟩
  rw [List.dropLast_cons_of_ne_nil h3.ne,e2]
theorem Pth.inner (h:Pth L y q p) {x:GAtom} (hx:x ∈ p) (hb:x.b ≠ y):x ∈ p.dropLast:=by
 obtain ⟨i,x',e,h1,e2⟩:=h.fin
 rw [← e2]
 rw [e] at hx
 rcases List.mem_append.1 hx with h | h
 ·exact h
 ·rw [List.mem_singleton] at h;rw [h] at hb;exact (hb h1).elim
theorem Pth.next (h:Pth L y q p) {x:GAtom} (hx:x ∈ p) (hb:x.b ≠ y):∃ x' ∈ p.tail,x'.a=x.b:=by
 induction h with
 | last h1 h2=>rw [List.mem_singleton] at hx;rw [hx] at hb;exact (hb h2).elim
 | @step x0 p h1 h2 h3 ih =>
  rcases List.mem_cons.1 hx with rfl | hx
  ·obtain ⟨x',p',rfl,e,_⟩:=h3.head
   exact ⟨x',by simp,e⟩
  ·obtain ⟨x',h5,h6⟩:=ih hx
   exact ⟨x',List.mem_of_mem_tail h5,h6⟩
theorem Pth.cat {p2:List GAtom} {y2:Int} (h:Pth L y2 q p) (hn:∀ x ∈ p,x.b ≠ y) (h2:Pth L y y2 p2):Pth L y q (p ++ p2):=by
 induction h with
 | last h1 e=>subst e;exact .step h1 (hn _ (by simp)) h2
 | step h1 e h3 ih=>exact .step h1 (hn _ (by simp)) (ih fun x hx=>hn x (by simp [hx]))
theorem OkA.pth (h:OkA z L g p):Pth L g.b g.a p:=by
 rcases h with ⟨_,h1,rfl⟩ | ⟨_,h1,_⟩
 ·exact .last h1 rfl
 ·exact h1
theorem OkA.mono (h:OkA z L g p) (hs:∀ x ∈ L,x ∈ M):OkA z M g p:=by
 rcases h with ⟨h0,h1,h2⟩ | ⟨h0,h1,h2⟩
 ·exact .inl ⟨h0,hs _ h1,h2⟩
 ·refine .inr ⟨h0,h1.mono hs,?_⟩
  rcases h2 with h | ⟨x,hx,e⟩ | h
  ·exact .inl h
  ·exact .inr (.inl ⟨x,hs _ hx,e⟩)
  ·exact .inr (.inr h)
theorem pw_perm {l l':List GAtom} (h:l.Perm l'):(l.Pairwise fun x y=>x.a ≠ y.a) ↔ l'.Pairwise fun x y=>x.a ≠ y.a:=h.pairwise_iff fun h e=>h e.symm
theorem MtF.used (h:MtF z L G f) (hL:Pos z L):(G.flatMap f).Pairwise fun x y=>x.a ≠ y.a:=(pw_perm h.all).2 hL.ap
theorem MtF.parts (h:MtF z L G f) (hL:Pos z L):(∀ g ∈ G,(f g).Pairwise fun x y=>x.a ≠ y.a)/\G.Pairwise fun g g'=>∀ x ∈ f g,∀ x' ∈ f g',x.a ≠ x'.a:=by
 have:=h.used hL
 rw [List.pairwise_flatMap] at this
 exact this
theorem MtF.pos (h:MtF z L G f) (hL:Pos z L) (hk:∀ x ∈ G,x.kind ≠ 1->x.kind=2):Pos z G:=by
 obtain ⟨_,h2⟩:=h.parts hL
 refine ⟨fun g hg=>?_,h2.imp_of_mem fun {g g'} hg hg' h3=>?_,hk⟩
 ·obtain ⟨x,p',_,e,hx⟩:=(h.ok g hg).pth.head
  rw [← e];exact hL.nz x hx
 ·obtain ⟨x,p1,e1,a1,_⟩:=(h.ok g hg).pth.head
  obtain ⟨x',p2,e2,a2,_⟩:=(h.ok g' hg').pth.head
  rw [← a1,← a2]
  exact h3 x (by rw [e1];simp) x' (by rw [e2];simp)
theorem MtF.own (h:MtF z L G f) (hL:Pos z L) {g':GAtom} (hg:g ∈ G) (hg':g' ∈ G) {x x':GAtom} (hx:x ∈ f g) (hx':x' ∈ f g') (e:x.a=x'.a):g=g':=by
 obtain ⟨_,h2⟩:=h.parts hL
 have key:∀ {l:List GAtom},(l.Pairwise fun g g'=>∀ x ∈ f g,∀ x' ∈ f g',x.a ≠ x'.a)->g ∈ l->g' ∈ l->g=g':=by
  intro l hl h1 h2
  induction l with
  | nil=>cases h1
  | cons a l ih =>
   rw [List.pairwise_cons] at hl
   rcases List.mem_cons.1 h1 with e1 | h3 <;> rcases List.mem_cons.1 h2 with e2 | h4
   ·rw [e1,e2]
   ·rw [e1] at hx;exact (hl.1 _ h4 x hx x' hx' e).elim
   ·rw [e2] at hx';exact (hl.1 _ h3 x' hx' x hx e.symm).elim
   ·exact ih hl.2 h3 h4
 exact key h2 hg hg'
/-- no atom on a way inside ends at y,when y is where a way in G ends -/
theorem inner_ne (h:MtF z L G f) (hL:Pos z L) (hG:∀ x ∈ G,x.kind ≠ 1->x.kind=2) {p2:List GAtom} (h2:Pth G y q p2) (ho:Opn z G y p2) (hg:g ∈ p2) (hb:g.b ≠ y):∀ x ∈ f g,x.b ≠ y:=by
 intro x hx e
 have hgG:=h2.sub g hg
 have hok:=h.ok g hgG
 have hpth:=hok.pth
 obtain ⟨x',h3,h4⟩:=hpth.next hx (by rw [e];exact hb.symm)
 have hx':x' ∈ f g:=List.mem_of_mem_tail h3
 have hL':x' ∈ L:=hpth.sub x' hx'
 rcases ho with ho | ⟨g',hg',ea⟩ | ho
 ·exact hL.nz x' hL' (by rw [h4,e,ho])
 ·obtain ⟨x2,p',e2,a2,m2⟩:=(h.ok g' hg').pth.head
  have hx2:x2 ∈ f g':=by rw [e2];simp
  have ee:x'.a=x2.a:=by rw [h4,e,a2,ea]
  have:=h.own hL hgG hg' hx' hx2 ee
  subst this
  have hpw:=(h.parts hL).1 g hgG
  rw [e2,List.pairwise_cons] at hpw
  rw [e2] at h3
  exact hpw.1 x' h3 ee.symm
 ·have hk:=ho g (h2.inner hg hb)
  rcases hok with ⟨_,_,e1⟩ | ⟨hk1,_,_⟩
  ·rw [e1,List.mem_singleton] at hx
   rw [hx] at e
   exact hb e
  ·exact hk (hG g hgG hk1)
theorem pth_cat (h:MtF z L G f) {p2:List GAtom} (h2:Pth G y q p2) (hn:∀ g ∈ p2,g.b ≠ y->∀ x ∈ f g,x.b ≠ y):Pth L y q (p2.flatMap f):=by
 induction h2 with
 | @last x h1 e =>
  have:=(h.ok x h1).pth
  rw [e] at this
  simpa using this
 | @step x p h1 e h3 ih =>
  rw [List.flatMap_cons]
  exact (h.ok x h1).pth.cat (hn x (by simp) e) (ih fun g hg=>hn g (by simp [hg]))
theorem opn_cat (h:MtF z L G f) (hL:Pos z L) (hG:∀ x ∈ G,x.kind ≠ 1->x.kind=2) {p2:List GAtom} (h2:Pth G y q p2) (ho:Opn z G y p2):Opn z L y (p2.flatMap f):=by
 rcases ho with ho | ⟨g',hg',ea⟩ | ho
 ·exact .inl ho
 ·obtain ⟨x2,p',e2,a2,m2⟩:=(h.ok g' hg').pth.head
  exact .inr (.inl ⟨x2,m2,a2.trans ea⟩)
 ·obtain ⟨i,gl,e,eb,ei⟩:=h2.fin
  have hi:∀ g ∈ i,f g=[g]/\g.kind=1:=fun g hg=>by
   have hgG:g ∈ G:=h2.sub g (by rw [e];simp [hg])
   rcases h.ok g hgG with ⟨k1,_,e1⟩ | ⟨k1,_,_⟩
   ·exact ⟨e1,k1⟩
   ·exact (ho g (by rw [← ei];exact hg) (hG g hgG k1)).elim
  have hflat:i.flatMap f=i:=by
   have:∀ l:List GAtom,(∀ g ∈ l,f g=[g])->l.flatMap f=l:=by
    intro l hl
    induction l with
    | nil=>rfl
    | cons a l ih=>rw [List.flatMap_cons,hl a (by simp),ih fun g hg=>hl g (by simp [hg])];rfl
   exact this i fun g hg=>(hi g hg).1
  have hglG:gl ∈ G:=h2.sub gl (by rw [e];simp)
  have hgl:=h.ok gl hglG
  have hne:f gl ≠ []:=hgl.pth.ne
  have hdl:(p2.flatMap f).dropLast=i ++ (f gl).dropLast:=by
   rw [e,List.flatMap_append,hflat]
   simp only [List.flatMap_cons,List.flatMap_nil,List.append_nil]
   rw [List.dropLast_append_of_ne_nil hne]
  rcases hgl with ⟨_,_,e1⟩ | ⟨_,_,ho2⟩
  ·refine .inr (.inr fun x hx=>?_)
   rw [hdl,e1] at hx
   simp only [List.dropLast_singleton,List.append_nil] at hx
   rw [(hi x hx).2];decide
  ·rw [eb] at ho2
   rcases ho2 with h | h | h
   ·exact .inl h
   ·exact .inr (.inl h)
   ·refine .inr (.inr fun x hx=>?_)
    rw [hdl] at hx
    rcases List.mem_append.1 hx with hx | hx
    ·rw [(hi x hx).2];decide
    ·exact h x hx
theorem mts_trans (hL:Pos z L) (hG:∀ x ∈ G,x.kind ≠ 1->x.kind=2) (h1:MtS z L G) (h2:MtS z G H):MtS z L H:=by
 obtain ⟨f,hf⟩:=h1
 obtain ⟨k,hk⟩:=h2
 refine ⟨fun h=>(k h).flatMap f,fun h hh=>?_,?_⟩
 ·rcases hk.ok h hh with ⟨k1,m1,e1⟩ | ⟨k1,p1,o1⟩
  ·show OkA z L h ((k h).flatMap f)
   rw [e1]
   simp only [List.flatMap_cons,List.flatMap_nil,List.append_nil]
   exact hf.ok h m1
  ·exact .inr ⟨k1,pth_cat hf p1 fun g hg hb=>inner_ne hf hL hG p1 o1 hg hb,opn_cat hf hL hG p1 o1⟩
 ·show (H.flatMap fun h=>(k h).flatMap f).Perm L
  rw [← List.flatMap_assoc]
  exact (hk.all.flatMap_right f).trans hf.all
theorem Pth.map {φ:GAtom->GAtom} {n:Int->Int} (ha:∀ x ∈ L,(φ x).a=n x.a/\(φ x).b=n x.b) (hy:∀ x ∈ L,x.b ≠ y->n x.b ≠ n y) (h:Pth L y q p):Pth (L.map φ) (n y) (n q) (p.map φ):=by
 induction h with
 | @last x h1 e =>
  rw [← (ha x h1).1]
  exact .last (List.mem_map_of_mem h1) (by rw [(ha x h1).2,e])
 | @step x p h1 e h3 ih =>
  rw [← (ha x h1).1]
  rw [← (ha x h1).2] at ih
  exact .step (List.mem_map_of_mem h1) (by rw [(ha x h1).2];exact hy x h1 e) ih
theorem mts_map {φ:GAtom->GAtom} {n:Int->Int} (hφ:∀ x,φ x=⟨x.kind,n x.a,n x.b⟩) (V:Int->Prop) (hn:∀ s t,V s->V t->n s=n t->s=t) (hL:∀ x ∈ L,V x.a/\V x.b) (hG:∀ x ∈ G,V x.a/\V x.b) (hz:V z) (h:MtS z L G):MtS (n z) (L.map φ) (G.map φ):=by
 obtain ⟨f,hf⟩:=h
 classical
 have inj:∀ x ∈ G,∀ x' ∈ G,φ x=φ x'->x=x':=fun x hx x' hx' e=>by
  rw [hφ,hφ] at e
  injection e with e1 e2 e3
  have h1:=hn _ _ (hG x hx).1 (hG x' hx').1 e2
  have h2:=hn _ _ (hG x hx).2 (hG x' hx').2 e3
  cases x;cases x';simp_all
 let k:GAtom->List GAtom:=fun g=>if h:∃ x ∈ G,φ x=g then (f h.choose).map φ else []
 have hk:∀ x ∈ G,k (φ x)=(f x).map φ:=fun x hx=>by
  have he:∃ x' ∈ G,φ x'=φ x:=⟨x,hx,rfl⟩
  show (if h:∃ x' ∈ G,φ x'=φ x then (f h.choose).map φ else [])=_
  rw [dif_pos he,inj _ he.choose_spec.1 _ hx he.choose_spec.2]
 refine ⟨k,fun g hg=>?_,?_⟩
 ·obtain ⟨x,hx,rfl⟩:=List.mem_map.1 hg
  rw [hk x hx]
  rcases hf.ok x hx with ⟨k1,m1,e1⟩ | ⟨k1,p1,o1⟩
  ·exact .inl ⟨by rw [hφ];exact k1,List.mem_map_of_mem m1,by rw [e1];rfl⟩
  ·refine .inr ⟨by rw [hφ];exact k1,?_,?_⟩
   ·have:=p1.map (φ:=φ) (n:=n) (fun x _=>by rw [hφ];exact ⟨rfl,rfl⟩) fun x' hx' hb e=>hb (hn _ _ (hL x' hx').2 (hG x hx).2 e)
    rw [hφ x]
    exact this
   ·rw [hφ x]
    rcases o1 with o | ⟨x',hx',e⟩ | o
    ·exact .inl (congrArg n o)
    ·exact .inr (.inl ⟨φ x',List.mem_map_of_mem hx',by rw [hφ];exact congrArg n e⟩)
    ·refine .inr (.inr fun x' hx'=>?_)
     rw [← List.map_dropLast] at hx'
     obtain ⟨x2,hx2,rfl⟩:=List.mem_map.1 hx'
     rw [hφ];exact o x2 hx2
 ·have e:(G.map φ).flatMap k=(G.flatMap f).map φ:=by
   rw [List.flatMap_map,List.map_flatMap,List.flatMap_def,List.flatMap_def,List.map_congr_left hk]
  rw [e]
  exact hf.all.map φ
end
end Go.SE

namespace Go.SE
open Go.RowKit
section
variable {l g:List GAtom} {u:List Bool} {q y:Int} {x:GAtom}
end
end Go.SE

namespace Go.SE
open Go.RowKit
def ct (s:GState) (n:Int):Int:=if 1<=n/\n<=8 then s.heap.getD (n - 1).toNat 0 else -1
def al (s:GState) (n:Int):Bool:=decide (0<=ct s n)
def walk (s:GState) (to:Int):Nat->Int->Option (List Int)
 | 0,at'=>if at'=to then some [] else none
 | f+1,at'=>if at'=to then some [] else cond (al s at') ((walk s to f (ct s at')).map (at' :: ·)) none
end Go.SE

namespace Go.SE
open Go.RowKit
section
variable {a:GAsn} {i:Nat}
end
end Go.SE

namespace Go.SE
open Go.RowKit
section
variable {a:GAsn} {i n:Nat}
end
end Go.SE

namespace Go.SE
open Go.RowKit
section
variable {s:GState}
end
section
variable {s:GState} {x y q:Int} {w:List Int}
end
section
variable {s:GState} {x y q:Int} {w:List Int}
end
section
variable {s:GState} {x:GAtom}
end
section
variable {s:GState} {l:List GAtom} {i j:Nat}
end
section
variable {s:GState} {a:GAsn} {i:Nat}
end
section
variable {l:List GFact} {v:List Int} {i:Nat}
end
section
variable {s:GState} {a:GAsn} {i j:Nat}
end
end Go.SE

namespace Go.SE
open Go.RowKit
section
variable {s:GState} {a:GAsn} {i j:Nat}
end
end Go.SE

namespace Go.SE
open Go.RowKit
section
variable {a:GAsn} {l:List Int} {i:Nat}
end
end Go.SE

namespace Go.SE
open Go.RowKit
end Go.SE

namespace Go.SE
open Go.RowKit
section
variable {s:GState} {a:GAsn} {f:GFact} {x t:Int}
end
end Go.SE

namespace Go.SE
open Go.RowKit
section
variable {c:List Int}
end
section
variable {V:List Int}
end
section
variable {s:GState}
end
section
variable {a:GAsn} {c:List Int}
end
end Go.SE

namespace Go.SE
open Go.RowKit
section
variable {a:GAsn} {s:GState}
end
end Go.SE

namespace Go.SE
open Go.RowKit
def imA (v:Int->Int) (x:GAtom):GAtom:=⟨x.kind,v x.a,v x.b⟩
def fv (v:Int->Int) (l:List GAtom):List GAtom:=(filt v l).map (imA v)
structure Qv (a b:GAsn) (v:Int->Int):Prop where
 facts:∀ f ∈ b.facts,(v f.a == v f.b)=f.eq
 mt:MtS (v 0) (fv v a.atoms) (fv v b.atoms)
section
variable {a b c:GAsn} {v w:Int->Int} {l m:List GAtom}
theorem atV_kind {x:GAtom} (h:atV x=true):x.kind ≠ 1->x.kind=2:=by
 unfold atV at h
 simp only [Bool.and_eq_true,Bool.or_eq_true,beq_iff_eq] at h
 intro h1
 rcases h.1.1 with h2 | h2
 ·exact (h1 h2).elim
 ·exact h2
theorem fv_kind (h:l.all atV=true):∀ x ∈ fv v l,x.kind ≠ 1->x.kind=2:=fun x hx=>by
 obtain ⟨y,hy,rfl⟩:=List.mem_map.1 hx
 exact atV_kind (x:=y) (List.all_eq_true.1 h y (List.mem_filter.1 hy).1)
theorem fv_pos (ha:a.atoms.all atV=true) (hv:possV a v):Pos (v 0) (fv v a.atoms):=by
 refine ⟨fun x hx=>?_,?_,fv_kind ha⟩
 ·obtain ⟨y,hy,rfl⟩:=List.mem_map.1 hx
  exact hv.nil y hy
 ·unfold fv
  rw [List.pairwise_map]
  exact hv.apart
theorem pos_poss (hf:∀ f ∈ b.facts,(v f.a == v f.b)=f.eq) (h:Pos (v 0) (fv v b.atoms)):possV b v:=by
 refine ⟨hf,fun x hx=>h.nz _ (List.mem_map_of_mem hx),?_⟩
 have:=h.ap
 unfold fv at this
 rw [List.pairwise_map] at this
 exact this
theorem Qv.poss (ha:a.atoms.all atV=true) (hb:b.atoms.all atV=true) (hv:possV a v) (h:Qv a b v):possV b v:=by
 obtain ⟨f,hf⟩:=h.mt
 exact pos_poss h.facts (hf.pos (fv_pos ha hv) (fv_kind hb))
theorem Qv.trans (ha:a.atoms.all atV=true) (hb:b.atoms.all atV=true) (hv:possV a v) (h1:Qv a b v) (h2:Qv b c v):Qv a c v :=
 ⟨h2.facts,mts_trans (fv_pos ha hv) (fv_kind hb) h1.mt h2.mt⟩
theorem Qv.congr (P:Int->Prop) (h:∀ s t,P s->P t->(v s == v t)=(w s == w t)) (h0:P 0) (hf:∀ f ∈ b.facts,P f.a/\P f.b) (ha:∀ x ∈ a.atoms,P x.a/\P x.b) (hb:∀ x ∈ b.atoms,P x.a/\P x.b) (hq:Qv a b v):Qv a b w:=by
 classical
 have heq:∀ s t,P s->P t->(v s=v t ↔ w s=w t):=fun s t hs ht=>by
  have:=h s t hs ht
  rw [Bool.eq_iff_iff,beq_iff_eq,beq_iff_eq] at this
  exact this
 let n:Int->Int:=fun x=>if h:∃ t,P t/\v t=x then w h.choose else 0
 have hn:∀ t,P t->n (v t)=w t:=fun t ht=>by
  have he:∃ t',P t'/\v t'=v t:=⟨t,ht,rfl⟩
  show (if h:∃ t',P t'/\v t'=v t then w h.choose else 0)=_
  rw [dif_pos he]
  exact (heq _ _ he.choose_spec.1 ht).1 he.choose_spec.2
 have hfv:∀ l:List GAtom,(∀ x ∈ l,P x.a/\P x.b)->fv w l=(fv v l).map fun x=>⟨x.kind,n x.a,n x.b⟩:=fun l hl=>by
  have ef:filt v l=filt w l:=List.filter_congr fun x hm=>by rw [h _ _ (hl x hm).1 (hl x hm).2]
  unfold fv
  rw [List.map_map,ef]
  refine List.map_congr_left fun x hx=>?_
  have hx':=hl x (List.mem_filter.1 hx).1
  show (⟨x.kind,w x.a,w x.b⟩:GAtom)=⟨x.kind,n (v x.a),n (v x.b)⟩
  rw [hn _ hx'.1,hn _ hx'.2]
 have hV:∀ l:List GAtom,(∀ x ∈ l,P x.a/\P x.b)->∀ x ∈ fv v l,(∃ t,P t/\v t=x.a)/\∃ t,P t/\v t=x.b:=fun l hl x hx=>by
  obtain ⟨y,hy,rfl⟩:=List.mem_map.1 hx
  have hy':=hl y (List.mem_filter.1 hy).1
  exact ⟨⟨y.a,hy'.1,rfl⟩,⟨y.b,hy'.2,rfl⟩⟩
 refine ⟨fun f hf'=>by rw [← h _ _ (hf f hf').1 (hf f hf').2];exact hq.facts f hf',?_⟩
 rw [hfv _ ha,hfv _ hb,← hn 0 h0]
 refine mts_map (φ:=fun x=>⟨x.kind,n x.a,n x.b⟩) (fun _=>rfl) (fun x=>∃ t,P t/\v t=x) ?_ (hV _ ha) (hV _ hb) ⟨0,h0,rfl⟩ hq.mt
 rintro s t ⟨s',hs,rfl⟩ ⟨t',ht,rfl⟩ e
 rw [hn _ hs,hn _ ht] at e
 exact (heq _ _ hs ht).2 e
end
end Go.SE

namespace Go.SE
open Go.RowKit
inductive Sg (s:GState) (e:Int):Int->List Int->Prop
 | nil:Sg s e e []
 | step {q:Int} {ns:List Int}:al s q=true->Sg s e (ct s q) ns->Sg s e q (q :: ns)
def acV (s:GState) (x:GAtom):Option (List Int):=if x.kind=2 then walk s x.b 8 x.a else if ct s x.a=x.b then some [x.a] else none
def ftp (s:GState) (x:GAtom):List Int:=(acV s x).getD []
section
variable {s:GState} {q e m:Int} {ns ms:List Int} {a b:GAsn} {L G:List GAtom} {p:List GAtom} {f:GAtom->List GAtom} {g:GAtom}
theorem Sg.cat (h:Sg s m q ns) (h2:Sg s e m ms):Sg s e q (ns ++ ms):=by
 induction h with
 | nil=>exact h2
 | step h1 _ ih=>exact .step h1 ih
theorem Sg.al (h:Sg s e q ns):∀ n ∈ ns,al s n=true:=by
 induction h with
 | nil=>intro n hn;cases hn
 | step h1 _ ih =>
  intro n hn
  rcases List.mem_cons.1 hn with e | hn
  ·rw [e];exact h1
  ·exact ih n hn
theorem Pth.first {L:List GAtom} {y q:Int} {p:List GAtom} (h:Pth L y q p) {x:GAtom} (hx:x ∈ p) (e:x.a=y):q=y:=by
 induction h with
 | last h1 h2=>rw [List.mem_singleton] at hx;rw [hx] at e;exact e
 | @step x0 p h1 h2 h3 ih =>
  rcases List.mem_cons.1 hx with e2 | hx
  ·rw [e2] at e;exact e
  ·exact (h2 (ih hx)).elim
structure Hp (s:GState) (L:List GAtom):Prop where
 pos:Pos 0 L
 ne:∀ x ∈ L,x.kind=2->x.a ≠ x.b
 vb:∀ x ∈ L,0<=x.b
 ac:∀ x ∈ L,(acV s x).isSome=true
 nd:(L.flatMap (ftp s)).Nodup
theorem Hp.own (h:Hp s L) {x x':GAtom} (hx:x ∈ L) (hx':x' ∈ L) {n:Int} (h1:n ∈ ftp s x) (h2:n ∈ ftp s x'):x=x':=by
 have hd:=h.nd
 unfold List.Nodup at hd
 rw [List.pairwise_flatMap] at hd
 have key:∀ {l:List GAtom},(l.Pairwise fun x x'=>∀ n ∈ ftp s x,∀ n' ∈ ftp s x',n ≠ n')->x ∈ l->x' ∈ l->x=x':=by
  intro l hl a1 a2
  induction l with
  | nil=>cases a1
  | cons a l ih =>
   rw [List.pairwise_cons] at hl
   rcases List.mem_cons.1 a1 with e1 | a3 <;> rcases List.mem_cons.1 a2 with e2 | a4
   ·rw [e1,e2]
   ·rw [e1] at h1;exact (hl.1 _ a4 n h1 n h2 rfl).elim
   ·rw [e2] at h2;exact (hl.1 _ a3 n h2 n h1 rfl).elim
   ·exact ih hl.2 a3 a4
 exact key hd.2 hx hx'
end
end Go.SE

namespace Go.SE
open Go.RowKit
section
variable {a:GAsn} {l:List GAtom} {i k:Int} {n:Nat}
theorem fo_len6 (ha:asV a=true):a.facts.length<=12/\a.atoms.length<=6:=⟨(asV_facts ha).2.1,(asV_facts ha).2.2.2⟩
end
end Go.SE

namespace Go.SE
open Go.RowKit
section
variable {a b c:GAsn} {s:GState} {f:GFact} {x y:Int}
theorem starL_bdF (h1:a.facts.length<=100) (h2:b.facts.length<=100):(starL a b).facts.length<=200:=Nat.le_trans (starL_lenF _ _) (by omega)
theorem starL_bdA (h1:a.atoms.length<=100) (h2:b.atoms.length<=100):(starL a b).atoms.length<=200:=Nat.le_trans (starL_lenA _ _) (by omega)
end
end Go.SE

namespace Go.SE
open Go.RowKit
abbrev hn (a:GAsn):Nat->Bool:=hz a fun _=>false
def cn (a:GAsn) (vs:List Int):List Int:=canon (hn a) (tv vs)
section
variable {a:GAsn} {vs:List Int} {i j:Nat} {x:Int}
end
end Go.SE

namespace Go.SE
open Go.RowKit
section
variable {a:GAsn} {i:Int}
end
end Go.SE

namespace Go.SE
open Go.RowKit
section
variable {a:GAsn} {s:GState} {i:Int}
end
end Go.SE
namespace Go.SE
section
variable {a b c:GAsn}
end
end Go.SE
namespace Go.SE
section
variable {a:GAsn} {i:Int}
end
end Go.SE
namespace Go.SE
section
variable {s:GState} {t v:Int}
end
end Go.SE
namespace Go.SE
section
variable {a:GAsn} {i:Int} {p:Nat × Bool}
end
end Go.SE

namespace Go.SE
open Go.RowKit
def pkS (a:GAsn) (m:Int):GAsn:=⟨[],pkA m a.atoms⟩
def FRA (m:Int) (b a:GAsn):Bool:=starOk b (pkS a m) && ENT a (starL b (pkS a m))
def frmI (a b:GAsn):Int:=lmI (fun m=>FRA m b a) (a.atoms.length:Int)
def frmB (a b:GAsn):Bool:=asV a && (asV b && lmB (fun m=>FRA m b a) (a.atoms.length:Int))
def frmL (a b:GAsn):GAsn:=cond (frmB a b) (pkS a (frmI a b)) ⟨[],[]⟩
section
variable {a b:GAsn} {m:Int}
theorem pkA_mem {l:List GAtom}:∀ x ∈ pkA m l,x ∈ l:=by
 intro x hx
 unfold pkA pk at hx
 obtain ⟨i,hi,rfl⟩:=List.mem_map.1 hx
 have:=List.mem_range.1 (List.mem_filter.1 hi).1
 rw [List.getD_eq_getElem?_getD,List.getElem?_eq_getElem this]
 exact List.getElem_mem _
theorem pkA_le {l:List GAtom}:(pkA m l).length<=l.length:=pk_len m l _
theorem pkS_val (ha:asV a=true):asV (pkS a m)=true:=by
 have hA:=asV_facts ha
 unfold asV fsV pkS
 have h1:(pkA m a.atoms).length<=6:=Nat.le_trans pkA_le hA.2.2.2
 have h2:(pkA m a.atoms).all atV=true:=List.all_eq_true.2 fun x hx=>List.all_eq_true.1 hA.2.2.1 x (pkA_mem x hx)
 simp only [List.length_nil,List.all_nil,h1,h2,decide_true]
 rfl
theorem fra_eq (ha:asV a=true) (hb:asV b=true):(asV (starA b (pkS a m)) && ENT a (starA b (pkS a m)))=FRA m b a:=by
 unfold FRA starL
 have:starOk b (pkS a m)=asV (starA b (pkS a m)):=by unfold starOk;rw [hb,pkS_val ha];rfl
 rw [this]
 cases h:asV (starA b (pkS a m)) <;> rfl
end
end Go.SE
namespace Go.SE
section
variable {a b:GAsn}
def frN (a b:GAsn) (i:Nat):Bool:=(List.range i).all fun m=>!FRA m b a
theorem frN_zero:frN a b 0=true:=rfl
theorem frN_get {i:Nat} (h:frN a b i=true):∀ j:Nat,j < i->FRA j b a=false:=fun j hj=>by
 have:=List.all_eq_true.1 h j (List.mem_range.2 hj)
 simpa using this
theorem frN_step {i:Nat} (h:frN a b i=true) (h2:FRA i b a=false):frN a b (i+1)=true:=by
 unfold frN at h ⊢;rw [List.range_succ,List.all_append,h];simp [h2]
theorem pkTop_eq (ha:asV a=true):pkTop a=2 ^ a.atoms.length/\pkTop a<=64/\1<=pkTop a:=by
 have h:=(asV_facts ha).2.2.2
 unfold pkTop
 have:∀ k:Nat,k<=6->IntKind.wrap .i64 ((1:Int) * 2 ^ (min k (IntKind.bits .i64)))=2 ^ k/\IntKind.wrap .i64 ((1:Int) * 2 ^ (min k (IntKind.bits .i64)))<=64/\1<=IntKind.wrap .i64 ((1:Int) * 2 ^ (min k (IntKind.bits .i64))):=by decide
 exact this _ h
theorem frm_found {i:Nat} (ha:asV a=true) (hb:asV b=true) (h:frN a b i=true) (hi:(i:Int) < pkTop a) (hf:FRA i b a=true):pkS a i=frmL a b/\true=frmB a b:=by
 rw [(pkTop_eq ha).1] at hi
 obtain ⟨h1,h2⟩:=lm_found (acc:=fun m=>FRA m b a) (n:=(a.atoms.length:Int)) (m:=i) (by rw [Int.toNat_natCast];exact hi) (frN_get h) hf
 have hB:frmB a b=true:=by unfold frmB;rw [ha,hb,← h2];rfl
 unfold frmL
 rw [hB,cond_true]
 unfold frmI
 rw [← h1]
 exact ⟨rfl,rfl⟩
theorem frm_none {i:Nat} (ha:asV a=true) (hb:asV b=true) (h:frN a b i=true) (hi:¬ (i:Int) < pkTop a):(⟨[],[]⟩:GAsn)=frmL a b/\false=frmB a b:=by
 rw [(pkTop_eq ha).1] at hi
 obtain ⟨h1,h2⟩:=lm_none (acc:=fun m=>FRA m b a) (n:=(a.atoms.length:Int)) (m:=i) (by rw [Int.toNat_natCast];exact hi) (frN_get h)
 have hB:frmB a b=false:=by unfold frmB;rw [ha,hb,← h2];rfl
 unfold frmL
 rw [hB]
 exact ⟨rfl,rfl⟩
theorem frm_no1 (ha:asV a=false):(⟨[],[]⟩:GAsn)=frmL a b/\false=frmB a b:=by
 have hB:frmB a b=false:=by unfold frmB;rw [ha];rfl
 unfold frmL;rw [hB];exact ⟨rfl,rfl⟩
theorem frm_no2 (hb:asV b=false):(⟨[],[]⟩:GAsn)=frmL a b/\false=frmB a b:=by
 have hB:frmB a b=false:=by unfold frmB;rw [hb];simp
 unfold frmL;rw [hB];exact ⟨rfl,rfl⟩
end
end Go.SE
namespace Go.SE
section
variable {a b:GAsn} {m:Int}
theorem fra_y (h:starOk b ⟨[],pkA m a.atoms⟩=true):ENT a (starL b ⟨[],pkA m a.atoms⟩)=FRA m b a:=by
 unfold FRA pkS
 rw [h,Bool.true_and]
theorem fra_n (h:starOk b ⟨[],pkA m a.atoms⟩=false):false=FRA m b a:=by
 unfold FRA pkS
 rw [h,Bool.false_and]
theorem pk200 {k:Nat} (h:a.atoms.length<=k):(pkA m a.atoms).length<=k:=Nat.le_trans pkA_le h
theorem star_pkF (hb:b.facts.length<=100):(starL b ⟨[],pkA m a.atoms⟩).facts.length<=200:=starL_bdF hb (by show 0<=100;omega)
theorem star_pkA (hb:b.atoms.length<=100) (ha:a.atoms.length<=100):(starL b ⟨[],pkA m a.atoms⟩).atoms.length<=200:=starL_bdA hb (pk200 ha)
theorem frm_n (ha:asV a=true) (hb:asV b=true) (h:lmB (fun m=>FRA m b a) (a.atoms.length:Int)=false):(⟨[],[]⟩:GAsn)=frmL a b/\false=frmB a b:=by
 have hB:frmB a b=false:=by unfold frmB;rw [h];simp
 unfold frmL;rw [hB];exact ⟨rfl,rfl⟩
theorem frm_y (ha:asV a=true) (hb:asV b=true) (h:lmB (fun m=>FRA m b a) (a.atoms.length:Int)=true):(⟨[],pkA (lmI (fun m=>FRA m b a) (a.atoms.length:Int)) a.atoms⟩:GAsn)=frmL a b/\true=frmB a b:=by
 have hB:frmB a b=true:=by unfold frmB;rw [ha,hb,h];rfl
 unfold frmL;rw [hB];exact ⟨rfl,rfl⟩
theorem fra_c:starA b (pkS a m)=⟨b.facts,b.atoms ++ pkA m a.atoms⟩:=by unfold starA pkS;simp
theorem fra_a (ha:asV a=true) (hb:asV b=true) {i:Nat} (h:frN a b i=true) (h1:asV ⟨b.facts,b.atoms ++ pkA i a.atoms⟩=false):frN a b (i+1)=true :=
 frN_step h (by rw [← fra_eq ha hb,fra_c,h1];rfl)
theorem fra_b (ha:asV a=true) (hb:asV b=true) {i:Nat} (h:frN a b i=true) (h2:ENT a ⟨b.facts,b.atoms ++ pkA i a.atoms⟩=false):frN a b (i+1)=true :=
 frN_step h (by rw [← fra_eq ha hb,fra_c,h2,Bool.and_false])
theorem frm_f (ha:asV a=true) (hb:asV b=true) {i:Nat} (h:frN a b i=true) (hi:(i:Int) < pkTop a) (h1:asV ⟨b.facts,b.atoms ++ pkA i a.atoms⟩=true) (h2:ENT a ⟨b.facts,b.atoms ++ pkA i a.atoms⟩=true):(⟨[],pkA i a.atoms⟩:GAsn)=frmL a b/\true=frmB a b :=
 frm_found ha hb h hi (by rw [← fra_eq ha hb,fra_c,h1,h2];rfl)
theorem app_pk (hb:b.atoms.length<=100) (ha:a.atoms.length<=100):(b.atoms ++ pkA m a.atoms).length<=200:=by
 rw [List.length_append]
 have:=pkA_le (l:=a.atoms) (m:=m)
 omega
theorem pkTop_w:IntKind.wrap .i64 (1 * 2 ^ min a.atoms.length (IntKind.bits .i64))=pkTop a:=rfl
end
end Go.SE

namespace Go.SE
open Go.RowKit
section
variable {a b p q:GAsn} {m:Int}
end
end Go.SE
namespace Go.SE
section
variable {a p q:GAsn}
end
end Go.SE

namespace Go.SE
section
variable {a b p q:GAsn} {m n:Int}
theorem asV_bare {l:List GAtom} (h:l.all atV=true) (hl:l.length<=6):asV ⟨[],l⟩=true:=by
 unfold asV fsV
 rw [h,decide_eq_true hl]
 rfl
theorem pkV (ha:asV a=true):asV ⟨[],pkA m a.atoms⟩=true :=
 asV_bare (List.all_eq_true.2 fun x hx=>List.all_eq_true.1 (asV_facts ha).2.2.1 x (pkA_mem x hx)) (Nat.le_trans pkA_le (asV_facts ha).2.2.2)
end
end Go.SE

namespace Go.SE
open Go.RowKit
section
variable {a b:GAsn} {c:List Int}
end
section
variable {s:GState} {n m:Int} {b:Bool} {p:Int->Bool} {i j:Nat}
end
section
variable {a:GAsn} {b:Bool} {c V:List Int} {m n:Int} {l:List GAtom} {i:Nat} {d x:GAtom}
end
end Go.SE
namespace Go.SE
open Go.RowKit
end Go.SE
namespace Go.SE
end Go.SE
namespace Go.SE
section
variable {a b:GAsn} {s:GState} {n:Int} {i:Nat} {d:Bool}
end
end Go.SE
namespace Go.SE
open Go.RowKit
section
variable {a:GAsn} {c:List Int} {m:Int} {b:Bool} {i:Nat}
end
end Go.SE
namespace Go.SE
section
variable {s:GState} {n:Int} {i:Nat}
end
end Go.SE

namespace Go.SE
open Go.RowKit
section
variable {a b:GAsn} {c:List Int} {m:Int} {d:Bool} {i j n:Nat}
end
end Go.SE
namespace Go.SE
section
variable {a b:GAsn} {c:List Int} {m:Int} {d:Bool} {i j k n:Nat}
end
end Go.SE
namespace Go.SE
end Go.SE
namespace Go.SE
section
variable {a b:GAsn}
end
end Go.SE
namespace Go.SE
end Go.SE

namespace Go.SE
open Go.RowKit
def popc (x:Int):Int:=(((List.range 6).filter (mbit x)).length:Int)
theorem popc_all:∀ n:Nat,n<=6->∀ x:Nat,x < 64->x < 2 ^ n->((List.range 6).filter (mbit (x:Int))).length=((List.range n).filter (mbit (x:Int))).length:=by decide +kernel
def mxS (a b:GAsn) (m:Int):GAsn:=starA a ⟨[],pkA m b.atoms⟩
def mxC (a b:GAsn) (m:Int):Bool:=asV (mxS a b m) && !(casesF (mxS a b m)).isEmpty
def mxB (a b:GAsn) (m:Int):Bool:=mxC a b m && frmB (mxS a b m) b
def cvI (a b:GAsn):Nat->Int
 | 0=>-1
 | i+1=>cond (mxB a b (i:Int) && !(decide (0<=cvI a b i) && decide (cvI a b i<=((pkA (i:Int) b.atoms).length:Int)))) ((pkA (i:Int) b.atoms).length:Int) (cvI a b i)
def cvN (a b:GAsn):Int:=cond (asV a && asV b) (cvI a b (pkTop b).toNat) (-1)
section
variable {a b:GAsn} {m:Int} {i:Nat}
theorem popc_eq (hb:asV b=true) (hi:(i:Int) < pkTop b):popc (i:Int)=((pkA (i:Int) b.atoms).length:Int):=by
 have hp:=pkTop_eq hb
 have h6:=(fo_len6 hb).2
 rw [hp.1] at hi
 have e:((2 ^ b.atoms.length:Nat):Int)=2 ^ b.atoms.length:=by push_cast;rfl
 unfold popc pkA pk
 rw [List.length_map,popc_all _ h6 i (by have:=hp.2.1;rw [hp.1] at this;omega) (by omega)]
theorem mxN1 (hb:asV b=true) (ha:asV a=true) (h:starOk a ⟨[],pkA m b.atoms⟩=false):mxB a b m=false:=by
 unfold starOk at h
 rw [ha,pkV hb,Bool.true_and,Bool.true_and] at h
 unfold mxB mxC mxS;rw [h];rfl
theorem mx_st (h:starOk a ⟨[],pkA m b.atoms⟩=true):starL a ⟨[],pkA m b.atoms⟩=mxS a b m:=by unfold starL mxS;rw [h];rfl
theorem mxN2 (h:starOk a ⟨[],pkA m b.atoms⟩=true) (h2:(asV (starL a ⟨[],pkA m b.atoms⟩) && !(casesF (starL a ⟨[],pkA m b.atoms⟩)).isEmpty)=false):mxB a b m=false:=by
 rw [mx_st h] at h2
 unfold mxB mxC;rw [h2];rfl
theorem mxN3 (h:starOk a ⟨[],pkA m b.atoms⟩=true) (h3:frmB (starL a ⟨[],pkA m b.atoms⟩) b=false):mxB a b m=false:=by
 rw [mx_st h] at h3
 unfold mxB;rw [h3];simp
theorem mxY (h:starOk a ⟨[],pkA m b.atoms⟩=true) (h2:(asV (starL a ⟨[],pkA m b.atoms⟩) && !(casesF (starL a ⟨[],pkA m b.atoms⟩)).isEmpty)=true) (h3:frmB (starL a ⟨[],pkA m b.atoms⟩) b=true):mxB a b m=true:=by
 rw [mx_st h] at h2 h3
 unfold mxB mxC;rw [h2,h3];rfl
theorem mx_e:(⟨a.facts,a.atoms ++ pkA m b.atoms⟩:GAsn)=mxS a b m:=by unfold mxS starA;rw [List.append_nil]
theorem mxM1 (h:asV ⟨a.facts,a.atoms ++ pkA m b.atoms⟩=false):mxB a b m=false:=by rw [mx_e] at h;unfold mxB mxC;rw [h];rfl
theorem mxM2 (h:(asV ⟨a.facts,a.atoms ++ pkA m b.atoms⟩ && !(casesF ⟨a.facts,a.atoms ++ pkA m b.atoms⟩).isEmpty)=false):mxB a b m=false:=by rw [mx_e] at h;unfold mxB mxC;rw [h];rfl
theorem mxM3 (h:frmB ⟨a.facts,a.atoms ++ pkA m b.atoms⟩ b=false):mxB a b m=false:=by rw [mx_e] at h;unfold mxB;rw [h];simp
theorem mxMY (h:(asV ⟨a.facts,a.atoms ++ pkA m b.atoms⟩ && !(casesF ⟨a.facts,a.atoms ++ pkA m b.atoms⟩).isEmpty)=true) (h3:frmB ⟨a.facts,a.atoms ++ pkA m b.atoms⟩ b=true):mxB a b m=true:=by rw [mx_e] at h h3;unfold mxB mxC;rw [h,h3];rfl
theorem mxa200 (h:a.atoms.length<=100) (hb:b.atoms.length<=100):(a.atoms ++ pkA m b.atoms).length<=200:=by
 rw [List.length_append]
 have:=pkA_le (l:=b.atoms) (m:=m)
 omega
theorem cv_no (h:mxB a b (i:Int)=false):cvI a b i=cvI a b (i+1):=by rw [cvI,h];rfl
theorem cv_skip (h1:0<=cvI a b i) (h2:cvI a b i<=((pkA (i:Int) b.atoms).length:Int)):cvI a b i=cvI a b (i+1):=by
 rw [cvI,decide_eq_true h1,decide_eq_true h2];simp
theorem cv_y1 (h:mxB a b (i:Int)=true) (h2:¬ cvI a b i<=((pkA (i:Int) b.atoms).length:Int)):((pkA (i:Int) b.atoms).length:Int)=cvI a b (i+1):=by
 rw [cvI,h,decide_eq_false h2];simp
theorem cv_y2 (h:mxB a b (i:Int)=true) (h2:¬ 0<=cvI a b i):((pkA (i:Int) b.atoms).length:Int)=cvI a b (i+1):=by
 rw [cvI,h,decide_eq_false h2];simp
theorem cv_n1 (h:asV a=false):-1=cvN a b:=by unfold cvN;rw [h];rfl
theorem cv_n2 (h:asV b=false):-1=cvN a b:=by unfold cvN;rw [h];simp
theorem cv_end (ha:asV a=true) (hb:asV b=true) (h1:(i:Int)<=pkTop b) (h2:¬ (i:Int) < pkTop b):cvI a b i=cvN a b:=by
 unfold cvN;rw [ha,hb,show (pkTop b).toNat=i by omega];rfl
theorem mxs200F (h:a.facts.length<=100):(starL a ⟨[],pkA m b.atoms⟩).facts.length<=200:=starL_bdF h (Nat.zero_le _)
theorem mxs200A (h:a.atoms.length<=100) (hb:b.atoms.length<=100):(starL a ⟨[],pkA m b.atoms⟩).atoms.length<=200:=starL_bdA h (Nat.le_trans pkA_le hb)
end
end Go.SE
