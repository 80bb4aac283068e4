/-
  Parts of a symbolic engine over the program's code: how operations, regions, loops and calls are shown to keep contracts. No conditions.
-/
import Derived.Shelf.Strings.Builder1
import Derived.Shelf.Strings.OnBuilder
import Derived.Laws.BitsAllLaws
import Derived.ChangeVars
import Derived.OpenVars
import Derived.OpenShut
import Derived.LaidMore
import Derived.LaidOnce
import Derived.ChangeArms
import Derived.MakeChecks
import Derived.RangeFuncCalls
import Derived.OrdersIn
import Derived.Laws.StructEq
import Derived.RangeFuncRecord
import Derived.Test.YtkafaeeianofnaaDoorEc
import Derived.Test.YtkafaeeianofnaaDoorEa
set_option linter.unusedSimpArgs false
set_option linter.unusedVariables false
set_option linter.unusedSectionVars false

namespace Go.SE
variable [Base]
open Go.RowKit
def MemB (m m':Nat->Option Res):Prop :=
 (∀ id fam t (xs':List (Ty.den t)),m' id=some (.sl fam t xs')->∃ xs:List (Ty.den t),m id=some (.sl fam t xs)/\xs.length=xs'.length) /\
 (∀ id t (xs':List (Ty.den t)),m' id=some (.vec t xs')->∃ xs:List (Ty.den t),m id=some (.vec t xs)/\xs.length=xs'.length)
theorem MemB.refl (m:Nat->Option Res):MemB m m:=⟨fun _ _ _ xs h=>⟨xs,h,rfl⟩,fun _ _ xs h=>⟨xs,h,rfl⟩⟩
section
variable {tab:TypeId->Option TI} {K:FuncId->Option Con} {ops:Array Oper} {st:St}
theorem store_memB {ty:TypeId} {x v:Operand} {t:Tr} (h:trStore tab st ty x v=some t) (hp:t.pre):∃ pre wr fz,t=Tr.write pre wr fz/\MemB st.mem (wr st.mem):=by
 unfold trStore at h
 split at h
 ·rename_i ti id off hti hx
  split at h
  ·rename_i cs hm
   split at h
   ·cases h
   ·cases h
   ·split at h
    ·injection h with h
     refine ⟨_,_,_,h.symm,?_,?_⟩
     ·intro j fam t xs' hj
      simp only [upd] at hj
      split at hj
      ·cases hj
      ·exact ⟨xs',hj,rfl⟩
     ·intro j t xs' hj
      simp only [upd] at hj
      split at hj
      ·cases hj
      ·exact ⟨xs',hj,rfl⟩
    ·cases h
   ·cases h
  ·rename_i t0 xs0 hm
   split at h
   ·split at h
    ·rename_i ys hc
     split at h
     ·injection h with h
      subst h
      refine ⟨_,_,_,rfl,?_,?_⟩
      ·intro j fam t xs' hj
       simp only [upd] at hj
       split at hj
       ·cases hj
       ·exact ⟨xs',hj,rfl⟩
      ·intro j t xs' hj
       simp only [upd] at hj
       split at hj
       ·rename_i e
        subst e
        injection hj with hj;injection hj with h1 h2
        subst h1
        cases h2
        exact ⟨xs0,hm,hp.1.symm⟩
       ·exact ⟨xs',hj,rfl⟩
     ·cases h
    ·cases h
   ·cases h
  ·cases h
 ·rename_i ti id t0 k off hti hx
  split at h
  ·split at h
   ·split at h
    ·rename_i t' xs hm
     split at h
     ·rename_i xs' hc
      obtain ⟨rfl,hq⟩:=castL_eq hc
      cases hq
      split at h
      ·injection h with h
       refine ⟨_,_,_,h.symm,?_,?_⟩
       ·intro j fam t xs' hj
        simp only [upd] at hj
        split at hj
        ·cases hj
        ·exact ⟨xs',hj,rfl⟩
       ·intro j t xs' hj
        simp only [upd] at hj
        split at hj
        ·rename_i e
         subst e
         injection hj with hj;injection hj with h1 h2
         subst h1
         cases h2
         exact ⟨xs,hm,by simp⟩
        ·exact ⟨xs',hj,rfl⟩
      ·cases h
     ·cases h
    ·rename_i fam t' xs hm
     split at h
     ·rename_i xs' hc
      obtain ⟨rfl,hq⟩:=castL_eq hc
      cases hq
      split at h
      ·injection h with h
       refine ⟨_,_,_,h.symm,?_,?_⟩
       ·intro j fam2 t xs' hj
        simp only [upd] at hj
        split at hj
        ·rename_i e
         subst e
         injection hj with hj;injection hj with h0 h1 h2
         subst h0 h1
         cases h2
         exact ⟨xs,hm,by simp⟩
        ·unfold kill at hj
         split at hj
         ·rename_i f2 t2 xs2 hm2
          split at hj
          ·cases hj
          ·injection hj with hj;injection hj with h0 h1 h2
           subst h0 h1
           cases h2
           exact ⟨_,hm2,rfl⟩
         ·exact ⟨xs',hj,rfl⟩
       ·intro j t xs' hj
        simp only [upd] at hj
        split at hj
        ·cases hj
        ·unfold kill at hj
         split at hj
         ·split at hj <;> cases hj
         ·exact ⟨_,hj,rfl⟩
      ·cases h
     ·cases h
    ·cases h
   ·cases h
  ·cases h
 ·cases h
theorem ix_back {st1:St} (he:st1.env=st.env) (hm:MemB st.mem st1.mem) {ty:TypeId} {x i:Operand} {t:Tr} (h:trIndexAddr tab st1 ty x i=some t):trIndexAddr tab st ty x i=some t:=by
 have hev:∀ z,ev st1 z=ev st z:=fun z=>by cases z <;> simp only [ev,he]
 unfold trIndexAddr at h ⊢
 simp only [hev] at h
 split at h
 ·rename_i a b rw_ e t' ik k hti hei
  try simp only [hti,hei]
  split at h
  ·exact h
  split at h
  ·exact h
  ·rename_i id hw
   split at h
   ·rename_i fam t2 xs' hm1
    obtain ⟨xs,hm0,hl⟩:=hm.1 _ _ _ _ hm1
    simp only [hm0]
    split at h
    ·rename_i ys hc
     obtain ⟨rfl,hq⟩:=castL_eq hc
     cases hq
     cases hc2:castL t2 t2 xs with
     | none=>exact absurd hc2 (by cases t2 <;> simp [castL])
     | some ys2 =>
      obtain ⟨_,hq⟩:=castL_eq hc2
      cases hq
      simp only [hl]
      exact h
    ·cases h
   ·cases h
  ·cases h
 ·rename_i a b nn e t' ik k hti hei
  try simp only [hti,hei]
  split at h
  ·rename_i id hw
   split at h
   ·rename_i t2 xs' hm1
    obtain ⟨xs,hm0,hl⟩:=hm.2 _ _ _ hm1
    simp only [hm0]
    split at h
    ·rename_i ys hc
     obtain ⟨rfl,hq⟩:=castL_eq hc
     cases hq
     cases hc2:castL t2 t2 xs with
     | none=>exact absurd hc2 (by cases t2 <;> simp [castL])
     | some ys2 =>
      obtain ⟨_,hq⟩:=castL_eq hc2
      cases hq
      simp only [hl]
      exact h
    ·cases h
   ·cases h
  ·exact h
  ·cases h
 ·cases h
theorem fa_back {st1:St} (he:st1.env=st.env) {ty:TypeId} {x:Operand} {f:Nat}:trFieldAddr tab st1 ty x f=trFieldAddr tab st ty x f:=by
 have hev:ev st1 x=ev st x:=by cases x <;> simp only [ev,he]
 unfold trFieldAddr
 simp only [hev]
theorem fa_det {ty:TypeId} {x:Operand} {f:Nat} {t:Tr} (htr:trFieldAddr tab st ty x f=some t):∃ v pre,t=Tr.one v pre:=by
 unfold trFieldAddr at htr
 repeat' (split at htr)
 all_goals first
  | (cases htr;done)
  | (injection htr with htr;exact ⟨_,_,htr.symm⟩)
theorem ixa_det {ty:TypeId} {x i:Operand} {t:Tr} (htr:trIndexAddr tab st ty x i=some t):∃ v pre,t=Tr.one v pre:=by
 unfold trIndexAddr at htr
 repeat' (split at htr)
 all_goals first
  | (cases htr;done)
  | (injection htr with htr;exact ⟨_,_,htr.symm⟩)
def lateS (x y:Oper):Bool :=
 match x.op,x.guard,x.dst,y.op,y.guard,y.dst with
 | .store _ _ _,none,none,.indexAddr _ _ _,none,some _=>true
 | .store _ _ _,none,none,.fieldAddr _ _ _,none,some _=>true
 | _,_,_,_,_,_=>false
theorem store_past {ty:TypeId} {p v:Operand} {d:Nat} {k:St->Prop} {T:St->Option Tr} (hp:p ≠ .tmp d) (hv:v ≠ .tmp d) (hT:∀ st1:St,st1.env=st.env->MemB st.mem st1.mem->∀ t,T st1=some t->T st=some t) (hd:∀ t,T st=some t->∃ s pre,t=Tr.one s pre)
  (h:vcTr none st (fun s=>vcTr (some d) s k (T s)) (trStore tab st ty p v)):vcTr (some d) st (fun s=>vcTr none s k (trStore tab s ty p v)) (T st):=by
 cases hs:trStore tab st ty p v with
 | none=>rw [hs] at h;exact h.elim
 | some ts =>
  rw [hs,vcTr_iff] at h
  obtain ⟨h1,h2⟩:=h
  obtain ⟨pre,wr,fz,rfl,hm⟩:=store_memB hs h1
  have h3:=h2 () (.inl rfl)
  cases ht:T (st.app none (Tr.write pre wr fz) ()) with
  | none=>rw [ht] at h3;exact h3.elim
  | some t =>
   rw [ht,vcTr_iff] at h3
   have ht0:=hT (st.app none (Tr.write pre wr fz) ()) rfl hm t ht
   obtain ⟨s,pre2,rfl⟩:=hd t ht0
   rw [ht0,vcTr_iff]
   refine ⟨h3.1,fun r _=>?_⟩
   have e1:∀ s0:St,s0.app (some d) (Tr.one s pre2) r=St.put s0 (some d) s:=by
    intro s0
    have e:Option.map (fun x=>x+0) s0.rd=s0.rd:=by cases s0.rd <;> rfl
    simp only [St.app,St.put,adds,sets,e]
   rw [e1,trStore_put hp hv,hs,vcTr_iff]
   refine ⟨h1,fun r2 _=>?_⟩
   have h4:=h3.2 r (.inl rfl)
   rw [e1] at h4
   exact h4
theorem commute_store {x y:Oper} (hap:x.apart ops y=true) (hl:lateS x y=true) {k:St->Prop} (h:vcStep tab K ops x st fun s=>vcStep tab K ops y s k):vcStep tab K ops y st fun s=>vcStep tab K ops x s k:=by
 obtain ⟨ha1,ha2,ha3⟩:=Oper.apart_spec hap
 have hlook:∀ q ∈ opnds x,∀ d,y.dst=some d->q ≠ .tmp d:=by
  intro q hq d hd hqd
  refine ha3 d hd ?_
  unfold Oper.looksAt
  simp only [List.mem_append]
  exact .inl (List.mem_filterMap.2 ⟨q,hq,by rw [hqd]⟩)
 unfold lateS at hl
 split at hl
 ·rename_i ty p v ty2 z i d e1 e2 e3 e4 e5 e6
  have a1:∀ (s:St) (k':St->Prop),vcOp tab K y s k'=vcTr (some d) s k' (trIndexAddr tab s ty2 z i):=by
   intro s k';unfold vcOp trOp;rw [e4,e6]
  simp only [vcStep_none e2,vcStep_none e5,vcOp_store e1,e3,a1] at h ⊢
  exact store_past (T:=fun s=>trIndexAddr tab s ty2 z i) (hlook p (by simp [opnds,e1,Op.operands]) d e6) (hlook v (by simp [opnds,e1,Op.operands]) d e6) (fun st1 he hm t ht=>ix_back he hm ht) (fun t ht=>ixa_det ht) h
 ·rename_i ty p v ty2 z f d e1 e2 e3 e4 e5 e6
  have a1:∀ (s:St) (k':St->Prop),vcOp tab K y s k'=vcTr (some d) s k' (trFieldAddr tab s ty2 z f):=by
   intro s k';unfold vcOp trOp;rw [e4,e6]
  simp only [vcStep_none e2,vcStep_none e5,vcOp_store e1,e3,a1] at h ⊢
  exact store_past (T:=fun s=>trFieldAddr tab s ty2 z f) (hlook p (by simp [opnds,e1,Op.operands]) d e6) (hlook v (by simp [opnds,e1,Op.operands]) d e6) (fun st1 he hm t ht=>by rw [← fa_back he];exact ht) (fun t ht=>fa_det ht) h
 ·cases hl
end
end Go.SE

namespace Go.SE
variable [Base]
open Go.RowKit
theorem setRow_comm (w:World) (b1 b2:Nat) (r1 r2:Array Value) (h:b1 ≠ b2):(w.setRow b1 r1).setRow b2 r2=(w.setRow b2 r2).setRow b1 r1:=by
 simp only [World.setRow]
 congr 1
 apply Array.ext_getElem?
 intro i
 simp only [Array.getElem?_modify]
 by_cases e1:b1=i <;> by_cases e2:b2=i <;> simp [e1,e2] <;> omega
section
variable {P:Program} {E:Ty->TypeId} {tab:TypeId->Option TI} {w0:World} {M:MM} {n:Nat} {o:Oper} {st:St} {a:Act} {w:World}
theorem datas_len {mem:Nat->Option Res}:∀ (vs:List CV) (ds:List DC) (ids:List Nat),datas mem vs=some (ds,ids)->ds.length=vs.length:=by
 intro vs
 induction vs with
 | nil=>intro ds ids h;simp only [datas,Option.some.injEq,Prod.mk.injEq] at h;obtain ⟨rfl,_⟩:=h;rfl
 | cons v l ih =>
  intro ds ids h
  simp only [datas] at h
  split at h
  ·cases h
  ·rename_i ds' ids' h1
   have:=ih _ _ h1
   split at h
   ·injection h with h;injection h with h h2;subst h;simp [this]
   ·split at h
    ·injection h with h;injection h with h h2;subst h;simp [this]
    ·cases h
   ·cases h
def StoreF (P:Program) (o:Oper) (a:Act) (w:World) (b:Nat):Prop :=
 ∃ r:Array Value,∀ w':World,w'.heap[b]?=w.heap[b]?->(execOp a.eval o).run P w'=.ok .skip (w'.setRow b r)
theorem store_runs (h:Rel E w0 M n st a w) (ht:TabOk P E tab) {ty:TypeId} {x y:Operand} (ho:o.op=.store ty x y) {t:Tr} (htr:trStore tab st ty x y=some t) {id:Nat} {t':Ty} {k:Int} {off:Nat}
  (hev:ev st x=.s (.c (.vp id t' k off))) {g:G} (hg:Good E w0 M g st w) (henv:∀ x,(st.env x).R g (a.tmps.getD x undef)) :
  ∃ b off',blkOf (g.κ id)=some b/\a.eval x=.pointer (some ⟨b,off',none⟩)/\StoreF P o a w b:=by
 have hx:=ev_R henv x
 have hy:=ev_R henv y
 unfold trStore at htr
 rw [hev] at htr hx
 split at htr
 ·rename_i ti id0 off0 hti hq;cases hq
 ·rename_i ti id0 t0 k0 off0 hti hq
  cases hq
  obtain ⟨i,d,hi,hu,hisz,hk⟩:=ht _ _ hti
  obtain ⟨b,hbk,h0,hkl,hv⟩:=hx
  refine ⟨b,_,hbk,hv,?_⟩
  split at htr
  ·rename_i ps hps
   obtain ⟨hpl,hpc⟩:=partCells_R hy hps
   split at htr
   ·rename_i ds ids hds
    have hdl:ds.length=ps.length:=datas_len ps ds ids hds
    have hcsz:(a.eval y).cells.size=i.size:=by rw [hpc.1,hpl,hisz]
    have fin:∀ (vs:Array Value) (bt:TypeId),w.heap[b]?=some (.cells vs bt (0,0))->k.toNat * t'.sz+off+i.size<=vs.size->StoreF P o a w b:=by
     intro vs bt hb hfit
     refine ⟨over vs (k.toNat * t'.sz+off) (a.eval y).cells.toList,fun w' hw'=>?_⟩
     rw [hb] at hw'
     have hr:=run_storeAt (P:=P) (ty:=ty) (o:=k.toNat * t'.sz+off) hw' hi (v:=a.eval y) hcsz hfit (cells_ones hpc (datas_noJunk hds))
     simp [execOp,ho,hv,hr]
    split at htr
    ·rename_i u xs hm
     split at htr
     ·rename_i xs' hcast
      obtain ⟨rfl,hq⟩:=castL_eq hcast
      cases hq
      split at htr
      ·rename_i z hz
       obtain ⟨hln,b',vs,bt,hκ',hb,hvs,hrow⟩:=hg.res _ _ hm
       have e:b'=b:=by rw [hκ'] at hbk;simpa [blkOf] using hbk
       subst e
       have hle:=updElem_le hz
       refine fin vs bt hb ?_
       have:(k.toNat+1) * u.sz<=xs.length * u.sz:=Nat.mul_le_mul_right _ (by omega)
       rw [Nat.add_mul] at this
       rw [hvs,hisz,← hpl,← hdl]
       omega
      ·cases htr
     ·cases htr
    ·rename_i fam u xs hm
     split at htr
     ·rename_i xs' hcast
      obtain ⟨rfl,hq⟩:=castL_eq hcast
      cases hq
      split at htr
      ·rename_i z hz
       obtain ⟨hln,hres⟩:=hg.res _ _ hm
       rcases hres with ⟨hκ',hx0⟩ | ⟨b',cap,vs,hκ',hb,hcl,hcm,hvs,hrow⟩
       ·rw [hκ'] at hbk;simp [blkOf] at hbk
       have e:b'=b:=by rw [hκ'] at hbk;simpa [blkOf] using hbk
       subst e
       have hle:=updElem_le hz
       refine fin vs _ hb ?_
       have:(k.toNat+1) * u.sz<=cap * u.sz:=Nat.mul_le_mul_right _ (by omega)
       rw [Nat.add_mul] at this
       rw [hvs,hisz,← hpl,← hdl]
       omega
      ·cases htr
     ·cases htr
    ·cases htr
   ·cases htr
  ·cases htr
 ·cases htr
theorem store_det {ty:TypeId} {x y:Operand} {t:Tr} (htr:trStore tab st ty x y=some t):∃ pre wr fz,t=Tr.write pre wr fz:=by
 unfold trStore at htr
 repeat' (split at htr)
 all_goals first
  | (cases htr;done)
  | (injection htr with htr;exact ⟨_,_,_,htr.symm⟩)
theorem store_sym {K:FuncId->Option Con} {ty:TypeId} {x y:Operand} (ho:o.op=.store ty x y) (hd:o.dst=none) {k:St->Prop} (hv:vcOp tab K o st k) :
  ∃ t,trStore tab st ty x y=some t/\∃ st',st'.env=st.env/\k st':=by
 unfold vcOp at hv
 have e:trOp tab K o st=trStore tab st ty x y:=by unfold trOp;rw [ho]
 rw [e] at hv
 cases htr:trStore tab st ty x y with
 | none=>rw [htr] at hv;exact hv.elim
 | some t =>
  obtain ⟨pre,wr,fz,rfl⟩:=store_det htr
  rw [htr] at hv
  refine ⟨_,rfl,_,?_,hv.2⟩
  simp [St.app,hd]
theorem store_next {K:FuncId->Option Con} (h:Rel E w0 M n st a w) (ht:TabOk P E tab) (hKA:KAll P E K) {ty:TypeId} {x y:Operand} (ho:o.op=.store ty x y) (hd:o.dst=none) (hok:opOk o=true) {k:St->Prop} (hv:vcOp tab K o st k)
  {b:Nat} {r:Array Value} (hrun:(execOp a.eval o).run P w=.ok .skip (w.setRow b r)):∃ st',Rel E w0 M n st' a (w.setRow b r)/\k st'/\st'.env=st.env:=by
 have hv':vcOp tab K o st (fun s=>k s/\s.env=st.env):=by
  unfold vcOp at hv ⊢
  have e:trOp tab K o st=trStore tab st ty x y:=by unfold trOp;rw [ho]
  rw [e] at hv ⊢
  cases htr:trStore tab st ty x y with
  | none=>rw [htr] at hv;exact hv.elim
  | some t =>
   obtain ⟨pre,wr,fz,rfl⟩:=store_det htr
   rw [htr] at hv
   exact ⟨hv.1,hv.2,by simp [St.app,hd]⟩
 have:=vcOp_sound (P:=P) h ht hKA (by rw [hd];intro d hd;cases hd) hok hv' (next:=fun a' w'=>∃ st',Rel E w0 M n st' a' w'/\k st'/\st'.env=st.env) (Q:=fun _ _ _=>False) fun st' a' w' hr hk=>⟨st',hr,hk.1,hk.2⟩
 unfold Oper.wp at this
 rw [hrun,Oper.upon_skip,hd] at this
 exact this
theorem ix_runs (h:Rel E w0 M n st a w) (ht:TabOk P E tab) {ty:TypeId} {x i:Operand} (ho:o.op=.indexAddr ty x i) {t:Tr} (htr:trIndexAddr tab st ty x i=some t) (hp:t.pre) {id:Nat} (hev:ev st x=.s (.c (.own id))) :
  ∃ v,∀ w':World,(execOp a.eval o).run P w'=.ok (.value v) w':=by
 obtain ⟨g,hg,henv⟩:=h.good
 have hx:=ev_R henv x
 rw [hev] at hx
 unfold trIndexAddr at htr
 rw [hev] at htr
 split at htr
 ·rename_i sz by_ rw_ e t' ik k hti hei
  have vi:=(ev_val h hei).1
  obtain ⟨inf,d,_,hu,_,_,⟨rfl,_⟩,ie,hie,hsz,_⟩:=ht _ _ hti
  simp only [xfix,wkS] at htr
  split at htr
  ·rename_i fam t'' xs hm
   split at htr
   ·rename_i ys hcast
    obtain ⟨rfl,hh⟩:=castL_eq hcast
    cases hh
    injection htr with htr
    subst htr
    obtain ⟨h0,h1⟩:=hp
    obtain ⟨hln,hres⟩:=hg.res _ _ hm
    rcases hres with ⟨_,h2⟩ | ⟨b,cap,cur,hκ,hb,hle,hcap,hcs,hrow⟩
    ·subst h2;simp at h1;omega
    ·refine ⟨.pointer (some ⟨b,0+k.toNat * ie.size,none⟩),fun w'=>?_⟩
     have hr:=run_indexAt_sl (w:=w') (P:=P) (b:=b) (o:=0) (len:=xs.length) (cap:=cap) (k:=ik) hu hie h0 h1
     have e1:a.eval x=.slice (some ⟨b,0,none⟩) xs.length cap:=by rw [hx.1,hκ]
     simp [execOp,ho,e1,vi,hr]
   ·cases htr
  ·cases htr
 ·simp only at htr
  cases htr
 ·cases htr
theorem swV_inv {s1 s2:S} (h:swV st s1 s2=true):∃ i1 t1 k1 o1 i2 t2 k2 o2 f1 u1 f2 u2,∃ (xs1:List (Ty.den u1)) (xs2:List (Ty.den u2)),s1=.s (.c (.vp i1 t1 k1 o1))/\s2=.s (.c (.vp i2 t2 k2 o2))/\i1 ≠ i2/\st.sp i1=false/\st.sp i2=false/\st.mem i1=some (.sl f1 u1 xs1)/\st.mem i2=some (.sl f2 u2 xs2):=by
 unfold swV at h
 split at h
 ·rename_i i1 t1 k1 o1 i2 t2 k2 o2
  simp only [Bool.and_eq_true,Bool.not_eq_true'] at h
  obtain ⟨h1,h2,h3,h4,h5⟩:=h
  unfold isSlB at h4 h5
  split at h4
  ·rename_i f1 u1 xs1 e1
   split at h5
   ·rename_i f2 u2 xs2 e2
    exact ⟨i1,t1,k1,o1,i2,t2,k2,o2,f1,u1,f2,u2,xs1,xs2,rfl,rfl,Nat.ne_of_beq_eq_false h1,h2,h3,e1,e2⟩
   ·cases h5
  ·cases h4
 ·cases h
theorem swD_inv {x x2 z:Nat} (h:swD st x x2 z=true):swV st (st.env x) (st.env x2)=true/\∃ id,st.env z=.s (.c (.own id)):=by
 unfold swD at h
 rw [Bool.and_eq_true] at h
 refine ⟨h.1,?_⟩
 have h2:=h.2
 unfold isOwnB at h2
 split at h2
 ·rename_i id e;exact ⟨id,e⟩
 ·cases h2
theorem swap_one {K:FuncId->Option Con} (h:Rel E w0 M n st a w) (ht:TabOk P E tab) (hKA:KAll P E K) {p s2:Oper} {tyP ty2 x x2 z:Nat} {y v2:Operand} (hp:p.op=.store tyP (.tmp x) y) (hpd:p.dst=none) (hpk:opOk p=true)
  (hs:s2.op=.store ty2 (.tmp x2) v2) (hsd:s2.dst=none) (hsk:opOk s2=true) {k:St->Prop} (hv:vcOp tab K s2 st (fun s=>swD s x x2 z=true/\vcOp tab K p s k)) :
  ∃ b1 r1 b2 r2,(execOp a.eval p).run P w=.ok .skip (w.setRow b1 r1)/\(execOp a.eval s2).run P (w.setRow b1 r1)=.ok .skip ((w.setRow b1 r1).setRow b2 r2)/\∃ st',Rel E w0 M n st' a ((w.setRow b1 r1).setRow b2 r2)/\k st':=by
 obtain ⟨t2,htr2,sy,hye,hyd,hyv⟩:=store_sym hs hsd hv
 obtain ⟨i1,t1,k1,o1,i2,tt2,k2,o2,f1,u1,f2,u2,xs1,xs2,e1,e2,-⟩:=swV_inv (swD_inv hyd).1
 have hev2:ev st (.tmp x2)=.s (.c (.vp i2 tt2 k2 o2)):=by
  show st.env x2=_
  rw [← hye];exact e2
 obtain ⟨g,hg,henv⟩:=h.good
 obtain ⟨b2,off2,hb2,he2,r2,hr2⟩:=store_runs (P:=P) h ht hs htr2 hev2 hg henv
 obtain ⟨st1,hrel1,⟨hd1,hv1⟩,henv1⟩:=store_next (P:=P) h ht hKA hs hsd hsk hv (hr2 w rfl)
 obtain ⟨i1,t1,k1,o1,i2,tt2,k2,o2,f1,u1,f2,u2,xs1,xs2,e1,e2,hne,hs1,hs2,hm1,hm2⟩:=swV_inv (swD_inv hd1).1
 obtain ⟨tp,htrp,-⟩:=store_sym hp hpd hv1
 obtain ⟨g1,hg1,henvg1⟩:=hrel1.good
 obtain ⟨b1,off1,hb1,he1,r1,hr1⟩:=store_runs (P:=P) hrel1 ht hp htrp e1 hg1 henvg1
 have hx2:=ev_R henvg1 (.tmp x2)
 rw [show ev st1 (.tmp x2)=_ from e2] at hx2
 obtain ⟨b',hb',-,-,hv'⟩:=hx2
 have hbb:b'=b2:=by
  rw [he2] at hv'
  injection hv' with hv'
  injection hv' with hv'
  exact (congrArg Addr.block hv').symm
 subst hbb
 have hbne:b1 ≠ b':=by
  intro e
  subst e
  obtain ⟨_,_,_,_,_,_,h4⟩:=hg1.sep i1 i2 _ _ hm1 hm2 hne trivial trivial b1 hb1 hb'
  rw [(h4 hs1).1] at hs2
  cases hs2
 obtain ⟨st2,hrel2,hk2,-⟩:=store_next (P:=P) hrel1 ht hKA hp hpd hpk hv1 (hr1 _ rfl)
 refine ⟨b1,r1,b',r2,hr1 w (setRow_other w b' b1 r2 hbne).symm,hr2 _ (setRow_other w b1 b' r1 (Ne.symm hbne)),st2,?_,hk2⟩
 rw [setRow_comm w b1 b' r1 r2 hbne]
 exact hrel2
theorem ix_det {ty:TypeId} {x i:Operand} {t:Tr} (htr:trIndexAddr tab st ty x i=some t):∃ v pre,t=Tr.one v pre:=by
 unfold trIndexAddr at htr
 repeat' (split at htr)
 all_goals first
  | (cases htr;done)
  | (injection htr with htr;exact ⟨_,_,htr.symm⟩)
theorem ix_sym {K:FuncId->Option Con} {ty:TypeId} {x i:Operand} (ho:o.op=.indexAddr ty x i) {d:Nat} (hd:o.dst=some d) {k:St->Prop} (hv:vcOp tab K o st k) :
  ∃ t,trIndexAddr tab st ty x i=some t/\t.pre/\∃ st',(∀ q,q ≠ d->st'.env q=st.env q)/\k st':=by
 unfold vcOp at hv
 have e:trOp tab K o st=trIndexAddr tab st ty x i:=by unfold trOp;rw [ho]
 rw [e] at hv
 cases htr:trIndexAddr tab st ty x i with
 | none=>rw [htr] at hv;exact hv.elim
 | some t =>
  obtain ⟨v,pre,rfl⟩:=ix_det htr
  rw [htr] at hv
  refine ⟨_,rfl,hv.1,_,?_,hv.2⟩
  intro q hq
  simp [St.app,hd,upd,hq]
theorem ix_next {K:FuncId->Option Con} (h:Rel E w0 M n st a w) (ht:TabOk P E tab) (hKA:KAll P E K) {d:Nat} (hd:o.dst=some d) (hdn:d < n) (hok:opOk o=true) {k:St->Prop} (hv:vcOp tab K o st k) {v:Value}
  (hrun:(execOp a.eval o).run P w=.ok (.value v) w):∃ st',Rel E w0 M n st' (a.put (some d) v) w/\k st':=by
 have:=vcOp_sound (P:=P) h ht hKA (by rw [hd];intro d' hd';cases hd';exact hdn) hok hv (next:=fun a' w'=>∃ st',Rel E w0 M n st' a' w'/\k st') (Q:=fun _ _ _=>False) fun st' a' w' hr hk=>⟨st',hr,hk⟩
 unfold Oper.wp at this
 rw [hrun,Oper.upon_value,hd] at this
 exact this
theorem eval_put {d x:Nat} {v:Value} (h:x ≠ d):(a.put (some d) v).eval (.tmp x)=a.eval (.tmp x):=by
 simp [Act.eval,Act.put,Array.getD_eq_getD_getElem?,Array.getElem?_setIfInBounds,Ne.symm h]
theorem swap_two {K:FuncId->Option Con} (h:Rel E w0 M n st a w) (ht:TabOk P E tab) (hKA:KAll P E K) {p s1 s2:Oper} {tyP ty1 ty2 x y x2 z d:Nat} {i1 v2:Operand} (hp:p.op=.store tyP (.tmp x) (.tmp y)) (hpd:p.dst=none) (hpk:opOk p=true)
  (h1:s1.op=.indexAddr ty1 (.tmp z) i1) (h1d:s1.dst=some d) (h1k:opOk s1=true) (hdn:d < n) (hxd:x ≠ d) (hyd:y ≠ d) (hzd:z ≠ d)
  (hs:s2.op=.store ty2 (.tmp x2) v2) (hsd:s2.dst=none) (hsk:opOk s2=true) {k:St->Prop} (hv:vcOp tab K s1 st (fun s=>vcOp tab K s2 s (fun s=>swD s x x2 z=true/\vcOp tab K p s k))) :
  ∃ v b1 r1 b2 r2,(execOp a.eval p).run P w=.ok .skip (w.setRow b1 r1)/\(execOp a.eval s1).run P (w.setRow b1 r1)=.ok (.value v) (w.setRow b1 r1) /\
   (execOp (a.put (some d) v).eval s2).run P (w.setRow b1 r1)=.ok .skip ((w.setRow b1 r1).setRow b2 r2)/\∃ st',Rel E w0 M n st' (a.put (some d) v) ((w.setRow b1 r1).setRow b2 r2)/\k st':=by
 obtain ⟨t1,htr1,hpre,sy,hye,hyv⟩:=ix_sym h1 h1d hv
 obtain ⟨t2,-,sz,hze,hzd1,-⟩:=store_sym hs hsd hyv
 have hown:∃ id,ev st (.tmp z)=.s (.c (.own id)):=by
  obtain ⟨id,e⟩:=(swD_inv hzd1).2
  rw [hze,hye z hzd] at e
  exact ⟨id,e⟩
 obtain ⟨id,hid⟩:=hown
 obtain ⟨v,hrun1⟩:=ix_runs (P:=P) h ht h1 htr1 hpre hid
 obtain ⟨st1,hrel1,hv1⟩:=ix_next (P:=P) h ht hKA h1d hdn h1k hv (hrun1 w)
 obtain ⟨b1,r1,b2,r2,hr1,hr2,hfin⟩:=swap_one (P:=P) hrel1 ht hKA hp hpd hpk hs hsd hsk hv1
 refine ⟨v,b1,r1,b2,r2,?_,hrun1 _,hr2,hfin⟩
 have e1:=eval_put (a:=a) (d:=d) (x:=x) (v:=v) hxd
 have e2:=eval_put (a:=a) (d:=d) (x:=y) (v:=v) hyd
 simp only [execOp,hp] at hr1 ⊢
 rw [e1,e2] at hr1
 exact hr1
end
theorem swOf_inv {p s1 s2:Option Oper} {q:Nat × Nat × Nat} (h:swOf p s1 s2=some q):∃ op o1 o2 tyP ty1 ty2 y d i1 v2,p=some op/\s1=some o1/\s2=some o2/\op.op=.store tyP (.tmp q.1) (.tmp y)/\op.dst=none/\op.guard=none/\o1.op=.indexAddr ty1 (.tmp q.2.2) i1/\o1.dst=some d/\o1.guard=none /\
  o2.op=.store ty2 (.tmp q.2.1) v2/\o2.dst=none/\o2.guard=none/\q.1 ≠ d/\y ≠ d/\q.2.2 ≠ d:=by
 unfold swOf at h
 split at h
 ·rename_i tyP x y _ _ _ d ty1 z i1 _ _ _ ty2 x2 v2 _ _ _
  cases hb:(Nat.beq x d || (Nat.beq y d || Nat.beq z d)) with
  | true=>rw [hb] at h;cases h
  | false =>
   rw [hb] at h
   injection h with h
   subst h
   simp only [Bool.or_eq_false_iff] at hb
   exact ⟨_,_,_,tyP,ty1,ty2,y,d,i1,v2,rfl,rfl,rfl,rfl,rfl,rfl,rfl,rfl,rfl,rfl,rfl,rfl,Nat.ne_of_beq_eq_false hb.1,Nat.ne_of_beq_eq_false hb.2.1,Nat.ne_of_beq_eq_false hb.2.2⟩
 ·cases h
def pairS (K:FuncId->Option Con) (tab:TypeId->Option TI) (ops:Array Oper) (s2 i j:Nat):Bool :=
 pairOk K tab ops (Region.before ops) i j || (Nat.beq i s2 && (match ops[i]?,ops[j]? with
  | some oi,some oj=>oi.apart ops oj && lateS oi oj
  | _,_=>false))
def swapOk (K:FuncId->Option Con) (tab:TypeId->Option TI) (ops:Array Oper) (s1 s2:Nat):Bool :=
 certOk ops (Region.before ops) && (backOk ops && (decide (s1 < s2) && (decide (s2 < ops.size - 1) && (((List.range (ops.size - 1)).all fun j=>(List.range j).all fun i=>pairS K tab ops s2 i j && (Nat.ble i s2 || ((Region.before ops).getD j 0).testBit i)) &&
  (((List.range (ops.size - 1)).all fun i=>((Region.before ops).getD (ops.size - 1) 0).testBit i || (Nat.beq i s1 || Nat.beq i s2)) && ((Region.before ops).getD s2 0).testBit s1)))))
section
variable {P:Program} {E:Ty->TypeId} {tab:TypeId->Option TI} {K:FuncId->Option Con} {pts:FuncId->Option PT}
theorem vcOps_append {ops:Array Oper} {k:St->Prop}:∀ (l1 l2:List Oper) (st:St),vcOps tab K ops (l1 ++ l2) st k=vcOps tab K ops l1 st (fun s=>vcOps tab K ops l2 s k):=by
 intro l1
 induction l1 with
 | nil=>intro l2 st;rfl
 | cons o l1 ih =>
  intro l2 st
  simp only [List.cons_append,vcOps]
  congr 1
  funext s
  exact ih l2 s
theorem vcOps_mono {ops:Array Oper} {k k':St->Prop} (h:∀ s,k s->k' s):∀ {l:List Oper} {st:St},vcOps tab K ops l st k->vcOps tab K ops l st k':=by
 intro l
 induction l with
 | nil=>intro st hv;exact h st hv
 | cons o l ih=>intro st hv;exact vcStep_mono (fun s hs=>ih hs) hv
theorem any_fin {ops:Array Oper} {Q:Exit->Act->World->Prop} (fuel:Nat) (listed:Array Bool) (a:Act) (w:World) (h:∀ i,i < ops.size->listed.getD i true=true) (hq:Q .normal a w):wpAny P .any ops Q fuel listed a w:=by
 have hnr:Region.ready .any ops listed=[]:=by
  refine List.eq_nil_iff_forall_not_mem.2 fun j hj=>?_
  obtain ⟨h1,h2,_⟩:=ready_iff.1 hj
  rw [h j h1] at h2
  cases h2
 cases fuel with
 | zero=>exact ⟨hnr,hq⟩
 | succ fuel=>exact ⟨fun _=>hq,fun j hj=>by rw [hnr] at hj;cases hj⟩
theorem any_one {ops:Array Oper} {Q:Exit->Act->World->Prop} {fuel:Nat} {listed:Array Bool} {a:Act} {w:World} {s:Nat} {o:Oper} (ho:ops[s]?=some o) (hr:s ∈ Region.ready .any ops listed) (hu:∀ i ∈ Region.ready .any ops listed,i=s) (hg:o.guard=none)
  (hw:o.wp P a w (wpAny P .any ops Q fuel (listed.setIfInBounds s true)) Q):wpAny P .any ops Q (fuel+1) listed a w:=by
 refine ⟨fun hnil=>?_,fun i hi=>?_⟩
 ·rw [hnil] at hr;cases hr
 ·have e:=hu i hi
  subst e
  unfold wpOp
  rw [ho]
  simp only
  rw [if_pos (by simp [Region.wanted,hg])]
  exact .inl hw
theorem draw_swap (ht:TabOk P E tab) (hs:TabSmall tab) (hKA:KAll P E K) (hmix:P.follows .mixedOrders=true) {w0:World} {M:MM} {n:Nat} {id:Nat} {ops:Array Oper} {st:St} {a:Act} {w:World} {k:St->Prop} {Q:Exit->Act->World->Prop} {s1 s2:Nat}
  (hok:swapOk K tab ops s1 s2=true) (hops:opsOk n ops.toList=true) (hrel:Rel E w0 M n st a w) (hv:vcSw tab K pts ops st k [[s1,s2]]) (hQ:∀ st' a' w',Rel E w0 M n st' a' w'->k st'->Q .normal a' w'):(Code.region id ops true).wp P Q a w:=by
 have hK:KTot K:=fun f con hf x hx=>(hKA f con hf).tot x hx
 unfold swapOk at hok
 simp only [Bool.and_eq_true,decide_eq_true_eq] at hok
 obtain ⟨hcert,hback,hs12,hs2N,hpair,hlast,hb21⟩:=hok
 unfold backOk at hback
 rw [List.all_eq_true] at hback hpair hlast
 obtain ⟨N,hN⟩:∃ N,ops.size=N+1:=⟨ops.size - 1,by omega⟩
 have eN:ops.size - 1=N:=by omega
 have hv:swK tab K ops st k (swOf ops[ops.size - 1]? ops[s1]? ops[s2]?):=hv
 cases hsw:swOf ops[ops.size - 1]? ops[s1]? ops[s2]? with
 | none=>rw [hsw] at hv;exact hv.elim
 | some q =>
 obtain ⟨x,x2,z⟩:=q
 rw [hsw] at hv
 have hv:vcOps tab K ops (pickOps ops (List.range (ops.size - 1))) st fun s=>swD s x x2 z=true/\vcOps tab K ops (pickOps ops [ops.size - 1]) s k:=hv
 obtain ⟨oP,o1,o2,tyP,ty1,ty2,y,d,i1,v2,hoP,ho1,ho2,hPo,hPd,hPg,h1o,h1d,h1g,h2o,h2d,h2g,hxd,hyd,hzd⟩:=swOf_inv hsw
 rw [eN] at hpair hlast hs2N hv hoP
 have hbit:∀ i,i < N->i ≠ s1->i ≠ s2->((Region.before ops).getD N 0).testBit i=true:=by
  intro i h1 h2 h3
  have:=hlast i (List.mem_range.2 h1)
  simp only [Bool.or_eq_true] at this
  rcases this with h | h | h
  ·exact h
  ·exact (h2 (Nat.eq_of_beq_eq_true h)).elim
  ·exact (h3 (Nat.eq_of_beq_eq_true h)).elim
 have hback':∀ j o,ops[j]?=some o->∀ e ∈ o.after.toList,Region.binds .any e=true->e.on < j:=by
  intro j o ho e he hb
  have hj:j < ops.size:=(Array.getElem?_eq_some_iff.1 ho).1
  have:=hback j (List.mem_range.2 hj)
  rw [ho] at this
  simp only [List.all_eq_true] at this
  have:=this e he
  simpa [hb] using this
 have rdy0:∀ (listed:Array Bool),listed.size=ops.size->∀ i,i < ops.size->listed.getD i true=false->(∀ j,j < i->¬ (j < ops.size/\listed.getD j true=false))->i ∈ Region.ready .any ops listed:=by
  intro listed hsz i hi1 hi2 hmin
  refine ready_iff.2 ⟨hi1,hi2,ops[i],by simp [hi1],fun e he hb=>?_⟩
  have hlt:=hback' i ops[i] (by simp [hi1]) e he hb
  have hes:e.on < listed.size:=by omega
  rw [getD_of_lt hes false true]
  cases hle:listed.getD e.on true with
  | true=>rfl
  | false=>exact (hmin e.on hlt ⟨by omega,hle⟩).elim
 have clos:∀ (listed:Array Bool) (i:Nat) (o:Oper),Closed ops listed->ops[i]?=some o->(∀ e ∈ o.after.toList,Region.binds .any e=true->listed.getD e.on false=true)->Closed ops (listed.setIfInBounds i true):=by
  intro listed i o hcl ho hdeps j oj hoj hlj e he hb
  rw [getD_set] at hlj ⊢
  split
  ·rfl
  ·by_cases ej:i=j/\j < listed.size
   ·obtain ⟨rfl,_⟩:=ej
    rw [ho] at hoj
    injection hoj with hoj
    subst hoj
    exact hdeps e he hb
   ·rw [if_neg ej] at hlj
    exact hcl j oj hoj hlj e he hb
 have okOf:∀ {i:Nat} {o:Oper},ops[i]?=some o->opOk o=true/\∀ d,o.dst=some d->d < n:=fun ho=>opsOk_mem hops _ (by have:=Array.mem_of_getElem? ho;simpa using this)
 have key:∀ (fuel:Nat) (L:List Nat) (listed:Array Bool) (st:St) (a:Act) (w:World),L.length+1<=fuel->(∀ i ∈ L,i < N)->L.Pairwise (· < ·)->listed.size=ops.size->(∀ i,(i ∈ L ∨ i=N) ↔ i < ops.size/\listed.getD i true=false)->Closed ops listed ->
   Rel E w0 M n st a w->vcOps tab K ops (pickOps ops L) st (fun s=>swD s x x2 z=true/\vcOps tab K ops (pickOps ops [N]) s k)->wpAny P .any ops Q fuel listed a w:=by
  intro fuel
  induction fuel with
  | zero=>intro L listed st a w hlen;omega
  | succ fuel ih =>
   intro L listed st a w hlen hLN hsort hsz hL hcl hr hv
   have rdy:=rdy0 listed hsz
   refine ⟨fun hnil=>?_,fun i hi=>?_⟩
   ·exfalso
    cases L with
    | nil =>
     obtain ⟨h1,h2⟩:=(hL N).1 (.inr rfl)
     have:=rdy N h1 h2 fun j hj h=>by
      rcases (hL j).2 h with h | h
      ·cases h
      ·omega
     rw [hnil] at this;cases this
    | cons i L' =>
     obtain ⟨h1,h2⟩:=(hL i).1 (.inl (by simp))
     have:=rdy i h1 h2 fun j hj h=>by
      rcases (hL j).2 h with h | h
      ·rcases List.mem_cons.1 h with h | h
       ·omega
       ·have:=(List.pairwise_cons.1 hsort).1 j h;omega
      ·have:=hLN i (by simp);omega
     rw [hnil] at this;cases this
   ·obtain ⟨hi1,hi2,o,ho,hdeps⟩:=ready_iff.1 hi
    obtain ⟨hok1,hok2⟩:=okOf ho
    have hcl':Closed ops (listed.setIfInBounds i true):=clos listed i o hcl ho hdeps
    rcases (hL i).2 ⟨hi1,hi2⟩ with hiL | hiN
    ·obtain ⟨L1,L2,rfl⟩:=List.append_of_mem hiL
     have hL1:∀ j ∈ L1,j < i:=by
      intro j hj
      exact (List.pairwise_append.1 hsort).2.2 j hj i (by simp)
     rw [pickOps_append] at hv
     have e2:pickOps ops (i :: L2)=o :: pickOps ops L2:=by simp only [pickOps,ho]
     rw [e2] at hv
     have hiN:i < N:=hLN i (by simp)
     have nobit:∀ j ∈ L1,((Region.before ops).getD i 0).testBit j=true->False:=by
      intro j hj h2
      have hji:=hL1 j hj
      have hls:=before_listed hcert hcl i o ho hdeps j (by omega) h2
      have hju:=((hL j).1 (.inl (by simp [hj]))).2
      rw [getD_of_lt (by omega) true false,hls] at hju
      cases hju
     have hfree:∀ j x,j ∈ L1->ops[j]?=some x->Free3 K tab ops x o ∨ (j=s2/\x.apart ops o=true/\lateS x o=true):=by
      intro j x hj hoj
      have hji:=hL1 j hj
      have h1:=hpair i (List.mem_range.2 hiN)
      rw [List.all_eq_true] at h1
      have h2:=h1 j (List.mem_range.2 hji)
      rw [Bool.and_eq_true] at h2
      have h2:=h2.1
      unfold pairS pairOk at h2
      rw [hoj,ho] at h2
      simp only [Bool.or_eq_true,Bool.and_eq_true,Bool.not_eq_true'] at h2
      rcases h2 with ((h2 | ⟨⟨⟨h3,h4⟩,h5⟩,h6⟩) | ⟨h3,h4⟩) | ⟨h3,h4,h5⟩
      ·exact (nobit j hj h2).elim
      ·exact .inl (.inl ⟨h3,h4,h5,h6⟩)
      ·exact .inl (.inr ⟨h3,h4⟩)
      ·exact .inr ⟨Nat.eq_of_beq_eq_true h3,h4,h5⟩
     have hstep:vcStep tab K ops o st fun s=>vcOps tab K ops (pickOps ops L1 ++ pickOps ops L2) s (fun s=>swD s x x2 z=true/\vcOps tab K ops (pickOps ops [N]) s k):=by
      by_cases hs2:s2 ∈ L1/\(o2.apart ops o=true/\lateS o2 o=true)
      ·obtain ⟨hs2,hap,hlt⟩:=hs2
       obtain ⟨La,Lb,hLab⟩:=List.append_of_mem hs2
       have hsorted:(La ++ s2 :: Lb).Pairwise (· < ·):=by rw [← hLab];exact (List.pairwise_append.1 hsort).1
       have hb:Lb=[]:=by
        cases Lb with
        | nil=>rfl
        | cons j Lb =>
         exfalso
         have hj:j ∈ L1:=by rw [hLab];simp
         have h3:s2 < j:=(List.pairwise_cons.1 (List.pairwise_append.1 hsorted).2.1).1 j (by simp)
         have h1:=hpair i (List.mem_range.2 hiN)
         rw [List.all_eq_true] at h1
         have h2:=h1 j (List.mem_range.2 (hL1 j hj))
         rw [Bool.and_eq_true,Bool.or_eq_true] at h2
         rcases h2.2 with h4 | h4
         ·have:=Nat.le_of_ble_eq_true h4;omega
         ·exact nobit j hj h4
       subst hb
       have e3:pickOps ops L1=pickOps ops La ++ [o2]:=by rw [hLab,pickOps_append];simp only [pickOps,ho2]
       rw [e3] at hv ⊢
       have hfa:∀ x ∈ pickOps ops La,Free3 K tab ops x o:=by
        intro y hy
        obtain ⟨j,hj,hoj⟩:=pickOps_mem hy
        have hjL:j ∈ L1:=by rw [hLab];simp [hj]
        rcases hfree j y hjL hoj with h | ⟨h,_⟩
        ·exact h
        ·exfalso
         have:=(List.pairwise_append.1 hsorted).2.2 j hj s2 (by simp)
         omega
       have hv2:vcOps tab K ops (pickOps ops La ++ o :: (o2 :: pickOps ops L2)) st (fun s=>swD s x x2 z=true/\vcOps tab K ops (pickOps ops [N]) s k):=by
        rw [List.append_assoc,vcOps_append] at hv
        rw [vcOps_append]
        refine vcOps_mono (fun s hs=>?_) hv
        simp only [List.singleton_append,vcOps] at hs ⊢
        exact commute_store hap hlt hs
       have:=extract hs hK hr.cl hfa hv2
       rw [List.append_assoc,List.singleton_append]
       exact this
      ·refine extract hs hK hr.cl (fun y hy=>?_) hv
       obtain ⟨j,hj,hoj⟩:=pickOps_mem hy
       rcases hfree j y hj hoj with h | ⟨h,h1,h2⟩
       ·exact h
       ·subst h
        rw [ho2] at hoj
        injection hoj with hoj
        subst hoj
        exact (hs2 ⟨hj,h1,h2⟩).elim
     have hrun:=step_sound (P:=P) (Q:=Q) ht hKA hok1 hok2 hr hstep (next:=wpAny P .any ops Q fuel (listed.setIfInBounds i true)) fun st' a' w' hr' hv'=>by
      rw [← pickOps_append] at hv'
      have hsort':(L1 ++ L2).Pairwise (· < ·):=by
       rw [List.pairwise_append] at hsort ⊢
       exact ⟨hsort.1,(List.pairwise_cons.1 hsort.2.1).2,fun a ha b hb=>hsort.2.2 a ha b (by simp [hb])⟩
      have hnd:i ∉ L1 ++ L2:=by
       intro hm
       rcases List.mem_append.1 hm with hm | hm
       ·have:=hL1 i hm;omega
       ·have:=(List.pairwise_cons.1 (List.pairwise_append.1 hsort).2.1).1 i hm;omega
      have hiN':i < N:=hLN i (by simp)
      refine ih (L1 ++ L2) _ st' a' w' (by simp at hlen ⊢;omega) (fun j hj=>hLN j (by rcases List.mem_append.1 hj with h | h <;> simp [h])) hsort' (by simp [hsz]) (fun j=>?_) hcl' hr' hv'
      rw [getD_set]
      constructor
      ·intro hj
       have h1:=(hL j).1 (by
        rcases hj with hj | hj
        ·rcases List.mem_append.1 hj with h | h <;> simp [h]
        ·exact .inr hj)
       have hne:¬ (i=j/\j < listed.size):=fun h=>by
        rcases hj with hj | hj
        ·exact hnd (by rw [h.1];exact hj)
        ·omega
       rw [if_neg hne]
       exact h1
      ·rintro ⟨h1,h2⟩
       by_cases e:i=j/\j < listed.size
       ·rw [if_pos e] at h2;cases h2
       ·rw [if_neg e] at h2
        rcases (hL j).2 ⟨h1,h2⟩ with h | h
        ·rcases List.mem_append.1 h with h | h
         ·simp [h]
         ·rcases List.mem_cons.1 h with h | h
          ·exact (e ⟨h.symm,by omega⟩).elim
          ·simp [h]
        ·exact .inr h
     unfold wpOp
     rw [ho]
     exact hrun
    ·subst hiN
     rw [hoP] at ho
     injection ho with ho
     subst ho
     have hL2:∀ j ∈ L,j=s1 ∨ j=s2:=by
      intro j hj
      by_cases e1:j=s1
      ·exact .inl e1
      by_cases e2:j=s2
      ·exact .inr e2
      exfalso
      have hjN:=hLN j hj
      have hls:=before_listed hcert hcl i oP hoP hdeps j (by omega) (hbit j (hLN j hj) e1 e2)
      have hju:=((hL j).1 (.inl hj)).2
      rw [getD_of_lt (by omega) true false,hls] at hju
      cases hju
     have h12:s1 ∈ L->s2 ∈ L:=by
      intro h
      by_cases h2:s2 ∈ L
      ·exact h2
      exfalso
      have h3:listed.getD s2 true=true:=by
       cases h4:listed.getD s2 true with
       | true=>rfl
       | false=>rcases (hL s2).2 ⟨by omega,h4⟩ with h5 | h5
                ·exact (h2 h5).elim
                ·omega
      rw [getD_of_lt (by omega) true false] at h3
      have hls:=before_listed hcert hcl s2 o2 ho2 (hcl s2 o2 ho2 h3) s1 (by omega) hb21
      have hju:=((hL s1).1 (.inl h)).2
      rw [getD_of_lt (by omega) true false,hls] at hju
      cases hju
     have hlst:∀ (ls:Array Bool) (j:Nat),ls.size=ops.size->j < ops.size->ls.getD j true=false->ls.getD j false=true->False:=by
      intro ls j h1 h2 h3 h4
      rw [getD_of_lt (by omega) true false,h4] at h3
      cases h3
     have hL':∀ j,j < ops.size->(listed.setIfInBounds i true).getD j true=false->j ∈ L:=by
      intro j hj h
      rw [getD_set] at h
      by_cases e:i=j/\j < listed.size
      ·rw [if_pos e] at h;cases h
      ·rw [if_neg e] at h
       rcases (hL j).2 ⟨hj,h⟩ with h | h
       ·exact h
       ·exact (e ⟨h.symm,by omega⟩).elim
     have hLk:∀ j ∈ L,(listed.setIfInBounds i true).getD j true=false:=by
      intro j hj
      rw [getD_set,if_neg (fun e=>by have:=hLN j hj;omega)]
      exact ((hL j).1 (.inl hj)).2
     have hsz':(listed.setIfInBounds i true).size=ops.size:=by simp [hsz]
     -- the last one left,the other of the two
     have last:∀ (fuel':Nat) (ls:Array Bool) (a':Act) (w':World),1<=fuel'->ls.size=ops.size->(∀ j,j < ops.size->(ls.getD j true=false ↔ j=s2))->o2.wp P a' w' (fun a'' w''=>Q .normal a'' w'') Q->wpAny P .any ops Q fuel' ls a' w':=by
      intro fuel' ls a' w' h1 h2 h3 h4
      obtain ⟨f,rfl⟩:∃ f,fuel'=f+1:=⟨fuel' - 1,by omega⟩
      refine any_one ho2 (rdy0 ls h2 s2 (by omega) ((h3 s2 (by omega)).2 rfl) fun j hj h=>?_) (fun j hj=>?_) h2g (Oper.wp_mono (fun a'' w'' hq=>?_) h4)
      ·have:=(h3 j h.1).1 h.2;omega
      ·obtain ⟨g1,g2,_⟩:=ready_iff.1 hj
       exact (h3 j g1).1 g2
      ·refine any_fin _ _ _ _ (fun j hj=>?_) hq
       rw [getD_set]
       by_cases e:s2=j/\j < ls.size
       ·rw [if_pos e]
       ·rw [if_neg e]
        cases h5:ls.getD j true with
        | true=>rfl
        | false=>exact (e ⟨((h3 j hj).1 h5).symm,by omega⟩).elim
     have okP:=okOf hoP
     have ok1:=okOf ho1
     have ok2:=okOf ho2
     have e3:∀ s (k':St->Prop),vcOps tab K ops (pickOps ops [i]) s k'=vcOp tab K oP s k':=by
      intro s k'
      simp only [pickOps,hoP,vcOps,vcStep,hPg]
     have e4:∀ s (k':St->Prop),vcOps tab K ops (pickOps ops [s2]) s k'=vcOp tab K o2 s k':=by
      intro s k'
      simp only [pickOps,ho2,vcOps,vcStep,h2g]
     have e5:∀ s (k':St->Prop),vcOps tab K ops (pickOps ops [s1,s2]) s k'=vcOp tab K o1 s (fun s'=>vcOp tab K o2 s' k'):=by
      intro s k'
      simp only [pickOps,ho1,ho2,vcOps,vcStep,h1g,h2g]
     unfold wpOp
     rw [hoP]
     simp only
     rw [if_pos (by simp [Region.wanted,hPg])]
     refine .inl ?_
     have hcase:L=[] ∨ L=[s2] ∨ L=[s1,s2]:=by
      match L,hL2,h12,hsort with
      | [],_,_,_=>exact .inl rfl
      | [p1],h,h',_ =>
       rcases h p1 (by simp) with e | e
       ·have:=h' (by simp [e]);simp at this;omega
       ·exact .inr (.inl (by rw [e]))
      | [p1,p2],h,h',hs' =>
       have h6:=(List.pairwise_cons.1 hs').1 p2 (by simp)
       rcases h p1 (by simp) with e | e
       ·rcases h p2 (by simp) with e' | e'
        ·omega
        ·exact .inr (.inr (by rw [e,e']))
       ·rcases h p2 (by simp) with e' | e' <;> omega
      | p1 :: p2 :: p3 :: _,h,h',hs' =>
       have h6:=(List.pairwise_cons.1 hs').1 p2 (by simp)
       have h7:=(List.pairwise_cons.1 (List.pairwise_cons.1 hs').2).1 p3 (by simp)
       rcases h p1 (by simp) with e | e <;> rcases h p2 (by simp) with e' | e' <;> rcases h p3 (by simp) with e'' | e'' <;> omega
     rcases hcase with rfl | rfl | rfl
     ·have hv1:vcOp tab K oP st k:=by
       have:=hv.2
       rw [e3] at this
       exact this
      exact vcOp_sound (P:=P) hr ht hKA okP.2 okP.1 hv1 fun st' a' w' hr' hk'=>any_fin _ _ _ _ (fun j hj=>by
       cases h5:(listed.setIfInBounds i true).getD j true with
       | true=>rfl
       | false=>have:=hL' j hj h5;cases this) (hQ st' a' w' hr' hk')
     ·rw [e4] at hv
      have hv1:vcOp tab K o2 st (fun s=>swD s x x2 z=true/\vcOp tab K oP s k):=by
       have:(fun s=>swD s x x2 z=true/\vcOps tab K ops (pickOps ops [i]) s k)=(fun s=>swD s x x2 z=true/\vcOp tab K oP s k):=by funext s;rw [e3]
       rw [this] at hv
       exact hv
      obtain ⟨b1,r1,b2,r2,hr1,hr2,st',hrel',hk'⟩:=swap_one (P:=P) hr ht hKA hPo hPd okP.1 h2o h2d ok2.1 hv1
      unfold Oper.wp
      rw [hr1,Oper.upon_skip,hPd]
      refine last _ _ _ _ (by simp at hlen;omega) hsz' (fun j hj=>⟨fun h=>?_,fun h=>?_⟩) ?_
      ·have:=hL' j hj h;simpa using this
      ·exact hLk j (by simp [h])
      ·unfold Oper.wp
       show o2.upon P a _ Q ((execOp a.eval o2).run P (w.setRow b1 r1))
       rw [hr2,Oper.upon_skip,h2d]
       exact hQ _ _ _ hrel' hk'
     ·rw [e5] at hv
      have hv1:vcOp tab K o1 st (fun s'=>vcOp tab K o2 s' (fun s=>swD s x x2 z=true/\vcOp tab K oP s k)):=by
       have:(fun s=>swD s x x2 z=true/\vcOps tab K ops (pickOps ops [i]) s k)=(fun s=>swD s x x2 z=true/\vcOp tab K oP s k):=by funext s;rw [e3]
       rw [this] at hv
       exact hv
      obtain ⟨v,b1,r1,b2,r2,hr1,hri,hr2,st',hrel',hk'⟩:=swap_two (P:=P) hr ht hKA hPo hPd okP.1 h1o h1d ok1.1 (ok1.2 d h1d) hxd hyd hzd h2o h2d ok2.1 hv1
      unfold Oper.wp
      rw [hr1,Oper.upon_skip,hPd]
      obtain ⟨f,rfl⟩:∃ f,fuel=f+1:=⟨fuel - 1,by simp at hlen;omega⟩
      have hin:∀ j,j < ops.size->(listed.setIfInBounds i true).getD j true=false->j=s1 ∨ j=s2:=fun j hj h=>by have:=hL' j hj h;simpa using this
      refine any_one ho1 (rdy0 _ hsz' s1 (by omega) (hLk s1 (by simp)) fun j hj h=>?_) (fun j hj=>?_) h1g ?_
      ·rcases hin j h.1 h.2 with e | e <;> omega
      ·obtain ⟨g1,g2,o',ho',hd'⟩:=ready_iff.1 hj
       rcases hin j g1 g2 with e | e
       ·exact e
       ·exfalso
        subst e
        have hls:=before_listed hcert hcl' j o' ho' hd' s1 (by omega) hb21
        exact hlst _ s1 hsz' (by omega) (hLk s1 (by simp)) hls
      ·unfold Oper.wp
       show o1.upon P a _ Q ((execOp a.eval o1).run P (w.setRow b1 r1))
       rw [hri,Oper.upon_value,h1d]
       refine last _ _ _ _ (by simp at hlen;omega) (by simp [hsz]) (fun j hj=>?_) ?_
       ·rw [getD_set]
        constructor
        ·intro h
         by_cases e:s1=j/\j < (listed.setIfInBounds i true).size
         ·rw [if_pos e] at h;cases h
         ·rw [if_neg e] at h
          rcases hin j hj h with h | h
          ·exact (e ⟨h.symm,by omega⟩).elim
          ·exact h
        ·intro h
         rw [if_neg (fun e=>by omega)]
         exact hLk j (by simp [h])
       ·unfold Oper.wp
        rw [hr2,Oper.upon_skip,h2d]
        exact hQ _ _ _ hrel' hk'
 refine wp_region_any hmix (key ops.size (List.range N) (Array.replicate ops.size false) st a _ (by simp;omega) (fun i hi=>List.mem_range.1 hi) List.pairwise_lt_range (by simp) (fun i=>?_) ?_ hrel.drawn hv)
 ·rw [List.mem_range]
  constructor
  ·intro h
   refine ⟨by omega,?_⟩
   rw [Array.getD_eq_getD_getElem?]
   have:i < ops.size:=by omega
   simp [this]
  ·intro h;have:=h.1;omega
 ·intro j o ho hl
  rw [Array.getD_eq_getD_getElem?] at hl
  by_cases h:j < ops.size <;> simp [h] at hl
end
end Go.SE

namespace Go.SE
variable [Base]
open Go.RowKit
section
variable {P:Program} {E:Ty->TypeId} {tab:TypeId->Option TI} {K:FuncId->Option Con} {O:Nat->Option Res} {pts:FuncId->Option PT} {hp:Nat->Bool} {gcs:Nat->Option (List Nat × List Nat)} {anns:Nat->Option Ann} {perm:Nat->List (List Nat)} {w0:World} {M:MM} {n:Nat}
def codeOkP (tab:TypeId->Option TI) (K:FuncId->Option Con) (hp:Nat->Bool) (perm:Nat->List (List Nat)) (n:Nat):Code->Bool
 | .region id ops draw=>opsOk n ops.toList && (match hp id with
  | false=>(match perm id with
   | []=>!draw || drawOk K tab ops
   | l :: ls=>draw && permOk ops (l :: ls))
  | true=>(match perm id with
   | []=>!draw
   | [[]]=>draw && drawLast K tab ops
   | [[],[s1,s2]]=>draw && swapOk K tab ops s1 s2
   | [l]=>draw && permOk ops [l]
   | _=>false))
 | .seq a b=>codeOkP tab K hp perm n a && codeOkP tab K hp perm n b
 | .block _ c=>codeOkP tab K hp perm n c
 | .loop c=>codeOkP tab K hp perm n c
 | .cond _ a b=>codeOkP tab K hp perm n a && codeOkP tab K hp perm n b
 | _=>true
theorem OOk.none {h:Bool} {ρ:Nat} {ro0:Nat->Option (Array Value)}:OOk (fun _=>Option.none) (MOf h ρ ro0) :=
 ⟨fun _ _ h=>(by cases h),fun _ h=>(by rcases h with h | h <;> cases h),fun _ h=>(by cases h)⟩
def AllPt (P:Program) (E:Ty->TypeId):List (FuncId × PT)->Prop
 | []=>True
 | (f,c) :: l=>PTOk P E f c/\AllPt P E l
theorem pall_of:∀ {l:List (FuncId × PT)},AllPt P E l->PAll P E (lookP l):=by
 intro l
 induction l with
 | nil=>intro _ f con h;cases h
 | cons p l ih =>
  intro h f con hf
  obtain ⟨a,b⟩:=p
  simp only [lookP] at hf
  split at hf
  ·rename_i e;injection hf with hf;subst e hf;exact h.1
  ·exact ih h.2 f con hf
end
end Go.SE

namespace Go.SE
variable [Base]
open Go.RowKit
abbrev TT:Prop:=true=true
abbrev TF:Prop:=false=false
abbrev TN:Prop:=(none:Option Res)=none
abbrev RL (l:List S):Prop:=l=l
abbrev RM (l:List (Option Res)):Prop:=l=l
def allInB (ids:List Nat):List Nat->Bool
 | []=>true
 | x :: l=>inL ids x && allInB ids l
def closedEB (e:Nat->S) (ids:List Nat):List Nat->Bool
 | []=>true
 | j :: l=>allInB ids (e j).refs && closedEB e ids l
def closedMB (m:Nat->Option Res) (ids:List Nat):List Nat->Bool
 | []=>true
 | j :: l=>(match m j with
   | some r=>allInB ids r.refs
   | none=>true) && closedMB m ids l
def closedVB (ids:List Nat):List (Nat × S)->Bool
 | []=>true
 | (_,v) :: l=>allInB ids v.refs && closedVB ids l
def closedRB (ids:List Nat):List (Nat × Res)->Bool
 | []=>true
 | (_,r) :: l=>allInB ids r.refs && closedRB ids l
def notInB (x:Nat):List Nat->Bool
 | []=>true
 | y :: l=>!(x == y) && notInB x l
def allDiffB:List Nat->Bool
 | []=>true
 | x :: l=>notInB x l && allDiffB l
theorem allInB_ok {O:Nat->Option Res} {ids:List Nat}:∀ {l:List Nat},allInB ids l=true->allInO O ids l:=by
 intro l
 induction l with
 | nil=>intro _;trivial
 | cons x l ih=>intro h;simp only [allInB,Bool.and_eq_true] at h;exact ⟨by simp [h.1],ih h.2⟩
theorem closedEB_ok {O:Nat->Option Res} {e:Nat->S} {ids:List Nat}:∀ {l:List Nat},closedEB e ids l=true->closedEO O e ids l:=by
 intro l
 induction l with
 | nil=>intro _;trivial
 | cons x l ih=>intro h;simp only [closedEB,Bool.and_eq_true] at h;exact ⟨allInB_ok h.1,ih h.2⟩
theorem closedMB_ok {O m:Nat->Option Res} {ids:List Nat}:∀ {l:List Nat},closedMB m ids l=true->closedMO O m ids l:=by
 intro l
 induction l with
 | nil=>intro _;trivial
 | cons x l ih =>
  intro h
  simp only [closedMB,Bool.and_eq_true] at h
  refine ⟨?_,ih h.2⟩
  have h1:=h.1
  cases hm:m x with
  | none=>trivial
  | some r=>rw [hm] at h1;exact allInB_ok h1
theorem closedVB_ok {O:Nat->Option Res} {ids:List Nat}:∀ {l:List (Nat × S)},closedVB ids l=true->closedVO O ids l:=by
 intro l
 induction l with
 | nil=>intro _;trivial
 | cons x l ih=>intro h;obtain ⟨j,v⟩:=x;simp only [closedVB,Bool.and_eq_true] at h;exact ⟨allInB_ok h.1,ih h.2⟩
theorem closedRB_ok {O:Nat->Option Res} {ids:List Nat}:∀ {l:List (Nat × Res)},closedRB ids l=true->closedRO O ids l:=by
 intro l
 induction l with
 | nil=>intro _;trivial
 | cons x l ih=>intro h;obtain ⟨j,v⟩:=x;simp only [closedRB,Bool.and_eq_true] at h;exact ⟨allInB_ok h.1,ih h.2⟩
theorem notInB_ok {x:Nat}:∀ {l:List Nat},notInB x l=true->notIn x l:=by
 intro l
 induction l with
 | nil=>intro _;trivial
 | cons y l ih=>intro h;simp only [notInB,Bool.and_eq_true,Bool.not_eq_true',beq_eq_false_iff_ne] at h;exact ⟨h.1,ih h.2⟩
theorem allDiffB_ok:∀ {l:List Nat},allDiffB l=true->allDiff l:=by
 intro l
 induction l with
 | nil=>intro _;trivial
 | cons y l ih=>intro h;simp only [allDiffB,Bool.and_eq_true] at h;exact ⟨notInB_ok h.1,ih h.2⟩
def gcB (live ids:List Nat) (st:St):Bool:=closedEB st.env ids live && closedMB st.mem ids ids
def gcQ (st:St) (k:St->Prop):Option (List Nat × List Nat)->Prop
 | none=>k st
 | some (live,ids)=>gcB live ids st=true/\k (gcSt (fun _=>none) live ids st)
theorem gcQ_ok {st:St} {k k':St->Prop} (hk:∀ s,k s->k' s):∀ {g:Option (List Nat × List Nat)},gcQ st k g->gcK (fun _=>none) st k' g:=by
 intro g
 cases g with
 | none=>exact hk st
 | some p =>
  obtain ⟨live,ids⟩:=p
  intro h
  have h1:=h.1
  unfold gcB at h1
  simp only [Bool.and_eq_true] at h1
  exact ⟨⟨closedEB_ok h1.1,closedMB_ok h1.2,fun j hj=>(by cases hj)⟩,hk _ h.2⟩
def eqB (a b:Bool):Bool:=match a,b with
 | true,true=>true
 | false,false=>true
 | _,_=>false
theorem eqB_ok {a b:Bool} (h:eqB a b=true):a=b:=by cases a <;> cases b <;> first | rfl | cases h
def memSpB (st st':St):List Nat->Bool
 | []=>true
 | j :: l=>((st.mem j).isSome && eqB (st'.sp j) (st.sp j) && eqB (st'.fr j) (st.fr j)) && memSpB st st' l
def blkSpB (st:St):List (Nat × Res)->Bool
 | []=>true
 | (j,r) :: l=>(!(st.sp j) && !(st.fr j) && match r with
   | .blk _=>true
   | .vec _ _=>true
   | .bld _ _=>true
   | _=>false) && blkSpB st l
def ownSpB (st:St) (ρ:Nat->Nat):List Own->Bool
 | []=>true
 | o :: l=>(!(st.sp (ρ o.id)) && !(st.fr (ρ o.id))) && ownSpB st ρ l
def ownEq (st:St) (ρ:Nat->Nat):List Own->Prop
 | []=>True
 | o :: l=>(match st.mem (ρ o.id) with
   | some (.sl _ t xs)=>castL o.t t xs=some o.xs
   | _=>False)/\ownEq st ρ l
def rdQ:Option Nat->Option Nat->Prop
 | none,none=>TT
 | some n,some m=>n<=m/\m<=1099511627776
 | _,_=>False
def fitsB (live:List Nat) (sets:List (Nat × S)) (mids:List Nat) (blks:List (Nat × Res)) (owns:List Own) (st st':St) (m:List (Nat × Nat)):Bool :=
 allDiffB (idsC mids blks owns) && (allDiffB ((idsC mids blks owns).map (lookR m)) && (allDiffB (famsOf st' ((idsC mids blks owns).map (lookR m))) &&
  (closedEB st.env (mids ++ blks.map (·.1)) live && (closedVB (idsC mids blks owns) sets && (closedMB st.mem (mids ++ blks.map (·.1)) mids && (closedRB (idsC mids blks owns) blks &&
  (memSpB st st' mids && (blkSpB st' blks && ownSpB st' (lookR m) owns))))))))
def fitsQ1 (live:List Nat) (sets:List (Nat × S)) (mids:List Nat) (blks:List (Nat × Res)) (owns:List Own) (rd:Option Nat) (st st':St):Option (List (Nat × Nat))->Prop
 | none=>False
 | some m=>fitsB live sets mids blks owns st st' m=true/\live.map st'.env=live.map st.env/\sets.map (fun p=>st'.env p.1)=sets.map (fun p=>p.2.ren (lookR m)) /\
   mids.map st'.mem=mids.map st.mem/\blks.map (fun p=>st'.mem p.1)=blks.map (fun p=>some (p.2.ren (lookR m)))/\ownEq st' (lookR m) owns/\rdQ st'.rd rd
def fitsQ (live:List Nat) (sets:List (Nat × S)) (mids:List Nat) (blks:List (Nat × Res)) (owns:List Own) (rd:Option Nat) (st st':St):Prop :=
 fitsQ1 live sets mids blks owns rd st st' (renL st' owns)
theorem envSame_of {e e':Nat->S}:∀ {l:List Nat},l.map e=l.map e'->envSame e e' l:=by
 intro l
 induction l with
 | nil=>intro _;trivial
 | cons x l ih=>intro h;simp only [List.map_cons,List.cons.injEq] at h;exact ⟨h.1,ih h.2⟩
theorem envSets_of {e:Nat->S} {ρ:Nat->Nat}:∀ {l:List (Nat × S)},l.map (fun p=>e p.1)=l.map (fun p=>p.2.ren ρ)->envSets e ρ l:=by
 intro l
 induction l with
 | nil=>intro _;trivial
 | cons x l ih=>intro h;obtain ⟨j,v⟩:=x;simp only [List.map_cons,List.cons.injEq] at h;exact ⟨h.1,ih h.2⟩
theorem memSame_of {st st':St}:∀ {l:List Nat},memSpB st st' l=true->l.map st'.mem=l.map st.mem->memSame st st' l:=by
 intro l
 induction l with
 | nil=>intro _ _;trivial
 | cons x l ih =>
  intro hb h
  simp only [List.map_cons,List.cons.injEq] at h
  simp only [memSpB,Bool.and_eq_true] at hb
  exact ⟨⟨hb.1.1.1,h.1,eqB_ok hb.1.1.2,eqB_ok hb.1.2⟩,ih hb.2 h.2⟩
theorem memBlks_of {st:St} {ρ:Nat->Nat}:∀ {l:List (Nat × Res)},blkSpB st l=true->l.map (fun p=>st.mem p.1)=l.map (fun p=>some (p.2.ren ρ))->memBlks st ρ l:=by
 intro l
 induction l with
 | nil=>intro _ _;trivial
 | cons x l ih =>
  intro hb h
  obtain ⟨j,r⟩:=x
  simp only [List.map_cons,List.cons.injEq] at h
  simp only [blkSpB,Bool.and_eq_true,Bool.not_eq_true'] at hb
  refine ⟨⟨h.1,hb.1.1.1,hb.1.1.2,?_⟩,ih hb.2 h.2⟩
  cases r <;> first | trivial | (have:=hb.1.2;cases this)
theorem memOwns_of {st:St} {ρ:Nat->Nat}:∀ {l:List Own},ownSpB st ρ l=true->ownEq st ρ l->memOwns st ρ l:=by
 intro l
 induction l with
 | nil=>intro _ _;trivial
 | cons x l ih =>
  intro hb h
  simp only [ownSpB,Bool.and_eq_true,Bool.not_eq_true'] at hb
  exact ⟨⟨hb.1.1,hb.1.2,h.1⟩,ih hb.2 h.2⟩
theorem okO_none {ρ:Nat->Nat}:∀ l:List Nat,okO (fun _=>none) ρ l:=by
 intro l
 induction l with
 | nil=>trivial
 | cons x l ih=>exact ⟨rfl,ih⟩
theorem fitsQ_ok {live:List Nat} {sets:List (Nat × S)} {mids:List Nat} {blks:List (Nat × Res)} {owns:List Own} {rd:Option Nat} {st st':St} (h:fitsQ live sets mids blks owns rd st st'):fitsP (fun _=>none) live sets mids blks owns rd st st':=by
 unfold fitsQ at h
 unfold fitsP
 cases hm:renL st' owns with
 | none=>rw [hm] at h;exact h.elim
 | some m =>
  rw [hm] at h
  obtain ⟨hb,h1,h2,h3,h4,h5,h6⟩:=h
  unfold fitsB at hb
  simp only [Bool.and_eq_true] at hb
  obtain ⟨b1,b2,b3,b4,b5,b6,b7,b8,b9,b10⟩:=hb
  refine ⟨envSame_of h1,envSets_of h2,memSame_of b8 h3,memBlks_of b9 h4,memOwns_of b10 h5,allDiffB_ok b1,allDiffB_ok b2,allDiffB_ok b3,closedEB_ok b4,closedVB_ok b5,closedMB_ok b6,closedRB_ok b7,okO_none _,fun j hj=>(by cases hj),fun j f t xs hj=>(by cases hj),?_⟩
  cases h7:st'.rd <;> cases rd <;> rw [h7] at h6
  ·trivial
  ·exact h6.elim
  ·exact h6.elim
  ·exact h6
def vcLoopQ (body:St->(XK->St->Prop)->Prop) (st:St) (Q:XK->St->Prop):Option Ann->Prop
 | none=>False
 | some ⟨α,ok,mu,i0,nx,live,sets,mids,blks,owns,rd,base⟩=>(ok (i0 st)/\fitsQ live (sets (i0 st)) mids (blks (i0 st)) (owns (i0 st)) (rd st.rd (i0 st)) st st) /\
   ∀ a:α,ok a->body (headP (fun _=>none) live (sets a) mids (blks a) (owns a) base (rd st.rd a) st) (seqK (fun st'=>ok (nx a st')/\mu (nx a st') < mu a/\fitsQ live (sets (nx a st')) mids (blks (nx a st')) (owns (nx a st')) (rd st.rd (nx a st')) st st') Q)
section
variable (tab:TypeId->Option TI) (K:FuncId->Option Con) (pts:FuncId->Option PT) (hp:Nat->Bool) (gcs:Nat->Option (List Nat × List Nat)) (anns:Nat->St->Option Ann) (perm:Nat->List (List Nat))
def vcQ:Code->St->(XK->St->Prop)->Prop
 | .skip,st,Q=>Q .normal st
 | .region id ops _,st,Q=>vcRegP tab K pts ops st (Q .normal) (hp id) (perm id)
 | .seq a b,st,Q=>vcQ a st (seqK (fun st'=>gcQ st' (fun s=>vcQ b s Q) (gcs (firstReg b))) Q)
 | .cond c a b,st,Q=>condK (vcQ a st Q) (vcQ b st Q) (ev st c)
 | .block id c,st,Q=>vcQ c st (blockK id Q)
 | .loop c,st,Q=>vcLoopQ (fun st' Q'=>vcQ c st' Q') st Q (anns (firstReg c) st)
 | .exit id,st,Q=>Q (.exit id) st
 | .ret,st,Q=>Q .ret st
 | _,_,_=>False
end
section
variable {P:Program} {E:Ty->TypeId} {tab:TypeId->Option TI} {K:FuncId->Option Con} {pts:FuncId->Option PT} {hp:Nat->Bool} {gcs:Nat->Option (List Nat × List Nat)} {anns:Nat->St->Option Ann} {perm:Nat->List (List Nat)} {w0:World} {M:MM} {n:Nat}
open Classical in
theorem codeQ_sound (ht:TabOk P E tab) (hKA:KAll P E K) (hPA:PAll P E pts) (hmix:P.follows .mixedOrders=true) (hdr:DrawSound P E tab K w0 M n) (hOO:OOk (fun _=>none) M):∀ (c:Code) (st:St) (a:Act) (w:World) (Qs:XK->St->Prop) (Q:Exit->Act->World->Prop),codeOkP tab K hp perm n c=true->Rel E w0 M n st a w->vcQ tab K pts hp gcs anns perm c st Qs ->
  (∀ x st' a' w',Rel E w0 M n st' a' w'->Qs x st'->Q x.exit' a' w')->c.wp P Q a w:=by
 have hO:=hOO
 intro c
 induction c with
 | skip=>intro st a w Qs Q _ h hv hQ;exact wp_skip (hQ .normal st a w h hv)
 | region id ops draw =>
  intro st a w Qs Q hok h hv hQ
  simp only [codeOkP,Bool.and_eq_true] at hok
  obtain ⟨hok1,hok2⟩:=hok
  simp only [vcQ] at hv
  cases hh:hp id with
  | false =>
   rw [hh] at hv hok2
   cases hpm:perm id with
   | nil =>
    rw [hpm] at hv hok2
    simp only [vcRegP,vcReg] at hv
    simp only at hok2
    cases draw with
    | false=>exact wp_region_list (seq_sound ht hKA (fun st' a' w' hr hk=>hQ .normal st' a' w' hr hk) ops.toList st a w (opsOk_mem hok1) h hv)
    | true=>exact hdr id ops st a w _ Q (by simpa using hok2) hok1 h hv fun st' a' w' hr hk=>hQ .normal st' a' w' hr hk
   | cons l ls =>
    rw [hpm] at hv hok2
    simp only [vcRegP,vcReg] at hv
    simp only [Bool.and_eq_true,permOk,List.all_eq_true] at hok2
    obtain ⟨hd,hp1,hp2⟩:=hok2
    subst hd
    refine wp_region_any hmix (any_sound ht hKA hok1 (fun st' a' w' hr hk=>hQ .normal st' a' w' hr hk) _ _ st a _ hp1 h.drawn fun x hx=>vcEach_mem hv x ?_)
    have:=hp2 x hx
    simpa using this
  | true =>
   rw [hh] at hv hok2
   cases hpm:perm id with
   | nil =>
    rw [hpm] at hv hok2
    simp only [vcRegP] at hv
    simp only [Bool.not_eq_true'] at hok2
    subst hok2
    exact wp_region_list (seqP_sound ht hKA hPA (fun st' a' w' hr hk=>hQ .normal st' a' w' hr hk) ops.toList st a w (opsOk_mem hok1) h hv)
   | cons l ls =>
    rw [hpm] at hv hok2
    cases ls with
    | cons l' ls =>
     rcases l with _ | ⟨i0,l⟩
     ·rcases l' with _ | ⟨s1,_ | ⟨s2,_ | ⟨_,_⟩⟩⟩
      ·cases hok2
      ·cases hok2
      ·rcases ls with _ | ⟨_,_⟩
       ·simp only [vcRegP] at hv
        simp only [Bool.and_eq_true] at hok2
        obtain ⟨hd,hdl⟩:=hok2
        subst hd
        exact draw_swap (pts:=pts) ht (tab_small ht) hKA hmix hdl hok1 h hv fun st' a' w' hr hk=>hQ .normal st' a' w' hr hk
       ·cases hok2
      ·cases hok2
     ·cases hok2
    | nil =>
    cases l with
    | nil =>
     simp only [vcRegP] at hv
     simp only [Bool.and_eq_true] at hok2
     obtain ⟨hd,hdl⟩:=hok2
     subst hd
     exact draw_last ht (tab_small ht) hKA hPA hmix hdl hok1 h hv fun st' a' w' hr hk=>hQ .normal st' a' w' hr hk
    | cons i0 l =>
     simp only [vcRegP] at hv
     simp only [Bool.and_eq_true,permOk,List.all_eq_true] at hok2
     obtain ⟨hd,hp1,hp2⟩:=hok2
     subst hd
     refine wp_region_any hmix (one_sound ht hKA hPA hok1 (fun st' a' w' hr hk=>hQ .normal st' a' w' hr hk) _ (i0 :: l) _ st a _ hp1 (fun x hx=>?_) h.drawn hv)
     have:=hp2 x hx
     simpa using this
 | seq x y ihx ihy =>
  intro st a w Qs Q hok h hv hQ
  simp only [codeOkP,Bool.and_eq_true] at hok
  refine wp_seq (ihx st a w _ _ hok.1 h hv fun k st' a' w' hr hk=>?_)
  cases k with
  | normal =>
   simp only [seqK] at hk
   have hk2:=gcQ_ok (k':=fun s=>vcQ tab K pts hp gcs anns perm y s Qs) (fun _ h=>h) hk
   unfold gcK at hk2
   split at hk2
   ·exact ihy st' a' w' Qs Q hok.2 hr hk2 hQ
   ·exact ihy _ a' w' Qs Q hok.2 (hr.gc hO hk2.1) hk2.2 hQ
  | exit id=>exact hQ (.exit id) st' a' w' hr hk
  | ret=>exact hQ .ret st' a' w' hr hk
 | cond cnd x y ihx ihy =>
  intro st a w Qs Q hok h hv hQ
  simp only [codeOkP,Bool.and_eq_true] at hok
  simp only [vcQ] at hv
  unfold condK at hv
  split at hv
  ·rename_i t he
   have hval:=(ev_val h he).1
   cases t with
   | true=>exact wp_cond_true hval (ihx st a w Qs Q hok.1 h (vcIf_t hv) hQ)
   | false=>exact wp_cond_false hval (ihy st a w Qs Q hok.2 h (vcIf_f hv) hQ)
  ·exact hv.elim
 | block id x ih =>
  intro st a w Qs Q hok h hv hQ
  refine wp_block (ih st a w _ _ hok h hv fun k st' a' w' hr hk=>?_)
  cases k with
  | normal=>exact hQ .normal st' a' w' hr hk
  | exit id' =>
   simp only [XK.exit',Exit.inBlock]
   simp only [blockK] at hk
   split
   ·rename_i e;rw [if_pos e] at hk;exact hQ .normal st' a' w' hr hk
   ·rename_i e;rw [if_neg e] at hk;exact hQ (.exit id') st' a' w' hr hk
  | ret=>exact hQ .ret st' a' w' hr hk
 | loop x ih =>
  intro st a w Qs Q hok h hv hQ
  simp only [vcQ] at hv
  unfold vcLoopQ at hv
  split at hv
  ·exact hv.elim
  ·rename_i α ok mu i0 nx live sets mids blks owns rd base hA
   obtain ⟨⟨ho0,hf0⟩,hround⟩:=hv
   let α0:α:=i0 st
   let hd:α->St:=fun α=>SE.headP (fun _=>none) live (sets α) mids (blks α) (owns α) base (rd st.rd α) st
   have hex:∀ (a:Act) (w:World),(∃ α,ok α/\Rel E w0 M n (hd α) a w)->∃ m,∃ α,ok α/\Rel E w0 M n (hd α) a w/\mu α=m :=
    fun a w ⟨α,h1,h2⟩=>⟨_,α,h1,h2,rfl⟩
   let μ:Act->World->Nat:=fun a w=>if hh:∃ m,∃ α,ok α/\Rel E w0 M n (hd α) a w/\mu α=m then Classical.choose (least hh) else 0
   refine wp_loop (fun a w=>∃ α,ok α/\Rel E w0 M n (hd α) a w) μ ⟨α0,ho0,h.headP hO (fitsQ_ok hf0)⟩ ?_
   intro a w hI
   have hh:=hex a w hI
   obtain ⟨α,h1,h2,h3⟩:=(Classical.choose_spec (least hh)).1
   have hμ:μ a w=mu α:=by simp only [μ,dif_pos hh];exact h3.symm
   refine ih _ a w _ _ hok h2 (hround α h1) fun k st' a' w' hr hk=>?_
   cases k with
   | normal =>
    obtain ⟨g1,g2,g3⟩:=hk
    have hrel:Rel E w0 M n (hd (nx α st')) a' w':=hr.headP hO (fitsQ_ok g3)
    refine ⟨⟨nx α st',g1,hrel⟩,?_⟩
    have hh':∃ m,∃ α,ok α/\Rel E w0 M n (hd α) a' w'/\mu α=m:=⟨_,nx α st',g1,hrel,rfl⟩
    have:μ a' w'<=mu (nx α st'):=by simp only [μ,dif_pos hh'];exact (Classical.choose_spec (least hh')).2 _ ⟨nx α st',g1,hrel,rfl⟩
    omega
   | exit id=>exact hQ (.exit id) st' a' w' hr hk
   | ret=>exact hQ .ret st' a' w' hr hk
 | exit id=>intro st a w Qs Q _ h hv hQ;exact wp_exit (hQ (.exit id) st a w h hv)
 | ret=>intro st a w Qs Q _ h hv hQ;exact wp_ret (hQ .ret st a w h hv)
 | _=>intro st a w Qs Q _ h hv hQ;exact hv.elim
theorem fnQ_sound (ht:TabOk P E tab) (hKA:KAll P E K) (hPA:PAll P E pts) (hmix:P.follows .mixedOrders=true) (hdr:∀ w0 M n,DrawSound P E tab K w0 M n) {f:FuncId} {fn:Func} {c:Code} {con:Con} (hf:P.funcs[f]?=some fn) (hb:fn.body=some c) (hn:con.aks.length<=fn.ntmps) (hok:codeOkP tab K hp perm fn.ntmps c=true)
  {anns:Args con.aks->Nat->Nat->St->Option Ann} (hvc:∀ x k,con.pre x->(hasRdr con.aks=true->k+con.cost x<=rdLimit)->vcQ tab K pts hp gcs (anns x k) perm c (entry (encs con.aks x) (rdOf (hasRdr con.aks) k)) (retOk tab con fn.results.toList x k)):CallOk P E f con:=by
 intro w0 ro0 ρ k x vs id0 hpre hin hrd hargs
 have hlen:vs.length=con.aks.length:=by
  rw [hargs.1]
  have:∀ (ks:List AK) (x:Args ks),(encs ks x).length=ks.length:=by
   intro ks
   induction ks with
   | nil=>intro x;rfl
   | cons k ks ih=>intro x;obtain ⟨x,xs⟩:=x;simp [encs,ih]
  exact this _ _
 have hrd1:hasRdr con.aks=true->RdOk w0 ro0 ρ k:=fun h=>(hrd h).1
 refine calls_of_wp hf hb ?_
 refine codeQ_sound ht hKA hPA hmix (hdr _ _ _) OOk.none c _ _ _ (retOk tab con fn.results.toList x k) _ hok (entry_rel hin hrd1 hargs (by omega)) (hvc x k hpre fun h=>(hrd h).2) ?_
 intro xk st' a' w' hr hk
 have fin:retOk tab con fn.results.toList x k .ret st'->a'.defers=[]/\∃ v,(results fn a'.tmps).run P w'=.ok v w'/\∃ v1 r g,Ending.returned v=.returned v1/\con.post x r/\Ext (fun b=>hasRdr con.aks=true/\b=ρ) w0 w'/\g.ρ=ρ/\ResOk E w0 w' ro0 con.rks id0 r v1 g/\(hasRdr con.aks=true->RdStep w0 w' ρ (k+con.cost x)):=by
  intro hv
  obtain ⟨v,h1,r,g,h2,h3,h4,h5,h6⟩:=exit_ok id0 ht hin hrd1 hr hv
  exact ⟨hr.defers,v,h1,v,r,g,rfl,h2,h3,h4,h5,h6⟩
 cases xk with
 | normal=>exact fin hk
 | ret=>exact fin hk
 | exit id=>exact hk.elim
theorem fn_okQ {l:List (FuncId × Con)} {lp:List (FuncId × PT)} (ht:TabOk P E tab) (hmix:P.follows .mixedOrders=true) (hl:AllOk P E l) (hlp:AllPt P E lp) {f:FuncId} {fn:Func} {con:Con} (hf:P.funcs[f]?=some fn)
  (hb : fn.body = some (bodyOf fn)) (hname : (fn.name == "runtime.NumGoroutine") = false) (hn : con.aks.length <= fn.ntmps) (hok : codeOkP tab (lookF l) hp perm fn.ntmps (bodyOf fn) = true) {anns : Args con.aks -> Nat -> Nat -> St -> Option Ann}
  (hvc:∀ x k,con.pre x->(hasRdr con.aks=true->k+con.cost x<=rdLimit)->vcQ tab (lookF l) (lookP lp) hp gcs (anns x k) perm (bodyOf fn) (entry (encs con.aks x) (rdOf (hasRdr con.aks) k)) (retOk tab con fn.results.toList x k))
  (htot:∀ x,con.pre x->∃ r,con.post x r):FnOk P E f con :=
 ⟨⟨fn,_,hf,hname,hb⟩,fnQ_sound ht (kall_of hl) (pall_of hlp) hmix (fun _ _ _=>draw_sound ht (tab_small ht) (kall_of hl) hmix _ _ _) hf hb hn hok hvc,htot⟩
end
end Go.SE

namespace Go.SE
variable [Base]
open Go.RowKit
section
variable {P:Program} {E:Ty->TypeId} {tab:TypeId->Option TI} {w0:World} {M:MM} {n:Nat} {o:Oper} {st:St} {a:Act} {w:World}
def noREB (e:Nat->S):List Nat->Bool
 | []=>true
 | x :: l=>noRS (e x) && noREB e l
def noRMB (m:Nat->Option Res):List Nat->Bool
 | []=>true
 | x :: l=>(match m x with
   | some r=>noRR r
   | none=>true) && noRMB m l
theorem noREB_ok {e:Nat->S}:∀ {l:List Nat},noREB e l=true->∀ x ∈ l,noRS (e x)=true:=by
 intro l
 induction l with
 | nil=>intro _ x h;cases h
 | cons y l ih=>intro h x hx;simp only [noREB,Bool.and_eq_true] at h;rcases List.mem_cons.1 hx with rfl | hx;exact h.1;exact ih h.2 x hx
theorem noRMB_ok {m:Nat->Option Res}:∀ {l:List Nat},noRMB m l=true->∀ x ∈ l,∀ r,m x=some r->noRR r=true:=by
 intro l
 induction l with
 | nil=>intro _ x h;cases h
 | cons y l ih =>
  intro h x hx r hr
  simp only [noRMB,Bool.and_eq_true] at h
  rcases List.mem_cons.1 hx with rfl | hx
  ·have h1:=h.1;rw [hr] at h1;exact h1
  ·exact ih h.2 x hx r hr
theorem noR_gc {live ids:List Nat} (h1:noREB st.env live=true) (h2:noRMB st.mem ids=true):NoR (gcSt (fun _=>none) live ids st):=by
 constructor
 ·intro x
  rcases tabE_cases st.env live x with ⟨hx,e⟩ | e
  ·have e':(gcSt (fun _=>none) live ids st).env x=st.env x:=e
   rw [e'];exact noREB_ok h1 x hx
  ·have e':(gcSt (fun _=>none) live ids st).env x=SE.junk:=e
   rw [e'];rfl
 ·intro j r hj
  have hj':tabM (fun _=>none) st.mem ids j=some r:=hj
  rw [tabM_get] at hj'
  split at hj'
  ·rename_i e
   simp at e
   exact noRMB_ok h2 j (inL_mem.1 e) r hj'
  ·cases hj'
def openKQ (tab:TypeId->Option TI) (K:FuncId->Option Con) (pts:FuncId->Option PT) (hp:Nat->Bool) (anns:Nat->St->Option Ann) (perm:Nat->List (List Nat)) (gl:List Nat × List Nat) (n:Nat) (rest:Code) (Q:XK->St->Prop) (st1:St):Option (Nat × Nat × Nat)->Prop
 | some d=>openN d n/\st1.rd=none/\gcB gl.1 gl.2 st1=true/\(noREB st1.env gl.1 && noRMB st1.mem gl.2)=true/\openA ((gcSt (fun _=>none) gl.1 gl.2 st1).env 0)/\vcQ tab K pts hp (fun _=>none) anns perm rest (openSt d (gcSt (fun _=>none) gl.1 gl.2 st1)) Q
 | none=>False
def vcOpenQ (tab:TypeId->Option TI) (K:FuncId->Option Con) (pts:FuncId->Option PT) (hp:Nat->Bool) (anns:Nat->St->Option Ann) (perm:Nat->List (List Nat)) (gl:List Nat × List Nat) (fo n:Nat):Code->St->(XK->St->Prop)->Prop
 | .seq c0 (.seq (.region _ ops false) rest),st,Q=>vcQ tab K pts hp (fun _=>none) anns perm c0 st (seqK (fun st1=>openKQ tab K pts hp anns perm gl n rest Q st1 (opensB fo ops.toList)) Q)
 | _,_,_=>False
theorem draw_fnQ {K:FuncId->Option Con} {pts:FuncId->Option PT} {hp:Nat->Bool} {gl:List Nat × List Nat} (ht:TabOk P E tab) (hmix:P.follows .mixedOrders=true) (hKA:KAll P E K) (hPA:PAll P E pts) {perm:Nat->List (List Nat)} {fo:FuncId} (hopen:OpenOk P fo)
  (hfo : ∃ fn c, P.funcs[fo]? = some fn /\ (fn.name == "runtime.NumGoroutine") = false /\ fn.body = some c) {f : FuncId} {fn : Func} {con : Con} (hf : P.funcs[f]? = some fn) (hb : fn.body = some (bodyOf fn))
  (hname : (fn.name == "runtime.NumGoroutine") = false) (hn : con.aks.length <= fn.ntmps) (hok : codeOkP tab K hp perm fn.ntmps (bodyOf fn) = true) (hrd : hasRdr con.aks = false) (hrk : noRk con.rks = true) {anns : Args con.aks -> Nat -> St -> Option Ann}
  (hvc:∀ x,con.pre x->vcOpenQ tab K pts hp (anns x) perm gl fo fn.ntmps (bodyOf fn) (entry (encs con.aks x) none) (retOk tab con fn.results.toList x 0)) (htot:∀ x,con.pre x->∃ r,con.post x r):FnOk P E f con:=by
 refine ⟨⟨fn,_,hf,hname,hb⟩,?_,htot⟩
 intro w0 ro0 ρ k x vs id0 hpre hin _ hargs
 have hlen:vs.length=con.aks.length:=by
  rw [hargs.1]
  have:∀ (ks:List AK) (x:Args ks),(encs ks x).length=ks.length:=by
   intro ks
   induction ks with
   | nil=>intro x;rfl
   | cons k ks ih=>intro x;obtain ⟨x,xs⟩:=x;simp [encs,ih]
  exact this _ _
 refine calls_of_wp hf hb ?_
 -- the end
 have fin:∀ (ρ':Nat) (st':St) (a':Act) (w':World),Rel E w0 (MOf false ρ' ro0) fn.ntmps st' a' w'->retOk tab con fn.results.toList x 0 .ret st' ->
   a'.defers=[]/\∃ v,(results fn a'.tmps).run P w'=.ok v w'/\∃ v1 r g,Ending.returned v=.returned v1/\con.post x r/\Ext (fun b=>hasRdr con.aks=true/\b=ρ) w0 w'/\g.ρ=ρ/\ResOk E w0 w' ro0 con.rks id0 r v1 g/\(hasRdr con.aks=true->RdStep w0 w' ρ (k+con.cost x)):=by
  intro ρ' st' a' w' hr hv
  have hr':Rel E w0 (MOf (hasRdr con.aks) ρ' ro0) fn.ntmps st' a' w':=by rw [hrd];exact hr
  obtain ⟨v,h1,r,g,h2,h3,h4,h5,h6⟩:=exit_ok (k:=0) id0 ht hin (fun h=>by rw [hrd] at h;cases h) hr' hv
  refine ⟨hr.defers,v,h1,v,r,{ g with ρ:=ρ },rfl,h2,⟨h3.os,h3.tape,h3.output,h3.size,fun c hc _=>h3.block c hc fun ⟨h,_⟩=>by rw [hrd] at h;cases h⟩,rfl,⟨h5.ro,h5.ro',?_,?_,h5.new,h5.dist⟩,fun h=>by rw [hrd] at h;cases h⟩
  ·exact S.R.rho (pack1_noR (ress_noR _ _ _ hrk)) h5.val
  ·intro id q hq
   have:=h5.res id q hq
   obtain ⟨_,_,f',t,xs,e⟩:=ress_range _ _ _ _ _ hq
   subst e
   exact this
 have hv0:=hvc x hpre
 revert hok hv0
 generalize bodyOf fn=body
 intro hok hv0
 unfold vcOpenQ at hv0
 split at hv0
 ·rename_i c0 rid ops rest
  simp only [codeOkP,Bool.and_eq_true] at hok
  have hrel:Rel E w0 (MOf false ρ ro0) fn.ntmps (entry (encs con.aks x) (rdOf false 0)) { tmps:=vs.toArray ++ Array.replicate (fn.ntmps - vs.toArray.size) undef,defers:=[] } w0:=entry_rel hin (fun h=>by cases h) hargs (by omega)
  refine wp_seq (codeQ_sound ht hKA hPA hmix (draw_sound ht (tab_small ht) hKA hmix _ _ _) OOk.none c0 _ _ _ _ _ hok.1 hrel hv0 ?_)
  intro xk st1 a1 w1 hr1 hk1
  cases xk with
  | exit id=>exact hk1.elim
  | ret=>exact fin ρ st1 a1 w1 hr1 hk1
  | normal =>
   have hk1:openKQ tab K pts hp (anns x) perm gl fn.ntmps rest (retOk tab con fn.results.toList x 0) st1 (opensB fo ops.toList):=hk1
   unfold openKQ at hk1
   split at hk1
   ·rename_i d hd
    obtain ⟨⟨hd1,hd2,hd3,hd0⟩,hrd1,hgc,hnr,hA,hvr⟩:=hk1
    simp only [Bool.and_eq_true] at hnr
    have hno:=noR_gc hnr.1 hnr.2
    unfold gcB at hgc
    simp only [Bool.and_eq_true] at hgc
    replace hr1:=hr1.gc (OOk.none (ρ:=ρ) (ro0:=ro0)) (live:=gl.1) (ids:=gl.2) ⟨closedEB_ok hgc.1,closedMB_ok hgc.2,fun j hj=>(by cases hj)⟩
    replace hrd1:(gcSt (fun _=>none) gl.1 gl.2 st1).rd=none:=hrd1
    generalize gcSt (fun _=>none) gl.1 gl.2 st1=st1 at hr1 hrd1 hno hA hvr
    obtain ⟨o1,o2,o3,args,tys,hl,e1,e2,e3,e4,e5,e6,e7,e8,e9,e10⟩:=opensB_some hd
    refine wp_seq (wp_region_list ?_)
    rw [hl]
    -- the text
    simp only [wpList]
    rw [if_pos (by simp [Region.wanted,e3])]
    refine .inl ?_
    unfold Oper.wp
    rw [show (execOp a1.eval o1).run P w1=.ok (.value (a1.eval (.tmp 0))) w1 by simp [execOp,e2],Oper.upon_value,e1]
    have hS:∃ code,st1.env 0=.s (.c (.d (.arr .u8 code))):=by
     unfold openA at hA
     split at hA
     ·rename_i c hc;exact ⟨c,hc⟩
     ·exact hA.elim
    obtain ⟨code,henv0⟩:=hS
    have hev:a1.eval (.tmp 0)=a1.tmps.getD 0 undef:=rfl
    have hr2:=hr1.put1 hd1 (s:=st1.env 0) (v:=a1.eval (.tmp 0)) (fun g _ henv=>henv 0) (fun id hid=>hr1.cl.1 0 id hid)
    have hno2:NoR { st1 with env:=upd st1.env d.1 (st1.env 0) }:=⟨fun y=>by
     show noRS (upd st1.env d.1 (st1.env 0) y)=true
     by_cases e:y=d.1
     ·subst e;rw [upd_same];exact hno.1 0
     ·rw [upd_ne _ _ e];exact hno.1 y,hno.2⟩
    generalize ha2:a1.put (some d.1) (a1.eval (.tmp 0))=a2 at hr2 ⊢
    -- the call
    rw [if_pos (by simp [Region.wanted,e7])]
    refine .inl ?_
    obtain ⟨fn',c',hf',hname',hbody'⟩:=hfo
    rw [run_call hf' hname' hbody' e5,Oper.upon_enter]
    obtain ⟨g,hg,henv⟩:=hr2.good
    have hargv:args.map a2.eval=#[a2.tmps.getD d.1 undef]:=by
     apply Array.ext'
     rw [Array.toList_map,e6]
     rfl
    rw [hargv]
    have hdr:DR g.ro (.arr .u8 code) (a2.tmps.getD d.1 undef):=by
     have h1:=henv d.1
     have h2:({ st1 with env:=upd st1.env d.1 (st1.env 0) }:St).env d.1=.s (.c (.d (.arr .u8 code))):=by
      show upd st1.env d.1 (st1.env 0) d.1=_
      rw [upd_same];exact henv0
     rw [h2] at h1
     exact h1
    refine Calls.mono (hopen w1 g.ro code _ hg.roin hdr) fun e w2 he=>?_
    obtain ⟨b,ro',rfl,q1,q2,q3,q4,q5⟩:=he
    have hr3:=rel_open hr2 hg henv hrd1 hno2 q1 q2 q3 q4 q5
    rw [e4]
    show (if Region.wanted o3 _ then _ else _)
    rw [if_pos (by simp [Region.wanted,e10])]
    refine .inl ?_
    have hr4:=hr3.put1 hd2 (s:=.s (.c .rdr)) (v:=.pointer (some ⟨b,0,none⟩)) (fun g' hg' _=>by
     show _=_
     rw [hg'.rho.1];rfl) (fun id hid=>by simp [S.refs,S0.refs,CV.refs] at hid)
    generalize ha3:a2.put (some d.2.1) (.pointer (some ⟨b,0,none⟩))=a3 at hr4 ⊢
    have hev3:a3.eval (.tmp d.2.1)=.pointer (some ⟨b,0,none⟩):=by
     show a3.tmps.getD d.2.1 undef=_
     rw [← ha3,get_put (by rw [hr2.size];exact hd2),if_pos rfl]
    rw [show (execOp a3.eval o3).run P w2=.ok (.value (a3.eval (.tmp d.2.1))) w2 by simp [execOp,e9],Oper.upon_value,e8,hev3]
    have hr5:=hr4.put1 hd3 (s:=.s (.c .rdr)) (v:=.pointer (some ⟨b,0,none⟩)) (fun g' hg' _=>by
     show _=_
     rw [hg'.rho.1];rfl) (fun id hid=>by simp [S.refs,S0.refs,CV.refs] at hid)
    refine codeQ_sound ht hKA hPA hmix (draw_sound ht (tab_small ht) hKA hmix _ _ _) OOk.none rest _ _ _ (retOk tab con fn.results.toList x 0) _ hok.2.2 hr5 hvr ?_
    intro xk st' a' w' hr hk
    cases xk with
    | normal=>exact fin b st' a' w' hr hk
    | ret=>exact fin b st' a' w' hr hk
    | exit id=>exact hk.elim
   ·exact hk1.elim
 ·exact hv0.elim
end
end Go.SE

namespace Go.SE
variable [Base]
open Go.RowKit
section
variable {P:Program} {E:Ty->TypeId} {tab:TypeId->Option TI} {K:FuncId->Option Con} {pts:FuncId->Option PT} {hp:Nat->Bool} {anns:Nat->St->Option Ann} {perm:Nat->List (List Nat)} {w0:World} {M:MM} {n:Nat} {st:St} {a:Act} {w:World}
theorem Good.write' {g:G} (hg:Good E w0 M g st w) {id b:Nat} {r r':Res} {m':Nat->Option Res} {w':World}
  (hm:st.mem id=some r) (hl:r.live) (hb:blkOf (g.κ id)=some b ∨ (blkOf (g.κ id)=none/\b=w.heap.size))
  (hm':∀ j s,m' j=some s->(j=id/\s=r') ∨ (j ≠ id/\(st.mem j=some s ∨ s=.dead)))
  (hother:∀ j s,j ≠ id->m' j=some s->s.live->blkOf (g.κ j) ≠ some b) (hro:g.ro b=none)
  (hos:w'.os=w.os) (htape:w'.tape=w.tape) (hout:w'.output=w.output) (hsize:w.heap.size<=w'.heap.size) (hw:∀ b',b' < w.heap.size->b' ≠ b->w'.heap[b']?=w.heap[b']?)
  (hres:ResR E w' g id r') (hdom:∀ j,(st.mem j).isSome=true->(m' j).isSome=true):Good E w0 M g { st with mem:=m' } w':=by
 have hlive:∀ j s,j ≠ id->m' j=some s->s.live->st.mem j=some s:=by
  intro j s hj hs hl
  rcases hm' j s hs with ⟨e,_⟩ | ⟨_,h | h⟩
  ·exact (hj e).elim
  ·exact h
  ·subst h;exact hl.elim
 have hb1:∀ b',blkOf (g.κ id)=some b'->b'=b:=by
  intro b' hb'
  rcases hb with hb | ⟨hb,_⟩
  ·rw [hb] at hb';injection hb' with hb';exact hb'.symm
  ·rw [hb] at hb';cases hb'
 have hfr:w0.heap.size<=b ∨ M b:=by
  rcases hb with hb | ⟨_,rfl⟩
  ·exact hg.fresh id r hm hl b hb
  ·exact .inl hg.ext.size
 refine ⟨⟨hos.trans hg.ext.os,htape.trans hg.ext.tape,hout.trans hg.ext.output,Nat.le_trans hg.ext.size hsize,fun b' hb' hM=>?_⟩,?_,?_,?_,?_,?_,?_,?_,hg.roo,hg.rho,fun i v hv=>⟨hdom i (hg.pin i v hv).1,(hg.pin i v hv).2⟩,⟨fun i m hv=>⟨hdom i (hg.keep.1 i m hv).1,(hg.keep.1 i m hv).2⟩,hg.keep.2⟩⟩
 ·rw [hw b' (Nat.lt_of_lt_of_le hb' hg.ext.size) fun e=>?_]
  ·exact hg.ext.block b' hb' hM
  ·subst e
   rcases hfr with h | h
   ·omega
   ·exact hM h
 ·intro b' vs hv
  obtain ⟨ty,fz,hh,hq_⟩:=hg.ro b' vs hv
  refine ⟨ty,fz,?_,hq_⟩
  rw [hw b' (lt_of_some hh) fun e=>by subst e;rw [hro] at hv;cases hv]
  exact hh
 ·intro j s hs
  by_cases e:j=id
  ·subst e
   rcases hm' j s hs with ⟨_,e⟩ | ⟨h,_⟩
   ·subst e;exact hres
   ·exact (h rfl).elim
  ·by_cases hsl:s.live
   ·have hj:=hlive j s e hs hsl
    exact (hg.res j s hj).keep (fun b' hb'=>hw b' ((hg.res j s hj).lt hsl hb') fun e'=>by subst e';exact hother j s e hs hsl hb') (fun _ _ h=>h) rfl ⟨rfl,rfl⟩ fun _ _=>⟨rfl,rfl⟩
   ·cases s with
    | dead=>trivial
    | _=>exact (hsl trivial).elim
 ·intro i j ri rj hi hj hij hli hlj b' hbi hbj
  by_cases ei:i=id
  ·subst ei
   have:=hb1 b' hbi
   subst this
   exact (hother j rj (Ne.symm hij) hj hlj hbj).elim
  ·by_cases ej:j=id
   ·subst ej
    have:=hb1 b' hbj
    subst this
    exact (hother i ri ei hi hli hbi).elim
   ·exact hg.sep i j ri rj (hlive i ri ei hi hli) (hlive j rj ej hj hlj) hij hli hlj b' hbi hbj
 ·intro j s hs hsl b' hb'
  by_cases e:j=id
  ·subst e
   have:=hb1 b' hb'
   subst this
   exact hfr
  ·exact hg.fresh j s (hlive j s e hs hsl) hsl b' hb'
 ·intro j s hs hsl b' hb' h1 h2
  by_cases e:j=id
  ·subst e
   have:=hb1 b' hb'
   subst this
   exact hro
  ·exact hg.wro j s (hlive j s e hs hsl) hsl b' hb' h1 h2
 ·intro m hmr
  obtain ⟨⟨hlim,hout,code,v,p,ty,hc,hd,hrest⟩,hin,hno⟩:=hg.rd m hmr
  have hne:g.ρ ≠ b:=by
   intro e
   rcases hb with hb | ⟨_,hb⟩
   ·exact hno id r hm hl (by rw [hb,e])
   ·have:=lt_of_some hc
    omega
  refine ⟨⟨hlim,hout,code,v,p,ty,by rw [hw _ (lt_of_some hc) hne];exact hc,hd,hrest⟩,hin,?_⟩
  intro j s hs hsl
  by_cases e:j=id
  ·subst e;exact hno j r hm hl
  ·exact hno j s (hlive j s e hs hsl) hsl
 ·intro hn
  refine (hg.rds hn).next fun hlt=>hw _ hlt fun e=>?_
  cases hr:st.rd with
  | none=>exact hn hr
  | some m =>
   rcases hb with hb | ⟨_,hb⟩
   ·exact (hg.rd m hr).2.2 id r hm hl (by rw [hb,e])
   ·omega
def dom (x:List Nat):Nat->Option Res:=fun j=>match inL x j with
 | true=>some .dead
 | false=>none
end
end Go.SE

namespace Go.SE
open Go.RowKit Go.Shelf Go.Proofs
section
variable {P:Program} {ρ:Ren}
theorem wpList_append_known {ops:Array Oper} {rest:List Oper} {o:Oper} {a:Act} {w:World} {Q:Exit->Act->World->Prop} (hgd:o.guard=none) (sl x:Operand) (t u:TypeId)
  (ho:o.op=.call { callee:=.builtin .append,args:=#[sl,x],argTypes:=#[t,u] }) {v s:Value} (hs:a.eval sl=v) (hx:a.eval x=s) {v':Value} {w':World}
  (hr:(Builtin.append_ #[t,u] o.type #[v,s]).run P w=.ok v' w') (h:wpList P ops Q rest (a.put o.dst v') w'):wpList P ops Q (o :: rest) a w:=by
 refine wpList_plain hgd fun K hK=>?_
 unfold Oper.wp execOp
 simp only [ho,resolve,invoke,builtin,Sem.run_bind,Sem.run_pure,Result.andThen_ok,List.map_toArray,List.map_cons,List.map_nil,hs,hx,hr]
 exact hK _ _ h
def marked (w:World) (b:Nat) (p:Value):World :=
 match p with
 | .pointer none=>w.setCell ⟨b,0,none⟩ (.pointer (some ⟨b,0,none⟩))
 | _=>w
theorem copyCheck_known (L:Lays.n240 P ρ) (X:Builder.X72 P ρ) (b:Nat) (p v:Value) (w:World) (hbk:w.heap[b]?=some (.cells #[p,v] (ρ.t 72) (0,0))) (hp:p=.pointer none ∨ p=.pointer (some ⟨b,0,none⟩)) :
  Calls P (ρ.f 240) #[.pointer (some ⟨b,0,none⟩)] w fun e w'=>e=.returned (.tuple #[])/\w'=marked w b p:=by
 rcases hp with rfl | rfl
 ·exact Any.Builder_copyCheck_fresh L X b w (by simp [World.cell?,hbk]) (by simp [World.shape?,hbk]) (by simp [World.frozen?,hbk])
 ·exact Any.Builder_copyCheck_used L X b w (by simp [World.cell?,hbk])
theorem marked_heap {b:Nat} {p v:Value} {w:World} {T:TypeId} (hbk:w.heap[b]?=some (.cells #[p,v] T (0,0))) (hp:p=.pointer none ∨ p=.pointer (some ⟨b,0,none⟩)) :
  (marked w b p).heap[b]?=some (.cells #[.pointer (some ⟨b,0,none⟩),v] T (0,0))/\(∀ i,i ≠ b->(marked w b p).heap[i]?=w.heap[i]?)/\(marked w b p).heap.size=w.heap.size/\(marked w b p).os=w.os/\(marked w b p).tape=w.tape/\(marked w b p).output=w.output:=by
 rcases hp with rfl | rfl
 ·refine ⟨?_,fun i hi=>Below.heap_setCell _ _ _ _ (fun e=>hi e),by simp [marked,World.setCell],rfl,rfl,rfl⟩
  simp [marked,World.setCell,Array.getElem?_modify,hbk]
 ·exact ⟨hbk,fun _ _=>rfl,rfl,rfl,rfl,rfl⟩
set_option maxHeartbeats 2000000 in
set_option maxRecDepth 100000 in
/-- WriteString: the append is told by the caller. -/
theorem write_known (L:Lays.n166 P ρ) (X:Builder.Extra P ρ) (b:Nat) (p v:Value) (s:ByteArray) (w:World) (hbk:w.heap[b]?=some (.cells #[p,v] (ρ.t 72) (0,0))) (hp:p=.pointer none ∨ p=.pointer (some ⟨b,0,none⟩))
  {v':Value} {w2:World} (hr:∀ rty,(Builtin.append_ #[ρ.t 37,ρ.t 9] rty #[v,.string s]).run P (marked w b p)=.ok v' w2) (hv':∃ ao n cap,v'=.slice ao n cap)
  (hb2:w2.heap[b]?=some (.cells #[.pointer (some ⟨b,0,none⟩),v] (ρ.t 72) (0,0))) :
  Calls P (ρ.f 166) #[.pointer (some ⟨b,0,none⟩),.string s] w fun e w'=>e=.returned (.tuple #[.int .i64 s.size,.nilIface])/\w'=w2.setCell ⟨b,1,none⟩ v':=by
 have mixed:=L.mixed
 have t72:=L.t72;have a72:=L.a72;have z72:=L.z72;have v72:=L.v72;have u72:=run_underlying L.t72
 have t70:=L.t70;have a70:=L.a70;have z70:=L.z70;have v70:=L.v70;have u70:=run_underlying L.t70
 have t37:=L.t37;have a37:=L.a37;have z37:=L.z37;have v37:=L.v37;have u37:=run_underlying L.t37
 have t3:=L.t3;have a3:=L.a3;have z3:=L.z3;have v3:=L.v3;have u3:=run_underlying L.t3
 have t9:=L.t9;have a9:=L.a9;have z9:=L.z9;have v9:=L.v9;have u9:=run_underlying L.t9
 have t4:=L.t4;have a4:=L.a4;have z4:=L.z4;have v4:=L.v4;have u4:=run_underlying L.t4
 have t164:=L.t164;have a164:=L.a164;have z164:=L.z164;have v164:=L.v164;have u164:=run_underlying L.t164
 have t5:=X.t5;have a5:=X.a5;have z5:=X.z5;have v5:=X.v5;have u5:=run_underlying X.t5
 have e240:∀ args w,(callFunc (ρ.f 240) args).run P w=.ok (.enter (ρ.f 240) args) w:=enters_of L.f240 (by kernel_rfl) rfl
 obtain ⟨hm1,_⟩:=marked_heap hbk hp
 obtain ⟨ao,n',cap,rfl⟩:=hv'
 go_enter L.f166,Body.n166_ntmps ρ
 go_wp2_with (go_at_fn (ρ.f 240);refine (copyCheck_known { L with } X.toX72 b p v _ hbk hp).mono ?_)
 rintro e w1 ⟨rfl,hw1⟩
 rw [← hw1] at hm1 hr
 clear hw1
 have c0:w1.cell? ⟨b,0,none⟩=some (.pointer (some ⟨b,0,none⟩)):=by rw [Lib.cell_of_heap hm1];rfl
 have c1:w1.cell? ⟨b,1,none⟩=some v:=by rw [Lib.cell_of_heap hm1];rfl
 have d0:w2.cell? ⟨b,0,none⟩=some (.pointer (some ⟨b,0,none⟩)):=by rw [Lib.cell_of_heap hb2];rfl
 have d1:w2.cell? ⟨b,1,none⟩=some v:=by rw [Lib.cell_of_heap hb2];rfl
 have f1:w2.frozen? ⟨b,1,none⟩=false:=Lib.frozen_of_heap hb2 1
 go_wp2_with (at_builtin;refine wpList_append_known rfl _ _ (ρ.t 37) (ρ.t 9) rfl rfl rfl (hr _) ?_)
 go_ret2
 exact ⟨rfl,rfl⟩
structure Stays (g:Option Nat) (w w':World):Prop where
 os:w'.os=w.os
 tape:w'.tape=w.tape
 output:w'.output=w.output
 size:w.heap.size<=w'.heap.size
 block:∀ i,i < w.heap.size->g ≠ some i->w'.heap[i]?=w.heap[i]?
theorem Stays.refl (g:Option Nat) (w:World):Stays g w w:=⟨rfl,rfl,rfl,Nat.le_refl _,fun _ _ _=>rfl⟩
theorem Stays.drew (g:Option Nat) (w:World):Stays g w w.drew:=⟨rfl,rfl,rfl,Nat.le_refl _,fun _ _ _=>rfl⟩
theorem Stays.freeze {w:World} {g:Nat} {cs:Array Value} {T:TypeId} (h:w.heap[g]?=some (.cells cs T (0,0))) (n:Nat):Stays (some g) w (w.drew.freeze ⟨g,0,none⟩ n):=by
 unfold World.freeze
 split
 ·exact Stays.drew _ w
 ·refine ⟨rfl,rfl,rfl,by simp,fun i hi hne=>?_⟩
  simp only [Array.getElem?_modify]
  rw [if_neg (fun e=>hne (by rw [e]))]
  rfl
set_option maxHeartbeats 2000000 in
set_option maxRecDepth 100000 in
/-- String: what unsafe's two functions do is told by the caller. -/
theorem string_known (L:Lays.n169 P ρ) (X:Builder.Extra P ρ) (b:Nat) (p:Value) (ao:Option Addr) (n cap:Nat) (w:World) (hbk:w.heap[b]?=some (.cells #[p,.slice ao n cap] (ρ.t 72) (0,0))) {q:Option Addr} {w1 w2:World} {r:ByteArray}
  (hSD:(Builtin.unsafeSliceData_ #[(ρ.t 37)] (ρ.t 127) #[.slice ao n cap]).run P w.drew=.ok (.pointer q) w1) (hb1:w1.heap[b]?=w.heap[b]?)
  (hUS:(Builtin.unsafeString_ #[(ρ.t 127),(ρ.t 3)] (ρ.t 9) #[.pointer q,.int .i64 n]).run P w1=.ok (.string r) w2) :
  Calls P (ρ.f 169) #[.pointer (some ⟨b,0,none⟩)] w fun e w'=>e=.returned (.string r)/\w'=w2:=by
 have c0:w.cell? ⟨b,1,none⟩=some (.slice ao n cap):=by rw [Lib.cell_of_heap hbk];rfl
 have c1:w.drew.cell? ⟨b,1,none⟩=some (.slice ao n cap):=c0
 have c2:w1.cell? ⟨b,1,none⟩=some (.slice ao n cap):=by rw [Lib.cell_of_heap (hb1.trans hbk)];rfl
 clear hb1
 have mixed:=L.mixed
 have t72:=L.t72;have a72:=L.a72;have z72:=L.z72;have v72:=L.v72;have u72:=run_underlying L.t72
 have t70:=L.t70;have a70:=L.a70;have z70:=L.z70;have v70:=L.v70;have u70:=run_underlying L.t70
 have t37:=L.t37;have a37:=L.a37;have z37:=L.z37;have v37:=L.v37;have u37:=run_underlying L.t37
 have t127:=L.t127;have a127:=L.a127;have z127:=L.z127;have v127:=L.v127;have u127:=run_underlying L.t127
 have t3:=L.t3;have a3:=L.a3;have z3:=L.z3;have v3:=L.v3;have u3:=run_underlying L.t3
 have t9:=L.t9;have a9:=L.a9;have z9:=L.z9;have v9:=L.v9;have u9:=run_underlying L.t9
 have t5:=X.t5;have a5:=X.a5;have z5:=X.z5;have v5:=X.v5;have u5:=run_underlying X.t5
 go_enter L.f169,Body.n169_ntmps ρ
 go_wp2
 go_region_o
 all_goals (go_wp2;go_ret;exact ⟨rfl,rfl⟩)
theorem string_stays (L:Lays.n169 P ρ) (X:Builder.Extra P ρ) (b:Nat) (p v:Value) (l:List UInt8) (w:World) (hbk:w.heap[b]?=some (.cells #[p,v] (ρ.t 72) (0,0)))
  (hv:(v=.slice none 0 0/\l=[]) ∨ ∃ g cap cur,v=.slice (some ⟨g,0,none⟩) l.length cap/\w.heap[g]?=some (.cells cur (ρ.t 5) (0,0))/\l.length<=cap/\cap<=maxLen/\cur.size=cap/\∀ (j:Nat) (x:UInt8),l[j]?=some x->cur[j]?=some (Value.int IntKind.u8 (x.toNat:Int))) :
  Calls P (ρ.f 169) #[.pointer (some ⟨b,0,none⟩)] w fun e w'=>e=.returned (.string ⟨l.toArray⟩)/\Stays (blkOf v) w w':=by
 have hlt:b < w.heap.size:=by
  rcases Nat.lt_or_ge b w.heap.size with h' | h'
  ·exact h'
  ·simp [Array.getElem?_eq_none h'] at hbk
 rcases hv with ⟨rfl,rfl⟩ | ⟨g,cap,cur,rfl,hg,hle,hcm,hcs,hx⟩
 ·refine (string_known L X b p none 0 0 w hbk (q:=none) (w1:=w.drew) rfl rfl (Any.unsafeString_none L X w.drew none)).mono ?_
  rintro e w' ⟨rfl,rfl⟩
  exact ⟨rfl,Stays.drew _ w⟩
 ·by_cases hc0:cap=0
  ·subst hc0
   have hl0:l=[]:=List.eq_nil_of_length_eq_zero (by omega)
   subst hl0
   have hSD:(Builtin.unsafeSliceData_ #[(ρ.t 37)] (ρ.t 127) #[.slice (some ⟨g,0,none⟩) 0 0]).run P w.drew=.ok (.pointer (some ⟨w.drew.heap.size,0,none⟩)) (w.drew.alloc (.view ⟨g,0,none⟩ (ρ.t 5))) :=
    Lib.run_unsafeSliceData_zero w.drew _ _ (ρ.t 5) L.t127 ⟨g,0,none⟩ 0 ((ρ.t 5),cur.size) (by have hg':w.drew.heap[g]?=some (.cells cur (ρ.t 5) (0,0)):=hg;simp [World.shape?,hg'])
   refine (string_known L X b p _ 0 0 w hbk hSD ((Lib.alloc_old w.drew _ b hlt).trans rfl) (Any.unsafeString_none L X _ _)).mono ?_
   rintro e w' ⟨rfl,rfl⟩
   exact ⟨rfl,rfl,rfl,rfl,by simp,fun i hi _=>(Lib.alloc_old w.drew _ i hi).trans rfl⟩
  ·have hSD:(Builtin.unsafeSliceData_ #[(ρ.t 37)] (ρ.t 127) #[.slice (some ⟨g,0,none⟩) l.length cap]).run P w.drew=.ok (.pointer (some ⟨g,0,none⟩)) w.drew :=
    Lib.run_unsafeSliceData_row _ _ _ _ _ _ hc0
   by_cases hl0:l=[]
   ·subst hl0
    refine (string_known L X b p _ _ cap w hbk hSD rfl (Any.unsafeString_none L X _ _)).mono ?_
    rintro e w' ⟨rfl,rfl⟩
    exact ⟨rfl,Stays.drew _ w⟩
   ·have hUS:(Builtin.unsafeString_ #[(ρ.t 127),(ρ.t 3)] (ρ.t 9) #[.pointer (some ⟨g,0,none⟩),.int .i64 l.length]).run P w.drew=.ok (.string ⟨l.toArray⟩) (w.drew.freeze ⟨g,0,none⟩ l.length):=by
     refine Lib.run_unsafeString_row w.drew (ρ.t 127) (ρ.t 3) (ρ.t 9) (ρ.t 5) L.t127 X.cellsByte g cur.size (by have hg':w.drew.heap[g]?=some (.cells cur (ρ.t 5) (0,0)):=hg;simp [World.shape?,hg']) l hl0 (by omega) (by unfold maxLen at hcm;omega) ?_
     intro j x hj
     have hg':w.drew.heap[g]?=some (.cells cur (ρ.t 5) (0,0)):=hg
     rw [Addr.add_lit,Nat.zero_add,Lib.cell_of_heap hg']
     exact hx j x hj
    refine (string_known L X b p _ _ cap w hbk hSD rfl hUS).mono ?_
    rintro e w' ⟨rfl,rfl⟩
    exact ⟨rfl,Stays.freeze hg _⟩
end
end Go.SE

namespace Go.SE
open Go.RowKit Go.Shelf Go.Proofs
def ptBW (T0:TypeId):PT:=fun args base st k =>
 match args with
 | [.c (.ptr id 0),.c (.d (.val (.string s)))]=>match st.mem id with
  | some (.bld T j)=>match st.mem j with
   | some (.sl fam .u8 xs)=>(T=T0/\st.mem base=none/\(st.sp id=false/\st.fr id=false)/\(st.sp j=false/\st.fr j=false)/\List.length (α:=UInt8) xs+s.size<=4294967296) /\
    k (.tup [.c (.d (.val (.int .i64 s.size))),.c .junk]) { st with mem:=upd (upd st.mem base (some (.sl fam .u8 (xs ++ s.data.toList)))) id (some (.bld T base)),sp:=upd st.sp j true }
   | _=>False
  | _=>False
 | _=>False
def ptBS (T0:TypeId):PT:=fun args _ st k =>
 match args with
 | [.c (.ptr id 0)]=>match st.mem id with
  | some (.bld T j)=>match st.mem j with
   | some (.sl fam .u8 xs)=>(T=T0/\st.sp j=false/\st.fr j=false)/\k (sv (.string ⟨List.toArray (α:=UInt8) xs⟩)) { st with mem:=upd (kill fam j st.mem) j (some .dead) }
   | _=>False
  | _=>False
 | _=>False
variable [Base]
section
variable {P:Program} {ρ:Ren} {E:Ty->TypeId} {w0:World} {M:MM} {st:St} {w:World} {g:G}
structure AppS (P:Program) (E:Ty->TypeId) (w:World) (g:G) (id:Nat) (xs ys:List UInt8) (ty u:TypeId) (s:ByteArray) (v':Value) (w':World):Prop where
 run:∀ rty,(Builtin.append_ #[ty,u] rty #[g.κ id,.string s]).run P w=.ok v' w'
 ext:∀ (w0:World) (M:Nat->Prop),(∀ b,blkOf (g.κ id)=some b->w0.heap.size<=b ∨ M b)->Ext M w0 w->Ext M w0 w'
 other:∀ b,b < w.heap.size->blkOf (g.κ id) ≠ some b->w'.heap[b]?=w.heap[b]?
 row:∀ b cur bt,blkOf (g.κ id)=some b->w.heap[b]?=some (.cells cur bt (0,0))->∃ cur',w'.heap[b]?=some (.cells cur' bt (0,0))/\cur'.size=cur.size/\(∀ k,k < xs.length * 1->cur'[k]?=cur[k]?)
 size:w.heap.size<=w'.heap.size
 one:v'.oneCell'=true
 blk:∀ b,blkOf v'=some b->blkOf (g.κ id)=some b ∨ w.heap.size<=b
 val:(v'=.slice none 0 0/\xs ++ ys=[]) ∨ ∃ b cap cur,v'=.slice (some ⟨b,0,none⟩) (xs ++ ys).length cap/\w'.heap[b]?=some (.cells cur (E .u8) (0,0))/\(xs ++ ys).length<=cap/\CapOk .u8 (xs ++ ys).length cap cur/\cur.size=cap * 1/\RowR g.ro (flat .u8 (xs ++ ys)) cur 0
theorem strCells_get (s:ByteArray) (k:Nat) (c:DC) (h:(flat .u8 s.data.toList)[k]?=some c):∃ u,(Lib.strCells s)[k]?=some u/\DR g.ro c u:=by
 have e:flat .u8 s.data.toList=s.data.toList.map fun b=>DC.val (.int .u8 (b.toNat:Int)):=by
  generalize s.data.toList=l
  induction l with
  | nil=>rfl
  | cons x l ih=>rw [flat_cons,ih];rfl
 rw [e,List.getElem?_map] at h
 unfold Lib.strCells
 rw [List.getElem?_map]
 cases hk:s.data.toList[k]? with
 | none=>rw [hk] at h;cases h
 | some x =>
  rw [hk] at h
  injection h with h
  subst h
  exact ⟨_,rfl,DR.val _ rfl⟩
theorem append_str {id fam:Nat} {xs:List UInt8} (hres:ResR E w g id (.sl fam .u8 xs)) {ty u:TypeId} {ie:TypeInfo} (s:ByteArray) (hu:P.underlying ty=some (.slice (E .u8))) (hus:P.underlying u=some .string)
  (hie:P.info? (E .u8)=some ie) (hsz:ie.size=1) (hby:ie.bytes=1) (hz:ie.zero=some (.int .u8 0)) (hlen:xs.length+s.size<=4294967296) :
  ∃ v' w',AppS P E w g id xs s.data.toList ty u s v' w':=by
 have hnl:(Lib.strCells s).length=s.size:=Lib.strCells_length s
 have hsl:s.data.toList.length=s.size:=by rw [Array.length_toList];rfl
 have grow:∀ (cap:Nat) (olds:List Value),cap < xs.length+s.size->olds.length=xs.length->(∀ (k:Nat) (c:DC),(flat .u8 xs)[k]?=some c->∃ u,olds[k]?=some u/\DR g.ro c u) ->
   (∀ rty,(Builtin.append_ #[ty,u] rty #[g.κ id,.string s]).run P w=.ok (.slice (some ⟨w.heap.size,0,none⟩) (xs.length+s.size) (grownCap w (xs.length+s.size) cap (E .u8)))
    (w.drew.alloc (.cells (olds.toArray ++ (Lib.strCells s).toArray ++ Builtin.zeroCells (Value.int .u8 0).cells (grownCap w (xs.length+s.size) cap (E .u8) - (xs.length+s.size))) (E .u8)))) ->
   ∃ v' w',AppS P E w g id xs s.data.toList ty u s v' w':=by
  intro cap olds hc holdl holds hr
  have hge:=grownCap_ge w (xs.length+s.size) cap (E .u8)
  have hcm:grownCap w (xs.length+s.size) cap (E .u8)<=maxLen:=grownCap_le_maxLen w _ cap (E .u8) (by simp only [maxLen];omega)
  generalize hgc:grownCap w (xs.length+s.size) cap (E .u8)=gc at hr hge hcm
  refine ⟨_,_,hr,?_,?_,?_,by simp,rfl,?_,?_⟩
  ·intro w0 M _ h
   exact h.trans ⟨rfl,rfl,rfl,by simp,fun b hb _=>Lib.alloc_old w.drew _ b hb⟩
  ·intro b hb _
   exact Lib.alloc_old w.drew _ b hb
  ·intro b cur bt hb hbc
   exact ⟨cur,by rw [← hbc];exact Lib.alloc_old w.drew _ b (lt_of_some hbc),rfl,fun _ _=>rfl⟩
  ·intro b hb
   simp [blkOf] at hb
   omega
  ·have hro:RowR g.ro (flat .u8 (xs ++ s.data.toList)) (olds.toArray ++ (Lib.strCells s).toArray ++ Builtin.zeroCells (Value.int .u8 0).cells (gc - (xs.length+s.size))) 0:=by
    rw [flat_append]
    have hfl:(flat .u8 xs).length=olds.length:=by rw [flat_len,holdl];simp [Ty.sz]
    refine RowR.append (RowR.of_vals holds fun j u hj=>?_) (RowR.of_vals (fun k c hk=>strCells_get s k c hk) fun j u hj=>?_)
    ·have hlt:=(List.getElem?_eq_some_iff.1 hj).1
     rw [Array.getElem?_append_left (by simp;omega),Array.getElem?_append_left (by simp;omega)]
     simpa using hj
    ·have hlt:=(List.getElem?_eq_some_iff.1 hj).1
     rw [Array.getElem?_append_left (by simp;omega),Array.getElem?_append_right (by simp;omega)]
     simp only [List.size_toArray,List.getElem?_toArray]
     rw [hfl,show 0+olds.length+j - olds.length=j from by omega]
     exact hj
   refine .inr ⟨w.heap.size,gc,_,by simp [hsl],heap_alloc_new w.drew _,by simpa [hsl] using hge,⟨hcm,fun h=>(by cases h),fun h=>(by cases h)⟩,?_,hro⟩
   have hz1:(Value.int IntKind.u8 0).cells.size=1:=rfl
   simp only [Array.size_append,List.size_toArray,size_zeroCells,hz1,holdl,hnl]
   omega
 rcases hres.2 with ⟨hκ,hx⟩ | ⟨b,cap,cur,hκ,hb,hle,hcap,hcs,hrow⟩
 ·subst hx
  by_cases hm:s.size=0
  ·have hn:s.data.toList=[]:=List.eq_nil_of_length_eq_zero (by rw [hsl,hm])
   refine ⟨.slice none 0 0,w,?_,fun _ _ _ h=>h,fun _ _ _=>rfl,fun b cur bt _ hb=>⟨cur,hb,rfl,fun _ _=>rfl⟩,Nat.le_refl _,rfl,fun b hb=>(by cases hb),.inl ⟨rfl,by simp [hn]⟩⟩
   intro rty
   have hf:=Lib.run_firstCells_string (P:=P) w 1 s
   rw [hm] at hf
   rw [hκ]
   have hn':Lib.strCells s=[]:=List.eq_nil_of_length_eq_zero (by rw [hnl];exact hm)
   simp [Builtin.append_,run_underlying hu,run_underlying hus,sizeOf,typeInfo,hie,hsz,Builtin.lenOf,hm,hf,hn']
  ·refine grow 0 [] (by simp;omega) (by simp) (by simp [flat]) fun rty=>?_
   have hr:=run_append_nil_string (P:=P) w ty u rty (E .u8) ie (.int .u8 0) hu hus hie hz s (by omega) (by omega) (by rw [hby];omega)
   have e1:(s.data.map fun b=>Value.int .u8 b.toNat)=(Lib.strCells s).toArray:=by
    apply Array.ext'
    simp [Lib.strCells]
   rw [e1] at hr
   rw [hκ]
   simpa using hr
 ·obtain ⟨olds,h1,h2,h3,h4⟩:=hrow.vals
  rw [flat_len] at h1
  have hcs':cur.size=cap:=by rw [hcs];exact Nat.mul_one cap
  have h1':olds.length=xs.length:=by rw [h1];exact Nat.mul_one _
  by_cases hroom:xs.length+s.size<=cap
  ·have hr:=fun rty=>Lib.run_append_room_string (P:=P) w ty u rty (E .u8) ie hu hus hie hsz b xs.length cap cur hb s hroom (by omega)
   have hfit:xs.length+(Lib.strCells s).length<=cur.size:=by rw [hnl,hcs'];exact hroom
   have hcur:(cur.toList.take xs.length ++ Lib.strCells s ++ cur.toList.drop (xs.length+s.size)).toArray=over cur xs.length (Lib.strCells s):=by unfold over;rw [hnl]
   rw [hcur] at hr
   have hro:RowR g.ro (flat .u8 (xs ++ s.data.toList)) (over cur xs.length (Lib.strCells s)) 0:=by
    rw [flat_append]
    have hfl:(flat .u8 xs).length=xs.length:=by rw [flat_len];exact Nat.mul_one _
    refine RowR.append ?_ (RowR.of_vals (fun k c hk=>strCells_get s k c hk) fun j u hj=>?_)
    ·intro k c hk
     have hkl:k < xs.length:=by have:=(List.getElem?_eq_some_iff.1 hk).1;omega
     obtain ⟨u,h5,h6⟩:=hrow k c hk
     exact ⟨u,by rw [over_get hfit,if_neg (by omega)];exact h5,h6⟩
    ·have hlt:=(List.getElem?_eq_some_iff.1 hj).1
     rw [over_get hfit,if_pos (by omega)]
     rw [hfl,show 0+xs.length+j - xs.length=j from by omega]
     exact hj
   refine ⟨.slice (some ⟨b,0,none⟩) (xs.length+s.size) cap,_,fun rty=>by rw [hκ];exact hr rty,?_,?_,?_,by simp,rfl,?_,?_⟩
   ·intro w0 M hfr h
    refine ⟨h.os,h.tape,h.output,by simpa using h.size,fun b2 hb2 hM=>?_⟩
    rw [setRow_other w b b2 _ fun e=>?_]
    ·exact h.block b2 hb2 hM
    ·subst e
     rcases hfr b2 (by rw [hκ];rfl) with h5 | h5
     ·omega
     ·exact hM h5
   ·intro b2 hb2 hne
    exact setRow_other w b b2 _ (fun e=>hne (by rw [hκ,e];rfl))
   ·intro b2 cur2 bt hbb hbc
    rw [hκ] at hbb
    simp [blkOf] at hbb
    subst hbb
    rw [hb] at hbc
    simp at hbc
    obtain ⟨rfl,rfl⟩:=hbc
    refine ⟨_,setRow_heap w b _ _ _ _ hb,over_size hfit,fun k hk=>?_⟩
    rw [over_get hfit,if_neg (by omega)]
   ·intro b2 hb2
    simp [blkOf] at hb2
    exact .inl (by rw [hκ,← hb2];rfl)
   ·refine .inr ⟨b,cap,_,by simp [hsl],setRow_heap w b _ _ _ _ hb,by simpa [hsl] using hroom,⟨hcap.le,fun h=>(by cases h),fun h=>(by cases h)⟩,by rw [over_size hfit,hcs',Nat.mul_one],hro⟩
  ·refine grow cap olds (by omega) h1' h4 fun rty=>?_
   rw [hκ]
   exact Lib.run_append_grow_string (P:=P) w ty u rty (E .u8) ie (.int .u8 0) hu hus hie hz ⟨b,0,none⟩ xs.length cap olds (by rw [h1',hsz,Nat.mul_one]) (fun j u hj=>by rw [Addr.add_lit,cell_at hb];exact h2 j u hj) s (by omega) (by omega)
    (by rw [hby];have:=nextslicecap_le (need:=xs.length+s.size) (old:=cap) (by omega);omega)
theorem flat_u8 (l:List UInt8):flat .u8 l=l.map fun b=>DC.val (.int .u8 (b.toNat:Int)):=by
 induction l with
 | nil=>rfl
 | cons x l ih=>rw [flat_cons,ih];rfl
theorem bld_alone (hg:Good E w0 M g st w) {id:Nat} {T:TypeId} {k:Nat} (hm:st.mem id=some (.bld T k)) {b:Nat} (hb:blkOf (g.κ id)=some b):∀ j s,j ≠ id->st.mem j=some s->s.live->blkOf (g.κ j) ≠ some b:=by
 intro j s hj hs hl hb'
 obtain ⟨f,t,xs,ys,h1,_⟩:=hg.sep id j _ s hm hs (Ne.symm hj) trivial hl b hb hb'
 cases h1
theorem setCell_heap {w:World} {b:Nat} {p v u:Value} {T:TypeId} (h:w.heap[b]?=some (.cells #[p,v] T (0,0))) :
  (w.setCell ⟨b,1,none⟩ u).heap[b]?=some (.cells #[p,u] T (0,0))/\(∀ i,i ≠ b->(w.setCell ⟨b,1,none⟩ u).heap[i]?=w.heap[i]?)/\(w.setCell ⟨b,1,none⟩ u).heap.size=w.heap.size:=by
 refine ⟨?_,fun i hi=>Below.heap_setCell _ _ _ _ (fun e=>hi e),by simp [World.setCell]⟩
 simp [World.setCell,Array.getElem?_modify,h]
theorem ptBW_ok (L:Lays.n166 P ρ) (X:Builder.Extra P ρ) (hE:E .u8=ρ.t 5):PTOk P E (ρ.f 166) (ptBW (ρ.t 72)):=by
 refine ⟨⟨_,_,L.f166,by kernel_rfl,rfl⟩,?_⟩
 intro w0 M g st w args vs base k hg hcl hrefs hargs hv
 unfold ptBW at hv
 split at hv
 ·rename_i id s
  split at hv
  ·rename_i T j hid
   split at hv
   ·rename_i fam xs hj
    obtain ⟨⟨rfl,hbase,⟨hsp,hfr⟩,⟨hspj,hfrj⟩,hlen⟩,hk⟩:=hv
    obtain ⟨b,p,hκ,hb,hp,hone⟩:=hg.res id _ hid
    have hbk:blkOf (g.κ id)=some b:=by rw [hκ];rfl
    -- the arguments
    obtain ⟨v0,e0,b0,hκ0,hv0⟩:=hargs.2 0 _ rfl
    obtain ⟨v1,e1,hv1⟩:=hargs.2 1 _ rfl
    rw [hκ] at hκ0
    simp at hκ0
    subst hκ0
    have hv1:v1=.string s:=by cases hv1;rfl
    subst hv0 hv1
    have hvs:vs.toArray=#[.pointer (some ⟨b,0,none⟩),.string s]:=by
     have hl:=hargs.1
     match vs,hl,e0,e1 with
     | [x,y],_,e0,e1=>simp at e0 e1;rw [e0,e1]
    rw [hvs]
    -- the address is stored
    obtain ⟨m1,m2,m3,m4,m5,m6⟩:=marked_heap hb hp
    have hrob:g.ro b=none:=hg.wro id _ hid trivial b hbk hsp hfr
    have hg1:Good E w0 M g { st with mem:=st.mem } (marked w b p) :=
     hg.write' hid trivial (.inl hbk) (r':=.bld (ρ.t 72) j) (m':=st.mem) (fun i s hs=>by
      by_cases e:i=id
      ·subst e;rw [hid] at hs;injection hs with hs;exact .inl ⟨rfl,hs.symm⟩
      ·exact .inr ⟨e,.inl hs⟩) (bld_alone hg hid hbk) hrob m4 m5 m6 (Nat.le_of_eq m3.symm) (fun i _ hi=>m2 i hi) ⟨b,_,hκ,m1,.inr rfl,hone⟩ (fun _ h=>h)
    -- the bytes are appended
    obtain ⟨i0,hi,hz0,hz1,hz2⟩:=info_parts X.infoByte
    obtain ⟨v',w2,hA⟩:=append_str (P:=P) (hg1.res j _ hj) s (ty:=ρ.t 37) (u:=ρ.t 9) (by rw [hE];exact L.t37) L.t9 (by rw [hE];exact hi) hz1 hz2 hz0 hlen
    have hcl1:Cl { ({ st with mem:=st.mem }:St) with env:=fun _=>junk }:=⟨(fun x id hid=>by cases hid),hcl⟩
    have hg1':Good E w0 M g { ({ st with mem:=st.mem }:St) with env:=fun _=>junk } (marked w b p):=hg1.env rfl rfl rfl rfl
    have hg2:=hg1'.append hcl1 (id:=j) (fam:=fam) (k:=base) (t:=.u8) (xs:=xs) (ys:=s.data.toList) hj hspj hfrj hbase (hA.ext w0) hA.other (fun b cur bt h1 h2=>by
     obtain ⟨cur',h3,h4,h5⟩:=hA.row b cur bt h1 h2
     exact ⟨cur',h3,h4,h5,fun h=>by cases h⟩) hA.blk hA.val
    have hne:id ≠ base:=fun e=>by rw [e,hbase] at hid;cases hid
    have hij:j ≠ id:=fun e=>by rw [e,hid] at hj;cases hj
    have hjb:blkOf (g.κ j) ≠ some b:=bld_alone hg hid hbk j _ hij hj trivial
    have hb2:w2.heap[b]?=some (.cells #[.pointer (some ⟨b,0,none⟩),g.κ j] (ρ.t 72) (0,0)):=by
     rw [hA.other b (by rw [m3];exact lt_of_some hb) hjb];exact m1
    obtain ⟨c1,c2,c3⟩:=setCell_heap (u:=v') hb2
    have hgn:∀ i,(st.mem i).isSome=true->(gnew { ({ st with mem:=st.mem }:St) with env:=fun _=>junk } g base v' (xs ++ s.data.toList).length).κ i=g.κ i/\(gnew { ({ st with mem:=st.mem }:St) with env:=fun _=>junk } g base v' (xs ++ s.data.toList).length).ln i=g.ln i:=fun i hi=>gnew_old hi
    have hnew:=gnew_new (st:={ ({ st with mem:=st.mem }:St) with env:=fun _=>junk }) (g:=g) (vb:=v') (nb:=(xs ++ s.data.toList).length) hbase
    have hid2:(adds st.mem [(base,.sl fam .u8 (xs ++ s.data.toList))]) id=some (.bld (ρ.t 72) j):=by
     show upd st.mem base _ id=_
     rw [upd_ne _ _ hne];exact hid
    have hκ2:=(hgn id (by rw [hid];rfl)).1
    have hbk2:blkOf ((gnew { ({ st with mem:=st.mem }:St) with env:=fun _=>junk } g base v' (xs ++ s.data.toList).length).κ id)=some b:=by rw [hκ2];exact hbk
    have hg3:=hg2.write' (w':=w2.setCell ⟨b,1,none⟩ v') hid2 trivial (.inl hbk2) (r':=.bld (ρ.t 72) base) (m':=upd (adds st.mem [(base,.sl fam .u8 (xs ++ s.data.toList))]) id (some (.bld (ρ.t 72) base)))
     (fun i r hr=>by
      by_cases e:i=id
      ·subst e;rw [upd_same] at hr;injection hr with hr;exact .inl ⟨rfl,hr.symm⟩
      ·rw [upd_ne _ _ e] at hr;exact .inr ⟨e,.inl hr⟩)
     (fun i r hi hr hl=>bld_alone hg2 hid2 hbk2 i r hi (by rw [upd_ne _ _ hi] at hr;exact hr) hl) hrob rfl rfl rfl (Nat.le_of_eq c3.symm) (fun i _ hi=>c2 i hi)
     ⟨b,_,by rw [hκ2];exact hκ,by rw [hnew.1];exact c1,.inr rfl,by rw [hnew.1];exact hA.one⟩
     (fun i hi=>by
      by_cases e:i=id
      ·subst e;rw [upd_same];rfl
      ·rw [upd_ne _ _ e];exact hi)
    have hv':∃ ao n cap,v'=.slice ao n cap:=by
     rcases hA.val with ⟨h,_⟩ | ⟨_,_,_,h,_⟩ <;> exact ⟨_,_,_,h⟩
    refine Calls.mono (write_known L X b p (g.κ j) s w hb hp hA.run hv' hb2) fun e w' he=>?_
    obtain ⟨rfl,rfl⟩:=he
    refine ⟨_,_,_,_,rfl,hk,hg3.env rfl rfl rfl rfl,⟨_,rfl,rfl,fun q r hq=>?_⟩,?_,?_,?_,fun _ _ h=>h,rfl⟩
    ·match q,hq with
     | 0,hq=>cases hq;exact ⟨_,rfl,DR.val _ rfl⟩
     | 1,hq=>cases hq;exact ⟨_,rfl,trivial⟩
     | q+2,hq=>simp at hq
    ·intro i hi
     simp [S.refs,refsT,S0.refs,CV.refs] at hi
    ·intro i r hr q hq
     have hr:upd (upd st.mem base (some (.sl fam .u8 (xs ++ s.data.toList)))) id (some (.bld (ρ.t 72) base)) i=some r:=hr
     show (upd (upd st.mem base (some (.sl fam .u8 (xs ++ s.data.toList)))) id (some (.bld (ρ.t 72) base)) q).isSome=true
     have dom:∀ q,(st.mem q).isSome=true ∨ q=base->(upd (upd st.mem base (some (.sl fam .u8 (xs ++ s.data.toList)))) id (some (.bld (ρ.t 72) base)) q).isSome=true:=by
      intro q hq
      by_cases e:q=id
      ·subst e;rw [upd_same];rfl
      ·rw [upd_ne _ _ e]
       by_cases e2:q=base
       ·subst e2;rw [upd_same];rfl
       ·rw [upd_ne _ _ e2];exact hq.resolve_right e2
     by_cases e:i=id
     ·subst e;rw [upd_same] at hr;injection hr with hr;subst hr
      simp [Res.refs] at hq;exact dom q (.inr hq)
     ·rw [upd_ne _ _ e] at hr
      by_cases e2:i=base
      ·subst e2;rw [upd_same] at hr;injection hr with hr;subst hr;simp [Res.refs] at hq
      ·rw [upd_ne _ _ e2] at hr;exact dom q (.inl (hcl i r hr q hq))
    ·intro i hi
     refine ⟨?_,hgn i hi⟩
     show (upd (upd st.mem base (some (.sl fam .u8 (xs ++ s.data.toList)))) id (some (.bld (ρ.t 72) base)) i).isSome=true
     by_cases e:i=id
     ·subst e;rw [upd_same];rfl
     ·rw [upd_ne _ _ e]
      by_cases e2:i=base
      ·subst e2;rw [upd_same];rfl
      ·rw [upd_ne _ _ e2];exact hi
   ·exact hv.elim
  ·exact hv.elim
 ·exact hv.elim
theorem ptBS_ok (L:Lays.n169 P ρ) (X:Builder.Extra P ρ) (hE:E .u8=ρ.t 5):PTOk P E (ρ.f 169) (ptBS (ρ.t 72)):=by
 refine ⟨⟨_,_,L.f169,by kernel_rfl,rfl⟩,?_⟩
 intro w0 M g st w args vs base k hg hcl hrefs hargs hv
 unfold ptBS at hv
 split at hv
 ·rename_i id
  split at hv
  ·rename_i T j hid
   split at hv
   ·rename_i fam xs hj
    obtain ⟨⟨rfl,hspj,hfrj⟩,hk⟩:=hv
    obtain ⟨b,p,hκ,hb,hp,hone⟩:=hg.res id _ hid
    obtain ⟨v0,e0,b0,hκ0,hv0⟩:=hargs.2 0 _ rfl
    rw [hκ] at hκ0
    simp at hκ0
    subst hκ0
    subst hv0
    have hvs:vs.toArray=#[.pointer (some ⟨b,0,none⟩)]:=by
     have hl:=hargs.1
     match vs,hl,e0 with
     | [x],_,e0=>simp at e0;rw [e0]
    rw [hvs]
    have hrs:=hg.res j _ hj
    have hval:(g.κ j=.slice none 0 0/\(xs:List UInt8)=[]) ∨ ∃ g' cap cur,g.κ j=.slice (some ⟨g',0,none⟩) (List.length (α:=UInt8) xs) cap/\w.heap[g']?=some (.cells cur (ρ.t 5) (0,0))/\List.length (α:=UInt8) xs<=cap/\cap<=maxLen/\cur.size=cap /\
      ∀ (q:Nat) (x:UInt8),(xs:List UInt8)[q]?=some x->cur[q]?=some (Value.int IntKind.u8 (x.toNat:Int)):=by
     rcases hrs.2 with h | ⟨g',cap,cur,h1,h2,h3,h4,h5,h6⟩
     ·exact .inl h
     ·refine .inr ⟨g',cap,cur,h1,by rw [← hE];exact h2,h3,h4.le,by rw [h5];exact Nat.mul_one _,fun q x hq=>?_⟩
      obtain ⟨u,h7,h8⟩:=h6 q (.val (.int .u8 (x.toNat:Int))) (by rw [flat_u8,List.getElem?_map,hq];rfl)
      rw [Nat.zero_add] at h7
      rw [h7]
      cases h8
      rfl
    have hdead:∀ i r,upd (kill fam j st.mem) j (some .dead) i=some r->r.live->i ≠ j/\st.mem i=some r/\∀ f t ys,r=.sl f t ys->f ≠ fam:=by
     intro i r hr hl
     by_cases e:i=j
     ·subst e;rw [upd_same] at hr;injection hr with hr;subst hr;exact hl.elim
     ·rw [upd_ne _ _ e] at hr
      unfold kill at hr
      split at hr
      ·rename_i f t ys hi
       split at hr
       ·injection hr with hr;subst hr;exact hl.elim
       ·rename_i hn
        injection hr with hr
        subst hr
        exact ⟨e,hi,fun f' t' ys' h=>by injection h with h1;subst h1;exact fun h2=>hn ⟨e,h2⟩⟩
      ·rename_i hno
       exact ⟨e,hr,fun f t ys h=>by subst h;exact (hno f t ys hr).elim⟩
    have hdom:∀ i,(st.mem i).isSome=true->(upd (kill fam j st.mem) j (some .dead) i).isSome=true:=by
     intro i hi
     by_cases e:i=j
     ·subst e;rw [upd_same];rfl
     ·rw [upd_ne _ _ e]
      unfold kill
      split
      ·split <;> rfl
      ·exact hi
    have hm':∀ i r,upd (kill fam j st.mem) j (some .dead) i=some r->(i=j/\r=.dead) ∨ (i ≠ j/\(st.mem i=some r ∨ r=.dead)):=by
     intro i r hr
     by_cases e:i=j
     ·subst e;rw [upd_same] at hr;injection hr with hr;exact .inl ⟨rfl,hr.symm⟩
     ·refine .inr ⟨e,?_⟩
      by_cases hl:r.live
      ·exact .inl (hdead i r hr hl).2.1
      ·cases r with
       | dead=>exact .inr rfl
       | _=>exact (hl trivial).elim
    refine Calls.mono (string_stays L X b p (g.κ j) xs w hb hval) fun e w' he=>?_
    obtain ⟨rfl,hS⟩:=he
    have hg':Good E w0 M g { st with mem:=upd (kill fam j st.mem) j (some .dead) } w':=by
     cases hbj:blkOf (g.κ j) with
     | none =>
      rw [hbj] at hS
      refine hg.write' hj trivial (b:=w.heap.size) (r':=.dead) (.inr ⟨hbj,rfl⟩) hm' (fun i r hi hr hl h=>?_) ?_ hS.os hS.tape hS.output hS.size (fun i hi _=>hS.block i hi (by simp)) trivial hdom
      ·have:=(hg.res i r (hdead i r hr hl).2.1).lt hl h;omega
      ·cases hro:g.ro w.heap.size with
       | none=>rfl
       | some vs=>have:=(hg.ro _ _ hro).lt;omega
     | some g' =>
      rw [hbj] at hS
      refine hg.write' hj trivial (b:=g') (r':=.dead) (.inl hbj) hm' (fun i r hi hr hl h=>?_) (hg.wro j _ hj trivial g' hbj hspj hfrj) hS.os hS.tape hS.output hS.size (fun i hi hne=>hS.block i hi (fun e=>by injection e with e;exact hne e.symm)) trivial hdom
      obtain ⟨h1,h2,h3⟩:=hdead i r hr hl
      obtain ⟨f,t,us,bs,h4,h5,_⟩:=hg.sep j i _ r hj h2 (Ne.symm hi) trivial hl g' hbj h
      injection h4 with h6
      exact h3 f t bs h5 h6.symm
    refine ⟨_,_,_,_,rfl,hk,hg',DR.val _ rfl,(fun i hi=>by simp [sv,S.refs,S0.refs,CV.refs] at hi),?_,fun i hi=>⟨hdom i hi,rfl,rfl⟩,fun _ _ h=>h,rfl⟩
    intro i r hr q hq
    by_cases hl:r.live
    ·exact hdom q (hcl i r (hdead i r hr hl).2.1 q hq)
    ·cases r with
     | dead=>simp [Res.refs] at hq
     | _=>exact (hl trivial).elim
   ·exact hv.elim
  ·exact hv.elim
 ·exact hv.elim
end
end Go.SE

namespace Go.SE
open Go.RowKit Go.Shelf Go.Proofs
def joinB (xs:List ByteArray) (sep:ByteArray):ByteArray:=⟨(Lib.join (xs.map (·.data.toList)) sep.data.toList).toArray⟩
@[reducible] def joinCon:Con :=
 { aks:=[.sl .str,.str],rks:=[.str],pre:=fun x=>List.length (α:=ByteArray) x.1<=4294967296/\(joinB x.1 x.2.1).size<=140737488355328,sem:=.inl fun x=>(joinB x.1 x.2.1,()) }
variable [Base]
section
variable {P:Program} {ρ:Ren} {E:Ty->TypeId}
theorem flat_str (l:List ByteArray):flat .str l=l.map fun s=>DC.val (.string s):=by
 induction l with
 | nil=>rfl
 | cons x l ih=>rw [flat_cons,ih];rfl
theorem res_one {ks:List AK} {w0 w:World} {ro0:Nat->Option (Array Value)} {ρ id0:Nat} {k:AK} {r:k.den} {v:Value} (hr:k.res id0 r=(k.enc r,[])) (hv:(k.enc r).R (argG ro0 ρ) v):ResOk E w0 w ro0 [k] id0 (r,()) v (argG ro0 ρ):=by
 have e2:(ress [k] id0 (r,())).2=[]:=by simp [ress,hr]
 refine ⟨fun _ _ h=>h,fun _ _ h=>.inl h,?_,fun i q hq=>?_,fun i q hq=>?_,fun i q j s hq=>?_⟩
 ·simp only [ress,hr]
  exact hv
 all_goals (rw [e2] at hq;cases hq)
theorem join_ok (L:Lays.n156 P ρ) (X:Builder.Extra P ρ):FnOk P E (ρ.f 156) joinCon:=by
 refine ⟨⟨_,_,L.f156,by kernel_rfl,rfl⟩,?_,fun x _=>⟨_,rfl⟩⟩
 intro w0 ro0 rr n x vs id0 hpre hin _ hargs
 obtain ⟨xs,sep,_⟩:=x
 obtain ⟨v0,e0,h0⟩:=hargs.2 0 _ rfl
 obtain ⟨v1,e1,h1⟩:=hargs.2 1 _ rfl
 have hv1:v1=.string sep:=by cases h1;rfl
 subst hv1
 have hvs:vs.toArray=#[v0,.string sep]:=by
  have hl:=hargs.1
  match vs,hl,e0,e1 with
  | [x,y],_,e0,e1=>simp at e0 e1;rw [e0,e1]
 rw [hvs]
 have fin:∀ e w',e=Ending.returned (.string (joinB xs sep))->Below w0.heap.size w0 w'->∃ v r g,e=.returned v/\joinCon.post (xs,sep,()) r/\Ext (fun b=>hasRdr joinCon.aks=true/\b=rr) w0 w'/\g.ρ=rr/\ResOk E w0 w' ro0 joinCon.rks id0 r v g/\(hasRdr joinCon.aks=true->RdStep w0 w' rr (n+joinCon.cost (xs,sep,()))):=by
  intro e w' he hb
  refine ⟨_,(joinB xs sep,()),argG ro0 rr,he,rfl,⟨hb.os,hb.tape,hb.output,hb.size,fun b hb' _=>hb.block b hb'⟩,rfl,res_one (ks:=[]) rfl (DR.val _ rfl),fun h=>by cases h⟩
 have h0:DR ro0 (.arr .str xs) v0:=h0
 rcases h0.arr_inv with ⟨⟨a,rfl⟩,rfl⟩ | ⟨b,off,cap,us,rfl,hro,hle,_,hrow,_⟩
 ·refine Calls.mono (Any.strings_Join_none L X a 0 sep w0) fun e w' he=>?_
  obtain ⟨rfl,rfl⟩:=he
  exact fin _ _ rfl (Below.refl _ _)
 ·obtain ⟨ty,fz,hh,_⟩:=hin.2 b us hro
  refine Calls.mono (Any.strings_Join L X b off cap xs sep w0 (fun j x hx=>?_) (lt_of_some hh) (by have:=hpre.1;have h:List.length (α:=ByteArray) xs<=4294967296:=this;omega) hle ?_) fun e w' he=>fin e w' he.1 he.2
  ·obtain ⟨u,h2,h3⟩:=hrow j (.val (.string x)) (by rw [flat_str,List.getElem?_map,hx];rfl)
   rw [cell_at hh,h2]
   cases h3
   rfl
  ·have h:(joinB xs sep).size<=140737488355328:=hpre.2
   simpa [joinB,ByteArray.size] using h
end
end Go.SE

namespace Go.SE
variable [Base]
def isT (t:Int):Bool:=decide (0<=t) && decide (t<=8)
def fV (f:GFact):Bool:=isT f.a && isT f.b
theorem min_i64:IntKind.i64.min=-9223372036854775808:=rfl
theorem max_i64:IntKind.i64.max=9223372036854775807:=rfl
theorem min_u16:IntKind.u16.min=0:=rfl
theorem max_u16:IntKind.u16.max=65535:=rfl
theorem min_u8:IntKind.u8.min=0:=rfl
theorem max_u8:IntKind.u8.max=255:=rfl
theorem min_u64:IntKind.u64.min=0:=rfl
theorem max_u64:IntKind.u64.max=18446744073709551615:=rfl
theorem eta_fact (f:GFact):(⟨f.eq,f.a,f.b⟩:GFact)=f:=rfl
theorem eta_atom (f:GAtom):(⟨f.kind,f.a,f.b⟩:GAtom)=f:=rfl
theorem eta_asn (f:GAsn):(⟨f.facts,f.atoms⟩:GAsn)=f:=rfl
theorem eta_state (f:GState):(⟨f.vals,f.heap⟩:GState)=f:=rfl
def sz1 (left:Int) (n:Nat):Int:=if left - n < 0 then -1 else left - n
def hv (n:Int):Bool:=n == -1 || isT n
theorem take_snoc {α:Type} {l:List α} {k:Nat} (d:α) (h:k < l.length):l.take (k+1)=l.take k ++ [l.getD k d]:=by
 rw [List.take_succ_eq_append_getElem h,List.getD_eq_getElem?_getD]
 congr 2
 simp [h]
theorem take_all {α:Type} {l:List α} {k:Nat} {p:α->Bool} (d:α) (h:k < l.length):(l.take (k+1)).all p=((l.take k).all p && p (l.getD k d)):=by
 rw [take_snoc d h,List.all_append]
 simp only [List.all_cons,List.all_nil,Bool.and_true]
theorem all_take {α:Type} {l:List α} {k:Nat} {p:α->Bool} (d:α) (h:k < l.length) (hp:p (l.getD k d)=false):l.all p=false:=by
 rw [Bool.eq_false_iff]
 intro ha
 rw [List.all_eq_true] at ha
 have:=ha (l.getD k d) (by rw [List.getD_eq_getElem?_getD];simp [h])
 rw [hp] at this;cases this
theorem take_full {α:Type} {l:List α} {k:Nat} (h:¬ k < l.length):l.take k=l:=List.take_of_length_le (by omega)
def rdPlus:Option Nat->Nat->Option Nat
 | some k,n=>some (k+n)
 | none,_=>none
def intAt (st:St) (s:Nat):Int :=
 match st.env s with
 | .s (.c (.d (.val (.int .i64 n))))=>n
 | _=>0
theorem getD_mem {α:Type} {l:List α} {k:Nat} {d:α} (h:k < l.length):l.getD k d ∈ l:=by
 rw [List.getD_eq_getElem?_getD,List.getElem?_eq_getElem h]
 exact List.getElem_mem h
end Go.SE

namespace Go.SE
variable [Base]
def atV (x:GAtom):Bool:=(x.kind == 1 || x.kind == 2) && isT x.a && isT x.b
def fsV (l:List GFact):Bool:=decide (l.length<=12) && l.all fV
def asV (a:GAsn):Bool:=fsV a.facts && decide (a.atoms.length<=6) && a.atoms.all atV
end Go.SE

namespace Go.SE
variable [Base]
theorem getD_set_self {α:Type} {l:List α} {i:Nat} {x d:α} (h:i < l.length):(l.set i x).getD i d=x:=by
 simp [List.getD_eq_getElem?_getD,h]
def occF (l:List GFact) (t:Int):Bool:=l.any fun f=>f.a == t || f.b == t
def occG (l:List GAtom) (t:Int):Bool:=l.any fun f=>f.a == t || f.b == t
def occ (a:GAsn) (t:Int):Bool:=occF a.facts t || occG a.atoms t
theorem asV_facts {a:GAsn} (h:asV a=true):a.facts.all fV=true/\a.facts.length<=12/\a.atoms.all atV=true/\a.atoms.length<=6:=by
 unfold asV fsV at h
 simp only [Bool.and_eq_true,decide_eq_true_eq] at h
 exact ⟨h.1.1.2,h.1.1.1,h.2,h.1.2⟩
end Go.SE
namespace Go.SE
end Go.SE
namespace Go.SE
variable [Base]
end Go.SE

namespace Go.SE
open Go.RowKit
variable [Base]
theorem cln:(TT=True)/\(TF=True)/\(TN=True)/\(∀ l,RL l=True)/\(∀ l,RM l=True)/\(∀ p:Prop,(True/\p)=p)/\(∀ p:Prop,(p/\True)=p)/\(∀ (α:Type) (a:α),(a=a)=True)/\(∀ p:Prop,(p->True)=True)/\(∀ α:Type,(α->True)=True) /\
  (∀ (α:Type) [Nonempty α] (b:Prop),(α->b)=b)/\(∀ (α:Type) (a b:α) (l m:List α),(a :: l=b :: m)=(a=b/\l=m))/\(∀ x y,(S.s x=S.s y)=(x=y))/\(∀ x y,(S0.c x=S0.c y)=(x=y))/\(∀ x y,(S0.agg x=S0.agg y)=(x=y))/\(∀ x y,(CV.d x=CV.d y)=(x=y)) /\
  (∀ x y,(CV.own x=CV.own y)=(x=y))/\(∀ x o y q,(CV.ptr x o=CV.ptr y q)=(x=y/\o=q))/\(∀ x y,(DC.val x=DC.val y)=(x=y))/\(∀ k x j y,(Value.int k x=Value.int j y)=(k=j/\x=y))/\(∀ x y,(Value.bool x=Value.bool y)=(x=y))/\(∀ (α:Type) (x y:α),(some x=some y)=(x=y)) /\
  (∀ x y,(Res.blk x=Res.blk y)=(x=y))/\(∀ (α β:Type) (a c:α) (b d:β),((a,b)=(c,d))=(a=c/\b=d))/\(∀ (a b:Prop),vcIf true a b=a)/\(∀ (a b:Prop),vcIf false a b=b)/\(∀ (α:Type) (a:α),(a ∈ ([]:List α))=False)/\((¬ False)=True)/\(∀ (α:Type) (a b:α),(a ≠ b)=¬ a=b) /\
  (∀ b:Bool,(b && true)=b)/\(∀ n:Nat,n+0=n)/\(∀ (α:Type) (l:List α),l ++ []=l)/\(∀ (α:Type) (l:List α),[] ++ l=l)/\(∀ α:Type,([]:List α).length=0)/\(∀ (α:Type) (a:α) (l:List α),(a :: l).length=l.length+1)/\(∀ n:Nat,0+n=n)/\(∀ n:Nat,((n:Int)).toNat=n)/\(∀ n:Nat,n - 0=n) /\
  (∀ (α:Type) (l:List α),l.drop 0=l)/\(∀ (α β:Type) (f:α->β),[].map f=[])/\(∀ (α:Type) (l:List α),l.take 0=[])/\(∀ (α:Type) (p:α->Prop) (b:α),(∀ a,b=a->p a)=p b) /\
  (∀ n,inK .i64 n=(-9223372036854775808<=n/\n<=9223372036854775807))/\(∀ n,inK .u64 n=(0<=n/\n<=18446744073709551615))/\(∀ n,inK .u16 n=(0<=n/\n<=65535))/\(∀ n,inK .u8 n=(0<=n/\n<=255)):=by
 refine ⟨?_,?_,?_,?_,?_,?_,?_,?_,?_,?_,?_,?_,?_,?_,?_,?_,?_,?_,?_,?_,?_,?_,?_,?_,?_,?_,?_,?_,?_,?_,?_,?_,?_,?_,?_,?_,?_,?_,?_,?_,?_,?_,?_,?_,?_,?_⟩ <;> intros <;> first | (simp;done) | rfl | exact vcIf_true | exact vcIf_false
theorem opn:(∀ (t:Bool) (a b:Prop),vcIf t a b=((t=true->a)/\(t=false->b)))/\(∀ (p:Prop) [Decidable p],(decide p=true)=p)/\(∀ (p:Prop) [Decidable p],(decide p=false)=¬ p)/\(∀ (α:Type) [BEq α] [LawfulBEq α] (a b:α),((a != b)=true)=¬ a=b) /\
  (∀ (α:Type) (a b:α),(a ≠ b)=¬ a=b)/\(∀ (α:Type) [BEq α] [LawfulBEq α] (a b:α),((a == b)=true)=(a=b))/\(∀ (α:Type) [BEq α] [LawfulBEq α] (a b:α),((a == b)=false)=¬ a=b)/\(∀ (α:Type) [BEq α] [LawfulBEq α] (a b:α),((a != b)=false)=(a=b)) /\
  (∀ b:Bool,((!b)=true)=(b=false))/\(∀ b:Bool,((!b)=false)=(b=true))/\(∀ n m:Nat,((n:Int) < (m:Int))=(n < m))/\(∀ n m:Nat,((n:Int)=(m:Int))=(n=m)):=by
 refine ⟨?_,?_,?_,?_,?_,?_,?_,?_,?_,?_,?_,?_⟩ <;> intros <;> first | exact propext vcIf_iff | rfl | (simp;done) | exact propext Int.natCast_inj
end Go.SE

namespace Go.SE
open Go.RowKit
theorem GCmd.eta (c:GCmd):GCmd.mk c.kind c.a c.b c.test c.inv c.body c.els=c:=by cases c;rfl
mutual
def ndC:GCmd->Nat
 | .mk _ _ _ _ _ bo el=>1+ndL bo+ndL el
def ndL:List GCmd->Nat
 | []=>0
 | c :: l=>ndC c+ndL l
end
mutual
def wtC:GCmd->Nat
 | .mk _ _ _ _ i bo el=>i.facts.length+i.atoms.length+(bo.length+wcL bo)+(el.length+wcL el)
def wcL:List GCmd->Nat
 | []=>0
 | c :: l=>wtC c+wcL l
end
mutual
def bdC:GCmd->Prop
 | .mk _ _ _ _ i bo el=>i.facts.length<=281474976710656/\i.atoms.length<=281474976710656/\(bo.length<=281474976710656/\bcL bo)/\(el.length<=281474976710656/\bcL el)
def bcL:List GCmd->Prop
 | []=>True
 | c :: l=>bdC c/\bcL l
end
structure BdL (l:List GCmd):Prop where
 len:l.length<=281474976710656
 all:bcL l
theorem ndC_eq (c:GCmd):ndC c=1+ndL c.body+ndL c.els:=by cases c;simp [ndC,GCmd.body,GCmd.els]
theorem wtC_eq (c:GCmd):wtC c=c.inv.facts.length+c.inv.atoms.length+(c.body.length+wcL c.body)+(c.els.length+wcL c.els):=by
 cases c;simp [wtC,GCmd.body,GCmd.els,GCmd.inv]
structure BdC (c:GCmd):Prop where
 f:c.inv.facts.length<=281474976710656
 a:c.inv.atoms.length<=281474976710656
 b:BdL c.body
 e:BdL c.els
theorem bdC_iff (c:GCmd):bdC c ↔ BdC c:=by
 cases c
 simp only [bdC]
 exact ⟨fun ⟨a,b,c,d⟩=>⟨a,b,⟨c.1,c.2⟩,⟨d.1,d.2⟩⟩,fun h=>⟨h.f,h.a,⟨h.b.len,h.b.all⟩,⟨h.e.len,h.e.all⟩⟩⟩
theorem ndL_nil:ndL []=0:=by simp [ndL]
theorem ndL_cons (c:GCmd) (l):ndL (c :: l)=ndC c+ndL l:=by simp [ndL]
theorem wcL_nil:wcL []=0:=by simp [wcL]
theorem wcL_cons (c:GCmd) (l):wcL (c :: l)=wtC c+wcL l:=by simp [wcL]
theorem ndL_append (a b:List GCmd):ndL (a ++ b)=ndL a+ndL b:=by
 induction a with
 | nil=>simp [ndL]
 | cons c a ih=>simp only [List.cons_append,ndL_cons,ih];omega
theorem wcL_append (a b:List GCmd):wcL (a ++ b)=wcL a+wcL b:=by
 induction a with
 | nil=>simp [wcL]
 | cons c a ih=>simp only [List.cons_append,wcL_cons,ih];omega
theorem bcL_iff (l:List GCmd):bcL l ↔ ∀ c ∈ l,BdC c:=by
 induction l with
 | nil=>simp [bcL]
 | cons c l ih=>simp [bcL,ih,bdC_iff]
theorem getD_mem' {α:Type} {l:List α} {i:Nat} {d:α} (h:i < l.length):l.getD i d ∈ l:=by
 rw [List.getD_eq_getElem?_getD,List.getElem?_eq_getElem h];exact List.getElem_mem h
theorem take_step {α:Type} {l:List α} {i:Nat} {d:α} (h:i < l.length):l.take (i+1)=l.take i ++ [l.getD i d]:=by
 rw [List.take_add_one,List.getD_eq_getElem?_getD,List.getElem?_eq_getElem h];rfl
theorem ndL_step {l:List GCmd} {i:Nat} {d:GCmd} (h:i < l.length):ndL (l.take (i+1))=ndL (l.take i)+ndC (l.getD i d):=by
 rw [take_step (d:=d) h,ndL_append,ndL_cons,ndL_nil];omega
theorem wcL_step {l:List GCmd} {i:Nat} {d:GCmd} (h:i < l.length):wcL (l.take (i+1))=wcL (l.take i)+wtC (l.getD i d):=by
 rw [take_step (d:=d) h,wcL_append,wcL_cons,wcL_nil];omega
theorem ndL_take_le (l:List GCmd) (i:Nat):ndL (l.take i)<=ndL l:=by
 conv=>rhs;rw [← List.take_append_drop i l,ndL_append]
 omega
theorem wcL_take_le (l:List GCmd) (i:Nat):wcL (l.take i)<=wcL l:=by
 conv=>rhs;rw [← List.take_append_drop i l,wcL_append]
 omega
theorem ndL_get {l:List GCmd} {i:Nat} {d:GCmd} (h:i < l.length):ndC (l.getD i d)<=ndL l:=by
 have:=ndL_step (d:=d) h;have:=ndL_take_le l (i+1);omega
theorem wcL_get {l:List GCmd} {i:Nat} {d:GCmd} (h:i < l.length):wtC (l.getD i d)<=wcL l:=by
 have:=wcL_step (d:=d) h;have:=wcL_take_le l (i+1);omega
theorem BdL.get {l:List GCmd} (hl:BdL l) {i:Nat} {d:GCmd} (h:i < l.length):BdC (l.getD i d) :=
 (bcL_iff l).1 hl.all _ (getD_mem' h)
theorem ndC_pos (c:GCmd):0 < ndC c:=by rw [ndC_eq];omega
theorem len_ndL (l:List GCmd):l.length<=ndL l:=by
 induction l with
 | nil=>simp
 | cons c l ih=>rw [ndL_cons,List.length_cons];have:=ndC_pos c;omega
theorem small_bd:∀ n:Nat,∀ c:GCmd,ndC c<=n->wtC c<=281474976710656->BdC c:=by
 intro n
 induction n with
 | zero=>intro c h;have:=ndC_pos c;omega
 | succ n ih =>
  intro c h hw
  rw [ndC_eq] at h
  rw [wtC_eq] at hw
  have key:∀ l:List GCmd,ndL l<=n->l.length+wcL l<=281474976710656->BdL l:=by
   intro l hn hl
   refine ⟨by omega,(bcL_iff l).2 fun c hc=>?_⟩
   obtain ⟨i,hi,rfl⟩:=List.getElem_of_mem hc
   have e:l[i]=l.getD i c:=by rw [List.getD_eq_getElem?_getD,List.getElem?_eq_getElem hi];rfl
   have h1:=ndL_get (d:=c) hi;have h2:=wcL_get (d:=c) hi
   rw [e]
   exact ih _ (by omega) (by omega)
  exact ⟨by omega,by omega,key _ (by omega) (by omega),key _ (by omega) (by omega)⟩
theorem small_bdC {c:GCmd} (h:wtC c<=281474976710656):BdC c:=small_bd _ c (Nat.le_refl _) h
theorem small_bdL {l:List GCmd} (h:l.length+wcL l<=281474976710656):BdL l:=by
 refine ⟨by omega,(bcL_iff l).2 fun c hc=>?_⟩
 obtain ⟨i,hi,rfl⟩:=List.getElem_of_mem hc
 have e:l[i]=l.getD i (Ty.zero .cmd):=by rw [List.getD_eq_getElem?_getD,List.getElem?_eq_getElem hi];rfl
 have h2:=wcL_get (d:=Ty.zero .cmd) hi
 rw [e]
 exact small_bdC (by omega)
def noA (a:GAsn):Bool:=a.facts.length == 0 && a.atoms.length == 0
def pvV (t:Int):Bool:=decide (1<=t) && decide (t<=4)
theorem gf_zero (f:GFact):(f == (⟨false,0,0⟩:GFact))=(f.eq == false && (f.a == 0 && f.b == 0)):=by
 obtain ⟨f1,f2,f3⟩:=f
 rw [Bool.eq_iff_iff]
 simp
theorem gf_zero' (f:GFact):decide (f=(⟨false,0,0⟩:GFact))=(f.eq == false && (f.a == 0 && f.b == 0)):=by
 rw [← gf_zero];rfl
def fokB (c:GCmd):Bool :=
 (c.test == ⟨false,0,0⟩ && noA c.inv && c.body.length == 0 && c.els.length == 0) &&
 (if c.kind=1 ∨ c.kind=2 then pvV c.a && isT c.b else if c.kind=3 then isT c.a && isT c.b else if c.kind=4 then pvV c.a && c.b == 0 else if c.kind=5 then isT c.a && c.b == 0 else false)
def fokC (c:GCmd):Bool :=
 if c.kind=6 then c.a == 0 && c.b == 0 && fV c.test && noA c.inv
 else if c.kind=7 then c.a == 0 && c.b == 0 && fV c.test && asV c.inv && c.els.length == 0
 else fokB c
mutual
def shC (d:Int):GCmd->Bool
 | .mk k a b t i bo el=>fokC (.mk k a b t i bo el) && shL (d - 1) bo && shL (d - 1) el
def shL (d:Int):List GCmd->Bool
 | []=>true
 | c :: l=>decide (1<=d) && shC d c && shL d l
end
mutual
def cnC (d:Int):GCmd->Nat
 | .mk _ _ _ _ _ bo el=>1+cnL (d - 1) bo+cnL (d - 1) el
def cnL (d:Int):List GCmd->Nat
 | []=>0
 | c :: l=>if 1<=d then cnC d c+cnL d l else 0
end
theorem shC_eq (d:Int) (c:GCmd):shC d c=(fokC c && shL (d - 1) c.body && shL (d - 1) c.els):=by cases c;simp only [shC,GCmd.body,GCmd.els]
theorem cnC_eq (d:Int) (c:GCmd):cnC d c=1+cnL (d - 1) c.body+cnL (d - 1) c.els:=by cases c;simp only [cnC,GCmd.body,GCmd.els]
theorem shL_nil (d:Int):shL d []=true:=by simp [shL]
theorem shL_cons (d:Int) (c:GCmd) (l):shL d (c :: l)=(decide (1<=d) && shC d c && shL d l):=by simp [shL]
theorem shL_iff (d:Int) (l:List GCmd):shL d l=true ↔ (l=[] ∨ 1<=d)/\∀ c ∈ l,shC d c=true:=by
 induction l with
 | nil=>simp [shL]
 | cons c l ih =>
  simp only [shL_cons,Bool.and_eq_true,decide_eq_true_eq,ih,List.mem_cons,forall_eq_or_imp]
  constructor
  ·rintro ⟨⟨h1,h2⟩,h3,h4⟩;exact ⟨.inr h1,h2,h4⟩
  ·rintro ⟨h1 | h1,h2,h4⟩
   ·cases h1
   ·exact ⟨⟨h1,h2⟩,.inr h1,h4⟩
theorem shL_zero {d:Int} {l:List GCmd} (h:d < 1) (hl:0 < l.length):shL d l=false:=by
 rw [Bool.eq_false_iff];intro e
 rcases (shL_iff d l).1 e with ⟨h1 | h1,-⟩
 ·subst h1;simp at hl
 ·omega
theorem shL_step {d:Int} {l:List GCmd} {i:Nat} {z:GCmd} (hd:1<=d) (h:i < l.length):shL d (l.take (i+1))=(shL d (l.take i) && shC d (l.getD i z)):=by
 rw [Bool.eq_iff_iff,Bool.and_eq_true,shL_iff,shL_iff,take_step (d:=z) h]
 simp only [List.mem_append,List.mem_singleton]
 constructor
 ·rintro ⟨-,h2⟩;exact ⟨⟨.inr hd,fun c hc=>h2 c (.inl hc)⟩,h2 _ (.inr rfl)⟩
 ·rintro ⟨⟨-,h2⟩,h3⟩;exact ⟨.inr hd,fun c hc=>hc.elim (h2 c) (fun e=>e ▸ h3)⟩
theorem shL_get {d:Int} {l:List GCmd} {i:Nat} {z:GCmd} (h:i < l.length) (hs:shL d l=true):shC d (l.getD i z)=true :=
 ((shL_iff d l).1 hs).2 _ (getD_mem' h)
theorem shL_not {d:Int} {l:List GCmd} {i:Nat} {z:GCmd} (h:i < l.length) (hs:shC d (l.getD i z)=false):shL d l=false:=by
 rw [Bool.eq_false_iff];intro e;rw [shL_get (z:=z) h e] at hs;cases hs
theorem cnL_nil (d:Int):cnL d []=0:=by simp [cnL]
theorem cnL_cons (d:Int) (c:GCmd) (l):cnL d (c :: l)=if 1<=d then cnC d c+cnL d l else 0:=by simp [cnL]
theorem cnL_low {d:Int} (h:¬ 1<=d) (l:List GCmd):cnL d l=0:=by cases l <;> simp [cnL,h]
theorem cnL_append {d:Int} (h:1<=d) (a b:List GCmd):cnL d (a ++ b)=cnL d a+cnL d b:=by
 induction a with
 | nil=>simp [cnL]
 | cons c a ih=>simp only [List.cons_append,cnL_cons,if_pos h,ih];omega
theorem cnL_step {d:Int} {l:List GCmd} {i:Nat} {z:GCmd} (hd:1<=d) (h:i < l.length):cnL d (l.take (i+1))=cnL d (l.take i)+cnC d (l.getD i z):=by
 rw [take_step (d:=z) h,cnL_append hd,cnL_cons,if_pos hd,cnL_nil];omega
theorem cn_le:∀ n:Nat,(∀ c:GCmd,ndC c<=n->∀ d,cnC d c<=ndC c):=by
 intro n
 induction n with
 | zero=>intro c h;have:=ndC_pos c;omega
 | succ n ih =>
  intro c h d
  have key:∀ l:List GCmd,ndL l<=n->∀ d,cnL d l<=ndL l:=by
   intro l
   induction l with
   | nil=>intro _ d;simp [cnL]
   | cons c l ihl =>
    intro hl d
    rw [ndL_cons] at hl ⊢
    rw [cnL_cons]
    split
    ·have:=ih c (by omega) d;have:=ihl (by omega) d;omega
    ·omega
  rw [ndC_eq] at h ⊢
  rw [cnC_eq]
  have:=key c.body (by omega) (d - 1);have:=key c.els (by omega) (d - 1);omega
theorem cnL_le (d:Int) (l:List GCmd):cnL d l<=ndL l:=by
 induction l with
 | nil=>simp [cnL]
 | cons c l ih =>
  rw [ndL_cons,cnL_cons]
  split
  ·have:=cn_le _ c (Nat.le_refl _) d;omega
  ·omega
theorem cn_sh:∀ n:Nat,(∀ c:GCmd,ndC c<=n->∀ d,shC d c=true->cnC d c=ndC c):=by
 intro n
 induction n with
 | zero=>intro c h;have:=ndC_pos c;omega
 | succ n ih =>
  intro c h d hs
  have key:∀ l:List GCmd,ndL l<=n->∀ d,shL d l=true->cnL d l=ndL l:=by
   intro l
   induction l with
   | nil=>intro _ d _;simp [cnL,ndL]
   | cons c l ihl =>
    intro hl d hd
    rw [ndL_cons] at hl ⊢
    simp only [shL_cons,Bool.and_eq_true,decide_eq_true_eq] at hd
    rw [cnL_cons,if_pos hd.1.1,ih c (by omega) d hd.1.2,ihl (by omega) d hd.2]
  rw [ndC_eq] at h ⊢
  rw [shC_eq] at hs
  simp only [Bool.and_eq_true] at hs
  rw [cnC_eq,key c.body (by omega) _ hs.1.2,key c.els (by omega) _ hs.2]
theorem cnL_sh {d:Int} {l:List GCmd} (h:shL d l=true):cnL d l=ndL l:=by
 induction l with
 | nil=>simp [cnL,ndL]
 | cons c l ih =>
  simp only [shL_cons,Bool.and_eq_true,decide_eq_true_eq] at h
  rw [ndL_cons,cnL_cons,if_pos h.1.1,cn_sh _ c (Nat.le_refl _) d h.1.2,ih h.2]
theorem nd_wt:∀ n:Nat,∀ c:GCmd,ndC c<=n->ndC c<=1+wtC c:=by
 intro n
 induction n with
 | zero=>intro c h;have:=ndC_pos c;omega
 | succ n ih =>
  intro c h
  have key:∀ l:List GCmd,ndL l<=n->ndL l<=l.length+wcL l:=by
   intro l
   induction l with
   | nil=>intro _;simp [ndL]
   | cons c l ihl =>
    intro hl
    rw [ndL_cons] at hl ⊢
    rw [wcL_cons,List.length_cons]
    have:=ih c (by omega);have:=ihl (by omega);omega
  rw [ndC_eq] at h ⊢
  rw [wtC_eq]
  have:=key c.body (by omega);have:=key c.els (by omega);omega
theorem ndC_wt (c:GCmd):ndC c<=1+wtC c:=nd_wt _ c (Nat.le_refl _)
theorem ndL_wt (l:List GCmd):ndL l<=l.length+wcL l:=by
 induction l with
 | nil=>simp [ndL]
 | cons c l ih=>rw [ndL_cons,wcL_cons,List.length_cons];have:=ndC_wt c;omega
def cvB (d r:Int) (l:List GCmd):Bool:=shL (5 - d) l && decide ((ndL l:Int)<=r)
def cvN (d r:Int) (l:List GCmd):Int:=if cvB d r l then ndL l else 0
def sumN (v:List (List GCmd)):Nat:=(v.map ndL).sum
section
variable {bo el:List GCmd} {j:Nat}
theorem v2_sum (h:j < 2):sumN ([bo,el].take (j+1))=sumN ([bo,el].take j)+ndL ([bo,el].getD j []):=by
 match j,h with
 | 0,_=>simp [sumN]
 | 1,_=>simp [sumN]
theorem v2_all (p:List GCmd->Bool) (h:j < 2):([bo,el].take (j+1)).all p=(([bo,el].take j).all p && p ([bo,el].getD j [])):=by
 match j,h with
 | 0,_=>simp
 | 1,_=>simp
theorem v2_le (h:j < 2):sumN ([bo,el].take j)+ndL ([bo,el].getD j [])<=ndL bo+ndL el:=by
 match j,h with
 | 0,_=>simp [sumN]
 | 1,_=>simp [sumN]
theorem v2_full (h:¬ j < 2):[bo,el].take j=[bo,el]:=List.take_of_length_le (by simp;omega)
theorem v2_get (h:j < 2):[bo,el].getD j []=bo ∨ [bo,el].getD j []=el:=by
 match j,h with
 | 0,_=>exact .inl rfl
 | 1,_=>exact .inr rfl
theorem v2_P (p:List GCmd->Prop) (h:j < 2) (h1:p bo) (h2:p el):p ([bo,el].getD j []):=by
 rcases v2_get (bo:=bo) (el:=el) h with e | e <;> rw [e] <;> assumption
theorem sumN_two:sumN [bo,el]=ndL bo+ndL el:=by simp [sumN]
end
theorem cv_room {l:List GCmd} {i:Nat} {z:GCmd} (h:i < l.length):(l.length:Int)+ndL (l.take i) - i+(ndL (l.getD i z).body+ndL (l.getD i z).els)<=ndL l:=by
 have h1:=ndL_step (d:=z) h
 rw [ndC_eq] at h1
 have h2:ndL l=ndL (l.take (i+1))+ndL (l.drop (i+1)):=by rw [← ndL_append,List.take_append_drop]
 have h3:=len_ndL (l.drop (i+1))
 rw [List.length_drop] at h3
 omega
theorem cv_fail {l:List GCmd} {i j:Nat} {d r x:Int} {z:GCmd} (hi:i < l.length) (hj:j < 2) (hx:x=(l.length:Int)+ndL (l.take i) - i+sumN ([(l.getD i z).body,(l.getD i z).els].take j))
  (h:cvB (d+1) (r - x) ([(l.getD i z).body,(l.getD i z).els].getD j [])=false):cvB d r l=false:=by
 rw [Bool.eq_false_iff] at h ⊢
 intro e
 apply h
 simp only [cvB,Bool.and_eq_true,decide_eq_true_eq] at e ⊢
 have h1:=shL_get (z:=z) hi e.1
 rw [shC_eq] at h1
 simp only [Bool.and_eq_true] at h1
 have hd:5 - d - 1=5 - (d+1):=by omega
 rw [hd] at h1
 have h2:=cv_room (z:=z) hi
 have h3:=v2_le (bo:=(l.getD i z).body) (el:=(l.getD i z).els) hj
 refine ⟨?_,by omega⟩
 rcases v2_get (bo:=(l.getD i z).body) (el:=(l.getD i z).els) hj with e1 | e1
 ·rw [e1];exact h1.1.2
 ·rw [e1];exact h1.2
theorem cv_bad {l:List GCmd} {i:Nat} {d r:Int} {z:GCmd} (hi:i < l.length) (h:fokC (l.getD i z)=false):cvB d r l=false:=by
 rw [Bool.eq_false_iff]
 intro e
 simp only [cvB,Bool.and_eq_true] at e
 have h1:=shL_get (z:=z) hi e.1
 rw [shC_eq,h] at h1
 cases h1
theorem cv_long {l:List GCmd} {d r:Int} (h:r < (l.length:Int)):cvB d r l=false:=by
 rw [Bool.eq_false_iff]
 intro e
 simp only [cvB,Bool.and_eq_true,decide_eq_true_eq] at e
 have:=len_ndL l
 omega
theorem cv_deep {l:List GCmd} {d r:Int} (h:0 < l.length) (hd:4 < d):cvB d r l=false:=by
 simp only [cvB,shL_zero (show 5 - d < 1 by omega) h,Bool.false_and]
theorem cvN_false {l:List GCmd} {d r:Int} (h:cvB d r l=false):cvN d r l=0:=by simp [cvN,h]
theorem cv_done {l:List GCmd} {d r:Int} (hs:shL (5 - d) l=true) (h:(ndL l:Int)<=r):cvB d r l=true/\cvN d r l=ndL l:=by
 have:cvB d r l=true:=by simp [cvB,hs,h]
 exact ⟨this,by simp [cvN,this]⟩
theorem cv_get {l:List GCmd} {d r:Int} (h:cvB d r l=true):cvN d r l=ndL l/\shL (5 - d) l=true/\(ndL l:Int)<=r:=by
 have h':=h
 simp only [cvB,Bool.and_eq_true,decide_eq_true_eq] at h
 exact ⟨by simp [cvN,h'],h.1,h.2⟩
def vcsAt (st:St) (s:Nat):List (List GCmd) :=
 match st.env s with
 | .s (.vec .cmds xs)=>xs
 | _=>[]
def prV (l:List GCmd):Bool:=shL 4 l && decide (ndL l<=16)
end Go.SE

namespace Go.SE
open Go.RowKit Go.Shelf Go.Proofs
def names9:List ByteArray:=[⟨#[110,105,108]⟩,⟨#[97]⟩,⟨#[98]⟩,⟨#[99]⟩,⟨#[100]⟩,⟨#[112]⟩,⟨#[113]⟩,⟨#[114]⟩,⟨#[115]⟩]
class Names [Base]:Prop where
 gs:Base.gs=some (0,(names9.map Value.string).toArray)
def nmB (t:Int):ByteArray:=if isT t=true then names9.getD t.toNat ⟨#[]⟩ else ⟨#[]⟩
def factT (f:GFact):ByteArray:=if f.eq=true then nmB f.a ++ ⟨#[61]⟩ ++ nmB f.b else nmB f.a ++ ⟨#[33,61]⟩ ++ nmB f.b
def atomT (x:GAtom):ByteArray:=if x.kind=2 then nmB x.a ++ ⟨#[126]⟩ ++ nmB x.b else nmB x.a ++ ⟨#[62]⟩ ++ nmB x.b
def factsT (l:List GFact):ByteArray:=if l.length=0 then ⟨#[116,114,117,101]⟩ else joinB (l.map factT) ⟨#[32,38,32]⟩
def atomsT (l:List GAtom):ByteArray:=if l.length=0 then ⟨#[101,109,112]⟩ else joinB (l.map atomT) ⟨#[32,42,32]⟩
def asnT (a:GAsn):ByteArray:=factsT a.facts ++ ⟨#[32,124,32]⟩ ++ atomsT a.atoms
def bscT (c:GCmd):ByteArray :=
 if c.kind=1 then nmB c.a ++ ⟨#[58,61]⟩ ++ nmB c.b
 else if c.kind=2 then nmB c.a ++ ⟨#[58,61,91]⟩ ++ nmB c.b ++ ⟨#[93]⟩
 else if c.kind=3 then ⟨#[91]⟩ ++ nmB c.a ++ ⟨#[93,58,61]⟩ ++ nmB c.b
 else if c.kind=4 then ⟨#[110,101,119,32]⟩ ++ nmB c.a
 else ⟨#[102,114,101,101,32]⟩ ++ nmB c.a
def lineT (c:GCmd):ByteArray :=
 if c.kind=6 then ⟨#[105,102,32]⟩ ++ factT c.test
 else if c.kind=7 then ⟨#[119,104,105,108,101,32]⟩ ++ factT c.test ++ ⟨#[32,119,105,116,104,32]⟩ ++ asnT c.inv
 else bscT c
def endT (k:Int):ByteArray:=if k=6 ∨ k=7 then ⟨#[101,110,100,10]⟩ else ⟨#[]⟩
mutual
def cmT:GCmd->ByteArray
 | .mk k a b t i bo el=>lineT (.mk k a b t i bo el) ++ ⟨#[10]⟩ ++ cmL bo ++ (if el.length=0 then ⟨#[]⟩ else ⟨#[101,108,115,101,10]⟩ ++ cmL el) ++ endT k
def cmL:List GCmd->ByteArray
 | []=>⟨#[]⟩
 | c :: l=>cmT c ++ cmL l
end
theorem cmT_eq (c:GCmd):cmT c=lineT c ++ ⟨#[10]⟩ ++ cmL c.body ++ (if c.els.length=0 then ⟨#[]⟩ else ⟨#[101,108,115,101,10]⟩ ++ cmL c.els) ++ endT c.kind:=by
 cases c;simp only [cmT,GCmd.body,GCmd.els,GCmd.kind];rfl
theorem cmL_nil:cmL []=⟨#[]⟩:=by simp only [cmL]
theorem cmL_cons (c:GCmd) (l:List GCmd):cmL (c :: l)=cmT c ++ cmL l:=by simp only [cmL]
theorem ba_ext {a b:ByteArray} (h:a.data=b.data):a=b:=by cases a;cases b;simp only at h;subst h;rfl
theorem ba_nil (a:ByteArray):a ++ (⟨#[]⟩:ByteArray)=a:=ba_ext (by simp)
theorem nil_ba (a:ByteArray):(⟨#[]⟩:ByteArray) ++ a=a:=ba_ext (by simp)
theorem ba_assoc (a b c:ByteArray):a ++ b ++ c=a ++ (b ++ c):=ba_ext (by simp)
theorem ba_size (a b:ByteArray):(a ++ b).size=a.size+b.size:=by simp
theorem ba_lit (a:Array UInt8):(⟨a⟩:ByteArray).size=a.size:=rfl
theorem ba_list (a:ByteArray):(⟨a.data.toList.toArray⟩:ByteArray)=a:=ba_ext (by simp)
theorem cmL_append (a b:List GCmd):cmL (a ++ b)=cmL a ++ cmL b:=by
 induction a with
 | nil=>rw [List.nil_append,cmL_nil,nil_ba]
 | cons c a ih=>rw [List.cons_append,cmL_cons,cmL_cons,ih,ba_assoc]
theorem cmL_step {l:List GCmd} {i:Nat} {d:GCmd} (h:i < l.length):cmL (l.take (i+1))=cmL (l.take i) ++ cmT (l.getD i d):=by
 rw [take_step (d:=d) h,cmL_append,cmL_cons,cmL_nil,ba_nil]
theorem joinB_nil (s:ByteArray):joinB [] s=⟨#[]⟩:=ba_ext (by simp [joinB,Lib.join_nil])
theorem joinB_one (x s:ByteArray):joinB [x] s=x:=ba_ext (by simp [joinB,Lib.join_one])
theorem joinB_snoc {l:List ByteArray} (hl:l ≠ []) (x s:ByteArray):joinB (l ++ [x]) s=joinB l s ++ s ++ x:=by
 cases l with
 | nil=>exact (hl rfl).elim
 | cons y l =>
  apply ba_ext
  simp only [joinB,List.cons_append,List.map_cons,List.map_append,List.map_nil,Lib.join_cons,Lib.joinTail,List.flatten_append,List.flatten_cons,List.flatten_nil]
  apply Array.ext'
  simp
theorem nmB_size (t:Int):(nmB t).size<=3:=by
 unfold nmB
 split
 ·rename_i h
  simp only [isT,Bool.and_eq_true,decide_eq_true_eq] at h
  obtain ⟨h0,h8⟩:=h
  have:t.toNat=0 ∨ t.toNat=1 ∨ t.toNat=2 ∨ t.toNat=3 ∨ t.toNat=4 ∨ t.toNat=5 ∨ t.toNat=6 ∨ t.toNat=7 ∨ t.toNat=8:=by omega
  rcases this with e | e | e | e | e | e | e | e | e <;> rw [e] <;> decide
 ·decide
theorem factT_size (f:GFact):(factT f).size<=8:=by
 have h1:=nmB_size f.a;have h2:=nmB_size f.b
 unfold factT
 split <;> simp only [ba_size,ba_lit,List.size_toArray,List.length_cons,List.length_nil] <;> omega
theorem atomT_size (f:GAtom):(atomT f).size<=7:=by
 have h1:=nmB_size f.a;have h2:=nmB_size f.b
 unfold atomT
 split <;> simp only [ba_size,ba_lit,List.size_toArray,List.length_cons,List.length_nil] <;> omega
theorem joinB_take {l:List ByteArray} {k:Nat} {d s:ByteArray} (hk:k < l.length):joinB (l.take (k+1)) s=if k=0 then l.getD k d else joinB (l.take k) s ++ s ++ l.getD k d:=by
 rw [take_step (d:=d) hk]
 split
 ·rename_i e
  subst e
  rw [List.take_zero,List.nil_append,joinB_one]
 ·rename_i e
  refine joinB_snoc (fun e2=>e ?_) _ _
  have:=congrArg List.length e2
  rw [List.length_take,List.length_nil] at this
  omega
theorem joinB_size {n m:Nat} {s:ByteArray} (hs:s.size<=m) (l:List ByteArray) (h:∀ x ∈ l,x.size<=n):(joinB l s).size<=l.length * (n+m):=by
 have key:∀ k,k<=l.length->(joinB (l.take k) s).size<=k * (n+m):=by
  intro k
  induction k with
  | zero=>intro _;rw [List.take_zero,joinB_nil];exact Nat.zero_le _
  | succ k ih =>
   intro hk
   have h1:=ih (by omega)
   have h2:=h _ (getD_mem' (d:=⟨#[]⟩) (show k < l.length by omega))
   rw [joinB_take (d:=⟨#[]⟩) (by omega),Nat.add_mul]
   split
   ·omega
   ·simp only [ba_size];omega
 have:=key l.length (Nat.le_refl _)
 rwa [List.take_length] at this
theorem factsT_size {l:List GFact} (h:l.length<=12):(factsT l).size<=136:=by
 unfold factsT
 split
 ·decide
 ·have:=joinB_size (n:=8) (m:=3) (s:=⟨#[32,38,32]⟩) (by decide) (l.map factT) (fun x hx=>by
   obtain ⟨f,_,rfl⟩:=List.mem_map.1 hx;exact factT_size f)
  rw [List.length_map] at this
  omega
theorem atomsT_size {l:List GAtom} (h:l.length<=6):(atomsT l).size<=60:=by
 unfold atomsT
 split
 ·decide
 ·have:=joinB_size (n:=7) (m:=3) (s:=⟨#[32,42,32]⟩) (by decide) (l.map atomT) (fun x hx=>by
   obtain ⟨f,_,rfl⟩:=List.mem_map.1 hx;exact atomT_size f)
  rw [List.length_map] at this
  omega
theorem asnT_size {a:GAsn} (h:asV a=true):(asnT a).size<=199:=by
 simp only [asV,fsV,Bool.and_eq_true,decide_eq_true_eq] at h
 have h1:=factsT_size h.1.1.1
 have h2:=atomsT_size h.1.2
 unfold asnT
 simp only [ba_size,ba_lit,List.size_toArray,List.length_cons,List.length_nil]
 omega
theorem bscT_size (c:GCmd):(bscT c).size<=10:=by
 have h1:=nmB_size c.a;have h2:=nmB_size c.b
 unfold bscT
 repeat' split
 all_goals (simp only [ba_size,ba_lit,List.size_toArray,List.length_cons,List.length_nil];omega)
theorem fok7 {c:GCmd} (h:fokC c=true) (hk:c.kind=7):asV c.inv=true/\c.els.length=0:=by
 unfold fokC at h
 rw [if_neg (by omega),if_pos hk] at h
 simp only [Bool.and_eq_true,beq_iff_eq] at h
 exact ⟨h.1.2,h.2⟩
theorem lineT_size {c:GCmd} (h:fokC c=true):(lineT c).size<=219:=by
 have h1:=factT_size c.test
 have h2:=bscT_size c
 unfold lineT
 split
 ·simp only [ba_size,ba_lit,List.size_toArray,List.length_cons,List.length_nil];omega
 ·split
  ·rename_i hk
   have h3:=asnT_size (fok7 h hk).1
   simp only [ba_size,ba_lit,List.size_toArray,List.length_cons,List.length_nil];omega
  ·omega
theorem endT_size (k:Int):(endT k).size<=4:=by
 unfold endT
 split <;> decide
theorem cm_size:∀ n:Nat,∀ c:GCmd,ndC c<=n->∀ d,shC d c=true->(cmT c).size<=240 * ndC c:=by
 intro n
 induction n with
 | zero=>intro c h;have:=ndC_pos c;omega
 | succ n ih =>
  intro c h d hs
  have key:∀ l:List GCmd,ndL l<=n->∀ d,shL d l=true->(cmL l).size<=240 * ndL l:=by
   intro l
   induction l with
   | nil=>intro _ d _;rw [cmL_nil];exact Nat.zero_le _
   | cons c l ihl =>
    intro hl d hd
    rw [ndL_cons] at hl ⊢
    simp only [shL_cons,Bool.and_eq_true,decide_eq_true_eq] at hd
    rw [cmL_cons,ba_size]
    have h1:=ih c (by omega) d hd.1.2;have h2:=ihl (by omega) d hd.2;omega
  rw [ndC_eq] at h ⊢
  rw [shC_eq] at hs
  simp only [Bool.and_eq_true] at hs
  have h1:=key c.body (by omega) _ hs.1.2
  have h2:=key c.els (by omega) _ hs.2
  have h3:=lineT_size hs.1.1
  have h4:=endT_size c.kind
  rw [cmT_eq]
  split <;> simp only [ba_size,ba_lit,List.size_toArray,List.length_cons,List.length_nil] <;> omega
theorem cmT_size {d:Int} {c:GCmd} (h:shC d c=true):(cmT c).size<=240 * ndC c:=cm_size _ c (Nat.le_refl _) d h
theorem cmL_size {d:Int} {l:List GCmd} (h:shL d l=true):(cmL l).size<=240 * ndL l:=by
 induction l with
 | nil=>rw [cmL_nil];exact Nat.zero_le _
 | cons c l ih =>
  simp only [shL_cons,Bool.and_eq_true,decide_eq_true_eq] at h
  rw [cmL_cons,ba_size,ndL_cons]
  have h1:=cmT_size h.1.2;have h2:=ih h.2;omega
end Go.SE

namespace Go.SE
open Go.RowKit
theorem names_row {P:Program} {W:World} {n:String} {T S:TypeId} {D:DataW Unit} (hD:D=.agg (names9.map fun s=>.lit (.string s.data.toList)))
  (hg:P.globalNamed n=some 0) (hT:(P.globals[0]?).map (·.type)=some T) (hu:P.underlying T=some (.array 9 S)) (hs:P.underlying S=some .string) (hc:P.cellsOf S=1) (hcT:P.cellsOf T=9)
  (hh:(([(n,D)]:List (String × DataW Unit)).all fun x=>x.2.handleName?.isNone)=true) (h:laidMetH P [(n,D)] W) :
  ∃ (ty:TypeId) (fz:Nat × Nat),W.heap[0]?=some (.cells (names9.map Value.string).toArray ty fz):=by
 rw [MakeChecks.laidMetH_plain _ _ _ hh] at h
 obtain ⟨ps,⟨g0,t0,cs,fuel,p0,q0,hg0,ht0,hv0,hd0,_,_⟩,_,_⟩:=h
 obtain rfl:=Option.some.inj (hg.symm.trans hg0)
 obtain rfl:=Option.some.inj (hT.symm.trans ht0)
 obtain ⟨xs,m,rfl,hx,hlen,hn,hel⟩:=DataW.trod_array hu hd0
 have hx1:names9.map (fun s=>(DataW.lit (.string s.data.toList):DataW Unit))=xs.map (·.1):=by
  have:=congrArg Prod.fst hx
  rw [hD] at this
  simpa using this
 have hcs:cs=(names9.map Value.string).toArray:=by
  apply Array.ext'
  apply List.ext_getElem?
  intro i
  by_cases hi:i < 9
  ·have h1:=hel i hi
   rw [hc,Nat.mul_one] at h1
   have hxi:xs[i]?=some (xs[i]'(by omega)):=List.getElem?_eq_getElem _
   obtain ⟨s,hs1,hs2,_⟩:=DataW.trod_string hs (h1.trans hxi)
   have h2:=congrArg (fun l=>l[i]?) hx1
   simp only [List.getElem?_map] at h2
   have h9:i < names9.length:=hi
   have hni:names9[i]?=some (names9[i]'h9):=List.getElem?_eq_getElem _
   rw [hxi,hni] at h2
   simp only [Option.map_some,Option.some.injEq] at h2
   rw [hs2] at h2
   simp only [DataW.lit.injEq,Lit.string.injEq] at h2
   have h3:names9[i]'h9=s:=ba_ext (Array.ext' h2)
   have h4:cs.toList[i]?=some (.string s):=by
    have:=congrArg (fun l=>l[0]?) hs1
    simpa [List.getElem?_take,List.getElem?_drop] using this
   rw [h4]
   show _=(names9.map Value.string)[i]?
   rw [List.getElem?_map,hni,h3]
   rfl
  ·rw [List.getElem?_eq_none (by rw [hlen,hcT];omega)]
   exact (List.getElem?_eq_none (by show 9<=i;omega)).symm
 subst hcs
 unfold World.var? at hv0
 rw [hg] at hv0
 simp only [Option.bind_some] at hv0
 split at hv0
 ·rename_i c ty fz hb
  injection hv0 with e
  subst e
  exact ⟨ty,fz,hb⟩
 ·cases hv0
abbrev rowBase (W:World) (ty:TypeId) (fz:Nat × Nat) (h:W.heap[0]?=some (.cells (names9.map Value.string).toArray ty fz)):Base where
 n0:=W.heap.size
 nz:=W.heap.size
 le:=Nat.le_refl _
 gs:=some (0,(names9.map Value.string).toArray)
 gl:=fun b vs e=>by
  have:b=0:=by cases e;rfl
  subst this
  exact (Array.getElem?_eq_some_iff.1 h).1
theorem rowBase_names {W:World} {ty:TypeId} {fz:Nat × Nat} (h:W.heap[0]?=some (.cells (names9.map Value.string).toArray ty fz)):@Names (rowBase W ty fz h):=@Names.mk (rowBase W ty fz h) rfl
theorem rowBase_at {W:World} {ty:TypeId} {fz:Nat × Nat} (h:W.heap[0]?=some (.cells (names9.map Value.string).toArray ty fz)):@BaseAt (rowBase W ty fz h) W :=
 ⟨rfl,rfl,fun b vs e=>by
  have e':some (0,(names9.map Value.string).toArray)=some (b,vs):=e
  injection e' with e1
  injection e1 with e2 e3
  subst e2;subst e3
  simp only [roAll,h]⟩
section
variable [Base] {H:Type} {enc:TypeId × Value->H} {P:Program}
theorem law_post_var {n:String} {fn:Func} {s:ChangeSpec} {apart fresh handsOn again:Bool} {W W':World} {args:Array Value} {ds gs:List (DataW H)} {before:List MemPlace} {bt:TypeId}
  (hl:laidOutB P=true) (hps:∀ t ∈ fn.params.toList,P.readableRec t=true/\t < P.types.size) (hr:fn.resultTypes=#[bt]) (hb:P.underlying bt=some .bool) (hv:s.vars=[n]) (hvr:varsRowed P [n]=true)
  (hs:∀ (ds:List (DataW H)) (g1:DataW H),ds.length=fn.params.toList.length->s.fn H (ds ++ [g1])={ results:=[.lit (.bool true)],args:=ds,vars:=[g1] }) (hag:again=false)
  (hW:DataW.Whole enc P fn.params.toList s.vars apart W args.toList ds gs before) (hbel:Below W.heap.size W W'):s.post enc P fn apart fresh handsOn again W args (.bool true) W':=by
 have hlt:=hW.lt
 have hW0:=hW
 obtain ⟨p,q,hA,hV,rfl,hfz,hnd⟩:=hW
 rw [hv] at hV
 obtain ⟨g,t,cs,fuel,d,p',rfl,-⟩:=ChangeShapes.trodVars_one hV
 have hlen:ds.length=fn.params.toList.length:=trodAll_len hA
 have hsf:=hs ds d hlen
 have hsame:∀ x ∈ p,W.sameAt W' x:=fun x hx=>hbel.same (hlt x (List.mem_append_left _ hx))
 have hst:∀ sp':Nat->Bool,(∀ x ∈ p,sp' x.block=true)->DataW.TrodAll enc P W' 0 sp' true fn.params.toList args.toList ds p:=fun sp' hsp=>trodAll_stays hl hps hA hsame hsp
 have hres:∀ (b:Nat) (sp:Nat->Bool) (hd:Bool),DataW.TrodAll enc P W' b sp hd fn.resultTypes.toList ((Value.bool true).resultList fn.resultTypes.size) [.lit (.bool true)] []:=by
  intro b sp hd
  rw [hr]
  exact ChangeShapes.trodAll_mk1 (shut_bool hb true)
 refine ⟨ds,[d],p ++ q,[],p,q,hW0,?_,?_,?_,hbel.frame _,fun h=>by rw [hag] at h;cases h⟩
 ·rw [hsf]
  exact hres _ _ _
 ·rw [hsf]
  exact hst _ (fun x hx=>by simpa using hlt x (List.mem_append_left _ hx))
 ·rw [hsf,hv]
  exact Below.trodVars hl hbel hvr hV
end
end Go.SE

namespace Go.SE
variable [Base]
end Go.SE

namespace Go.SE
open Go.RowKit Go.Shelf Go.Proofs
structure VlL (l:List GCmd):Prop where
 nd:ndL l<=1048576
 sh:∃ d,shL d l=true
theorem VlL.of {l:List GCmd} (h:prV l=true):VlL l:=by
 simp only [prV,Bool.and_eq_true,decide_eq_true_eq] at h
 exact ⟨by omega,_,h.1⟩
theorem VlL.get {l:List GCmd} (h:VlL l) {i:Nat} {z:GCmd} (hi:i < l.length):fokC (l.getD i z)=true/\VlL (l.getD i z).body/\VlL (l.getD i z).els:=by
 obtain ⟨hn,d,hd⟩:=h
 have h1:=shL_get (z:=z) hi hd
 have h2:=ndL_get (d:=z) hi
 rw [shC_eq] at h1
 rw [ndC_eq] at h2
 simp only [Bool.and_eq_true] at h1
 exact ⟨h1.1.1,⟨by omega,_,h1.1.2⟩,⟨by omega,_,h1.2⟩⟩
theorem VlL.size {l:List GCmd} (h:VlL l):(cmL l).size<=251658240:=by
 obtain ⟨hn,d,hd⟩:=h
 have:=cmL_size hd
 omega
theorem VlL.take {l:List GCmd} (h:VlL l) (i:Nat):VlL (l.take i):=by
 obtain ⟨hn,d,hd⟩:=h
 refine ⟨Nat.le_trans (ndL_take_le l i) hn,d,?_⟩
 rw [shL_iff] at hd ⊢
 refine ⟨?_,fun c hc=>hd.2 c (List.mem_of_mem_take hc)⟩
 rcases hd.1 with e | e
 ·subst e;exact .inl (by simp)
 ·exact .inr e
theorem VlL.tsize {l:List GCmd} (h:VlL l) (i:Nat):(cmL (l.take i)).size<=251658240:=(h.take i).size
theorem fok_kind {c:GCmd} (h:fokC c=true) (h6:c.kind ≠ 6) (h7:c.kind ≠ 7):(c.kind=1 ∨ c.kind=2 ∨ c.kind=3 ∨ c.kind=4 ∨ c.kind=5)/\c.body=[]/\c.els=[]:=by
 unfold fokC at h
 rw [if_neg h6,if_neg h7] at h
 unfold fokB at h
 simp only [Bool.and_eq_true,beq_iff_eq] at h
 refine ⟨?_,List.eq_nil_of_length_eq_zero h.1.1.2,List.eq_nil_of_length_eq_zero h.1.2⟩
 by_cases k1:c.kind=1;· exact .inl k1
 by_cases k2:c.kind=2;· exact .inr (.inl k2)
 by_cases k3:c.kind=3;· exact .inr (.inr (.inl k3))
 by_cases k4:c.kind=4;· exact .inr (.inr (.inr (.inl k4)))
 by_cases k5:c.kind=5;· exact .inr (.inr (.inr (.inr k5)))
 have:=h.2
 simp [k1,k2,k3,k4,k5] at this
theorem fok_fact {c:GCmd} (h:fokC c=true) (hk:c.kind=6 ∨ c.kind=7):fV c.test=true:=by
 unfold fokC at h
 rcases hk with hk | hk
 ·rw [if_pos hk] at h
  simp only [Bool.and_eq_true] at h
  exact h.1.2
 ·rw [if_neg (by omega),if_pos hk] at h
  simp only [Bool.and_eq_true] at h
  exact h.1.1.2
theorem jm_step {α:Type} (f:α->ByteArray) {l:List α} {i:Nat} {d:α} {s:ByteArray} (h:i < l.length):joinB ((l.take (i+1)).map f) s=if i=0 then f (l.getD i d) else joinB ((l.take i).map f) s ++ s ++ f (l.getD i d):=by
 rw [take_step (d:=d) h,List.map_append]
 split
 ·rename_i e;subst e;simp [joinB_one]
 ·rename_i e
  refine joinB_snoc (fun e2=>e ?_) _ _
  have:=congrArg List.length e2
  rw [List.length_map,List.length_take,List.length_nil] at this
  omega
theorem map_step {α β:Type} (f:α->β) {l:List α} {i:Nat} {d:α} (h:i < l.length):(l.take (i+1)).map f=(l.take i).map f ++ [f (l.getD i d)]:=by
 rw [take_step (d:=d) h,List.map_append];rfl
theorem jf_size {l:List GFact} (h:l.length<=12) (i:Nat):(joinB ((l.take i).map factT) ⟨#[32,38,32]⟩).size<=132:=by
 have:=joinB_size (n:=8) (m:=3) (s:=⟨#[32,38,32]⟩) (by decide) ((l.take i).map factT) (fun x hx=>by
  obtain ⟨f,_,rfl⟩:=List.mem_map.1 hx;exact factT_size f)
 rw [List.length_map,List.length_take] at this
 omega
theorem ja_size {l:List GAtom} (h:l.length<=6) (i:Nat):(joinB ((l.take i).map atomT) ⟨#[32,42,32]⟩).size<=60:=by
 have:=joinB_size (n:=7) (m:=3) (s:=⟨#[32,42,32]⟩) (by decide) ((l.take i).map atomT) (fun x hx=>by
  obtain ⟨f,_,rfl⟩:=List.mem_map.1 hx;exact atomT_size f)
 rw [List.length_map,List.length_take] at this
 omega
theorem nm_not {t:Int} (h:isT t=false):(⟨#[]⟩:ByteArray)=nmB t:=by unfold nmB;rw [h];rfl
theorem nm_zero {t:Int} (h:t=0):(⟨#[110,105,108]⟩:ByteArray)=nmB t:=by subst h;rfl
theorem nm_cut {t:Int} (h:isT t=true) (h0:¬ t=0):0<=t - 1/\t<=8/\(⟨#[97,98,99,100,112,113,114,115]⟩:ByteArray).extract (t - 1).toNat t.toNat=nmB t:=by
 simp only [isT,Bool.and_eq_true,decide_eq_true_eq] at h
 obtain ⟨h1,h8⟩:=h
 refine ⟨by omega,h8,?_⟩
 have:t=1 ∨ t=2 ∨ t=3 ∨ t=4 ∨ t=5 ∨ t=6 ∨ t=7 ∨ t=8:=by omega
 rcases this with rfl | rfl | rfl | rfl | rfl | rfl | rfl | rfl <;> decide
variable [Base]
def l3S (a:GAsn) (i:Nat):ByteArray:=if i=0 then factsT a.facts else factsT a.facts ++ ⟨#[32,124,32]⟩ ++ joinB ((a.atoms.take i).map atomT) ⟨#[32,42,32]⟩
theorem l3S_size {a:GAsn} (h:asV a=true) (i:Nat):(l3S a i).size<=199:=by
 obtain ⟨_,h1,_,h2⟩:=asV_facts h
 have h3:=factsT_size h1
 have h4:=ja_size h2 i
 unfold l3S
 split
 ·omega
 ·simp only [ba_size,ba_lit,List.size_toArray,List.length_cons,List.length_nil];omega
theorem l3S_zero (a:GAsn):l3S a 0=factsT a.facts:=rfl
theorem l3S_full (a:GAsn) (h:0 < a.atoms.length):l3S a a.atoms.length=asnT a:=by
 unfold l3S asnT atomsT
 rw [if_neg (by omega),if_neg (by omega),List.take_length]
theorem l3S_step {a:GAsn} {i:Nat} {d:GAtom} (h:i < a.atoms.length):l3S a (i+1)=if i=0 then factsT a.facts ++ ⟨#[32,124,32]⟩ ++ atomT (a.atoms.getD i d) else l3S a i ++ ⟨#[32,42,32]⟩ ++ atomT (a.atoms.getD i d):=by
 unfold l3S
 rw [if_neg (by omega),jm_step (d:=d) atomT h]
 split
 ·rfl
 ·simp only [ba_assoc]
section
variable {a:GAsn} {i:Nat}
theorem l3t_more {d:GFact} (h:i < a.facts.length) (h0:0 < (i:Int)):joinB ((a.facts.take i).map factT) ⟨#[32,38,32]⟩ ++ ⟨#[32,38,32]⟩ ++ factT (a.facts.getD i d)=joinB ((a.facts.take (i+1)).map factT) ⟨#[32,38,32]⟩:=by
 rw [jm_step (d:=d) factT h,if_neg (by omega)]
theorem l3t_first {d:GFact} (h:i < a.facts.length) (h0:¬ 0 < (i:Int)):joinB ((a.facts.take i).map factT) ⟨#[32,38,32]⟩ ++ factT (a.facts.getD i d)=joinB ((a.facts.take (i+1)).map factT) ⟨#[32,38,32]⟩:=by
 have:i=0:=by omega
 subst this
 rw [jm_step (d:=d) factT h,if_pos rfl,List.take_zero,List.map_nil,joinB_nil,nil_ba]
theorem l3t_facts (h:i<=a.facts.length) (h1:¬ i < a.facts.length) (h2:¬ (a.facts.length:Int)=0):joinB ((a.facts.take i).map factT) ⟨#[32,38,32]⟩=factsT a.facts:=by
 have:i=a.facts.length:=by omega
 subst this
 unfold factsT
 rw [if_neg (by omega),List.take_length]
theorem l3t_nofacts (h2:(a.facts.length:Int)=0):(⟨#[116,114,117,101]⟩:ByteArray)=factsT a.facts:=by
 unfold factsT
 rw [if_pos (by omega)]
theorem l3t_emp (h2:(a.atoms.length:Int)=0):factsT a.facts ++ ⟨#[32,124,32,101,109,112]⟩=asnT a:=by
 unfold asnT atomsT
 rw [if_pos (by omega),ba_assoc];rfl
theorem atomT_list {x:GAtom} (h:x.kind=2):atomT x=nmB x.a ++ ⟨#[126]⟩ ++ nmB x.b:=by unfold atomT;rw [if_pos h]
theorem atomT_cell {x:GAtom} (h:¬ x.kind=2):atomT x=nmB x.a ++ ⟨#[62]⟩ ++ nmB x.b:=by unfold atomT;rw [if_neg h]
theorem l3t_a0 {d:GAtom} (h:i < a.atoms.length) (h0:(i:Int)=0):l3S a i ++ ⟨#[32,124,32]⟩ ++ atomT (a.atoms.getD i d)=l3S a (i+1):=by
 have:i=0:=by omega
 subst this
 rw [l3S_step (d:=d) h,if_pos rfl,l3S_zero]
theorem l3t_a1 {d:GAtom} (h:i < a.atoms.length) (h0:¬ (i:Int)=0):l3S a i ++ ⟨#[32,42,32]⟩ ++ atomT (a.atoms.getD i d)=l3S a (i+1):=by
 rw [l3S_step (d:=d) h,if_neg (by omega)]
theorem l3t_end (h:i<=a.atoms.length) (h1:¬ i < a.atoms.length) (h2:¬ (a.atoms.length:Int)=0):l3S a i=asnT a:=by
 have:i=a.atoms.length:=by omega
 subst this
 exact l3S_full a (by omega)
end
theorem cm_next {l:List GCmd} {i:Nat} {z:GCmd} (hi:i < l.length):cmL (l.take (i+1))=cmL (l.take i) ++ (lineT (l.getD i z) ++ (⟨#[10]⟩ ++ (cmL (l.getD i z).body ++ ((if (l.getD i z).els.length=0 then ⟨#[]⟩ else ⟨#[101,108,115,101,10]⟩ ++ cmL (l.getD i z).els) ++ endT (l.getD i z).kind)))):=by
 rw [cmL_step (d:=z) hi,cmT_eq]
 simp only [ba_assoc]
theorem VlL.bnd {l:List GCmd} {i:Nat} {z:GCmd} (h:VlL l) (hi:i < l.length):fokC (l.getD i z)=true/\VlL (l.getD i z).body/\VlL (l.getD i z).els/\ndL (l.getD i z).body < ndL l/\ndL (l.getD i z).els < ndL l /\
  (cmL (l.take i)).size<=251658240/\(lineT (l.getD i z)).size<=219/\(cmL (l.getD i z).body).size<=251658240/\(cmL (l.getD i z).els).size<=251658240:=by
 have h1:=h.get (z:=z) hi
 have h2:=ndL_get (d:=z) hi
 rw [ndC_eq] at h2
 exact ⟨h1.1,h1.2.1,h1.2.2,by omega,by omega,h.tsize i,lineT_size h1.1,h1.2.1.size,h1.2.2.size⟩
theorem VlL.lenb {l:List GCmd} (h:VlL l):l.length<=1048576:=Nat.le_trans (len_ndL l) h.nd
section
variable {l:List GCmd} {i:Nat} {z:GCmd}
theorem cmx_ee (hi:i < l.length) (h:0 < ((l.getD i z).els.length:Int)) (hk:(l.getD i z).kind=6 ∨ (l.getD i z).kind=7) :
  cmL (l.take i) ++ lineT (l.getD i z) ++ ⟨#[10]⟩ ++ cmL (l.getD i z).body ++ ⟨#[101,108,115,101,10]⟩ ++ cmL (l.getD i z).els ++ ⟨#[101,110,100,10]⟩=cmL (l.take (i+1)):=by
 rw [cm_next (z:=z) hi,if_neg (by omega),endT,if_pos hk];simp only [ba_assoc]
theorem cmx_e (hi:i < l.length) (h:0 < ((l.getD i z).els.length:Int)) (hk:¬ ((l.getD i z).kind=6 ∨ (l.getD i z).kind=7)) :
  cmL (l.take i) ++ lineT (l.getD i z) ++ ⟨#[10]⟩ ++ cmL (l.getD i z).body ++ ⟨#[101,108,115,101,10]⟩ ++ cmL (l.getD i z).els=cmL (l.take (i+1)):=by
 rw [cm_next (z:=z) hi,if_neg (by omega),endT,if_neg hk];simp only [ba_assoc,ba_nil]
theorem cmx_n (hi:i < l.length) (h:¬ 0 < ((l.getD i z).els.length:Int)) (hk:(l.getD i z).kind=6 ∨ (l.getD i z).kind=7) :
  cmL (l.take i) ++ lineT (l.getD i z) ++ ⟨#[10]⟩ ++ cmL (l.getD i z).body ++ ⟨#[101,110,100,10]⟩=cmL (l.take (i+1)):=by
 rw [cm_next (z:=z) hi,if_pos (by omega),endT,if_pos hk];simp only [ba_assoc,nil_ba]
theorem cmx_0 (hi:i < l.length) (h:¬ 0 < ((l.getD i z).els.length:Int)) (hk:¬ ((l.getD i z).kind=6 ∨ (l.getD i z).kind=7)) :
  cmL (l.take i) ++ lineT (l.getD i z) ++ ⟨#[10]⟩ ++ cmL (l.getD i z).body=cmL (l.take (i+1)):=by
 rw [cm_next (z:=z) hi,if_pos (by omega),endT,if_neg hk];simp only [ba_assoc,ba_nil]
theorem lineT_if (hk:(l.getD i z).kind=6) (hf:fokC (l.getD i z)=true):lineT (l.getD i z)=⟨#[105,102,32]⟩ ++ (if fV (l.getD i z).test=true then factT (l.getD i z).test else ⟨#[]⟩):=by
 unfold lineT;rw [if_pos hk,if_pos (fok_fact hf (.inl hk))]
theorem lineT_wh (hk:(l.getD i z).kind=7) (hf:fokC (l.getD i z)=true):lineT (l.getD i z)=⟨#[119,104,105,108,101,32]⟩ ++ (if fV (l.getD i z).test=true then factT (l.getD i z).test else ⟨#[]⟩) ++ ⟨#[32,119,105,116,104,32]⟩ ++ (if asV (l.getD i z).inv=true then asnT (l.getD i z).inv else ⟨#[]⟩):=by
 unfold lineT;rw [if_neg (by omega),if_pos hk,if_pos (fok_fact hf (.inr hk)),if_pos (fok7 hf hk).1]
theorem lineT_bs (h6:¬ (l.getD i z).kind=6) (h7:¬ (l.getD i z).kind=7):lineT (l.getD i z)=bscT (l.getD i z):=by
 unfold lineT;rw [if_neg h6,if_neg h7]
end
theorem fa_fact {a:GAsn} {i:Nat} {d:GFact} (h:i < a.facts.length) (hv:asV a=true):(a.facts.take i).map factT ++ [if fV (a.facts.getD i d)=true then factT (a.facts.getD i d) else ⟨#[]⟩]=(a.facts.take (i+1)).map factT:=by
 rw [map_step (d:=d) factT h,if_pos (List.all_eq_true.1 (asV_facts hv).1 _ (getD_mem' h))]
theorem fa_atom {a:GAsn} {i:Nat} {d:GAtom} (h:i < a.atoms.length):(a.atoms.take i).map atomT ++ [atomT (a.atoms.getD i d)]=(a.atoms.take (i+1)).map atomT:=(map_step (d:=d) atomT h).symm
theorem fa_F {a:GAsn} {i:Nat} (h:i<=a.facts.length) (h1:¬ i < a.facts.length) (h2:0 < (a.facts.length:Int)):joinB ((a.facts.take i).map factT) ⟨#[32,38,32]⟩=factsT a.facts:=l3t_facts h h1 (by omega)
theorem fa_F0 {a:GAsn} (h2:¬ 0 < (a.facts.length:Int)):(⟨#[116,114,117,101]⟩:ByteArray)=factsT a.facts:=l3t_nofacts (by omega)
theorem fa_A {a:GAsn} {i:Nat} (h:i<=a.atoms.length) (h1:¬ i < a.atoms.length) (h2:0 < (a.atoms.length:Int)):joinB ((a.atoms.take i).map atomT) ⟨#[32,42,32]⟩=atomsT a.atoms:=by
 have:i=a.atoms.length:=by omega
 subst this
 unfold atomsT
 rw [if_neg (by omega),List.take_length]
theorem fa_A0 {a:GAsn} (h2:¬ 0 < (a.atoms.length:Int)):(⟨#[101,109,112]⟩:ByteArray)=atomsT a.atoms:=by
 unfold atomsT
 rw [if_pos (by omega)]
theorem fa_all {a:GAsn} (h:asV a=true) {F A:ByteArray} (hF:F=factsT a.facts) (hA:A=atomsT a.atoms):F ++ ⟨#[32,124,32]⟩ ++ A=if asV a=true then asnT a else ⟨#[]⟩:=by
 rw [if_pos h,hF,hA];rfl
theorem fa_sz {a:GAsn} (h:asV a=true) (i j:Nat):(joinB ((a.facts.take i).map factT) ⟨#[32,38,32]⟩).size<=132/\(joinB ((a.atoms.take j).map atomT) ⟨#[32,42,32]⟩).size<=60:=⟨jf_size (asV_facts h).2.1 i,ja_size (asV_facts h).2.2.2 j⟩
theorem bl_append (a b:ByteArray):a.data.toList ++ b.data.toList=(a ++ b).data.toList:=by rw [ByteArray.data_append,Array.toList_append]
theorem cm_end {l:List GCmd} {i:Nat} (h:i<=l.length) (h1:¬ i < l.length):cmL (l.take i)=cmL l:=by
 rw [show i=l.length by omega,List.take_length]
theorem cm_endB {l:List GCmd} {i:Nat} (h:i<=l.length) (h1:¬ i < l.length):(⟨List.toArray (cmL (l.take i)).data.toList⟩:ByteArray)=cmL l:=by
 rw [cm_end h h1,ba_list]
theorem bl_len (a:ByteArray):a.data.toList.length=a.size:=Array.length_toList
theorem ff_size (f:GFact):(if fV f=true then factT f else ⟨#[]⟩:ByteArray).size<=8:=by
 split
 ·exact factT_size f
 ·decide
theorem aa_size (a:GAsn):(if asV a=true then asnT a else ⟨#[]⟩:ByteArray).size<=199:=by
 split
 ·rename_i h;exact asnT_size h
 ·decide
theorem fok_inv {c:GCmd} (h:fokC c=true) (hk:c.kind=7):c.inv.facts.length<=281474976710656/\c.inv.atoms.length<=281474976710656:=by
 have:=asV_facts (fok7 h hk).1
 omega
section
variable {l:List GCmd} {i:Nat} {z:GCmd}
theorem bl_end (a:ByteArray):a.data.toList ++ [101,110,100,10]=(a ++ ⟨#[101,110,100,10]⟩:ByteArray).data.toList:=bl_append a ⟨#[101,110,100,10]⟩
theorem cmy_ie (hi:i < l.length) (hf:fokC (l.getD i z)=true) (hk:(l.getD i z).kind=6) (h:0 < ((l.getD i z).els.length:Int)) :
  (cmL (l.take i)).data.toList ++ ((⟨#[105,102,32]⟩ ++ (if fV (l.getD i z).test=true then factT (l.getD i z).test else ⟨#[]⟩)) ++ ⟨#[10]⟩ ++ cmL (l.getD i z).body:ByteArray).data.toList ++ (⟨#[101,108,115,101,10]⟩ ++ cmL (l.getD i z).els:ByteArray).data.toList ++ [101,110,100,10]=(cmL (l.take (i+1))).data.toList:=by
 rw [← cmx_ee (z:=z) hi h (.inl hk),lineT_if hk hf]
 simp only [bl_append,bl_end,ba_assoc]
theorem cmy_in (hi:i < l.length) (hf:fokC (l.getD i z)=true) (hk:(l.getD i z).kind=6) (h:¬ 0 < ((l.getD i z).els.length:Int)) :
  (cmL (l.take i)).data.toList ++ ((⟨#[105,102,32]⟩ ++ (if fV (l.getD i z).test=true then factT (l.getD i z).test else ⟨#[]⟩)) ++ ⟨#[10]⟩ ++ cmL (l.getD i z).body:ByteArray).data.toList ++ [101,110,100,10]=(cmL (l.take (i+1))).data.toList:=by
 rw [← cmx_n (z:=z) hi h (.inl hk),lineT_if hk hf]
 simp only [bl_append,bl_end,ba_assoc]
theorem cmy_wh (hi:i < l.length) (hf:fokC (l.getD i z)=true) (hk:(l.getD i z).kind=7) :
  (cmL (l.take i)).data.toList ++ ((⟨#[119,104,105,108,101,32]⟩ ++ (if fV (l.getD i z).test=true then factT (l.getD i z).test else ⟨#[]⟩)) ++ ⟨#[32,119,105,116,104,32]⟩ ++ (if asV (l.getD i z).inv=true then asnT (l.getD i z).inv else ⟨#[]⟩) ++ ⟨#[10]⟩:ByteArray).data.toList ++ (cmL (l.getD i z).body ++ ⟨#[101,110,100,10]⟩:ByteArray).data.toList=(cmL (l.take (i+1))).data.toList:=by
 rw [← cmx_n (z:=z) hi (by have:=(fok7 hf hk).2;omega) (.inr hk),lineT_wh hk hf]
 simp only [bl_append,ba_assoc]
theorem cmy_bs (hi:i < l.length) (hf:fokC (l.getD i z)=true) (h6:¬ (l.getD i z).kind=6) (h7:¬ (l.getD i z).kind=7) :
  (cmL (l.take i)).data.toList ++ (bscT (l.getD i z) ++ ⟨#[10]⟩:ByteArray).data.toList=(cmL (l.take (i+1))).data.toList:=by
 obtain ⟨_,hb,he⟩:=fok_kind hf h6 h7
 rw [← cmx_0 (z:=z) hi (by rw [he];decide) (by omega),lineT_bs h6 h7,hb,cmL_nil]
 simp only [bl_append,ba_assoc,ba_nil]
end
theorem cmy_nil:([]:List UInt8)=(cmL []).data.toList:=by rw [cmL_nil]
end Go.SE

namespace Go.SE
open Go.RowKit Go.Shelf Go.Proofs
variable [Base]
theorem prV_append {a b:List GCmd} (h:prV (a ++ b)=true):prV a=true/\prV b=true:=by
 simp only [prV,Bool.and_eq_true,decide_eq_true_eq,ndL_append] at h ⊢
 obtain ⟨h1,h2⟩:=h
 rw [shL_iff] at h1
 refine ⟨⟨?_,by omega⟩,⟨?_,by omega⟩⟩ <;> rw [shL_iff]
 ·exact ⟨.inr (by decide),fun c hc=>h1.2 c (List.mem_append_left _ hc)⟩
 ·exact ⟨.inr (by decide),fun c hc=>h1.2 c (List.mem_append_right _ hc)⟩
end Go.SE

namespace Go.SE
variable [Base]
open Go.RowKit
def bareA (a:Act):Act:={ a with defers:=[] }
def withD (a:Act) (ds:List Deferred):Act:={ a with defers:=ds }
theorem eval_bare (a:Act):(bareA a).eval=a.eval:=rfl
theorem withD_put (a:Act) (dst:Option Tmp) (v:Value):withD ((bareA a).put dst v) a.defers=a.put dst v:=by
 cases dst <;> rfl
theorem bare_put (a:Act) (dst:Option Tmp) (v:Value):bareA (a.put dst v)=(bareA a).put dst v:=by
 cases dst <;> rfl
theorem put_defers (a:Act) (dst:Option Tmp) (v:Value):(a.put dst v).defers=a.defers:=by
 cases dst <;> rfl
def FW (F:Fence):Prop:=F=Fence.wide ∨ ∃ l,F=Fence.wide.inRound l
theorem FW.fn {F:Fence} (h:FW F) (f:FuncId):F.fn f:=by rcases h with rfl | ⟨l,rfl⟩ <;> exact trivial
theorem FW.depth {F:Fence} (h:FW F):F.depth=none:=by rcases h with rfl | ⟨l,rfl⟩ <;> rfl
theorem FW.calls {F:Fence} (h:FW F) {n:Nat} {P:Program} {f:FuncId} {args:Array Value} {w:World} {R:Ending->World->Prop} (hc:Calls P f args w R):CallsIn F n P f args w R:=by
 rcases h with rfl | ⟨l,rfl⟩
 ·exact callsIn_wide.2 hc
 ·exact CallsIn.inRound l (callsIn_wide.2 hc)
theorem FW.rows {F:Fence} (h:FW F) {n:Nat} {P:Program} {row:String} {args:Array Value} {w:World} {R:Value->World->Prop} (hc:Rows P row args w R):RowsIn F n P row args w R:=by
 have:RowsIn Fence.wide n P row args w R:=fun c cs _=>let ⟨v,w',r,s⟩:=hc c cs;⟨v,w',r,stepsIn_wide.2 s⟩
 rcases h with rfl | ⟨l,rfl⟩
 ·exact this
 ·exact this
section
variable {F:Fence} {m:Nat} {P:Program} {E:Ty->TypeId} {tab:TypeId->Option TI} {K:FuncId->Option Con} {pts:FuncId->Option PT} {w0:World} {M:MM} {n:Nat}
abbrev QF:Exit->Act->World->Prop:=fun _ _ _=>False
theorem notOut:¬ LetsOut QF:=fun ⟨_,_,h⟩=>h
theorem wp_in (hF:FW F) {o:Oper} (hd:∀ c,o.op ≠ .defer c) {a:Act} {w:World} {next next':Act->World->Prop} {Q:Exit->Act->World->Prop}
  (h:o.wp P (bareA a) w next QF) (h0:∀ a' w',next a' w'->a'.defers=[]) (hn:∀ a' w',next a' w'->next' (withD a' a.defers) w'):o.wpIn F m P a w next' Q:=by
 refine ⟨fun f _=>hF.fn f,?_⟩
 rw [Oper.semAt_eq _ _ _ hd]
 unfold Oper.wp at h
 rw [eval_bare] at h
 have hput:∀ v w',next ((bareA a).put o.dst v) w'->next' (a.put o.dst v) w':=fun v w' h=>by
  have:=hn _ _ h
  rwa [withD_put] at this
 have hdep:F.depth.isSome=true->1<=m:=fun h=>by rw [hF.depth] at h;cases h
 generalize (execOp a.eval o).run P w=r at h ⊢
 cases r with
 | ok x w' =>
  cases x <;> simp only [Oper.upon] at h <;> simp only [Oper.uponIn]
  case value v=>exact hput v w' h
  case skip=>exact hput undef w' h
  case defer d =>
   have:=h0 _ _ h
   rw [put_defers] at this
   cases this
  case enter f args =>
   refine ⟨hdep,hF.calls (Calls.mono h fun e w'' he=>?_)⟩
   cases e with
   | returned v=>exact hput v w'' he
   | panicked c=>exact he.elim
   | outgrown=>exact (notOut he).elim
  case row row args=>exact ⟨hdep,hF.rows (Rows.mono h fun v w'' he=>hput v w'' he)⟩
 | halt x w' =>
  cases x <;> simp only [Oper.upon] at h
  exact h.elim
def noDefer (o:Oper):Bool:=match o.op with
 | .defer _=>false
 | _=>true
theorem noDefer_ok {o:Oper} (h:noDefer o=true):∀ c,o.op ≠ .defer c:=by
 intro c e
 unfold noDefer at h
 rw [e] at h
 cases h
def RelD (E:Ty->TypeId) (A:World->MM->Prop) (ds:List Deferred) (n:Nat) (st:St) (a:Act) (w:World):Prop :=
 a.defers=ds/\∃ w0 M,A w0 M/\Rel E w0 M n st (bareA a) w
variable {A:World->MM->Prop} {ds:List Deferred}
theorem RelD.size {st:St} {a:Act} {w:World} (h:RelD E A ds n st a w):a.tmps.size=n:=by
 obtain ⟨_,_,_,_,h⟩:=h
 exact h.size
theorem RelD.drawn {st:St} {a:Act} {w:World} (h:RelD E A ds n st a w):RelD E A ds n st a { w with drawn:=w.drawn+1 } :=
 let ⟨h1,w0,M,hA,hr⟩:=h
 ⟨h1,w0,M,hA,hr.drawn⟩
end
end Go.SE



namespace Go.SE
variable [Base]
open Go.RowKit
section
variable (Γ:Type)
abbrev SpOp:=Oper->St->Γ->Option ((St->Γ->Prop)->Prop)
abbrev SpCode:=Operand->Array Tmp->Code->Code->St->Γ->Option ((XK->St->Γ->Prop)->Prop)
end
section
variable {Γ:Type} (tab:TypeId->Option TI) (K:FuncId->Option Con) (pts:FuncId->Option PT) (sp:SpOp Γ)
structure AnnY (Γ:Type) where
 ann:Ann
 gh:ann.α->Γ
end
section
variable {Γ:Type} {F:Fence} {m:Nat} {P:Program} {E:Ty->TypeId} {tab:TypeId->Option TI} {K:FuncId->Option Con} {pts:FuncId->Option PT} {sp:SpOp Γ} {spc:SpCode Γ} {drg:Γ->Bool} {hp:Nat->Bool} {gcs:Nat->Option (List Nat × List Nat)} {anns:Nat->St->Γ->Option (AnnY Γ)} {perm:Nat->List (List Nat)} {n:Nat}
 {A:Γ->List Deferred->World->MM->Prop}
def RelY (E:Ty->TypeId) (A:Γ->List Deferred->World->MM->Prop) (n:Nat) (st:St) (γ:Γ) (a:Act) (w:World):Prop :=
 ∃ w0 M,A γ a.defers w0 M/\Rel E w0 M n st (bareA a) w
theorem RelY.nb {st:St} {γ:Γ} {a:Act} {w:World} (h:RelY E A n st γ a w):BaseIn w :=
 let ⟨_,_,_,hr⟩:=h
 let ⟨_,hg,_⟩:=hr.good
 hg.roin.1
theorem RelY.d {st:St} {γ:Γ} {a:Act} {w:World} (h:RelY E A n st γ a w):RelD E (A γ a.defers) a.defers n st a w :=
 let ⟨w0,M,hA,hr⟩:=h
 ⟨rfl,w0,M,hA,hr⟩
theorem RelD.y {st:St} {γ:Γ} {ds:List Deferred} {a:Act} {w:World} (h:RelD E (A γ ds) ds n st a w):RelY E A n st γ a w:=by
 obtain ⟨rfl,w0,M,hA,hr⟩:=h
 exact ⟨w0,M,hA,hr⟩
end
end Go.SE

namespace Go.SE
variable [Base]
open Go.RowKit
structure Fp where
 d:Nat->Prop
 r:Nat->Prop
structure Fr (p p':Fp) (w w':World):Prop where
 os:w'.os=w.os
 tape:w'.tape=w.tape
 output:w'.output=w.output
 size:w.heap.size<=w'.heap.size
 block:∀ b,b < w.heap.size->¬ p.d b->w'.heap[b]?=w.heap[b]?
 sub:∀ b,p'.d b->p.d b ∨ w.heap.size<=b
 subr:∀ b,p'.r b->p.r b ∨ p.d b ∨ w.heap.size<=b
theorem Fr.refl (p:Fp) (w:World):Fr p p w w:=⟨rfl,rfl,rfl,Nat.le_refl _,fun _ _ _=>rfl,fun _ h=>.inl h,fun _ h=>.inl h⟩
theorem Fr.trans {p p' p'':Fp} {a b c:World} (h:Fr p p' a b) (k:Fr p' p'' b c):Fr p p'' a c :=
 ⟨k.os.trans h.os,k.tape.trans h.tape,k.output.trans h.output,Nat.le_trans h.size k.size,
  fun i hi hd=>(k.block i (Nat.lt_of_lt_of_le hi h.size) fun hd'=>by rcases h.sub i hd' with h1 | h1;exact hd h1;omega).trans (h.block i hi hd),
  fun i hd=>by
   rcases k.sub i hd with h1 | h1
   ·exact h.sub i h1
   ·exact .inr (Nat.le_trans h.size h1),
  fun i hd=>by
   rcases k.subr i hd with h1 | h1 | h1
   ·exact h.subr i h1
   ·exact (h.sub i h1).elim (fun h=>.inr (.inl h)) fun h=>.inr (.inr h)
   ·exact .inr (.inr (Nat.le_trans h.size h1))⟩
structure JJ (Γ:Type) where
 J:Γ->Fp->World->Prop
 lt:∀ {γ p w b},J γ p w->p.d b ∨ p.r b->b < w.heap.size
 frame:∀ {γ p w w'},J γ p w->w'.os=w.os->w'.tape=w.tape->w'.output=w.output->w.heap.size<=w'.heap.size->(∀ b,p.d b ∨ p.r b->w'.heap[b]?=w.heap[b]?)->J γ p w'
section
variable {Γ:Type} {E:Ty->TypeId} {n:Nat}
structure FrX (X:Nat->Prop) (p p':Fp) (w w':World):Prop where
 os:w'.os=w.os
 tape:w'.tape=w.tape
 output:w'.output=w.output
 size:w.heap.size<=w'.heap.size
 block:∀ b,b < w.heap.size->¬ p.d b->¬ X b->w'.heap[b]?=w.heap[b]?
 sub:∀ b,p'.d b->p.d b ∨ w.heap.size<=b
 subr:∀ b,p'.r b->p.r b ∨ p.d b ∨ w.heap.size<=b
theorem FrX.refl (X:Nat->Prop) (p:Fp) (w:World):FrX X p p w w:=⟨rfl,rfl,rfl,Nat.le_refl _,fun _ _ _ _=>rfl,fun _ h=>.inl h,fun _ h=>.inl h⟩
theorem FrX.fr {X:Nat->Prop} {p p':Fp} {w w':World} (h:FrX X p p' w w') (hX:∀ b,¬ X b):Fr p p' w w':=⟨h.os,h.tape,h.output,h.size,fun b h1 h2=>h.block b h1 h2 (hX b),h.sub,h.subr⟩
theorem FrX.trans {X:Nat->Prop} {p p' p'':Fp} {a b c:World} (h:FrX X p p' a b) (k:Fr p' p'' b c):FrX X p p'' a c :=
 ⟨k.os.trans h.os,k.tape.trans h.tape,k.output.trans h.output,Nat.le_trans h.size k.size,
  fun i hi hd hx=>(k.block i (Nat.lt_of_lt_of_le hi h.size) fun hd'=>by rcases h.sub i hd' with h1 | h1;exact hd h1;omega).trans (h.block i hi hd hx),
  fun i hd=>by
   rcases k.sub i hd with h1 | h1
   ·exact h.sub i h1
   ·exact .inr (Nat.le_trans h.size h1),
  fun i hd=>by
   rcases k.subr i hd with h1 | h1 | h1
   ·exact h.subr i h1
   ·exact (h.sub i h1).elim (fun h=>.inr (.inl h)) fun h=>.inr (.inr h)
   ·exact .inr (.inr (Nat.le_trans h.size h1))⟩
def AnE (J:JJ Γ) (wE:World) (X:Nat->Prop) (DE:Fp):Γ->List Deferred->World->MM->Prop:=fun γ ds w0 M =>
 ds=[]/\(∀ id,M.pin id=none/\M.pinl id=none)/\∃ D:Fp,J.J γ D w0/\(∀ b,D.d b ∨ D.r b->¬ M.can b)/\(∀ b,D.d b->M.ro b=none)/\(∀ b,M.can b->X b ∨ wE.heap.size<=b)/\FrX X DE D wE w0/\∀ b,D.d b->Base.nz<=b
theorem AnE.oo {J:JJ Γ} {wE:World} {X:Nat->Prop} {DE:Fp} {γ:Γ} {ds:List Deferred} {w0:World} {M:MM} (h:AnE J wE X DE γ ds w0 M):OOk (fun _=>none) M :=
 ⟨fun id r hr=>(by simp at hr),fun id h'=>by rw [(h.2.1 id).1,(h.2.1 id).2] at h';simp at h',fun id h'=>by simp at h'⟩
def reM (g:G) (st:St):MM:={ can:=fun b=>∃ id r,st.mem id=some r/\r.live/\blkOf (g.κ id)=some b,ro:=g.ro,rho:=g.ρ }
theorem Rel.re {w0:World} {M:MM} {st:St} {a:Act} {w w':World} {g:G} (h:Rel E w0 M n st a w) (hg:Good E w0 M g st w) (henv:∀ x,(st.env x).R g (a.tmps.getD x undef)) (hrd:st.rd=none)
  (h1:∀ b,(∃ id r,st.mem id=some r/\r.live/\blkOf (g.κ id)=some b)->w'.heap[b]?=w.heap[b]?) (h2:∀ b vs,g.ro b=some vs->w'.heap[b]?=w.heap[b]?) (h3:w.heap.size<=w'.heap.size) (hB:BaseIn w'):Rel E w' (reM g st) n st a w':=by
 refine ⟨h.cl,h.size,h.defers,g,⟨Ext.refl _ _,?_,?_,hg.sep,?_,hg.wro,?_,?_,fun b vs hb=>.inl hb,⟨rfl,hB,fun b hb=>by obtain ⟨id,r,hm,hl,hb⟩:=hb;exact .inl (hg.nb hm hl hb)⟩,fun id v hv=>?_,fun id k hk=>?_,fun b vs hb=>?_⟩,henv⟩
 ·intro b vs hb
  obtain ⟨ty,fz,h3,hq_⟩:=hg.ro b vs hb
  exact ⟨ty,fz,by rw [h2 b vs hb];exact h3,hq_⟩
 ·intro id r hr
  by_cases hl:r.live
  ·exact (hg.res id r hr).keep (fun b hb=>h1 b ⟨id,r,hr,hl,hb⟩) (fun _ _ h=>h) rfl ⟨rfl,rfl⟩ fun _ _=>⟨rfl,rfl⟩
  ·cases r <;> first | exact (hl trivial).elim | trivial
 ·intro id r hr hl b hb
  exact .inr ⟨id,r,hr,hl,hb⟩
 ·intro k hk;rw [hrd] at hk;cases hk
 ·intro hk;exact absurd hrd hk
 ·cases hv
 ·cases hk
 ·cases hb
theorem eff {J:JJ Γ} {wE:World} {X:Nat->Prop} {DE:Fp} {st:St} {γ:Γ} {a:Act} {w:World} (h:RelY E (AnE J wE X DE) n st γ a w) (hrd:st.rd=none) :
  ∃ (D:Fp) (g:G),J.J γ D w/\FrX X DE D wE w/\(∀ x,(st.env x).R g (a.tmps.getD x undef))/\(∀ b vs,g.ro b=some vs->(Seen w b vs)/\¬ D.d b) /\
   (∀ id r,st.mem id=some r->ResR E w g id r/\(r.live->∀ b,blkOf (g.κ id)=some b->¬ D.d b/\¬ D.r b)) /\
   ∀ γ' (D':Fp) w',J.J γ' D' w'->Fr D D' w w'->∀ (dst:Option Tmp) (v:Value) (s:S),(∀ d,dst=some d->d < n)->(∀ g,s.R g v)->s.refs=[] ->
    RelY E (AnE J wE X DE) n (St.put st dst s) γ' (a.put dst v) w':=by
 obtain ⟨w0,M,⟨hds,hpin,D,hJ,hD,hDro,hcan,hfr,hnz⟩,hr⟩:=h
 obtain ⟨g,hg,henv⟩:=hr.good
 have hext:=hg.ext
 have hDw:∀ b,D.d b ∨ D.r b->w.heap[b]?=w0.heap[b]?:=fun b hb=>hext.block b (J.lt hJ hb) (hD b hb)
 have hJw:J.J γ D w:=J.frame hJ hext.os hext.tape hext.output hext.size hDw
 have hlive:∀ id r,st.mem id=some r->r.live->∀ b,blkOf (g.κ id)=some b->¬ (D.d b ∨ D.r b):=fun id r hm hl b hb hd=>by
  rcases hg.fresh id r hm hl b hb with h1 | h1
  ·have:=J.lt hJ hd;omega
  ·exact hD b hd h1
 have hro:∀ b vs,g.ro b=some vs->¬ D.d b:=fun b vs hb hd=>by
  rcases hg.roo b vs hb with h1 | h1 | h1
  ·rw [hDro b hd] at h1;cases h1
  ·have:=J.lt hJ (.inl hd);omega
  ·exact hD b (.inl hd) h1
 have hfrw:FrX X DE D wE w:=by
  refine ⟨hext.os.trans hfr.os,hext.tape.trans hfr.tape,hext.output.trans hfr.output,Nat.le_trans hfr.size hext.size,fun b hb hd hx=>?_,hfr.sub,hfr.subr⟩
  rw [hext.block b (Nat.lt_of_lt_of_le hb hfr.size) fun hc=>by
   rcases hcan b hc with h1 | h1
   ·exact hx h1
   ·omega]
  exact hfr.block b hb hd hx
 refine ⟨D,g,hJw,hfrw,henv,fun b vs hb=>⟨hg.ro b vs hb,hro b vs hb⟩,fun id r hm=>⟨hg.res id r hm,fun hl b hb=>⟨fun h=>hlive id r hm hl b hb (.inl h),fun h=>hlive id r hm hl b hb (.inr h)⟩⟩,?_⟩
 intro γ' D' w' hJ' hF dst v s hd hs href
 have hlt:∀ b,(∃ id r,st.mem id=some r/\r.live/\blkOf (g.κ id)=some b)->b < w.heap.size:=fun b ⟨id,r,hm,hl,hb⟩=>(hg.res id r hm).lt hl hb
 have hlt2:∀ b vs,g.ro b=some vs->b < w.heap.size:=fun b vs hb=>by obtain ⟨_,_,h3,hq_⟩:=hg.ro b vs hb;exact lt_of_some h3
 have hre:Rel E w' (reM g st) n st (bareA a) w':=hr.re hg henv hrd (fun b hb=>hF.block b (hlt b hb) (by obtain ⟨id,r,hm,hl,hb⟩:=hb;exact fun h=>hlive id r hm hl b hb (.inl h))) (fun b vs hb=>hF.block b (hlt2 b vs hb) (hro b vs hb)) hF.size (hg.bin.next hF.size fun b hb hlt=>hF.block b hlt fun hd=>Nat.not_lt.2 (hnz b hd) hb)
 obtain ⟨g',hg',henv'⟩:=hre.good
 refine ⟨w',reM g st,⟨by rw [put_defers];exact hds,fun _=>⟨rfl,rfl⟩,D',hJ',fun b hb hc=>?_,fun b hb=>?_,fun b hc=>?_,?_,fun b hd=>(hF.sub b hd).elim (hnz b) fun h1=>Nat.le_trans Base.le (Nat.le_trans hg.bin.le h1)⟩,?_⟩
 ·have h1:=hlt b hc
  obtain ⟨id,r,hm,hl,hbk⟩:=hc
  rcases hb with hb | hb
  ·rcases hF.sub b hb with h2 | h2
   ·exact hlive id r hm hl b hbk (.inl h2)
   ·omega
  ·rcases hF.subr b hb with h2 | h2 | h2
   ·exact hlive id r hm hl b hbk (.inr h2)
   ·exact hlive id r hm hl b hbk (.inl h2)
   ·omega
 ·show g.ro b=none
  cases hgb:g.ro b with
  | none=>rfl
  | some vs =>
   have h1:=hlt2 b vs hgb
   rcases hF.sub b hb with h2 | h2
   ·exact (hro b vs hgb h2).elim
   ·omega
 ·obtain ⟨id,r,hm,hl,hbk⟩:=hc
  rcases hg.fresh id r hm hl b hbk with h1 | h1
  ·exact .inr (Nat.le_trans hfr.size h1)
  ·exact hcan b h1
 ·exact hfrw.trans hF
 ·rw [bare_put]
  have hm:(St.put st dst s).mem=st.mem:=by cases dst <;> rfl
  refine ⟨⟨?_,by rw [hm];exact hre.cl.2⟩,?_,?_,g',hg'.env (by cases dst <;> rfl) (by cases dst <;> rfl) (by cases dst <;> rfl) (by cases dst <;> rfl),?_⟩
  ·intro x id hid
   rw [hm]
   cases dst with
   | none=>exact hre.cl.1 x id hid
   | some d =>
    by_cases e:x=d
    ·subst e;simp only [St.put,upd_same,href] at hid;cases hid
    ·simp only [St.put,upd_ne _ _ e] at hid;exact hre.cl.1 x id hid
  ·cases dst <;> simp [Act.put,hre.size]
  ·rw [put_defers];exact hre.defers
  ·intro x
   rw [put_get (by rw [hre.size];exact hd)]
   cases dst with
   | none=>simpa [St.put] using henv' x
   | some d =>
    by_cases e:x=d
    ·subst e;simp only [St.put,upd_same];simpa using hs g'
    ·have:¬ (some d=some x):=fun h=>e (by injection h with h;exact h.symm)
     rw [if_neg this]
     simp only [St.put,upd_ne _ _ e]
     exact henv' x
end
end Go.SE

namespace Go.SE
variable [Base]
open Go.RowKit
end Go.SE

namespace Go.SE
variable [Base]
open Go.RowKit
def cl (c:List Int) (t:Int):Int:=c.getD t.toNat 0
def stE (c:List Int) (x:GAtom):Bool:=x.kind == 1 && decide (0<=cl c x.a)
def est (c:List Int) (l:List GAtom):List Int:=(l.filter (stE c)).map fun x=>cl c x.a
end Go.SE

namespace Go.SE
variable [Base]
open Go.RowKit
def hz (a:GAsn) (q:Int->Bool):Nat->Bool:=fun k=>isT (k:Int) && (((k:Int) == 0) || (occ a k || q k))
end Go.SE

namespace Go.SE
variable [Base]
open Go.RowKit
end Go.SE

namespace Go.SE
variable [Base]
open Go.RowKit
end Go.SE
namespace Go.SE
open Go.RowKit
end Go.SE
namespace Go.SE
variable [Base]
open Go.RowKit
end Go.SE

namespace Go.SE
variable [Base]
open Go.RowKit
end Go.SE

namespace Go.SE
variable [Base]
open Go.RowKit
end Go.SE
namespace Go.SE
open Go.RowKit
end Go.SE
namespace Go.SE
variable [Base]
open Go.RowKit
end Go.SE
namespace Go.SE
open Go.RowKit
end Go.SE
namespace Go.SE
variable [Base]
open Go.RowKit
end Go.SE

namespace Go.SE
variable [Base]
end Go.SE
namespace Go.SE
structure SimL (l:List GCmd):Prop where
 pos:0 < l.length
 len:l.length<=16
 all:∀ c ∈ l,c.body=[]/\c.els=[]/\c.inv=⟨[],[]⟩
end Go.SE
namespace Go.SE
variable [Base]
theorem SimL.one {c:GCmd} (h1:c.body=[]) (h2:c.els=[]) (h3:c.inv=⟨[],[]⟩):SimL [c]:=⟨by simp,by simp,by simp [h1,h2,h3]⟩
theorem wtC_sim {c:GCmd} (h1:c.body=[]) (h2:c.els=[]) (h3:c.inv=⟨[],[]⟩):wtC c=0:=by
 rw [wtC_eq,h1,h2,h3];simp [wcL]
end Go.SE

namespace Go.SE
variable [Base]
open Go.RowKit
section
variable {P:Program}
def OkAQ (w:World) (a:Addr):Prop:=∃ vs ty,w.heap[a.block]?=some (.cells vs ty (0,0))
def kv (a b:Addr) (n:Int):Value:=.agg #[.pointer (some a),.pointer (some b),.int .i64 n]
end
end Go.SE

namespace Go.SE
open Go.RowKit
variable [Base]
theorem DR.val_eq {ro:Nat->Option (Array Value)} {x v:Value} (h:DR ro (.val x) v):v=x:=by
 generalize hc:DC.val x=c at h
 cases h with
 | val x' h=>injection hc with hc;exact hc.symm
 | nil=>cases hc
 | emp=>cases hc
 | arr=>cases hc
 | fix=>cases hc
 | ne=>cases hc
theorem DR.xplace {ro:Nat->Option (Array Value)} {xs:List XCmd} {v:Value} (h:DR ro (.arr .xcmd xs) v) (h0:0 < xs.length) :
  ∃ b o cap vs,v=.slice (some ⟨b,o,none⟩) xs.length cap/\ptrAt v 0=.pointer (some ⟨b,o,none⟩)/\ro b=some vs/\Base.n0<=b/\xs.length<=cap/\cap<=maxLen/\RowR ro (flat .xcmd xs) vs o:=by
 rcases h.arr_inv with ⟨_,h2⟩ | ⟨b,o,cap,vs,h1,h2,h3,h4,h5,h6⟩
 ·subst h2;simp at h0
 ·exact ⟨b,o,cap,vs,h1,by rw [h1];simp [ptrAt],h2,(h6 rfl).1,h3,h4,h5⟩
end Go.SE

namespace Go.SE
variable [Base]
open Go.RowKit
abbrev XP:=(List XCmd × Value) × (List XCmd × Value)
abbrev MG:=Option (Nat × List XP)
def keyOf (p:XP):Value:=.agg #[ptrAt p.1.2 0,ptrAt p.2.2 0,.int .i64 p.1.1.length]
structure PairD (ro:Nat->Option (Array Value)) (p:XP):Prop where
 a:DR ro (.arr .xcmd p.1.1) p.1.2
 b:DR ro (.arr .xcmd p.2.1) p.2.2
 n:0 < p.1.1.length
 l:p.1.1.length=p.2.1.length
structure AMap (wE w0:World) (M:MM) (mb:Nat) (S:List XP):Prop where
 ge:wE.heap.size<=mb
 no:¬ M.can mb
 ps:∀ q ∈ S,PairD M.rok q
 hp:∃ es ck,w0.heap[mb]?=some (.map es ck)/\∀ e ∈ es.toList,e.val=.int .i64 1/\∃ q ∈ S,e.key=keyOf q
def AMm (wE w0:World) (M:MM):MG->Prop
 | none=>True
 | some (mb,S)=>AMap wE w0 M mb S
def AM (wE:World) (ro0:Nat->Option (Array Value)) (ρ:Nat):MG->List Deferred->World->MM->Prop:=fun γ ds w0 M =>
 ds=[]/\(∀ id,M.pin id=none/\M.pinl id=none)/\Ext (fun _=>False) wE w0/\(∀ b,M.can b->wE.heap.size<=b)/\(∀ b vs,M.ro b=some vs->ro0 b=some vs ∨ wE.heap.size<=b)/\M.rho=ρ/\AMm wE w0 M γ
section
variable {P:Program} {E:Ty->TypeId} {n:Nat} {wE w w0 w':World} {ro0:Nat->Option (Array Value)} {ρ:Nat} {γ γ':MG} {ds:List Deferred} {M:MM} {g:G} {st:St} {a:Act}
theorem AM.oo (h:AM wE ro0 ρ γ ds w0 M):OOk (fun _=>none) M :=
 ⟨fun id r hr=>(by simp at hr),fun id h'=>by rw [(h.2.1 id).1,(h.2.1 id).2] at h';simp at h',fun id h'=>by simp at h'⟩
theorem AM.ext (h:AM wE ro0 ρ γ ds w0 M) (hg:Good E w0 M g st w):Ext (fun _=>False) wE w:=by
 obtain ⟨_,_,he,hcan,_⟩:=h
 refine ⟨hg.ext.os.trans he.os,hg.ext.tape.trans he.tape,hg.ext.output.trans he.output,Nat.le_trans he.size hg.ext.size,fun b hb _=>?_⟩
 rw [hg.ext.block b (Nat.lt_of_lt_of_le hb he.size) fun hc=>by have:=hcan b hc;omega]
 exact he.block b hb fun h=>h
theorem AM.good (h:AM wE ro0 ρ γ ds w0 M) (hg:Good E w0 M g st w) (hrd:st.rd=none) (hE:BaseIn wE):Good E wE (MOf false ρ ro0) g st w:=by
 have hx:=h.ext hg
 obtain ⟨_,_,he,hcan,hro,hrho,_⟩:=h
 refine ⟨⟨hx.os,hx.tape,hx.output,hx.size,fun b hb _=>hx.block b hb fun h=>h⟩,hg.ro,hg.res,hg.sep,fun id r hm hl b hb=>?_,hg.wro,?_,?_,fun b vs hb=>?_,⟨hg.rho.1.trans hrho,hE,fun b hb=>by cases hb.1⟩,fun _ _ h=>(by cases h),fun _ _ h=>(by cases h),fun _ _ h=>(by cases h)⟩
 ·rcases hg.fresh id r hm hl b hb with h1 | h1
  ·exact .inl (Nat.le_trans he.size h1)
  ·exact .inl (hcan b h1)
 ·intro k hk;rw [hrd] at hk;cases hk
 ·intro hk;exact absurd hrd hk
 ·rcases hg.roo b vs hb with h1 | h1 | h1
  ·rcases hro b vs h1 with h2 | h2
   ·exact .inl h2
   ·exact .inr (.inl h2)
  ·exact .inr (.inl (Nat.le_trans he.size h1))
  ·exact .inr (.inl (hcan b h1))
def reK (g:G) (st:St):MM:={ can:=fun b=>∃ id r,st.mem id=some r/\r.live/\blkOf (g.κ id)=some b,ro:=g.ro,rho:=g.ρ,rok:=g.ro }
theorem Good.reK {w0:World} {M:MM} (hg:Good E w0 M g st w) (hrd:st.rd=none) (h1:∀ b,(∃ id r,st.mem id=some r/\r.live/\blkOf (g.κ id)=some b)->w'.heap[b]?=w.heap[b]?)
  (h2:∀ b vs,g.ro b=some vs->w'.heap[b]?=w.heap[b]?) (hB:BaseIn w'):Good E w' (reK g st) g st w':=by
 refine ⟨Ext.refl _ _,?_,?_,hg.sep,?_,hg.wro,?_,?_,fun b vs hb=>.inl hb,⟨rfl,hB,fun b hb=>by obtain ⟨id,r,hm,hl,hb⟩:=hb;exact .inl (hg.nb hm hl hb)⟩,fun id v hv=>?_,fun id k hk=>?_,fun b vs hb=>hb⟩
 ·intro b vs hb
  exact (hg.ro b vs hb).keep fun _=>h2 b vs hb
 ·intro id r hr
  by_cases hl:r.live
  ·exact (hg.res id r hr).keep (fun b hb=>h1 b ⟨id,r,hr,hl,hb⟩) (fun _ _ h=>h) rfl ⟨rfl,rfl⟩ fun _ _=>⟨rfl,rfl⟩
  ·cases r <;> first | exact (hl trivial).elim | trivial
 ·intro id r hr hl b hb
  exact .inr ⟨id,r,hr,hl,hb⟩
 ·intro k hk;rw [hrd] at hk;cases hk
 ·intro hk;exact absurd hrd hk
 ·cases hv
 ·cases hk
theorem ResR.cells {r:Res} {id:Nat} (h:ResR E w g id r) (hl:r.live) {b:Nat} (hb:blkOf (g.κ id)=some b):∃ vs ty,w.heap[b]?=some (.cells vs ty (0,0)):=by
 cases r with
 | blk cs =>
  obtain ⟨b',vs,ty,h1,h2,_⟩:=h
  rw [h1] at hb;simp [blkOf] at hb;subst hb;exact ⟨_,_,h2⟩
 | vec t xs =>
  obtain ⟨_,b',vs,ty,h1,h2,_⟩:=h
  rw [h1] at hb;simp [blkOf] at hb;subst hb;exact ⟨_,_,h2⟩
 | sl f t xs =>
  obtain ⟨_,h⟩:=h
  rcases h with ⟨h1,_⟩ | ⟨b',_,vs,h1,h2,_⟩
  ·rw [h1] at hb;simp [blkOf] at hb
  ·rw [h1] at hb;simp [blkOf] at hb;subst hb;exact ⟨_,_,h2⟩
 | bld T k =>
  obtain ⟨b',_,h1,h2,_⟩:=h
  rw [h1] at hb;simp [blkOf] at hb;subst hb;exact ⟨_,_,h2⟩
 | dead=>exact hl.elim
theorem AM.re (h:AM wE ro0 ρ γ a.defers w0 M) (hr:Rel E w0 M n st (bareA a) w) (hg:Good E w0 M g st w) (henv:∀ x,(st.env x).R g (a.tmps.getD x undef)) (hrd:st.rd=none)
  (hos:w'.os=w.os) (htape:w'.tape=w.tape) (hout:w'.output=w.output) (hsz:w.heap.size<=w'.heap.size)
  (hb:∀ b,b < w.heap.size->(∀ es ck,w.heap[b]? ≠ some (.map es ck))->w'.heap[b]?=w.heap[b]?) (hold:∀ b,b < wE.heap.size->w'.heap[b]?=w.heap[b]?)
  (hm:AMm wE w' (reK g st) γ') {dst:Option Tmp} {v:Value} {s:S} (hd:∀ d,dst=some d->d < n) (hs:s.R g v) (href:s.refs=[]):RelY E (AM wE ro0 ρ) n (St.put st dst s) γ' (a.put dst v) w':=by
 have hx:=h.ext hg
 obtain ⟨hds,hpin,he,hcan,hro,hrho,_⟩:=h
 have hlive:∀ b,(∃ id r,st.mem id=some r/\r.live/\blkOf (g.κ id)=some b)->w'.heap[b]?=w.heap[b]?:=fun b ⟨id,r,hm,hl,hbk⟩=>by
  obtain ⟨vs,ty,h1⟩:=(hg.res id r hm).cells hl hbk
  exact hb b (lt_of_some h1) fun es ck=>by rw [h1];simp
 have hrow:∀ b vs,g.ro b=some vs->w'.heap[b]?=w.heap[b]?:=fun b vs hbv=>by
  obtain ⟨ty,fz,h1,_⟩:=hg.ro b vs hbv
  exact hb b (lt_of_some h1) fun es ck=>by rw [h1];simp
 have hg':=hg.reK (w':=w') hrd hlive hrow ⟨Nat.le_trans hg.bin.le hsz,fun b vs e=>(hg.bin.gv b vs e).keep fun hlt=>hb b hlt fun es ck=>by
  obtain ⟨ty,fz,h1,_⟩:=hg.bin.gv b vs e
  rw [h1];simp⟩
 refine ⟨w',SE.reK g st,⟨by rw [put_defers];exact hds,fun _=>⟨rfl,rfl⟩,⟨hos.trans hx.os,htape.trans hx.tape,hout.trans hx.output,Nat.le_trans hx.size hsz,fun b hb' _=>?_⟩,fun b hc=>?_,fun b vs hbv=>?_,hg.rho.1.trans hrho,hm⟩,?_⟩
 ·rw [hold b hb'];exact hx.block b hb' fun h=>h
 ·obtain ⟨id,r,hm,hl,hbk⟩:=hc
  rcases hg.fresh id r hm hl b hbk with h1 | h1
  ·exact Nat.le_trans he.size h1
  ·exact hcan b h1
 ·rcases hg.roo b vs hbv with h1 | h1 | h1
  ·exact hro b vs h1
  ·exact .inr (Nat.le_trans he.size h1)
  ·exact .inr (hcan b h1)
 ·rw [bare_put]
  have hm:(St.put st dst s).mem=st.mem:=by cases dst <;> rfl
  refine ⟨⟨?_,by rw [hm];exact hr.cl.2⟩,?_,?_,g,hg'.env (by cases dst <;> rfl) (by cases dst <;> rfl) (by cases dst <;> rfl) (by cases dst <;> rfl),?_⟩
  ·intro x id hid
   rw [hm]
   cases dst with
   | none=>exact hr.cl.1 x id hid
   | some d =>
    by_cases e:x=d
    ·subst e;simp only [St.put,upd_same,href] at hid;cases hid
    ·simp only [St.put,upd_ne _ _ e] at hid;exact hr.cl.1 x id hid
  ·cases dst <;> simp [Act.put,hr.size]
  ·rw [put_defers];exact hr.defers
  ·intro x
   rw [put_get (by rw [hr.size];exact hd)]
   cases dst with
   | none=>simpa [St.put,bareA] using henv x
   | some d =>
    by_cases e:x=d
    ·subst e;simp only [St.put,upd_same];simpa using hs
    ·have:¬ (some d=some x):=fun h=>e (by injection h with h;exact h.symm)
     rw [if_neg this]
     simp only [St.put,upd_ne _ _ e]
     exact henv x
end
end Go.SE

namespace Go.SE
variable [Base]
open Go.RowKit
section
variable {P:Program} {E:Ty->TypeId} {n:Nat} {wE w w0:World} {ro0:Nat->Option (Array Value)} {ρ:Nat} {γ:MG} {M:MM} {g:G} {st:St} {a:Act}
theorem PairD.key {p:XP} (h:PairD g.ro p) (hg:Good E w0 M g st w):∃ a b,keyOf p=kv a b p.1.1.length/\OkAQ w a/\OkAQ w b/\ptrAt p.1.2 0=.pointer (some a)/\ptrAt p.2.2 0=.pointer (some b):=by
 obtain ⟨b,o,cap,vs,h1,h2,h3,h4,_⟩:=h.a.xplace h.n
 obtain ⟨b',o',cap',vs',k1,k2,k3,k4,_⟩:=h.b.xplace (by rw [← h.l];exact h.n)
 obtain ⟨ty,fz,q1,q2⟩:=hg.ro b vs h3
 obtain ⟨ty',fz',q3,q4⟩:=hg.ro b' vs' k3
 refine ⟨⟨b,o,none⟩,⟨b',o',none⟩,by rw [keyOf,h2,k2];rfl,⟨vs,ty,by rw [q1,q2 (Nat.le_trans Base.le h4)]⟩,⟨vs',ty',by rw [q3,q4 (Nat.le_trans Base.le k4)]⟩,h2,k2⟩
end
end Go.SE

namespace Go.SE
variable [Base]
open Go.RowKit
section
variable {P:Program} {E:Ty->TypeId} {tab:TypeId->Option TI} {n:Nat} {wE w w0:World} {ro0:Nat->Option (Array Value)} {ρ:Nat} {γ:MG} {M:MM} {g:G} {st:St} {a:Act}
theorem wp_skip {F:Fence} {m:Nat} (hF:FW F) {o:Oper} (hnd:noDefer o=true) (hdst:o.dst=none) {w':World} (hrun:(execOp a.eval o).run P w=.ok .skip w') {next:Act->World->Prop} {Q:Exit->Act->World->Prop} (hn:next a w'):o.wpIn F m P a w next Q:=by
 refine wp_in hF (noDefer_ok hnd) (next:=fun a' w''=>a'=bareA a/\w''=w') ?_ (fun a' w'' ⟨h,_⟩=>by rw [h];rfl) fun a' w'' ⟨h,e⟩=>?_
 ·unfold Oper.wp
  rw [eval_bare,hrun,Oper.upon_skip,hdst]
  exact ⟨rfl,rfl⟩
 ·rw [h,e]
  have:withD (bareA a) a.defers=a:=by cases a;rfl
  rw [this];exact hn
end
end Go.SE

namespace Go.SE
open Go.RowKit
theorem list_choose {α:Type} (z:α) {p:Nat->α->Prop}:∀ n,(∀ i,i < n->∃ c,p i c)->∃ l:List α,l.length=n/\∀ i,i < n->p i (l.getD i z):=by
 intro n h
 classical
 refine ⟨(List.range n).map fun i=>if hi:i < n then (h i hi).choose else z,by simp,fun i hi=>?_⟩
 have e:((List.range n).map fun i=>if hi:i < n then (h i hi).choose else z).getD i z=(h i hi).choose:=by
  simp [List.getD_eq_getElem?_getD,hi]
 rw [e]
 exact (h i hi).choose_spec
end Go.SE
namespace Go.SE
variable [Base]
open Go.RowKit
theorem RowR.of_get {ro:Nat->Option (Array Value)} {t:Ty} {xs:List t.den} {vs:Array Value} {o:Nat} (h:∀ i,i < xs.length->∀ j c,(t.cells (xs.getD i t.zero))[j]?=some c->∃ u,vs[o+(i * t.sz+j)]?=some u/\DR ro c u):RowR ro (flat t xs) vs o:=by
 intro k c hk
 have hlt:k < xs.length * t.sz:=by rw [← flat_len];exact (List.getElem?_eq_some_iff.1 hk).1
 have hs:0 < t.sz:=by cases t <;> decide
 have h1:k / t.sz < xs.length:=(Nat.div_lt_iff_lt_mul hs).2 hlt
 have h2:k % t.sz < t.sz:=Nat.mod_lt _ hs
 have e:k / t.sz * t.sz+k % t.sz=k:=by rw [Nat.mul_comm];exact Nat.div_add_mod k t.sz
 have h3:=flat_get t xs (k / t.sz) (k % t.sz) h1 h2
 rw [e,hk] at h3
 have:=h _ h1 (k % t.sz) c h3.symm
 rwa [e] at this
end Go.SE

namespace Go.SE
open Go.RowKit
def datE (r k:XP):Prop:=r.1.1=k.1.1/\r.2.1=k.2.1
def Cov (O S:List XP) (k:XP):Prop:=(∃ r ∈ O,datE r k) ∨ (∃ r ∈ S,datE r k) ∨ (k.1.1=[]/\k.2.1=[])
theorem Cov.mono {O O' S S':List XP} {k:XP} (h:Cov O S k) (h1:∀ r ∈ O,Cov O' S' r) (h2:∀ r ∈ S,r ∈ S'):Cov O' S' k:=by
 rcases h with ⟨r,hr,e⟩ | ⟨r,hr,e⟩ | h
 ·rcases h1 r hr with ⟨q,hq,e'⟩ | ⟨q,hq,e'⟩ | ⟨a,b⟩
  ·exact .inl ⟨q,hq,e'.1.trans e.1,e'.2.trans e.2⟩
  ·exact .inr (.inl ⟨q,hq,e'.1.trans e.1,e'.2.trans e.2⟩)
  ·exact .inr (.inr ⟨e.1 ▸ a,e.2 ▸ b⟩)
 ·exact .inr (.inl ⟨r,h2 r hr,e⟩)
 ·exact .inr (.inr h)
theorem Cov.self {O S:List XP} {r:XP} (h:r ∈ O):Cov O S r:=.inl ⟨r,h,rfl,rfl⟩
variable {p:XP} {O S:List XP}
end Go.SE

namespace Go.SE
variable [Base]
open Go.RowKit
end Go.SE

namespace Go.SE
open Go.RowKit
variable {p r:XP} {O S:List XP} {i:Nat}
end Go.SE

namespace Go.SE
open Go.RowKit
def isSlV:Value->Bool
 | .slice _ _ _=>true
 | _=>false
structure Loose (ro:Nat->Option (Array Value)) (w:World):Prop where
 h:∀ b vs,ro b=some vs->∃ (cs:Array Value) (ty:TypeId),w.heap[b]?=some (.cells cs ty (0,0))/\cs.size=vs.size/\∀ (i:Nat) (u:Value),vs[i]?=some u->isSlV u=true->cs[i]?=some u
structure LExt (ro:Nat->Option (Array Value)) (w w':World):Prop where
 os:w'.os=w.os
 tape:w'.tape=w.tape
 output:w'.output=w.output
 size:w.heap.size<=w'.heap.size
 block:∀ b,b < w.heap.size->ro b=none->w'.heap[b]?=w.heap[b]?
end Go.SE
namespace Go.SE
variable [Base]
open Go.RowKit
abbrev RoB (ro:Nat->Option (Array Value)) (w:World):Prop:=BaseIn w/\∀ b,ro b ≠ none->Base.nz<=b
def jL (ro:Nat->Option (Array Value)):JJ Unit where
 J:=fun _ p w=>(∀ b,p.d b ↔ ro b ≠ none)/\(∀ b,¬ p.r b)/\Loose ro w
 lt:=by
  intro γ p w b ⟨h1,h2,h3⟩ h
  rcases h with h | h
  ·have:=(h1 b).1 h
   cases hb:ro b with
   | none=>exact (this hb).elim
   | some vs =>
    obtain ⟨cs,ty,h4,_⟩:=h3.h b vs hb
    exact lt_of_some h4
  ·exact (h2 b h).elim
 frame:=by
  intro γ p w w' ⟨h1,h2,h3⟩ _ _ _ _ hb
  refine ⟨h1,h2,⟨fun b vs hv=>?_⟩⟩
  obtain ⟨cs,ty,h4,h5⟩:=h3.h b vs hv
  exact ⟨cs,ty,by rw [hb b (.inl ((h1 b).2 (by rw [hv];simp)))];exact h4,h5⟩
section
variable {P:Program} {E:Ty->TypeId} {tab:TypeId->Option TI} {n:Nat} {wE w:World} {ro:Nat->Option (Array Value)} {X:Nat->Prop} {DE:Fp} {st:St} {a:Act}
abbrev AnL (E:Ty->TypeId) (ro:Nat->Option (Array Value)) (wE:World) (DE:Fp) (n:Nat) (st:St) (a:Act) (w:World):Prop:=RelY E (AnE (jL ro) wE (fun _=>False) DE) n st () a w
theorem AnL.rob (h:AnL E ro wE DE n st a w):RoB ro w :=
 ⟨h.nb,fun b hb=>by
  obtain ⟨_,_,⟨_,_,D,hJ,_,_,_,_,hnz⟩,_⟩:=h
  exact hnz b ((hJ.1 b).2 hb)⟩
theorem AnL.put (h:AnL E ro wE DE n st a w) (hrd:st.rd=none) {d:Tmp} (hd:d < n) {v:Value} (hv:v.oneCell'=true):AnL E ro wE DE n (St.put st (some d) (sv v)) (a.put (some d) v) w:=by
 obtain ⟨D,g,hJ,_,_,_,_,hstep⟩:=eff h hrd
 exact hstep () D w hJ ⟨rfl,rfl,rfl,Nat.le_refl _,fun _ _ _=>rfl,fun _ h=>.inl h,fun _ h=>.inl h⟩ (some d) v (sv v) (fun d' h=>by injection h with h;subst h;exact hd) (fun g=>R_sv hv) (by simp [refs_sv])
end
end Go.SE

namespace Go.SE
open Go.RowKit
end Go.SE
namespace Go.SE
variable [Base]
open Go.RowKit
section
variable {P:Program} {E:Ty->TypeId} {tab:TypeId->Option TI} {n:Nat} {wE w:World} {ro:Nat->Option (Array Value)} {DE:Fp} {st:St} {a:Act}
theorem LExt.refl:LExt ro w w:=⟨rfl,rfl,rfl,Nat.le_refl _,fun _ _ _=>rfl⟩
theorem LExt.trans {a b c:World} (h:LExt ro a b) (k:LExt ro b c):LExt ro a c :=
 ⟨k.os.trans h.os,k.tape.trans h.tape,k.output.trans h.output,Nat.le_trans h.size k.size,fun i hi hn=>(k.block i (Nat.lt_of_lt_of_le hi h.size) hn).trans (h.block i hi hn)⟩
theorem Loose.store (h:Loose ro w) {b o:Nat} {vs:Array Value} {u x:Value} (hb:ro b=some vs) (hu:vs[o]?=some u) (hn:isSlV u=false):∃ cs ty,w.heap[b]?=some (.cells cs ty (0,0))/\o < cs.size/\Loose ro (w.setRow b (over cs o [x]))/\LExt ro w (w.setRow b (over cs o [x])):=by
 obtain ⟨cs,ty,h1,h2,h3⟩:=h.h b vs hb
 have ho:o < cs.size:=by rw [h2];exact (Array.getElem?_eq_some_iff.1 hu).1
 refine ⟨cs,ty,h1,ho,⟨fun b' vs' hb'=>?_⟩,⟨rfl,rfl,rfl,by simp,fun b' hlt hn'=>setRow_other w b b' _ (fun e=>by subst e;rw [hb] at hn';cases hn')⟩⟩
 by_cases e:b'=b
 ·subst e
  rw [hb] at hb'
  injection hb' with hb'
  subst hb'
  refine ⟨_,ty,setRow_heap w b' _ _ _ _ h1,by rw [over_size (by simp;omega),h2],fun i u' hi hs=>?_⟩
  rw [over_get (by simp;omega)]
  split
  ·rename_i hr
   have:i=o:=by simp at hr;omega
   subst this
   rw [hu] at hi
   injection hi with hi
   subst hi
   rw [hn] at hs;cases hs
  ·exact h3 i u' hi hs
 ·obtain ⟨cs',ty',k1,k2⟩:=h.h b' vs' hb'
  exact ⟨cs',ty',by rw [setRow_other w b b' _ e];exact k1,k2⟩
end
end Go.SE

namespace Go.SE
open Go.RowKit
end Go.SE
namespace Go.SE
variable [Base]
open Go.RowKit
end Go.SE

namespace Go.SE
variable [Base]
open Go.RowKit
variable {ro:Nat->Option (Array Value)} {v:Value} {i:Nat}
end Go.SE
namespace Go.SE
variable [Base]
open Go.RowKit
variable {ro:Nat->Option (Array Value)} {v:Value} {i:Nat}
end Go.SE

namespace Go.SE
open Go.RowKit
end Go.SE
namespace Go.SE
variable [Base]
open Go.RowKit
def pmC:DC->Prop
 | .val _=>True
 | .arr t _=>t=.fact ∨ t=.atom ∨ t=.cmd
 | .ne t _=>t=.fact ∨ t=.atom ∨ t=.cmd
 | .fix _ _ _=>False
theorem pmC_cells {t:Ty} (h:t=.fact ∨ t=.atom ∨ t=.cmd) (x:t.den):∀ c ∈ t.cells x,pmC c:=by
 rcases h with rfl | rfl | rfl <;> simp [Ty.cells,pmC]
end Go.SE
