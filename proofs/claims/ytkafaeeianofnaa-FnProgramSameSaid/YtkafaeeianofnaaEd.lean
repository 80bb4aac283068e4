/-
  Parts of a symbolic engine over the program's code: how operations, regions, loops and calls are shown to keep contracts. No conditions.
-/
import Derived.Laws.BitsAllLaws
import Derived.RangeFuncCalls
import Derived.OrdersIn
import Derived.Laws.StructEq
import Derived.RangeFuncRecord
import Derived.Test.YtkafaeeianofnaaEc
import Derived.Test.YtkafaeeianofnaaEa
set_option linter.unusedSimpArgs false
set_option linter.unusedVariables false
set_option linter.unusedSectionVars false

namespace Go.SE
variable [Base]
open Go.RowKit
theorem setRow_comm (w:World) (b1 b2:Nat) (r1 r2:Array Value) (h:b1 ≠ b2):(w.setRow b1 r1).setRow b2 r2=(w.setRow b2 r2).setRow b1 r1:=by
 simp only [World.setRow]
 congr 1
 apply Array.ext_getElem?
 intro i
 simp only [Array.getElem?_modify]
 by_cases e1:b1=i <;> by_cases e2:b2=i <;> simp [e1,e2] <;> omega
section
variable {P:Program} {E:Ty->TypeId} {tab:TypeId->Option TI} {w0:World} {M:MM} {n:Nat} {o:Oper} {st:St} {a:Act} {w:World}
theorem datas_len {mem:Nat->Option Res}:∀ (vs:List CV) (ds:List DC) (ids:List Nat),datas mem vs=some (ds,ids)->ds.length=vs.length:=by
 intro vs
 induction vs with
 | nil=>intro ds ids h;simp only [datas,Option.some.injEq,Prod.mk.injEq] at h;obtain ⟨rfl,_⟩:=h;rfl
 | cons v l ih =>
  intro ds ids h
  simp only [datas] at h
  split at h
  ·cases h
  ·rename_i ds' ids' h1
   have:=ih _ _ h1
   split at h
   ·injection h with h;injection h with h h2;subst h;simp [this]
   ·split at h
    ·injection h with h;injection h with h h2;subst h;simp [this]
    ·cases h
   ·cases h
def StoreF (P:Program) (o:Oper) (a:Act) (w:World) (b:Nat):Prop :=
 ∃ r:Array Value,∀ w':World,w'.heap[b]?=w.heap[b]?->(execOp a.eval o).run P w'=.ok .skip (w'.setRow b r)
theorem store_runs (h:Rel E w0 M n st a w) (ht:TabOk P E tab) {ty:TypeId} {x y:Operand} (ho:o.op=.store ty x y) {t:Tr} (htr:trStore tab st ty x y=some t) {id:Nat} {t':Ty} {k:Int} {off:Nat}
  (hev:ev st x=.s (.c (.vp id t' k off))) {g:G} (hg:Good E w0 M g st w) (henv:∀ x,(st.env x).R g (a.tmps.getD x undef)) :
  ∃ b off',blkOf (g.κ id)=some b/\a.eval x=.pointer (some ⟨b,off',none⟩)/\StoreF P o a w b:=by
 have hx:=ev_R henv x
 have hy:=ev_R henv y
 unfold trStore at htr
 rw [hev] at htr hx
 split at htr
 ·rename_i ti id0 off0 hti hq;cases hq
 ·rename_i ti id0 t0 k0 off0 hti hq
  cases hq
  obtain ⟨i,d,hi,hu,hisz,hk⟩:=ht _ _ hti
  obtain ⟨b,hbk,h0,hkl,hv⟩:=hx
  refine ⟨b,_,hbk,hv,?_⟩
  split at htr
  ·rename_i ps hps
   obtain ⟨hpl,hpc⟩:=partCells_R hy hps
   split at htr
   ·rename_i ds ids hds
    have hdl:ds.length=ps.length:=datas_len ps ds ids hds
    have hcsz:(a.eval y).cells.size=i.size:=by rw [hpc.1,hpl,hisz]
    have fin:∀ (vs:Array Value) (bt:TypeId),w.heap[b]?=some (.cells vs bt (0,0))->k.toNat * t'.sz+off+i.size<=vs.size->StoreF P o a w b:=by
     intro vs bt hb hfit
     refine ⟨over vs (k.toNat * t'.sz+off) (a.eval y).cells.toList,fun w' hw'=>?_⟩
     rw [hb] at hw'
     have hr:=run_storeAt (P:=P) (ty:=ty) (o:=k.toNat * t'.sz+off) hw' hi (v:=a.eval y) hcsz hfit (cells_ones hpc (datas_noJunk hds))
     simp [execOp,ho,hv,hr]
    split at htr
    ·rename_i u xs hm
     split at htr
     ·rename_i xs' hcast
      obtain ⟨rfl,hq⟩:=castL_eq hcast
      cases hq
      split at htr
      ·rename_i z hz
       obtain ⟨hln,b',vs,bt,hκ',hb,hvs,hrow⟩:=hg.res _ _ hm
       have e:b'=b:=by rw [hκ'] at hbk;simpa [blkOf] using hbk
       subst e
       have hle:=updElem_le hz
       refine fin vs bt hb ?_
       have:(k.toNat+1) * u.sz<=xs.length * u.sz:=Nat.mul_le_mul_right _ (by omega)
       rw [Nat.add_mul] at this
       rw [hvs,hisz,← hpl,← hdl]
       omega
      ·cases htr
     ·cases htr
    ·rename_i fam u xs hm
     split at htr
     ·rename_i xs' hcast
      obtain ⟨rfl,hq⟩:=castL_eq hcast
      cases hq
      split at htr
      ·rename_i z hz
       obtain ⟨hln,hres⟩:=hg.res _ _ hm
       rcases hres with ⟨hκ',hx0⟩ | ⟨b',cap,vs,hκ',hb,hcl,hcm,hvs,hrow⟩
       ·rw [hκ'] at hbk;simp [blkOf] at hbk
       have e:b'=b:=by rw [hκ'] at hbk;simpa [blkOf] using hbk
       subst e
       have hle:=updElem_le hz
       refine fin vs _ hb ?_
       have:(k.toNat+1) * u.sz<=cap * u.sz:=Nat.mul_le_mul_right _ (by omega)
       rw [Nat.add_mul] at this
       rw [hvs,hisz,← hpl,← hdl]
       omega
      ·cases htr
     ·cases htr
    ·cases htr
   ·cases htr
  ·cases htr
 ·cases htr
theorem store_det {ty:TypeId} {x y:Operand} {t:Tr} (htr:trStore tab st ty x y=some t):∃ pre wr fz,t=Tr.write pre wr fz:=by
 unfold trStore at htr
 repeat' (split at htr)
 all_goals first
  | (cases htr;done)
  | (injection htr with htr;exact ⟨_,_,_,htr.symm⟩)
theorem store_sym {K:FuncId->Option Con} {ty:TypeId} {x y:Operand} (ho:o.op=.store ty x y) (hd:o.dst=none) {k:St->Prop} (hv:vcOp tab K o st k) :
  ∃ t,trStore tab st ty x y=some t/\∃ st',st'.env=st.env/\k st':=by
 unfold vcOp at hv
 have e:trOp tab K o st=trStore tab st ty x y:=by unfold trOp;rw [ho]
 rw [e] at hv
 cases htr:trStore tab st ty x y with
 | none=>rw [htr] at hv;exact hv.elim
 | some t =>
  obtain ⟨pre,wr,fz,rfl⟩:=store_det htr
  rw [htr] at hv
  refine ⟨_,rfl,_,?_,hv.2⟩
  simp [St.app,hd]
theorem store_next {K:FuncId->Option Con} (h:Rel E w0 M n st a w) (ht:TabOk P E tab) (hKA:KAll P E K) {ty:TypeId} {x y:Operand} (ho:o.op=.store ty x y) (hd:o.dst=none) (hok:opOk o=true) {k:St->Prop} (hv:vcOp tab K o st k)
  {b:Nat} {r:Array Value} (hrun:(execOp a.eval o).run P w=.ok .skip (w.setRow b r)):∃ st',Rel E w0 M n st' a (w.setRow b r)/\k st'/\st'.env=st.env:=by
 have hv':vcOp tab K o st (fun s=>k s/\s.env=st.env):=by
  unfold vcOp at hv ⊢
  have e:trOp tab K o st=trStore tab st ty x y:=by unfold trOp;rw [ho]
  rw [e] at hv ⊢
  cases htr:trStore tab st ty x y with
  | none=>rw [htr] at hv;exact hv.elim
  | some t =>
   obtain ⟨pre,wr,fz,rfl⟩:=store_det htr
   rw [htr] at hv
   exact ⟨hv.1,hv.2,by simp [St.app,hd]⟩
 have:=vcOp_sound (P:=P) h ht hKA (by rw [hd];intro d hd;cases hd) hok hv' (next:=fun a' w'=>∃ st',Rel E w0 M n st' a' w'/\k st'/\st'.env=st.env) (Q:=fun _ _ _=>False) fun st' a' w' hr hk=>⟨st',hr,hk.1,hk.2⟩
 unfold Oper.wp at this
 rw [hrun,Oper.upon_skip,hd] at this
 exact this
theorem ix_runs (h:Rel E w0 M n st a w) (ht:TabOk P E tab) {ty:TypeId} {x i:Operand} (ho:o.op=.indexAddr ty x i) {t:Tr} (htr:trIndexAddr tab st ty x i=some t) (hp:t.pre) {id:Nat} (hev:ev st x=.s (.c (.own id))) :
  ∃ v,∀ w':World,(execOp a.eval o).run P w'=.ok (.value v) w':=by
 obtain ⟨g,hg,henv⟩:=h.good
 have hx:=ev_R henv x
 rw [hev] at hx
 unfold trIndexAddr at htr
 rw [hev] at htr
 split at htr
 ·rename_i sz by_ rw_ e t' ik k hti hei
  have vi:=(ev_val h hei).1
  obtain ⟨inf,d,_,hu,_,_,⟨rfl,_⟩,ie,hie,hsz,_⟩:=ht _ _ hti
  simp only [xfix,wkS] at htr
  split at htr
  ·rename_i fam t'' xs hm
   split at htr
   ·rename_i ys hcast
    obtain ⟨rfl,hh⟩:=castL_eq hcast
    cases hh
    injection htr with htr
    subst htr
    obtain ⟨h0,h1⟩:=hp
    obtain ⟨hln,hres⟩:=hg.res _ _ hm
    rcases hres with ⟨_,h2⟩ | ⟨b,cap,cur,hκ,hb,hle,hcap,hcs,hrow⟩
    ·subst h2;simp at h1;omega
    ·refine ⟨.pointer (some ⟨b,0+k.toNat * ie.size,none⟩),fun w'=>?_⟩
     have hr:=run_indexAt_sl (w:=w') (P:=P) (b:=b) (o:=0) (len:=xs.length) (cap:=cap) (k:=ik) hu hie h0 h1
     have e1:a.eval x=.slice (some ⟨b,0,none⟩) xs.length cap:=by rw [hx.1,hκ]
     simp [execOp,ho,e1,vi,hr]
   ·cases htr
  ·cases htr
 ·simp only at htr
  cases htr
 ·cases htr
theorem swV_inv {s1 s2:S} (h:swV st s1 s2=true):∃ i1 t1 k1 o1 i2 t2 k2 o2 f1 u1 f2 u2,∃ (xs1:List (Ty.den u1)) (xs2:List (Ty.den u2)),s1=.s (.c (.vp i1 t1 k1 o1))/\s2=.s (.c (.vp i2 t2 k2 o2))/\i1 ≠ i2/\st.sp i1=false/\st.sp i2=false/\st.mem i1=some (.sl f1 u1 xs1)/\st.mem i2=some (.sl f2 u2 xs2):=by
 unfold swV at h
 split at h
 ·rename_i i1 t1 k1 o1 i2 t2 k2 o2
  simp only [Bool.and_eq_true,Bool.not_eq_true'] at h
  obtain ⟨h1,h2,h3,h4,h5⟩:=h
  unfold isSlB at h4 h5
  split at h4
  ·rename_i f1 u1 xs1 e1
   split at h5
   ·rename_i f2 u2 xs2 e2
    exact ⟨i1,t1,k1,o1,i2,t2,k2,o2,f1,u1,f2,u2,xs1,xs2,rfl,rfl,Nat.ne_of_beq_eq_false h1,h2,h3,e1,e2⟩
   ·cases h5
  ·cases h4
 ·cases h
theorem swD_inv {x x2 z:Nat} (h:swD st x x2 z=true):swV st (st.env x) (st.env x2)=true/\∃ id,st.env z=.s (.c (.own id)):=by
 unfold swD at h
 rw [Bool.and_eq_true] at h
 refine ⟨h.1,?_⟩
 have h2:=h.2
 unfold isOwnB at h2
 split at h2
 ·rename_i id e;exact ⟨id,e⟩
 ·cases h2
theorem swap_one {K:FuncId->Option Con} (h:Rel E w0 M n st a w) (ht:TabOk P E tab) (hKA:KAll P E K) {p s2:Oper} {tyP ty2 x x2 z:Nat} {y v2:Operand} (hp:p.op=.store tyP (.tmp x) y) (hpd:p.dst=none) (hpk:opOk p=true)
  (hs:s2.op=.store ty2 (.tmp x2) v2) (hsd:s2.dst=none) (hsk:opOk s2=true) {k:St->Prop} (hv:vcOp tab K s2 st (fun s=>swD s x x2 z=true/\vcOp tab K p s k)) :
  ∃ b1 r1 b2 r2,(execOp a.eval p).run P w=.ok .skip (w.setRow b1 r1)/\(execOp a.eval s2).run P (w.setRow b1 r1)=.ok .skip ((w.setRow b1 r1).setRow b2 r2)/\∃ st',Rel E w0 M n st' a ((w.setRow b1 r1).setRow b2 r2)/\k st':=by
 obtain ⟨t2,htr2,sy,hye,hyd,hyv⟩:=store_sym hs hsd hv
 obtain ⟨i1,t1,k1,o1,i2,tt2,k2,o2,f1,u1,f2,u2,xs1,xs2,e1,e2,-⟩:=swV_inv (swD_inv hyd).1
 have hev2:ev st (.tmp x2)=.s (.c (.vp i2 tt2 k2 o2)):=by
  show st.env x2=_
  rw [← hye];exact e2
 obtain ⟨g,hg,henv⟩:=h.good
 obtain ⟨b2,off2,hb2,he2,r2,hr2⟩:=store_runs (P:=P) h ht hs htr2 hev2 hg henv
 obtain ⟨st1,hrel1,⟨hd1,hv1⟩,henv1⟩:=store_next (P:=P) h ht hKA hs hsd hsk hv (hr2 w rfl)
 obtain ⟨i1,t1,k1,o1,i2,tt2,k2,o2,f1,u1,f2,u2,xs1,xs2,e1,e2,hne,hs1,hs2,hm1,hm2⟩:=swV_inv (swD_inv hd1).1
 obtain ⟨tp,htrp,-⟩:=store_sym hp hpd hv1
 obtain ⟨g1,hg1,henvg1⟩:=hrel1.good
 obtain ⟨b1,off1,hb1,he1,r1,hr1⟩:=store_runs (P:=P) hrel1 ht hp htrp e1 hg1 henvg1
 have hx2:=ev_R henvg1 (.tmp x2)
 rw [show ev st1 (.tmp x2)=_ from e2] at hx2
 obtain ⟨b',hb',-,-,hv'⟩:=hx2
 have hbb:b'=b2:=by
  rw [he2] at hv'
  injection hv' with hv'
  injection hv' with hv'
  exact (congrArg Addr.block hv').symm
 subst hbb
 have hbne:b1 ≠ b':=by
  intro e
  subst e
  obtain ⟨_,_,_,_,_,_,h4⟩:=hg1.sep i1 i2 _ _ hm1 hm2 hne trivial trivial b1 hb1 hb'
  rw [(h4 hs1).1] at hs2
  cases hs2
 obtain ⟨st2,hrel2,hk2,-⟩:=store_next (P:=P) hrel1 ht hKA hp hpd hpk hv1 (hr1 _ rfl)
 refine ⟨b1,r1,b',r2,hr1 w (setRow_other w b' b1 r2 hbne).symm,hr2 _ (setRow_other w b1 b' r1 (Ne.symm hbne)),st2,?_,hk2⟩
 rw [setRow_comm w b1 b' r1 r2 hbne]
 exact hrel2
theorem ix_det {ty:TypeId} {x i:Operand} {t:Tr} (htr:trIndexAddr tab st ty x i=some t):∃ v pre,t=Tr.one v pre:=by
 unfold trIndexAddr at htr
 repeat' (split at htr)
 all_goals first
  | (cases htr;done)
  | (injection htr with htr;exact ⟨_,_,htr.symm⟩)
theorem ix_sym {K:FuncId->Option Con} {ty:TypeId} {x i:Operand} (ho:o.op=.indexAddr ty x i) {d:Nat} (hd:o.dst=some d) {k:St->Prop} (hv:vcOp tab K o st k) :
  ∃ t,trIndexAddr tab st ty x i=some t/\t.pre/\∃ st',(∀ q,q ≠ d->st'.env q=st.env q)/\k st':=by
 unfold vcOp at hv
 have e:trOp tab K o st=trIndexAddr tab st ty x i:=by unfold trOp;rw [ho]
 rw [e] at hv
 cases htr:trIndexAddr tab st ty x i with
 | none=>rw [htr] at hv;exact hv.elim
 | some t =>
  obtain ⟨v,pre,rfl⟩:=ix_det htr
  rw [htr] at hv
  refine ⟨_,rfl,hv.1,_,?_,hv.2⟩
  intro q hq
  simp [St.app,hd,upd,hq]
theorem ix_next {K:FuncId->Option Con} (h:Rel E w0 M n st a w) (ht:TabOk P E tab) (hKA:KAll P E K) {d:Nat} (hd:o.dst=some d) (hdn:d < n) (hok:opOk o=true) {k:St->Prop} (hv:vcOp tab K o st k) {v:Value}
  (hrun:(execOp a.eval o).run P w=.ok (.value v) w):∃ st',Rel E w0 M n st' (a.put (some d) v) w/\k st':=by
 have:=vcOp_sound (P:=P) h ht hKA (by rw [hd];intro d' hd';cases hd';exact hdn) hok hv (next:=fun a' w'=>∃ st',Rel E w0 M n st' a' w'/\k st') (Q:=fun _ _ _=>False) fun st' a' w' hr hk=>⟨st',hr,hk⟩
 unfold Oper.wp at this
 rw [hrun,Oper.upon_value,hd] at this
 exact this
theorem eval_put {d x:Nat} {v:Value} (h:x ≠ d):(a.put (some d) v).eval (.tmp x)=a.eval (.tmp x):=by
 simp [Act.eval,Act.put,Array.getD_eq_getD_getElem?,Array.getElem?_setIfInBounds,Ne.symm h]
theorem swap_two {K:FuncId->Option Con} (h:Rel E w0 M n st a w) (ht:TabOk P E tab) (hKA:KAll P E K) {p s1 s2:Oper} {tyP ty1 ty2 x y x2 z d:Nat} {i1 v2:Operand} (hp:p.op=.store tyP (.tmp x) (.tmp y)) (hpd:p.dst=none) (hpk:opOk p=true)
  (h1:s1.op=.indexAddr ty1 (.tmp z) i1) (h1d:s1.dst=some d) (h1k:opOk s1=true) (hdn:d < n) (hxd:x ≠ d) (hyd:y ≠ d) (hzd:z ≠ d)
  (hs:s2.op=.store ty2 (.tmp x2) v2) (hsd:s2.dst=none) (hsk:opOk s2=true) {k:St->Prop} (hv:vcOp tab K s1 st (fun s=>vcOp tab K s2 s (fun s=>swD s x x2 z=true/\vcOp tab K p s k))) :
  ∃ v b1 r1 b2 r2,(execOp a.eval p).run P w=.ok .skip (w.setRow b1 r1)/\(execOp a.eval s1).run P (w.setRow b1 r1)=.ok (.value v) (w.setRow b1 r1) /\
   (execOp (a.put (some d) v).eval s2).run P (w.setRow b1 r1)=.ok .skip ((w.setRow b1 r1).setRow b2 r2)/\∃ st',Rel E w0 M n st' (a.put (some d) v) ((w.setRow b1 r1).setRow b2 r2)/\k st':=by
 obtain ⟨t1,htr1,hpre,sy,hye,hyv⟩:=ix_sym h1 h1d hv
 obtain ⟨t2,-,sz,hze,hzd1,-⟩:=store_sym hs hsd hyv
 have hown:∃ id,ev st (.tmp z)=.s (.c (.own id)):=by
  obtain ⟨id,e⟩:=(swD_inv hzd1).2
  rw [hze,hye z hzd] at e
  exact ⟨id,e⟩
 obtain ⟨id,hid⟩:=hown
 obtain ⟨v,hrun1⟩:=ix_runs (P:=P) h ht h1 htr1 hpre hid
 obtain ⟨st1,hrel1,hv1⟩:=ix_next (P:=P) h ht hKA h1d hdn h1k hv (hrun1 w)
 obtain ⟨b1,r1,b2,r2,hr1,hr2,hfin⟩:=swap_one (P:=P) hrel1 ht hKA hp hpd hpk hs hsd hsk hv1
 refine ⟨v,b1,r1,b2,r2,?_,hrun1 _,hr2,hfin⟩
 have e1:=eval_put (a:=a) (d:=d) (x:=x) (v:=v) hxd
 have e2:=eval_put (a:=a) (d:=d) (x:=y) (v:=v) hyd
 simp only [execOp,hp] at hr1 ⊢
 rw [e1,e2] at hr1
 exact hr1
end
theorem swOf_inv {p s1 s2:Option Oper} {q:Nat × Nat × Nat} (h:swOf p s1 s2=some q):∃ op o1 o2 tyP ty1 ty2 y d i1 v2,p=some op/\s1=some o1/\s2=some o2/\op.op=.store tyP (.tmp q.1) (.tmp y)/\op.dst=none/\op.guard=none/\o1.op=.indexAddr ty1 (.tmp q.2.2) i1/\o1.dst=some d/\o1.guard=none /\
  o2.op=.store ty2 (.tmp q.2.1) v2/\o2.dst=none/\o2.guard=none/\q.1 ≠ d/\y ≠ d/\q.2.2 ≠ d:=by
 unfold swOf at h
 split at h
 ·rename_i tyP x y _ _ _ d ty1 z i1 _ _ _ ty2 x2 v2 _ _ _
  cases hb:(Nat.beq x d || (Nat.beq y d || Nat.beq z d)) with
  | true=>rw [hb] at h;cases h
  | false =>
   rw [hb] at h
   injection h with h
   subst h
   simp only [Bool.or_eq_false_iff] at hb
   exact ⟨_,_,_,tyP,ty1,ty2,y,d,i1,v2,rfl,rfl,rfl,rfl,rfl,rfl,rfl,rfl,rfl,rfl,rfl,rfl,Nat.ne_of_beq_eq_false hb.1,Nat.ne_of_beq_eq_false hb.2.1,Nat.ne_of_beq_eq_false hb.2.2⟩
 ·cases h
def pairS (K:FuncId->Option Con) (tab:TypeId->Option TI) (ops:Array Oper) (s2 i j:Nat):Bool :=
 pairOk K tab ops (Region.before ops) i j || (Nat.beq i s2 && (match ops[i]?,ops[j]? with
  | some oi,some oj=>oi.apart ops oj && lateS oi oj
  | _,_=>false))
def swapOk (K:FuncId->Option Con) (tab:TypeId->Option TI) (ops:Array Oper) (s1 s2:Nat):Bool :=
 certOk ops (Region.before ops) && (backOk ops && (decide (s1 < s2) && (decide (s2 < ops.size - 1) && (((List.range (ops.size - 1)).all fun j=>(List.range j).all fun i=>pairS K tab ops s2 i j && (Nat.ble i s2 || ((Region.before ops).getD j 0).testBit i)) &&
  (((List.range (ops.size - 1)).all fun i=>((Region.before ops).getD (ops.size - 1) 0).testBit i || (Nat.beq i s1 || Nat.beq i s2)) && ((Region.before ops).getD s2 0).testBit s1)))))
section
variable {P:Program} {E:Ty->TypeId} {tab:TypeId->Option TI} {K:FuncId->Option Con} {pts:FuncId->Option PT}
theorem vcOps_append {ops:Array Oper} {k:St->Prop}:∀ (l1 l2:List Oper) (st:St),vcOps tab K ops (l1 ++ l2) st k=vcOps tab K ops l1 st (fun s=>vcOps tab K ops l2 s k):=by
 intro l1
 induction l1 with
 | nil=>intro l2 st;rfl
 | cons o l1 ih =>
  intro l2 st
  simp only [List.cons_append,vcOps]
  congr 1
  funext s
  exact ih l2 s
theorem vcOps_mono {ops:Array Oper} {k k':St->Prop} (h:∀ s,k s->k' s):∀ {l:List Oper} {st:St},vcOps tab K ops l st k->vcOps tab K ops l st k':=by
 intro l
 induction l with
 | nil=>intro st hv;exact h st hv
 | cons o l ih=>intro st hv;exact vcStep_mono (fun s hs=>ih hs) hv
theorem any_fin {ops:Array Oper} {Q:Exit->Act->World->Prop} (fuel:Nat) (listed:Array Bool) (a:Act) (w:World) (h:∀ i,i < ops.size->listed.getD i true=true) (hq:Q .normal a w):wpAny P .any ops Q fuel listed a w:=by
 have hnr:Region.ready .any ops listed=[]:=by
  refine List.eq_nil_iff_forall_not_mem.2 fun j hj=>?_
  obtain ⟨h1,h2,_⟩:=ready_iff.1 hj
  rw [h j h1] at h2
  cases h2
 cases fuel with
 | zero=>exact ⟨hnr,hq⟩
 | succ fuel=>exact ⟨fun _=>hq,fun j hj=>by rw [hnr] at hj;cases hj⟩
theorem any_one {ops:Array Oper} {Q:Exit->Act->World->Prop} {fuel:Nat} {listed:Array Bool} {a:Act} {w:World} {s:Nat} {o:Oper} (ho:ops[s]?=some o) (hr:s ∈ Region.ready .any ops listed) (hu:∀ i ∈ Region.ready .any ops listed,i=s) (hg:o.guard=none)
  (hw:o.wp P a w (wpAny P .any ops Q fuel (listed.setIfInBounds s true)) Q):wpAny P .any ops Q (fuel+1) listed a w:=by
 refine ⟨fun hnil=>?_,fun i hi=>?_⟩
 ·rw [hnil] at hr;cases hr
 ·have e:=hu i hi
  subst e
  unfold wpOp
  rw [ho]
  simp only
  rw [if_pos (by simp [Region.wanted,hg])]
  exact .inl hw
theorem draw_swap (ht:TabOk P E tab) (hs:TabSmall tab) (hKA:KAll P E K) (hmix:P.follows .mixedOrders=true) {w0:World} {M:MM} {n:Nat} {id:Nat} {ops:Array Oper} {st:St} {a:Act} {w:World} {k:St->Prop} {Q:Exit->Act->World->Prop} {s1 s2:Nat}
  (hok:swapOk K tab ops s1 s2=true) (hops:opsOk n ops.toList=true) (hrel:Rel E w0 M n st a w) (hv:vcSw tab K pts ops st k [[s1,s2]]) (hQ:∀ st' a' w',Rel E w0 M n st' a' w'->k st'->Q .normal a' w'):(Code.region id ops true).wp P Q a w:=by
 have hK:KTot K:=fun f con hf x hx=>(hKA f con hf).tot x hx
 unfold swapOk at hok
 simp only [Bool.and_eq_true,decide_eq_true_eq] at hok
 obtain ⟨hcert,hback,hs12,hs2N,hpair,hlast,hb21⟩:=hok
 unfold backOk at hback
 rw [List.all_eq_true] at hback hpair hlast
 obtain ⟨N,hN⟩:∃ N,ops.size=N+1:=⟨ops.size - 1,by omega⟩
 have eN:ops.size - 1=N:=by omega
 have hv:swK tab K ops st k (swOf ops[ops.size - 1]? ops[s1]? ops[s2]?):=hv
 cases hsw:swOf ops[ops.size - 1]? ops[s1]? ops[s2]? with
 | none=>rw [hsw] at hv;exact hv.elim
 | some q =>
 obtain ⟨x,x2,z⟩:=q
 rw [hsw] at hv
 have hv:vcOps tab K ops (pickOps ops (List.range (ops.size - 1))) st fun s=>swD s x x2 z=true/\vcOps tab K ops (pickOps ops [ops.size - 1]) s k:=hv
 obtain ⟨oP,o1,o2,tyP,ty1,ty2,y,d,i1,v2,hoP,ho1,ho2,hPo,hPd,hPg,h1o,h1d,h1g,h2o,h2d,h2g,hxd,hyd,hzd⟩:=swOf_inv hsw
 rw [eN] at hpair hlast hs2N hv hoP
 have hbit:∀ i,i < N->i ≠ s1->i ≠ s2->((Region.before ops).getD N 0).testBit i=true:=by
  intro i h1 h2 h3
  have:=hlast i (List.mem_range.2 h1)
  simp only [Bool.or_eq_true] at this
  rcases this with h | h | h
  ·exact h
  ·exact (h2 (Nat.eq_of_beq_eq_true h)).elim
  ·exact (h3 (Nat.eq_of_beq_eq_true h)).elim
 have hback':∀ j o,ops[j]?=some o->∀ e ∈ o.after.toList,Region.binds .any e=true->e.on < j:=by
  intro j o ho e he hb
  have hj:j < ops.size:=(Array.getElem?_eq_some_iff.1 ho).1
  have:=hback j (List.mem_range.2 hj)
  rw [ho] at this
  simp only [List.all_eq_true] at this
  have:=this e he
  simpa [hb] using this
 have rdy0:∀ (listed:Array Bool),listed.size=ops.size->∀ i,i < ops.size->listed.getD i true=false->(∀ j,j < i->¬ (j < ops.size/\listed.getD j true=false))->i ∈ Region.ready .any ops listed:=by
  intro listed hsz i hi1 hi2 hmin
  refine ready_iff.2 ⟨hi1,hi2,ops[i],by simp [hi1],fun e he hb=>?_⟩
  have hlt:=hback' i ops[i] (by simp [hi1]) e he hb
  have hes:e.on < listed.size:=by omega
  rw [getD_of_lt hes false true]
  cases hle:listed.getD e.on true with
  | true=>rfl
  | false=>exact (hmin e.on hlt ⟨by omega,hle⟩).elim
 have clos:∀ (listed:Array Bool) (i:Nat) (o:Oper),Closed ops listed->ops[i]?=some o->(∀ e ∈ o.after.toList,Region.binds .any e=true->listed.getD e.on false=true)->Closed ops (listed.setIfInBounds i true):=by
  intro listed i o hcl ho hdeps j oj hoj hlj e he hb
  rw [getD_set] at hlj ⊢
  split
  ·rfl
  ·by_cases ej:i=j/\j < listed.size
   ·obtain ⟨rfl,_⟩:=ej
    rw [ho] at hoj
    injection hoj with hoj
    subst hoj
    exact hdeps e he hb
   ·rw [if_neg ej] at hlj
    exact hcl j oj hoj hlj e he hb
 have okOf:∀ {i:Nat} {o:Oper},ops[i]?=some o->opOk o=true/\∀ d,o.dst=some d->d < n:=fun ho=>opsOk_mem hops _ (by have:=Array.mem_of_getElem? ho;simpa using this)
 have key:∀ (fuel:Nat) (L:List Nat) (listed:Array Bool) (st:St) (a:Act) (w:World),L.length+1<=fuel->(∀ i ∈ L,i < N)->L.Pairwise (· < ·)->listed.size=ops.size->(∀ i,(i ∈ L ∨ i=N) ↔ i < ops.size/\listed.getD i true=false)->Closed ops listed ->
   Rel E w0 M n st a w->vcOps tab K ops (pickOps ops L) st (fun s=>swD s x x2 z=true/\vcOps tab K ops (pickOps ops [N]) s k)->wpAny P .any ops Q fuel listed a w:=by
  intro fuel
  induction fuel with
  | zero=>intro L listed st a w hlen;omega
  | succ fuel ih =>
   intro L listed st a w hlen hLN hsort hsz hL hcl hr hv
   have rdy:=rdy0 listed hsz
   refine ⟨fun hnil=>?_,fun i hi=>?_⟩
   ·exfalso
    cases L with
    | nil =>
     obtain ⟨h1,h2⟩:=(hL N).1 (.inr rfl)
     have:=rdy N h1 h2 fun j hj h=>by
      rcases (hL j).2 h with h | h
      ·cases h
      ·omega
     rw [hnil] at this;cases this
    | cons i L' =>
     obtain ⟨h1,h2⟩:=(hL i).1 (.inl (by simp))
     have:=rdy i h1 h2 fun j hj h=>by
      rcases (hL j).2 h with h | h
      ·rcases List.mem_cons.1 h with h | h
       ·omega
       ·have:=(List.pairwise_cons.1 hsort).1 j h;omega
      ·have:=hLN i (by simp);omega
     rw [hnil] at this;cases this
   ·obtain ⟨hi1,hi2,o,ho,hdeps⟩:=ready_iff.1 hi
    obtain ⟨hok1,hok2⟩:=okOf ho
    have hcl':Closed ops (listed.setIfInBounds i true):=clos listed i o hcl ho hdeps
    rcases (hL i).2 ⟨hi1,hi2⟩ with hiL | hiN
    ·obtain ⟨L1,L2,rfl⟩:=List.append_of_mem hiL
     have hL1:∀ j ∈ L1,j < i:=by
      intro j hj
      exact (List.pairwise_append.1 hsort).2.2 j hj i (by simp)
     rw [pickOps_append] at hv
     have e2:pickOps ops (i :: L2)=o :: pickOps ops L2:=by simp only [pickOps,ho]
     rw [e2] at hv
     have hiN:i < N:=hLN i (by simp)
     have nobit:∀ j ∈ L1,((Region.before ops).getD i 0).testBit j=true->False:=by
      intro j hj h2
      have hji:=hL1 j hj
      have hls:=before_listed hcert hcl i o ho hdeps j (by omega) h2
      have hju:=((hL j).1 (.inl (by simp [hj]))).2
      rw [getD_of_lt (by omega) true false,hls] at hju
      cases hju
     have hfree:∀ j x,j ∈ L1->ops[j]?=some x->Free3 K tab ops x o ∨ (j=s2/\x.apart ops o=true/\lateS x o=true):=by
      intro j x hj hoj
      have hji:=hL1 j hj
      have h1:=hpair i (List.mem_range.2 hiN)
      rw [List.all_eq_true] at h1
      have h2:=h1 j (List.mem_range.2 hji)
      rw [Bool.and_eq_true] at h2
      have h2:=h2.1
      unfold pairS pairOk at h2
      rw [hoj,ho] at h2
      simp only [Bool.or_eq_true,Bool.and_eq_true,Bool.not_eq_true'] at h2
      rcases h2 with ((h2 | ⟨⟨⟨h3,h4⟩,h5⟩,h6⟩) | ⟨h3,h4⟩) | ⟨h3,h4,h5⟩
      ·exact (nobit j hj h2).elim
      ·exact .inl (.inl ⟨h3,h4,h5,h6⟩)
      ·exact .inl (.inr ⟨h3,h4⟩)
      ·exact .inr ⟨Nat.eq_of_beq_eq_true h3,h4,h5⟩
     have hstep:vcStep tab K ops o st fun s=>vcOps tab K ops (pickOps ops L1 ++ pickOps ops L2) s (fun s=>swD s x x2 z=true/\vcOps tab K ops (pickOps ops [N]) s k):=by
      by_cases hs2:s2 ∈ L1/\(o2.apart ops o=true/\lateS o2 o=true)
      ·obtain ⟨hs2,hap,hlt⟩:=hs2
       obtain ⟨La,Lb,hLab⟩:=List.append_of_mem hs2
       have hsorted:(La ++ s2 :: Lb).Pairwise (· < ·):=by rw [← hLab];exact (List.pairwise_append.1 hsort).1
       have hb:Lb=[]:=by
        cases Lb with
        | nil=>rfl
        | cons j Lb =>
         exfalso
         have hj:j ∈ L1:=by rw [hLab];simp
         have h3:s2 < j:=(List.pairwise_cons.1 (List.pairwise_append.1 hsorted).2.1).1 j (by simp)
         have h1:=hpair i (List.mem_range.2 hiN)
         rw [List.all_eq_true] at h1
         have h2:=h1 j (List.mem_range.2 (hL1 j hj))
         rw [Bool.and_eq_true,Bool.or_eq_true] at h2
         rcases h2.2 with h4 | h4
         ·have:=Nat.le_of_ble_eq_true h4;omega
         ·exact nobit j hj h4
       subst hb
       have e3:pickOps ops L1=pickOps ops La ++ [o2]:=by rw [hLab,pickOps_append];simp only [pickOps,ho2]
       rw [e3] at hv ⊢
       have hfa:∀ x ∈ pickOps ops La,Free3 K tab ops x o:=by
        intro y hy
        obtain ⟨j,hj,hoj⟩:=pickOps_mem hy
        have hjL:j ∈ L1:=by rw [hLab];simp [hj]
        rcases hfree j y hjL hoj with h | ⟨h,_⟩
        ·exact h
        ·exfalso
         have:=(List.pairwise_append.1 hsorted).2.2 j hj s2 (by simp)
         omega
       have hv2:vcOps tab K ops (pickOps ops La ++ o :: (o2 :: pickOps ops L2)) st (fun s=>swD s x x2 z=true/\vcOps tab K ops (pickOps ops [N]) s k):=by
        rw [List.append_assoc,vcOps_append] at hv
        rw [vcOps_append]
        refine vcOps_mono (fun s hs=>?_) hv
        simp only [List.singleton_append,vcOps] at hs ⊢
        exact commute_store hap hlt hs
       have:=extract hs hK hr.cl hfa hv2
       rw [List.append_assoc,List.singleton_append]
       exact this
      ·refine extract hs hK hr.cl (fun y hy=>?_) hv
       obtain ⟨j,hj,hoj⟩:=pickOps_mem hy
       rcases hfree j y hj hoj with h | ⟨h,h1,h2⟩
       ·exact h
       ·subst h
        rw [ho2] at hoj
        injection hoj with hoj
        subst hoj
        exact (hs2 ⟨hj,h1,h2⟩).elim
     have hrun:=step_sound (P:=P) (Q:=Q) ht hKA hok1 hok2 hr hstep (next:=wpAny P .any ops Q fuel (listed.setIfInBounds i true)) fun st' a' w' hr' hv'=>by
      rw [← pickOps_append] at hv'
      have hsort':(L1 ++ L2).Pairwise (· < ·):=by
       rw [List.pairwise_append] at hsort ⊢
       exact ⟨hsort.1,(List.pairwise_cons.1 hsort.2.1).2,fun a ha b hb=>hsort.2.2 a ha b (by simp [hb])⟩
      have hnd:i ∉ L1 ++ L2:=by
       intro hm
       rcases List.mem_append.1 hm with hm | hm
       ·have:=hL1 i hm;omega
       ·have:=(List.pairwise_cons.1 (List.pairwise_append.1 hsort).2.1).1 i hm;omega
      have hiN':i < N:=hLN i (by simp)
      refine ih (L1 ++ L2) _ st' a' w' (by simp at hlen ⊢;omega) (fun j hj=>hLN j (by rcases List.mem_append.1 hj with h | h <;> simp [h])) hsort' (by simp [hsz]) (fun j=>?_) hcl' hr' hv'
      rw [getD_set]
      constructor
      ·intro hj
       have h1:=(hL j).1 (by
        rcases hj with hj | hj
        ·rcases List.mem_append.1 hj with h | h <;> simp [h]
        ·exact .inr hj)
       have hne:¬ (i=j/\j < listed.size):=fun h=>by
        rcases hj with hj | hj
        ·exact hnd (by rw [h.1];exact hj)
        ·omega
       rw [if_neg hne]
       exact h1
      ·rintro ⟨h1,h2⟩
       by_cases e:i=j/\j < listed.size
       ·rw [if_pos e] at h2;cases h2
       ·rw [if_neg e] at h2
        rcases (hL j).2 ⟨h1,h2⟩ with h | h
        ·rcases List.mem_append.1 h with h | h
         ·simp [h]
         ·rcases List.mem_cons.1 h with h | h
          ·exact (e ⟨h.symm,by omega⟩).elim
          ·simp [h]
        ·exact .inr h
     unfold wpOp
     rw [ho]
     exact hrun
    ·subst hiN
     rw [hoP] at ho
     injection ho with ho
     subst ho
     have hL2:∀ j ∈ L,j=s1 ∨ j=s2:=by
      intro j hj
      by_cases e1:j=s1
      ·exact .inl e1
      by_cases e2:j=s2
      ·exact .inr e2
      exfalso
      have hjN:=hLN j hj
      have hls:=before_listed hcert hcl i oP hoP hdeps j (by omega) (hbit j (hLN j hj) e1 e2)
      have hju:=((hL j).1 (.inl hj)).2
      rw [getD_of_lt (by omega) true false,hls] at hju
      cases hju
     have h12:s1 ∈ L->s2 ∈ L:=by
      intro h
      by_cases h2:s2 ∈ L
      ·exact h2
      exfalso
      have h3:listed.getD s2 true=true:=by
       cases h4:listed.getD s2 true with
       | true=>rfl
       | false=>rcases (hL s2).2 ⟨by omega,h4⟩ with h5 | h5
                ·exact (h2 h5).elim
                ·omega
      rw [getD_of_lt (by omega) true false] at h3
      have hls:=before_listed hcert hcl s2 o2 ho2 (hcl s2 o2 ho2 h3) s1 (by omega) hb21
      have hju:=((hL s1).1 (.inl h)).2
      rw [getD_of_lt (by omega) true false,hls] at hju
      cases hju
     have hlst:∀ (ls:Array Bool) (j:Nat),ls.size=ops.size->j < ops.size->ls.getD j true=false->ls.getD j false=true->False:=by
      intro ls j h1 h2 h3 h4
      rw [getD_of_lt (by omega) true false,h4] at h3
      cases h3
     have hL':∀ j,j < ops.size->(listed.setIfInBounds i true).getD j true=false->j ∈ L:=by
      intro j hj h
      rw [getD_set] at h
      by_cases e:i=j/\j < listed.size
      ·rw [if_pos e] at h;cases h
      ·rw [if_neg e] at h
       rcases (hL j).2 ⟨hj,h⟩ with h | h
       ·exact h
       ·exact (e ⟨h.symm,by omega⟩).elim
     have hLk:∀ j ∈ L,(listed.setIfInBounds i true).getD j true=false:=by
      intro j hj
      rw [getD_set,if_neg (fun e=>by have:=hLN j hj;omega)]
      exact ((hL j).1 (.inl hj)).2
     have hsz':(listed.setIfInBounds i true).size=ops.size:=by simp [hsz]
     -- the last one left,the other of the two
     have last:∀ (fuel':Nat) (ls:Array Bool) (a':Act) (w':World),1<=fuel'->ls.size=ops.size->(∀ j,j < ops.size->(ls.getD j true=false ↔ j=s2))->o2.wp P a' w' (fun a'' w''=>Q .normal a'' w'') Q->wpAny P .any ops Q fuel' ls a' w':=by
      intro fuel' ls a' w' h1 h2 h3 h4
      obtain ⟨f,rfl⟩:∃ f,fuel'=f+1:=⟨fuel' - 1,by omega⟩
      refine any_one ho2 (rdy0 ls h2 s2 (by omega) ((h3 s2 (by omega)).2 rfl) fun j hj h=>?_) (fun j hj=>?_) h2g (Oper.wp_mono (fun a'' w'' hq=>?_) h4)
      ·have:=(h3 j h.1).1 h.2;omega
      ·obtain ⟨g1,g2,_⟩:=ready_iff.1 hj
       exact (h3 j g1).1 g2
      ·refine any_fin _ _ _ _ (fun j hj=>?_) hq
       rw [getD_set]
       by_cases e:s2=j/\j < ls.size
       ·rw [if_pos e]
       ·rw [if_neg e]
        cases h5:ls.getD j true with
        | true=>rfl
        | false=>exact (e ⟨((h3 j hj).1 h5).symm,by omega⟩).elim
     have okP:=okOf hoP
     have ok1:=okOf ho1
     have ok2:=okOf ho2
     have e3:∀ s (k':St->Prop),vcOps tab K ops (pickOps ops [i]) s k'=vcOp tab K oP s k':=by
      intro s k'
      simp only [pickOps,hoP,vcOps,vcStep,hPg]
     have e4:∀ s (k':St->Prop),vcOps tab K ops (pickOps ops [s2]) s k'=vcOp tab K o2 s k':=by
      intro s k'
      simp only [pickOps,ho2,vcOps,vcStep,h2g]
     have e5:∀ s (k':St->Prop),vcOps tab K ops (pickOps ops [s1,s2]) s k'=vcOp tab K o1 s (fun s'=>vcOp tab K o2 s' k'):=by
      intro s k'
      simp only [pickOps,ho1,ho2,vcOps,vcStep,h1g,h2g]
     unfold wpOp
     rw [hoP]
     simp only
     rw [if_pos (by simp [Region.wanted,hPg])]
     refine .inl ?_
     have hcase:L=[] ∨ L=[s2] ∨ L=[s1,s2]:=by
      match L,hL2,h12,hsort with
      | [],_,_,_=>exact .inl rfl
      | [p1],h,h',_ =>
       rcases h p1 (by simp) with e | e
       ·have:=h' (by simp [e]);simp at this;omega
       ·exact .inr (.inl (by rw [e]))
      | [p1,p2],h,h',hs' =>
       have h6:=(List.pairwise_cons.1 hs').1 p2 (by simp)
       rcases h p1 (by simp) with e | e
       ·rcases h p2 (by simp) with e' | e'
        ·omega
        ·exact .inr (.inr (by rw [e,e']))
       ·rcases h p2 (by simp) with e' | e' <;> omega
      | p1 :: p2 :: p3 :: _,h,h',hs' =>
       have h6:=(List.pairwise_cons.1 hs').1 p2 (by simp)
       have h7:=(List.pairwise_cons.1 (List.pairwise_cons.1 hs').2).1 p3 (by simp)
       rcases h p1 (by simp) with e | e <;> rcases h p2 (by simp) with e' | e' <;> rcases h p3 (by simp) with e'' | e'' <;> omega
     rcases hcase with rfl | rfl | rfl
     ·have hv1:vcOp tab K oP st k:=by
       have:=hv.2
       rw [e3] at this
       exact this
      exact vcOp_sound (P:=P) hr ht hKA okP.2 okP.1 hv1 fun st' a' w' hr' hk'=>any_fin _ _ _ _ (fun j hj=>by
       cases h5:(listed.setIfInBounds i true).getD j true with
       | true=>rfl
       | false=>have:=hL' j hj h5;cases this) (hQ st' a' w' hr' hk')
     ·rw [e4] at hv
      have hv1:vcOp tab K o2 st (fun s=>swD s x x2 z=true/\vcOp tab K oP s k):=by
       have:(fun s=>swD s x x2 z=true/\vcOps tab K ops (pickOps ops [i]) s k)=(fun s=>swD s x x2 z=true/\vcOp tab K oP s k):=by funext s;rw [e3]
       rw [this] at hv
       exact hv
      obtain ⟨b1,r1,b2,r2,hr1,hr2,st',hrel',hk'⟩:=swap_one (P:=P) hr ht hKA hPo hPd okP.1 h2o h2d ok2.1 hv1
      unfold Oper.wp
      rw [hr1,Oper.upon_skip,hPd]
      refine last _ _ _ _ (by simp at hlen;omega) hsz' (fun j hj=>⟨fun h=>?_,fun h=>?_⟩) ?_
      ·have:=hL' j hj h;simpa using this
      ·exact hLk j (by simp [h])
      ·unfold Oper.wp
       show o2.upon P a _ Q ((execOp a.eval o2).run P (w.setRow b1 r1))
       rw [hr2,Oper.upon_skip,h2d]
       exact hQ _ _ _ hrel' hk'
     ·rw [e5] at hv
      have hv1:vcOp tab K o1 st (fun s'=>vcOp tab K o2 s' (fun s=>swD s x x2 z=true/\vcOp tab K oP s k)):=by
       have:(fun s=>swD s x x2 z=true/\vcOps tab K ops (pickOps ops [i]) s k)=(fun s=>swD s x x2 z=true/\vcOp tab K oP s k):=by funext s;rw [e3]
       rw [this] at hv
       exact hv
      obtain ⟨v,b1,r1,b2,r2,hr1,hri,hr2,st',hrel',hk'⟩:=swap_two (P:=P) hr ht hKA hPo hPd okP.1 h1o h1d ok1.1 (ok1.2 d h1d) hxd hyd hzd h2o h2d ok2.1 hv1
      unfold Oper.wp
      rw [hr1,Oper.upon_skip,hPd]
      obtain ⟨f,rfl⟩:∃ f,fuel=f+1:=⟨fuel - 1,by simp at hlen;omega⟩
      have hin:∀ j,j < ops.size->(listed.setIfInBounds i true).getD j true=false->j=s1 ∨ j=s2:=fun j hj h=>by have:=hL' j hj h;simpa using this
      refine any_one ho1 (rdy0 _ hsz' s1 (by omega) (hLk s1 (by simp)) fun j hj h=>?_) (fun j hj=>?_) h1g ?_
      ·rcases hin j h.1 h.2 with e | e <;> omega
      ·obtain ⟨g1,g2,o',ho',hd'⟩:=ready_iff.1 hj
       rcases hin j g1 g2 with e | e
       ·exact e
       ·exfalso
        subst e
        have hls:=before_listed hcert hcl' j o' ho' hd' s1 (by omega) hb21
        exact hlst _ s1 hsz' (by omega) (hLk s1 (by simp)) hls
      ·unfold Oper.wp
       show o1.upon P a _ Q ((execOp a.eval o1).run P (w.setRow b1 r1))
       rw [hri,Oper.upon_value,h1d]
       refine last _ _ _ _ (by simp at hlen;omega) (by simp [hsz]) (fun j hj=>?_) ?_
       ·rw [getD_set]
        constructor
        ·intro h
         by_cases e:s1=j/\j < (listed.setIfInBounds i true).size
         ·rw [if_pos e] at h;cases h
         ·rw [if_neg e] at h
          rcases hin j hj h with h | h
          ·exact (e ⟨h.symm,by omega⟩).elim
          ·exact h
        ·intro h
         rw [if_neg (fun e=>by omega)]
         exact hLk j (by simp [h])
       ·unfold Oper.wp
        rw [hr2,Oper.upon_skip,h2d]
        exact hQ _ _ _ hrel' hk'
 refine wp_region_any hmix (key ops.size (List.range N) (Array.replicate ops.size false) st a _ (by simp;omega) (fun i hi=>List.mem_range.1 hi) List.pairwise_lt_range (by simp) (fun i=>?_) ?_ hrel.drawn hv)
 ·rw [List.mem_range]
  constructor
  ·intro h
   refine ⟨by omega,?_⟩
   rw [Array.getD_eq_getD_getElem?]
   have:i < ops.size:=by omega
   simp [this]
  ·intro h;have:=h.1;omega
 ·intro j o ho hl
  rw [Array.getD_eq_getD_getElem?] at hl
  by_cases h:j < ops.size <;> simp [h] at hl
end
end Go.SE

namespace Go.SE
variable [Base]
open Go.RowKit
section
variable {P:Program} {E:Ty->TypeId} {tab:TypeId->Option TI} {K:FuncId->Option Con} {O:Nat->Option Res} {pts:FuncId->Option PT} {hp:Nat->Bool} {gcs:Nat->Option (List Nat × List Nat)} {anns:Nat->Option Ann} {perm:Nat->List (List Nat)} {w0:World} {M:MM} {n:Nat}
def codeOkP (tab:TypeId->Option TI) (K:FuncId->Option Con) (hp:Nat->Bool) (perm:Nat->List (List Nat)) (n:Nat):Code->Bool
 | .region id ops draw=>opsOk n ops.toList && (match hp id with
  | false=>(match perm id with
   | []=>!draw || drawOk K tab ops
   | l :: ls=>draw && permOk ops (l :: ls))
  | true=>(match perm id with
   | []=>!draw
   | [[]]=>draw && drawLast K tab ops
   | [[],[s1,s2]]=>draw && swapOk K tab ops s1 s2
   | [l]=>draw && permOk ops [l]
   | _=>false))
 | .seq a b=>codeOkP tab K hp perm n a && codeOkP tab K hp perm n b
 | .block _ c=>codeOkP tab K hp perm n c
 | .loop c=>codeOkP tab K hp perm n c
 | .cond _ a b=>codeOkP tab K hp perm n a && codeOkP tab K hp perm n b
 | _=>true
theorem OOk.none {h:Bool} {ρ:Nat} {ro0:Nat->Option (Array Value)}:OOk (fun _=>Option.none) (MOf h ρ ro0) :=
 ⟨fun _ _ h=>(by cases h),fun _ h=>(by rcases h with h | h <;> cases h),fun _ h=>(by cases h)⟩
def AllPt (P:Program) (E:Ty->TypeId):List (FuncId × PT)->Prop
 | []=>True
 | (f,c) :: l=>PTOk P E f c/\AllPt P E l
theorem pall_of:∀ {l:List (FuncId × PT)},AllPt P E l->PAll P E (lookP l):=by
 intro l
 induction l with
 | nil=>intro _ f con h;cases h
 | cons p l ih =>
  intro h f con hf
  obtain ⟨a,b⟩:=p
  simp only [lookP] at hf
  split at hf
  ·rename_i e;injection hf with hf;subst e hf;exact h.1
  ·exact ih h.2 f con hf
end
end Go.SE

namespace Go.SE
variable [Base]
open Go.RowKit
abbrev TT:Prop:=true=true
abbrev TF:Prop:=false=false
abbrev TN:Prop:=(none:Option Res)=none
abbrev RL (l:List S):Prop:=l=l
abbrev RM (l:List (Option Res)):Prop:=l=l
def allInB (ids:List Nat):List Nat->Bool
 | []=>true
 | x :: l=>inL ids x && allInB ids l
def closedEB (e:Nat->S) (ids:List Nat):List Nat->Bool
 | []=>true
 | j :: l=>allInB ids (e j).refs && closedEB e ids l
def closedMB (m:Nat->Option Res) (ids:List Nat):List Nat->Bool
 | []=>true
 | j :: l=>(match m j with
   | some r=>allInB ids r.refs
   | none=>true) && closedMB m ids l
def closedVB (ids:List Nat):List (Nat × S)->Bool
 | []=>true
 | (_,v) :: l=>allInB ids v.refs && closedVB ids l
def closedRB (ids:List Nat):List (Nat × Res)->Bool
 | []=>true
 | (_,r) :: l=>allInB ids r.refs && closedRB ids l
def notInB (x:Nat):List Nat->Bool
 | []=>true
 | y :: l=>!(x == y) && notInB x l
def allDiffB:List Nat->Bool
 | []=>true
 | x :: l=>notInB x l && allDiffB l
theorem allInB_ok {O:Nat->Option Res} {ids:List Nat}:∀ {l:List Nat},allInB ids l=true->allInO O ids l:=by
 intro l
 induction l with
 | nil=>intro _;trivial
 | cons x l ih=>intro h;simp only [allInB,Bool.and_eq_true] at h;exact ⟨by simp [h.1],ih h.2⟩
theorem closedEB_ok {O:Nat->Option Res} {e:Nat->S} {ids:List Nat}:∀ {l:List Nat},closedEB e ids l=true->closedEO O e ids l:=by
 intro l
 induction l with
 | nil=>intro _;trivial
 | cons x l ih=>intro h;simp only [closedEB,Bool.and_eq_true] at h;exact ⟨allInB_ok h.1,ih h.2⟩
theorem closedMB_ok {O m:Nat->Option Res} {ids:List Nat}:∀ {l:List Nat},closedMB m ids l=true->closedMO O m ids l:=by
 intro l
 induction l with
 | nil=>intro _;trivial
 | cons x l ih =>
  intro h
  simp only [closedMB,Bool.and_eq_true] at h
  refine ⟨?_,ih h.2⟩
  have h1:=h.1
  cases hm:m x with
  | none=>trivial
  | some r=>rw [hm] at h1;exact allInB_ok h1
theorem closedVB_ok {O:Nat->Option Res} {ids:List Nat}:∀ {l:List (Nat × S)},closedVB ids l=true->closedVO O ids l:=by
 intro l
 induction l with
 | nil=>intro _;trivial
 | cons x l ih=>intro h;obtain ⟨j,v⟩:=x;simp only [closedVB,Bool.and_eq_true] at h;exact ⟨allInB_ok h.1,ih h.2⟩
theorem closedRB_ok {O:Nat->Option Res} {ids:List Nat}:∀ {l:List (Nat × Res)},closedRB ids l=true->closedRO O ids l:=by
 intro l
 induction l with
 | nil=>intro _;trivial
 | cons x l ih=>intro h;obtain ⟨j,v⟩:=x;simp only [closedRB,Bool.and_eq_true] at h;exact ⟨allInB_ok h.1,ih h.2⟩
theorem notInB_ok {x:Nat}:∀ {l:List Nat},notInB x l=true->notIn x l:=by
 intro l
 induction l with
 | nil=>intro _;trivial
 | cons y l ih=>intro h;simp only [notInB,Bool.and_eq_true,Bool.not_eq_true',beq_eq_false_iff_ne] at h;exact ⟨h.1,ih h.2⟩
theorem allDiffB_ok:∀ {l:List Nat},allDiffB l=true->allDiff l:=by
 intro l
 induction l with
 | nil=>intro _;trivial
 | cons y l ih=>intro h;simp only [allDiffB,Bool.and_eq_true] at h;exact ⟨notInB_ok h.1,ih h.2⟩
def gcB (live ids:List Nat) (st:St):Bool:=closedEB st.env ids live && closedMB st.mem ids ids
def gcQ (st:St) (k:St->Prop):Option (List Nat × List Nat)->Prop
 | none=>k st
 | some (live,ids)=>gcB live ids st=true/\k (gcSt (fun _=>none) live ids st)
theorem gcQ_ok {st:St} {k k':St->Prop} (hk:∀ s,k s->k' s):∀ {g:Option (List Nat × List Nat)},gcQ st k g->gcK (fun _=>none) st k' g:=by
 intro g
 cases g with
 | none=>exact hk st
 | some p =>
  obtain ⟨live,ids⟩:=p
  intro h
  have h1:=h.1
  unfold gcB at h1
  simp only [Bool.and_eq_true] at h1
  exact ⟨⟨closedEB_ok h1.1,closedMB_ok h1.2,fun j hj=>(by cases hj)⟩,hk _ h.2⟩
def eqB (a b:Bool):Bool:=match a,b with
 | true,true=>true
 | false,false=>true
 | _,_=>false
theorem eqB_ok {a b:Bool} (h:eqB a b=true):a=b:=by cases a <;> cases b <;> first | rfl | cases h
def memSpB (st st':St):List Nat->Bool
 | []=>true
 | j :: l=>((st.mem j).isSome && eqB (st'.sp j) (st.sp j) && eqB (st'.fr j) (st.fr j)) && memSpB st st' l
def blkSpB (st:St):List (Nat × Res)->Bool
 | []=>true
 | (j,r) :: l=>(!(st.sp j) && !(st.fr j) && match r with
   | .blk _=>true
   | .vec _ _=>true
   | _=>false) && blkSpB st l
def ownSpB (st:St) (ρ:Nat->Nat):List Own->Bool
 | []=>true
 | o :: l=>(!(st.sp (ρ o.id)) && !(st.fr (ρ o.id))) && ownSpB st ρ l
def ownEq (st:St) (ρ:Nat->Nat):List Own->Prop
 | []=>True
 | o :: l=>(match st.mem (ρ o.id) with
   | some (.sl _ t xs)=>castL o.t t xs=some o.xs
   | _=>False)/\ownEq st ρ l
def rdQ:Option Nat->Option Nat->Prop
 | none,none=>TT
 | some n,some m=>n<=m/\m<=1099511627776
 | _,_=>False
def fitsB (live:List Nat) (sets:List (Nat × S)) (mids:List Nat) (blks:List (Nat × Res)) (owns:List Own) (st st':St) (m:List (Nat × Nat)):Bool :=
 allDiffB (idsC mids blks owns) && (allDiffB ((idsC mids blks owns).map (lookR m)) && (allDiffB (famsOf st' ((idsC mids blks owns).map (lookR m))) &&
  (closedEB st.env (mids ++ blks.map (·.1)) live && (closedVB (idsC mids blks owns) sets && (closedMB st.mem (mids ++ blks.map (·.1)) mids && (closedRB (idsC mids blks owns) blks &&
  (memSpB st st' mids && (blkSpB st' blks && ownSpB st' (lookR m) owns))))))))
def fitsQ1 (live:List Nat) (sets:List (Nat × S)) (mids:List Nat) (blks:List (Nat × Res)) (owns:List Own) (rd:Option Nat) (st st':St):Option (List (Nat × Nat))->Prop
 | none=>False
 | some m=>fitsB live sets mids blks owns st st' m=true/\live.map st'.env=live.map st.env/\sets.map (fun p=>st'.env p.1)=sets.map (fun p=>p.2.ren (lookR m)) /\
   mids.map st'.mem=mids.map st.mem/\blks.map (fun p=>st'.mem p.1)=blks.map (fun p=>some (p.2.ren (lookR m)))/\ownEq st' (lookR m) owns/\rdQ st'.rd rd
def fitsQ (live:List Nat) (sets:List (Nat × S)) (mids:List Nat) (blks:List (Nat × Res)) (owns:List Own) (rd:Option Nat) (st st':St):Prop :=
 fitsQ1 live sets mids blks owns rd st st' (renL st' owns)
theorem envSame_of {e e':Nat->S}:∀ {l:List Nat},l.map e=l.map e'->envSame e e' l:=by
 intro l
 induction l with
 | nil=>intro _;trivial
 | cons x l ih=>intro h;simp only [List.map_cons,List.cons.injEq] at h;exact ⟨h.1,ih h.2⟩
theorem envSets_of {e:Nat->S} {ρ:Nat->Nat}:∀ {l:List (Nat × S)},l.map (fun p=>e p.1)=l.map (fun p=>p.2.ren ρ)->envSets e ρ l:=by
 intro l
 induction l with
 | nil=>intro _;trivial
 | cons x l ih=>intro h;obtain ⟨j,v⟩:=x;simp only [List.map_cons,List.cons.injEq] at h;exact ⟨h.1,ih h.2⟩
theorem memSame_of {st st':St}:∀ {l:List Nat},memSpB st st' l=true->l.map st'.mem=l.map st.mem->memSame st st' l:=by
 intro l
 induction l with
 | nil=>intro _ _;trivial
 | cons x l ih =>
  intro hb h
  simp only [List.map_cons,List.cons.injEq] at h
  simp only [memSpB,Bool.and_eq_true] at hb
  exact ⟨⟨hb.1.1.1,h.1,eqB_ok hb.1.1.2,eqB_ok hb.1.2⟩,ih hb.2 h.2⟩
theorem memBlks_of {st:St} {ρ:Nat->Nat}:∀ {l:List (Nat × Res)},blkSpB st l=true->l.map (fun p=>st.mem p.1)=l.map (fun p=>some (p.2.ren ρ))->memBlks st ρ l:=by
 intro l
 induction l with
 | nil=>intro _ _;trivial
 | cons x l ih =>
  intro hb h
  obtain ⟨j,r⟩:=x
  simp only [List.map_cons,List.cons.injEq] at h
  simp only [blkSpB,Bool.and_eq_true,Bool.not_eq_true'] at hb
  refine ⟨⟨h.1,hb.1.1.1,hb.1.1.2,?_⟩,ih hb.2 h.2⟩
  cases r <;> first | trivial | (have:=hb.1.2;cases this)
theorem memOwns_of {st:St} {ρ:Nat->Nat}:∀ {l:List Own},ownSpB st ρ l=true->ownEq st ρ l->memOwns st ρ l:=by
 intro l
 induction l with
 | nil=>intro _ _;trivial
 | cons x l ih =>
  intro hb h
  simp only [ownSpB,Bool.and_eq_true,Bool.not_eq_true'] at hb
  exact ⟨⟨hb.1.1,hb.1.2,h.1⟩,ih hb.2 h.2⟩
theorem okO_none {ρ:Nat->Nat}:∀ l:List Nat,okO (fun _=>none) ρ l:=by
 intro l
 induction l with
 | nil=>trivial
 | cons x l ih=>exact ⟨rfl,ih⟩
theorem fitsQ_ok {live:List Nat} {sets:List (Nat × S)} {mids:List Nat} {blks:List (Nat × Res)} {owns:List Own} {rd:Option Nat} {st st':St} (h:fitsQ live sets mids blks owns rd st st'):fitsP (fun _=>none) live sets mids blks owns rd st st':=by
 unfold fitsQ at h
 unfold fitsP
 cases hm:renL st' owns with
 | none=>rw [hm] at h;exact h.elim
 | some m =>
  rw [hm] at h
  obtain ⟨hb,h1,h2,h3,h4,h5,h6⟩:=h
  unfold fitsB at hb
  simp only [Bool.and_eq_true] at hb
  obtain ⟨b1,b2,b3,b4,b5,b6,b7,b8,b9,b10⟩:=hb
  refine ⟨envSame_of h1,envSets_of h2,memSame_of b8 h3,memBlks_of b9 h4,memOwns_of b10 h5,allDiffB_ok b1,allDiffB_ok b2,allDiffB_ok b3,closedEB_ok b4,closedVB_ok b5,closedMB_ok b6,closedRB_ok b7,okO_none _,fun j hj=>(by cases hj),fun j f t xs hj=>(by cases hj),?_⟩
  cases h7:st'.rd <;> cases rd <;> rw [h7] at h6
  ·trivial
  ·exact h6.elim
  ·exact h6.elim
  ·exact h6
def vcLoopQ (body:St->(XK->St->Prop)->Prop) (st:St) (Q:XK->St->Prop):Option Ann->Prop
 | none=>False
 | some ⟨α,ok,mu,i0,nx,live,sets,mids,blks,owns,rd,base⟩=>(ok (i0 st)/\fitsQ live (sets (i0 st)) mids (blks (i0 st)) (owns (i0 st)) (rd st.rd (i0 st)) st st) /\
   ∀ a:α,ok a->body (headP (fun _=>none) live (sets a) mids (blks a) (owns a) base (rd st.rd a) st) (seqK (fun st'=>ok (nx a st')/\mu (nx a st') < mu a/\fitsQ live (sets (nx a st')) mids (blks (nx a st')) (owns (nx a st')) (rd st.rd (nx a st')) st st') Q)
section
variable (tab:TypeId->Option TI) (K:FuncId->Option Con) (pts:FuncId->Option PT) (hp:Nat->Bool) (gcs:Nat->Option (List Nat × List Nat)) (anns:Nat->St->Option Ann) (perm:Nat->List (List Nat))
def vcQ:Code->St->(XK->St->Prop)->Prop
 | .skip,st,Q=>Q .normal st
 | .region id ops _,st,Q=>vcRegP tab K pts ops st (Q .normal) (hp id) (perm id)
 | .seq a b,st,Q=>vcQ a st (seqK (fun st'=>gcQ st' (fun s=>vcQ b s Q) (gcs (firstReg b))) Q)
 | .cond c a b,st,Q=>condK (vcQ a st Q) (vcQ b st Q) (ev st c)
 | .block id c,st,Q=>vcQ c st (blockK id Q)
 | .loop c,st,Q=>vcLoopQ (fun st' Q'=>vcQ c st' Q') st Q (anns (firstReg c) st)
 | .exit id,st,Q=>Q (.exit id) st
 | .ret,st,Q=>Q .ret st
 | _,_,_=>False
end
section
variable {P:Program} {E:Ty->TypeId} {tab:TypeId->Option TI} {K:FuncId->Option Con} {pts:FuncId->Option PT} {hp:Nat->Bool} {gcs:Nat->Option (List Nat × List Nat)} {anns:Nat->St->Option Ann} {perm:Nat->List (List Nat)} {w0:World} {M:MM} {n:Nat}
open Classical in
theorem codeQ_sound (ht:TabOk P E tab) (hKA:KAll P E K) (hPA:PAll P E pts) (hmix:P.follows .mixedOrders=true) (hdr:DrawSound P E tab K w0 M n) (hOO:OOk (fun _=>none) M):∀ (c:Code) (st:St) (a:Act) (w:World) (Qs:XK->St->Prop) (Q:Exit->Act->World->Prop),codeOkP tab K hp perm n c=true->Rel E w0 M n st a w->vcQ tab K pts hp gcs anns perm c st Qs ->
  (∀ x st' a' w',Rel E w0 M n st' a' w'->Qs x st'->Q x.exit' a' w')->c.wp P Q a w:=by
 have hO:=hOO
 intro c
 induction c with
 | skip=>intro st a w Qs Q _ h hv hQ;exact wp_skip (hQ .normal st a w h hv)
 | region id ops draw =>
  intro st a w Qs Q hok h hv hQ
  simp only [codeOkP,Bool.and_eq_true] at hok
  obtain ⟨hok1,hok2⟩:=hok
  simp only [vcQ] at hv
  cases hh:hp id with
  | false =>
   rw [hh] at hv hok2
   cases hpm:perm id with
   | nil =>
    rw [hpm] at hv hok2
    simp only [vcRegP,vcReg] at hv
    simp only at hok2
    cases draw with
    | false=>exact wp_region_list (seq_sound ht hKA (fun st' a' w' hr hk=>hQ .normal st' a' w' hr hk) ops.toList st a w (opsOk_mem hok1) h hv)
    | true=>exact hdr id ops st a w _ Q (by simpa using hok2) hok1 h hv fun st' a' w' hr hk=>hQ .normal st' a' w' hr hk
   | cons l ls =>
    rw [hpm] at hv hok2
    simp only [vcRegP,vcReg] at hv
    simp only [Bool.and_eq_true,permOk,List.all_eq_true] at hok2
    obtain ⟨hd,hp1,hp2⟩:=hok2
    subst hd
    refine wp_region_any hmix (any_sound ht hKA hok1 (fun st' a' w' hr hk=>hQ .normal st' a' w' hr hk) _ _ st a _ hp1 h.drawn fun x hx=>vcEach_mem hv x ?_)
    have:=hp2 x hx
    simpa using this
  | true =>
   rw [hh] at hv hok2
   cases hpm:perm id with
   | nil =>
    rw [hpm] at hv hok2
    simp only [vcRegP] at hv
    simp only [Bool.not_eq_true'] at hok2
    subst hok2
    exact wp_region_list (seqP_sound ht hKA hPA (fun st' a' w' hr hk=>hQ .normal st' a' w' hr hk) ops.toList st a w (opsOk_mem hok1) h hv)
   | cons l ls =>
    rw [hpm] at hv hok2
    cases ls with
    | cons l' ls =>
     rcases l with _ | ⟨i0,l⟩
     ·rcases l' with _ | ⟨s1,_ | ⟨s2,_ | ⟨_,_⟩⟩⟩
      ·cases hok2
      ·cases hok2
      ·rcases ls with _ | ⟨_,_⟩
       ·simp only [vcRegP] at hv
        simp only [Bool.and_eq_true] at hok2
        obtain ⟨hd,hdl⟩:=hok2
        subst hd
        exact draw_swap (pts:=pts) ht (tab_small ht) hKA hmix hdl hok1 h hv fun st' a' w' hr hk=>hQ .normal st' a' w' hr hk
       ·cases hok2
      ·cases hok2
     ·cases hok2
    | nil =>
    cases l with
    | nil =>
     simp only [vcRegP] at hv
     simp only [Bool.and_eq_true] at hok2
     obtain ⟨hd,hdl⟩:=hok2
     subst hd
     exact draw_last ht (tab_small ht) hKA hPA hmix hdl hok1 h hv fun st' a' w' hr hk=>hQ .normal st' a' w' hr hk
    | cons i0 l =>
     simp only [vcRegP] at hv
     simp only [Bool.and_eq_true,permOk,List.all_eq_true] at hok2
     obtain ⟨hd,hp1,hp2⟩:=hok2
     subst hd
     refine wp_region_any hmix (one_sound ht hKA hPA hok1 (fun st' a' w' hr hk=>hQ .normal st' a' w' hr hk) _ (i0 :: l) _ st a _ hp1 (fun x hx=>?_) h.drawn hv)
     have:=hp2 x hx
     simpa using this
 | seq x y ihx ihy =>
  intro st a w Qs Q hok h hv hQ
  simp only [codeOkP,Bool.and_eq_true] at hok
  refine wp_seq (ihx st a w _ _ hok.1 h hv fun k st' a' w' hr hk=>?_)
  cases k with
  | normal =>
   simp only [seqK] at hk
   have hk2:=gcQ_ok (k':=fun s=>vcQ tab K pts hp gcs anns perm y s Qs) (fun _ h=>h) hk
   unfold gcK at hk2
   split at hk2
   ·exact ihy st' a' w' Qs Q hok.2 hr hk2 hQ
   ·exact ihy _ a' w' Qs Q hok.2 (hr.gc hO hk2.1) hk2.2 hQ
  | exit id=>exact hQ (.exit id) st' a' w' hr hk
  | ret=>exact hQ .ret st' a' w' hr hk
 | cond cnd x y ihx ihy =>
  intro st a w Qs Q hok h hv hQ
  simp only [codeOkP,Bool.and_eq_true] at hok
  simp only [vcQ] at hv
  unfold condK at hv
  split at hv
  ·rename_i t he
   have hval:=(ev_val h he).1
   cases t with
   | true=>exact wp_cond_true hval (ihx st a w Qs Q hok.1 h (vcIf_t hv) hQ)
   | false=>exact wp_cond_false hval (ihy st a w Qs Q hok.2 h (vcIf_f hv) hQ)
  ·exact hv.elim
 | block id x ih =>
  intro st a w Qs Q hok h hv hQ
  refine wp_block (ih st a w _ _ hok h hv fun k st' a' w' hr hk=>?_)
  cases k with
  | normal=>exact hQ .normal st' a' w' hr hk
  | exit id' =>
   simp only [XK.exit',Exit.inBlock]
   simp only [blockK] at hk
   split
   ·rename_i e;rw [if_pos e] at hk;exact hQ .normal st' a' w' hr hk
   ·rename_i e;rw [if_neg e] at hk;exact hQ (.exit id') st' a' w' hr hk
  | ret=>exact hQ .ret st' a' w' hr hk
 | loop x ih =>
  intro st a w Qs Q hok h hv hQ
  simp only [vcQ] at hv
  unfold vcLoopQ at hv
  split at hv
  ·exact hv.elim
  ·rename_i α ok mu i0 nx live sets mids blks owns rd base hA
   obtain ⟨⟨ho0,hf0⟩,hround⟩:=hv
   let α0:α:=i0 st
   let hd:α->St:=fun α=>SE.headP (fun _=>none) live (sets α) mids (blks α) (owns α) base (rd st.rd α) st
   have hex:∀ (a:Act) (w:World),(∃ α,ok α/\Rel E w0 M n (hd α) a w)->∃ m,∃ α,ok α/\Rel E w0 M n (hd α) a w/\mu α=m :=
    fun a w ⟨α,h1,h2⟩=>⟨_,α,h1,h2,rfl⟩
   let μ:Act->World->Nat:=fun a w=>if hh:∃ m,∃ α,ok α/\Rel E w0 M n (hd α) a w/\mu α=m then Classical.choose (least hh) else 0
   refine wp_loop (fun a w=>∃ α,ok α/\Rel E w0 M n (hd α) a w) μ ⟨α0,ho0,h.headP hO (fitsQ_ok hf0)⟩ ?_
   intro a w hI
   have hh:=hex a w hI
   obtain ⟨α,h1,h2,h3⟩:=(Classical.choose_spec (least hh)).1
   have hμ:μ a w=mu α:=by simp only [μ,dif_pos hh];exact h3.symm
   refine ih _ a w _ _ hok h2 (hround α h1) fun k st' a' w' hr hk=>?_
   cases k with
   | normal =>
    obtain ⟨g1,g2,g3⟩:=hk
    have hrel:Rel E w0 M n (hd (nx α st')) a' w':=hr.headP hO (fitsQ_ok g3)
    refine ⟨⟨nx α st',g1,hrel⟩,?_⟩
    have hh':∃ m,∃ α,ok α/\Rel E w0 M n (hd α) a' w'/\mu α=m:=⟨_,nx α st',g1,hrel,rfl⟩
    have:μ a' w'<=mu (nx α st'):=by simp only [μ,dif_pos hh'];exact (Classical.choose_spec (least hh')).2 _ ⟨nx α st',g1,hrel,rfl⟩
    omega
   | exit id=>exact hQ (.exit id) st' a' w' hr hk
   | ret=>exact hQ .ret st' a' w' hr hk
 | exit id=>intro st a w Qs Q _ h hv hQ;exact wp_exit (hQ (.exit id) st a w h hv)
 | ret=>intro st a w Qs Q _ h hv hQ;exact wp_ret (hQ .ret st a w h hv)
 | _=>intro st a w Qs Q _ h hv hQ;exact hv.elim
theorem fnQ_sound (ht:TabOk P E tab) (hKA:KAll P E K) (hPA:PAll P E pts) (hmix:P.follows .mixedOrders=true) (hdr:∀ w0 M n,DrawSound P E tab K w0 M n) {f:FuncId} {fn:Func} {c:Code} {con:Con} (hf:P.funcs[f]?=some fn) (hb:fn.body=some c) (hn:con.aks.length<=fn.ntmps) (hok:codeOkP tab K hp perm fn.ntmps c=true)
  {anns:Args con.aks->Nat->Nat->St->Option Ann} (hvc:∀ x k,con.pre x->(hasRdr con.aks=true->k+con.cost x<=rdLimit)->vcQ tab K pts hp gcs (anns x k) perm c (entry (encs con.aks x) (rdOf (hasRdr con.aks) k)) (retOk tab con fn.results.toList x k)):CallOk P E f con:=by
 intro w0 ro0 ρ k x vs id0 hpre hin hrd hargs
 have hlen:vs.length=con.aks.length:=by
  rw [hargs.1]
  have:∀ (ks:List AK) (x:Args ks),(encs ks x).length=ks.length:=by
   intro ks
   induction ks with
   | nil=>intro x;rfl
   | cons k ks ih=>intro x;obtain ⟨x,xs⟩:=x;simp [encs,ih]
  exact this _ _
 have hrd1:hasRdr con.aks=true->RdOk w0 ro0 ρ k:=fun h=>(hrd h).1
 refine calls_of_wp hf hb ?_
 refine codeQ_sound ht hKA hPA hmix (hdr _ _ _) OOk.none c _ _ _ (retOk tab con fn.results.toList x k) _ hok (entry_rel hin hrd1 hargs (by omega)) (hvc x k hpre fun h=>(hrd h).2) ?_
 intro xk st' a' w' hr hk
 have fin:retOk tab con fn.results.toList x k .ret st'->a'.defers=[]/\∃ v,(results fn a'.tmps).run P w'=.ok v w'/\∃ v1 r g,Ending.returned v=.returned v1/\con.post x r/\Ext (fun b=>hasRdr con.aks=true/\b=ρ) w0 w'/\g.ρ=ρ/\ResOk E w0 w' ro0 con.rks id0 r v1 g/\(hasRdr con.aks=true->RdStep w0 w' ρ (k+con.cost x)):=by
  intro hv
  obtain ⟨v,h1,r,g,h2,h3,h4,h5,h6⟩:=exit_ok id0 ht hin hrd1 hr hv
  exact ⟨hr.defers,v,h1,v,r,g,rfl,h2,h3,h4,h5,h6⟩
 cases xk with
 | normal=>exact fin hk
 | ret=>exact fin hk
 | exit id=>exact hk.elim
theorem fn_okQ {l:List (FuncId × Con)} {lp:List (FuncId × PT)} (ht:TabOk P E tab) (hmix:P.follows .mixedOrders=true) (hl:AllOk P E l) (hlp:AllPt P E lp) {f:FuncId} {fn:Func} {con:Con} (hf:P.funcs[f]?=some fn)
  (hb : fn.body = some (bodyOf fn)) (hname : (fn.name == "runtime.NumGoroutine") = false) (hn : con.aks.length <= fn.ntmps) (hok : codeOkP tab (lookF l) hp perm fn.ntmps (bodyOf fn) = true) {anns : Args con.aks -> Nat -> Nat -> St -> Option Ann}
  (hvc:∀ x k,con.pre x->(hasRdr con.aks=true->k+con.cost x<=rdLimit)->vcQ tab (lookF l) (lookP lp) hp gcs (anns x k) perm (bodyOf fn) (entry (encs con.aks x) (rdOf (hasRdr con.aks) k)) (retOk tab con fn.results.toList x k))
  (htot:∀ x,con.pre x->∃ r,con.post x r):FnOk P E f con :=
 ⟨⟨fn,_,hf,hname,hb⟩,fnQ_sound ht (kall_of hl) (pall_of hlp) hmix (fun _ _ _=>draw_sound ht (tab_small ht) (kall_of hl) hmix _ _ _) hf hb hn hok hvc,htot⟩
end
end Go.SE

namespace Go.SE
variable [Base]
open Go.RowKit
section
variable {P:Program} {E:Ty->TypeId} {tab:TypeId->Option TI} {w0:World} {M:MM} {n:Nat} {o:Oper} {st:St} {a:Act} {w:World}
def noREB (e:Nat->S):List Nat->Bool
 | []=>true
 | x :: l=>noRS (e x) && noREB e l
def noRMB (m:Nat->Option Res):List Nat->Bool
 | []=>true
 | x :: l=>(match m x with
   | some r=>noRR r
   | none=>true) && noRMB m l
theorem noREB_ok {e:Nat->S}:∀ {l:List Nat},noREB e l=true->∀ x ∈ l,noRS (e x)=true:=by
 intro l
 induction l with
 | nil=>intro _ x h;cases h
 | cons y l ih=>intro h x hx;simp only [noREB,Bool.and_eq_true] at h;rcases List.mem_cons.1 hx with rfl | hx;exact h.1;exact ih h.2 x hx
theorem noRMB_ok {m:Nat->Option Res}:∀ {l:List Nat},noRMB m l=true->∀ x ∈ l,∀ r,m x=some r->noRR r=true:=by
 intro l
 induction l with
 | nil=>intro _ x h;cases h
 | cons y l ih =>
  intro h x hx r hr
  simp only [noRMB,Bool.and_eq_true] at h
  rcases List.mem_cons.1 hx with rfl | hx
  ·have h1:=h.1;rw [hr] at h1;exact h1
  ·exact ih h.2 x hx r hr
theorem noR_gc {live ids:List Nat} (h1:noREB st.env live=true) (h2:noRMB st.mem ids=true):NoR (gcSt (fun _=>none) live ids st):=by
 constructor
 ·intro x
  rcases tabE_cases st.env live x with ⟨hx,e⟩ | e
  ·have e':(gcSt (fun _=>none) live ids st).env x=st.env x:=e
   rw [e'];exact noREB_ok h1 x hx
  ·have e':(gcSt (fun _=>none) live ids st).env x=SE.junk:=e
   rw [e'];rfl
 ·intro j r hj
  have hj':tabM (fun _=>none) st.mem ids j=some r:=hj
  rw [tabM_get] at hj'
  split at hj'
  ·rename_i e
   simp at e
   exact noRMB_ok h2 j (inL_mem.1 e) r hj'
  ·cases hj'
def openKQ (tab:TypeId->Option TI) (K:FuncId->Option Con) (pts:FuncId->Option PT) (hp:Nat->Bool) (anns:Nat->St->Option Ann) (perm:Nat->List (List Nat)) (gl:List Nat × List Nat) (n:Nat) (rest:Code) (Q:XK->St->Prop) (st1:St):Option (Nat × Nat × Nat)->Prop
 | some d=>openN d n/\st1.rd=none/\gcB gl.1 gl.2 st1=true/\(noREB st1.env gl.1 && noRMB st1.mem gl.2)=true/\openA ((gcSt (fun _=>none) gl.1 gl.2 st1).env 0)/\vcQ tab K pts hp (fun _=>none) anns perm rest (openSt d (gcSt (fun _=>none) gl.1 gl.2 st1)) Q
 | none=>False
def vcOpenQ (tab:TypeId->Option TI) (K:FuncId->Option Con) (pts:FuncId->Option PT) (hp:Nat->Bool) (anns:Nat->St->Option Ann) (perm:Nat->List (List Nat)) (gl:List Nat × List Nat) (fo n:Nat):Code->St->(XK->St->Prop)->Prop
 | .seq c0 (.seq (.region _ ops false) rest),st,Q=>vcQ tab K pts hp (fun _=>none) anns perm c0 st (seqK (fun st1=>openKQ tab K pts hp anns perm gl n rest Q st1 (opensB fo ops.toList)) Q)
 | _,_,_=>False
theorem draw_fnQ {K:FuncId->Option Con} {pts:FuncId->Option PT} {hp:Nat->Bool} {gl:List Nat × List Nat} (ht:TabOk P E tab) (hmix:P.follows .mixedOrders=true) (hKA:KAll P E K) (hPA:PAll P E pts) {perm:Nat->List (List Nat)} {fo:FuncId} (hopen:OpenOk P fo)
  (hfo : ∃ fn c, P.funcs[fo]? = some fn /\ (fn.name == "runtime.NumGoroutine") = false /\ fn.body = some c) {f : FuncId} {fn : Func} {con : Con} (hf : P.funcs[f]? = some fn) (hb : fn.body = some (bodyOf fn))
  (hname : (fn.name == "runtime.NumGoroutine") = false) (hn : con.aks.length <= fn.ntmps) (hok : codeOkP tab K hp perm fn.ntmps (bodyOf fn) = true) (hrd : hasRdr con.aks = false) (hrk : noRk con.rks = true) {anns : Args con.aks -> Nat -> St -> Option Ann}
  (hvc:∀ x,con.pre x->vcOpenQ tab K pts hp (anns x) perm gl fo fn.ntmps (bodyOf fn) (entry (encs con.aks x) none) (retOk tab con fn.results.toList x 0)) (htot:∀ x,con.pre x->∃ r,con.post x r):FnOk P E f con:=by
 refine ⟨⟨fn,_,hf,hname,hb⟩,?_,htot⟩
 intro w0 ro0 ρ k x vs id0 hpre hin _ hargs
 have hlen:vs.length=con.aks.length:=by
  rw [hargs.1]
  have:∀ (ks:List AK) (x:Args ks),(encs ks x).length=ks.length:=by
   intro ks
   induction ks with
   | nil=>intro x;rfl
   | cons k ks ih=>intro x;obtain ⟨x,xs⟩:=x;simp [encs,ih]
  exact this _ _
 refine calls_of_wp hf hb ?_
 -- the end
 have fin:∀ (ρ':Nat) (st':St) (a':Act) (w':World),Rel E w0 (MOf false ρ' ro0) fn.ntmps st' a' w'->retOk tab con fn.results.toList x 0 .ret st' ->
   a'.defers=[]/\∃ v,(results fn a'.tmps).run P w'=.ok v w'/\∃ v1 r g,Ending.returned v=.returned v1/\con.post x r/\Ext (fun b=>hasRdr con.aks=true/\b=ρ) w0 w'/\g.ρ=ρ/\ResOk E w0 w' ro0 con.rks id0 r v1 g/\(hasRdr con.aks=true->RdStep w0 w' ρ (k+con.cost x)):=by
  intro ρ' st' a' w' hr hv
  have hr':Rel E w0 (MOf (hasRdr con.aks) ρ' ro0) fn.ntmps st' a' w':=by rw [hrd];exact hr
  obtain ⟨v,h1,r,g,h2,h3,h4,h5,h6⟩:=exit_ok (k:=0) id0 ht hin (fun h=>by rw [hrd] at h;cases h) hr' hv
  refine ⟨hr.defers,v,h1,v,r,{ g with ρ:=ρ },rfl,h2,⟨h3.os,h3.tape,h3.output,h3.size,fun c hc _=>h3.block c hc fun ⟨h,_⟩=>by rw [hrd] at h;cases h⟩,rfl,⟨h5.ro,h5.ro',?_,?_,h5.new,h5.dist⟩,fun h=>by rw [hrd] at h;cases h⟩
  ·exact S.R.rho (pack1_noR (ress_noR _ _ _ hrk)) h5.val
  ·intro id q hq
   have:=h5.res id q hq
   obtain ⟨_,_,f',t,xs,e⟩:=ress_range _ _ _ _ _ hq
   subst e
   exact this
 have hv0:=hvc x hpre
 revert hok hv0
 generalize bodyOf fn=body
 intro hok hv0
 unfold vcOpenQ at hv0
 split at hv0
 ·rename_i c0 rid ops rest
  simp only [codeOkP,Bool.and_eq_true] at hok
  have hrel:Rel E w0 (MOf false ρ ro0) fn.ntmps (entry (encs con.aks x) (rdOf false 0)) { tmps:=vs.toArray ++ Array.replicate (fn.ntmps - vs.toArray.size) undef,defers:=[] } w0:=entry_rel hin (fun h=>by cases h) hargs (by omega)
  refine wp_seq (codeQ_sound ht hKA hPA hmix (draw_sound ht (tab_small ht) hKA hmix _ _ _) OOk.none c0 _ _ _ _ _ hok.1 hrel hv0 ?_)
  intro xk st1 a1 w1 hr1 hk1
  cases xk with
  | exit id=>exact hk1.elim
  | ret=>exact fin ρ st1 a1 w1 hr1 hk1
  | normal =>
   have hk1:openKQ tab K pts hp (anns x) perm gl fn.ntmps rest (retOk tab con fn.results.toList x 0) st1 (opensB fo ops.toList):=hk1
   unfold openKQ at hk1
   split at hk1
   ·rename_i d hd
    obtain ⟨⟨hd1,hd2,hd3,hd0⟩,hrd1,hgc,hnr,hA,hvr⟩:=hk1
    simp only [Bool.and_eq_true] at hnr
    have hno:=noR_gc hnr.1 hnr.2
    unfold gcB at hgc
    simp only [Bool.and_eq_true] at hgc
    replace hr1:=hr1.gc (OOk.none (ρ:=ρ) (ro0:=ro0)) (live:=gl.1) (ids:=gl.2) ⟨closedEB_ok hgc.1,closedMB_ok hgc.2,fun j hj=>(by cases hj)⟩
    replace hrd1:(gcSt (fun _=>none) gl.1 gl.2 st1).rd=none:=hrd1
    generalize gcSt (fun _=>none) gl.1 gl.2 st1=st1 at hr1 hrd1 hno hA hvr
    obtain ⟨o1,o2,o3,args,tys,hl,e1,e2,e3,e4,e5,e6,e7,e8,e9,e10⟩:=opensB_some hd
    refine wp_seq (wp_region_list ?_)
    rw [hl]
    -- the text
    simp only [wpList]
    rw [if_pos (by simp [Region.wanted,e3])]
    refine .inl ?_
    unfold Oper.wp
    rw [show (execOp a1.eval o1).run P w1=.ok (.value (a1.eval (.tmp 0))) w1 by simp [execOp,e2],Oper.upon_value,e1]
    have hS:∃ code,st1.env 0=.s (.c (.d (.arr .u8 code))):=by
     unfold openA at hA
     split at hA
     ·rename_i c hc;exact ⟨c,hc⟩
     ·exact hA.elim
    obtain ⟨code,henv0⟩:=hS
    have hev:a1.eval (.tmp 0)=a1.tmps.getD 0 undef:=rfl
    have hr2:=hr1.put1 hd1 (s:=st1.env 0) (v:=a1.eval (.tmp 0)) (fun g _ henv=>henv 0) (fun id hid=>hr1.cl.1 0 id hid)
    have hno2:NoR { st1 with env:=upd st1.env d.1 (st1.env 0) }:=⟨fun y=>by
     show noRS (upd st1.env d.1 (st1.env 0) y)=true
     by_cases e:y=d.1
     ·subst e;rw [upd_same];exact hno.1 0
     ·rw [upd_ne _ _ e];exact hno.1 y,hno.2⟩
    generalize ha2:a1.put (some d.1) (a1.eval (.tmp 0))=a2 at hr2 ⊢
    -- the call
    rw [if_pos (by simp [Region.wanted,e7])]
    refine .inl ?_
    obtain ⟨fn',c',hf',hname',hbody'⟩:=hfo
    rw [run_call hf' hname' hbody' e5,Oper.upon_enter]
    obtain ⟨g,hg,henv⟩:=hr2.good
    have hargv:args.map a2.eval=#[a2.tmps.getD d.1 undef]:=by
     apply Array.ext'
     rw [Array.toList_map,e6]
     rfl
    rw [hargv]
    have hdr:DR g.ro (.arr .u8 code) (a2.tmps.getD d.1 undef):=by
     have h1:=henv d.1
     have h2:({ st1 with env:=upd st1.env d.1 (st1.env 0) }:St).env d.1=.s (.c (.d (.arr .u8 code))):=by
      show upd st1.env d.1 (st1.env 0) d.1=_
      rw [upd_same];exact henv0
     rw [h2] at h1
     exact h1
    refine Calls.mono (hopen w1 g.ro code _ hg.roin hdr) fun e w2 he=>?_
    obtain ⟨b,ro',rfl,q1,q2,q3,q4,q5⟩:=he
    have hr3:=rel_open hr2 hg henv hrd1 hno2 q1 q2 q3 q4 q5
    rw [e4]
    show (if Region.wanted o3 _ then _ else _)
    rw [if_pos (by simp [Region.wanted,e10])]
    refine .inl ?_
    have hr4:=hr3.put1 hd2 (s:=.s (.c .rdr)) (v:=.pointer (some ⟨b,0,none⟩)) (fun g' hg' _=>by
     show _=_
     rw [hg'.rho.1];rfl) (fun id hid=>by simp [S.refs,S0.refs,CV.refs] at hid)
    generalize ha3:a2.put (some d.2.1) (.pointer (some ⟨b,0,none⟩))=a3 at hr4 ⊢
    have hev3:a3.eval (.tmp d.2.1)=.pointer (some ⟨b,0,none⟩):=by
     show a3.tmps.getD d.2.1 undef=_
     rw [← ha3,get_put (by rw [hr2.size];exact hd2),if_pos rfl]
    rw [show (execOp a3.eval o3).run P w2=.ok (.value (a3.eval (.tmp d.2.1))) w2 by simp [execOp,e9],Oper.upon_value,e8,hev3]
    have hr5:=hr4.put1 hd3 (s:=.s (.c .rdr)) (v:=.pointer (some ⟨b,0,none⟩)) (fun g' hg' _=>by
     show _=_
     rw [hg'.rho.1];rfl) (fun id hid=>by simp [S.refs,S0.refs,CV.refs] at hid)
    refine codeQ_sound ht hKA hPA hmix (draw_sound ht (tab_small ht) hKA hmix _ _ _) OOk.none rest _ _ _ (retOk tab con fn.results.toList x 0) _ hok.2.2 hr5 hvr ?_
    intro xk st' a' w' hr hk
    cases xk with
    | normal=>exact fin b st' a' w' hr hk
    | ret=>exact fin b st' a' w' hr hk
    | exit id=>exact hk.elim
   ·exact hk1.elim
 ·exact hv0.elim
end
end Go.SE

namespace Go.SE
variable [Base]
open Go.RowKit
section
variable {P:Program} {E:Ty->TypeId} {tab:TypeId->Option TI} {K:FuncId->Option Con} {pts:FuncId->Option PT} {hp:Nat->Bool} {anns:Nat->St->Option Ann} {perm:Nat->List (List Nat)} {w0:World} {M:MM} {n:Nat} {st:St} {a:Act} {w:World}
def dom (x:List Nat):Nat->Option Res:=fun j=>match inL x j with
 | true=>some .dead
 | false=>none
end
end Go.SE

namespace Go.SE
open Go.RowKit
variable [Base]
theorem cln:(TT=True)/\(TF=True)/\(TN=True)/\(∀ l,RL l=True)/\(∀ l,RM l=True)/\(∀ p:Prop,(True/\p)=p)/\(∀ p:Prop,(p/\True)=p)/\(∀ (α:Type) (a:α),(a=a)=True)/\(∀ p:Prop,(p->True)=True)/\(∀ α:Type,(α->True)=True) /\
  (∀ (α:Type) [Nonempty α] (b:Prop),(α->b)=b)/\(∀ (α:Type) (a b:α) (l m:List α),(a :: l=b :: m)=(a=b/\l=m))/\(∀ x y,(S.s x=S.s y)=(x=y))/\(∀ x y,(S0.c x=S0.c y)=(x=y))/\(∀ x y,(S0.agg x=S0.agg y)=(x=y))/\(∀ x y,(CV.d x=CV.d y)=(x=y)) /\
  (∀ x y,(CV.own x=CV.own y)=(x=y))/\(∀ x o y q,(CV.ptr x o=CV.ptr y q)=(x=y/\o=q))/\(∀ x y,(DC.val x=DC.val y)=(x=y))/\(∀ k x j y,(Value.int k x=Value.int j y)=(k=j/\x=y))/\(∀ x y,(Value.bool x=Value.bool y)=(x=y))/\(∀ (α:Type) (x y:α),(some x=some y)=(x=y)) /\
  (∀ x y,(Res.blk x=Res.blk y)=(x=y))/\(∀ (α β:Type) (a c:α) (b d:β),((a,b)=(c,d))=(a=c/\b=d))/\(∀ (a b:Prop),vcIf true a b=a)/\(∀ (a b:Prop),vcIf false a b=b)/\(∀ (α:Type) (a:α),(a ∈ ([]:List α))=False)/\((¬ False)=True)/\(∀ (α:Type) (a b:α),(a ≠ b)=¬ a=b) /\
  (∀ b:Bool,(b && true)=b)/\(∀ n:Nat,n+0=n)/\(∀ (α:Type) (l:List α),l ++ []=l)/\(∀ (α:Type) (l:List α),[] ++ l=l)/\(∀ α:Type,([]:List α).length=0)/\(∀ (α:Type) (a:α) (l:List α),(a :: l).length=l.length+1)/\(∀ n:Nat,0+n=n)/\(∀ n:Nat,((n:Int)).toNat=n)/\(∀ n:Nat,n - 0=n) /\
  (∀ (α:Type) (l:List α),l.drop 0=l)/\(∀ (α β:Type) (f:α->β),[].map f=[])/\(∀ (α:Type) (l:List α),l.take 0=[])/\(∀ (α:Type) (p:α->Prop) (b:α),(∀ a,b=a->p a)=p b) /\
  (∀ n,inK .i64 n=(-9223372036854775808<=n/\n<=9223372036854775807))/\(∀ n,inK .u64 n=(0<=n/\n<=18446744073709551615))/\(∀ n,inK .u16 n=(0<=n/\n<=65535))/\(∀ n,inK .u8 n=(0<=n/\n<=255)):=by
 refine ⟨?_,?_,?_,?_,?_,?_,?_,?_,?_,?_,?_,?_,?_,?_,?_,?_,?_,?_,?_,?_,?_,?_,?_,?_,?_,?_,?_,?_,?_,?_,?_,?_,?_,?_,?_,?_,?_,?_,?_,?_,?_,?_,?_,?_,?_,?_⟩ <;> intros <;> first | (simp;done) | rfl | exact vcIf_true | exact vcIf_false
theorem opn:(∀ (t:Bool) (a b:Prop),vcIf t a b=((t=true->a)/\(t=false->b)))/\(∀ (p:Prop) [Decidable p],(decide p=true)=p)/\(∀ (p:Prop) [Decidable p],(decide p=false)=¬ p)/\(∀ (α:Type) [BEq α] [LawfulBEq α] (a b:α),((a != b)=true)=¬ a=b) /\
  (∀ (α:Type) (a b:α),(a ≠ b)=¬ a=b)/\(∀ (α:Type) [BEq α] [LawfulBEq α] (a b:α),((a == b)=true)=(a=b))/\(∀ (α:Type) [BEq α] [LawfulBEq α] (a b:α),((a == b)=false)=¬ a=b)/\(∀ (α:Type) [BEq α] [LawfulBEq α] (a b:α),((a != b)=false)=(a=b)) /\
  (∀ b:Bool,((!b)=true)=(b=false))/\(∀ b:Bool,((!b)=false)=(b=true))/\(∀ n m:Nat,((n:Int) < (m:Int))=(n < m))/\(∀ n m:Nat,((n:Int)=(m:Int))=(n=m)):=by
 refine ⟨?_,?_,?_,?_,?_,?_,?_,?_,?_,?_,?_,?_⟩ <;> intros <;> first | exact propext vcIf_iff | rfl | (simp;done) | exact propext Int.natCast_inj
end Go.SE

namespace Go.SE
variable [Base]
def atV (x:GAtom):Bool:=(x.kind == 1 || x.kind == 2) && isT x.a && isT x.b
def fsV (l:List GFact):Bool:=decide (l.length<=12) && l.all fV
def asV (a:GAsn):Bool:=fsV a.facts && decide (a.atoms.length<=6) && a.atoms.all atV
theorem fact_beq (f g:GFact):(f.eq == g.eq && (f.a == g.a && f.b == g.b))=decide (f=g):=by
 rw [Bool.eq_iff_iff];cases f;cases g;simp
theorem atom_beq (f g:GAtom):(f.kind == g.kind && (f.a == g.a && f.b == g.b))=decide (f=g):=by
 rw [Bool.eq_iff_iff];cases f;cases g;simp
end Go.SE

namespace Go.SE
variable [Base]
theorem getD_set_self {α:Type} {l:List α} {i:Nat} {x d:α} (h:i < l.length):(l.set i x).getD i d=x:=by
 simp [List.getD_eq_getElem?_getD,h]
def occF (l:List GFact) (t:Int):Bool:=l.any fun f=>f.a == t || f.b == t
def occG (l:List GAtom) (t:Int):Bool:=l.any fun f=>f.a == t || f.b == t
def occ (a:GAsn) (t:Int):Bool:=occF a.facts t || occG a.atoms t
end Go.SE
namespace Go.SE
end Go.SE
namespace Go.SE
variable [Base]
end Go.SE

namespace Go.SE
open Go.RowKit
theorem GCmd.eta (c:GCmd):GCmd.mk c.kind c.a c.b c.test c.inv c.body c.els=c:=by cases c;rfl
mutual
def ndC:GCmd->Nat
 | .mk _ _ _ _ _ bo el=>1+ndL bo+ndL el
def ndL:List GCmd->Nat
 | []=>0
 | c :: l=>ndC c+ndL l
end
mutual
def wtC:GCmd->Nat
 | .mk _ _ _ _ i bo el=>i.facts.length+i.atoms.length+(bo.length+wcL bo)+(el.length+wcL el)
def wcL:List GCmd->Nat
 | []=>0
 | c :: l=>wtC c+wcL l
end
mutual
def bdC:GCmd->Prop
 | .mk _ _ _ _ i bo el=>i.facts.length<=281474976710656/\i.atoms.length<=281474976710656/\(bo.length<=281474976710656/\bcL bo)/\(el.length<=281474976710656/\bcL el)
def bcL:List GCmd->Prop
 | []=>True
 | c :: l=>bdC c/\bcL l
end
structure BdL (l:List GCmd):Prop where
 len:l.length<=281474976710656
 all:bcL l
theorem GCmd.ext_iff {a b:GCmd}:a=b ↔ a.kind=b.kind/\a.a=b.a/\a.b=b.b/\a.test=b.test/\a.inv=b.inv/\a.body=b.body/\a.els=b.els:=by
 cases a;cases b;simp only [GCmd.mk.injEq,GCmd.kind,GCmd.a,GCmd.b,GCmd.test,GCmd.inv,GCmd.body,GCmd.els]
mutual
def eqCB:GCmd->GCmd->Bool
 | .mk k a b t i bo el,d=>k == d.kind && (a == d.a && (b == d.b && (t == d.test && (i == d.inv && (eqLB bo d.body && eqLB el d.els)))))
def eqLB:List GCmd->List GCmd->Bool
 | [],[]=>true
 | c :: l,d :: m=>eqCB c d && eqLB l m
 | _,_=>false
end
theorem eqLB_of {n:Nat} (ih:∀ a b:GCmd,ndC a<=n->(eqCB a b=true ↔ a=b)):∀ l m:List GCmd,ndL l<=n->(eqLB l m=true ↔ l=m):=by
 intro l
 induction l with
 | nil=>intro m _;cases m <;> simp [eqLB]
 | cons c l ihl =>
  intro m hn
  cases m with
  | nil=>simp [eqLB]
  | cons d m =>
   simp only [ndL] at hn
   simp only [eqLB,Bool.and_eq_true,ih c d (by omega),ihl m (by omega),List.cons.injEq]
theorem eqCB_iff':∀ n:Nat,∀ a b:GCmd,ndC a<=n->(eqCB a b=true ↔ a=b):=by
 intro n
 induction n with
 | zero=>intro a b h;cases a;simp only [ndC] at h;omega
 | succ n ih =>
  intro a b h
  obtain ⟨k,x,y,t,i,bo,el⟩:=a
  obtain ⟨k',x',y',t',i',bo',el'⟩:=b
  simp only [ndC] at h
  simp only [eqCB,GCmd.kind,GCmd.a,GCmd.b,GCmd.test,GCmd.inv,GCmd.body,GCmd.els,Bool.and_eq_true,beq_iff_eq,eqLB_of ih bo bo' (by omega),eqLB_of ih el el' (by omega),GCmd.mk.injEq]
theorem eqCB_iff (a b:GCmd):eqCB a b=true ↔ a=b:=eqCB_iff' _ a b (Nat.le_refl _)
instance:DecidableEq GCmd:=fun a b=>decidable_of_iff _ (eqCB_iff a b)
theorem ndC_eq (c:GCmd):ndC c=1+ndL c.body+ndL c.els:=by cases c;simp [ndC,GCmd.body,GCmd.els]
theorem wtC_eq (c:GCmd):wtC c=c.inv.facts.length+c.inv.atoms.length+(c.body.length+wcL c.body)+(c.els.length+wcL c.els):=by
 cases c;simp [wtC,GCmd.body,GCmd.els,GCmd.inv]
structure BdC (c:GCmd):Prop where
 f:c.inv.facts.length<=281474976710656
 a:c.inv.atoms.length<=281474976710656
 b:BdL c.body
 e:BdL c.els
theorem bdC_iff (c:GCmd):bdC c ↔ BdC c:=by
 cases c
 simp only [bdC]
 exact ⟨fun ⟨a,b,c,d⟩=>⟨a,b,⟨c.1,c.2⟩,⟨d.1,d.2⟩⟩,fun h=>⟨h.f,h.a,⟨h.b.len,h.b.all⟩,⟨h.e.len,h.e.all⟩⟩⟩
theorem ndL_nil:ndL []=0:=by simp [ndL]
theorem ndL_cons (c:GCmd) (l):ndL (c :: l)=ndC c+ndL l:=by simp [ndL]
theorem wcL_nil:wcL []=0:=by simp [wcL]
theorem wcL_cons (c:GCmd) (l):wcL (c :: l)=wtC c+wcL l:=by simp [wcL]
theorem ndL_append (a b:List GCmd):ndL (a ++ b)=ndL a+ndL b:=by
 induction a with
 | nil=>simp [ndL]
 | cons c a ih=>simp only [List.cons_append,ndL_cons,ih];omega
theorem wcL_append (a b:List GCmd):wcL (a ++ b)=wcL a+wcL b:=by
 induction a with
 | nil=>simp [wcL]
 | cons c a ih=>simp only [List.cons_append,wcL_cons,ih];omega
theorem bcL_iff (l:List GCmd):bcL l ↔ ∀ c ∈ l,BdC c:=by
 induction l with
 | nil=>simp [bcL]
 | cons c l ih=>simp [bcL,ih,bdC_iff]
theorem getD_mem' {α:Type} {l:List α} {i:Nat} {d:α} (h:i < l.length):l.getD i d ∈ l:=by
 rw [List.getD_eq_getElem?_getD,List.getElem?_eq_getElem h];exact List.getElem_mem h
theorem take_step {α:Type} {l:List α} {i:Nat} {d:α} (h:i < l.length):l.take (i+1)=l.take i ++ [l.getD i d]:=by
 rw [List.take_add_one,List.getD_eq_getElem?_getD,List.getElem?_eq_getElem h];rfl
theorem ndL_step {l:List GCmd} {i:Nat} {d:GCmd} (h:i < l.length):ndL (l.take (i+1))=ndL (l.take i)+ndC (l.getD i d):=by
 rw [take_step (d:=d) h,ndL_append,ndL_cons,ndL_nil];omega
theorem wcL_step {l:List GCmd} {i:Nat} {d:GCmd} (h:i < l.length):wcL (l.take (i+1))=wcL (l.take i)+wtC (l.getD i d):=by
 rw [take_step (d:=d) h,wcL_append,wcL_cons,wcL_nil];omega
theorem ndL_take_le (l:List GCmd) (i:Nat):ndL (l.take i)<=ndL l:=by
 conv=>rhs;rw [← List.take_append_drop i l,ndL_append]
 omega
theorem wcL_take_le (l:List GCmd) (i:Nat):wcL (l.take i)<=wcL l:=by
 conv=>rhs;rw [← List.take_append_drop i l,wcL_append]
 omega
theorem ndL_get {l:List GCmd} {i:Nat} {d:GCmd} (h:i < l.length):ndC (l.getD i d)<=ndL l:=by
 have:=ndL_step (d:=d) h;have:=ndL_take_le l (i+1);omega
theorem wcL_get {l:List GCmd} {i:Nat} {d:GCmd} (h:i < l.length):wtC (l.getD i d)<=wcL l:=by
 have:=wcL_step (d:=d) h;have:=wcL_take_le l (i+1);omega
theorem BdL.get {l:List GCmd} (hl:BdL l) {i:Nat} {d:GCmd} (h:i < l.length):BdC (l.getD i d) :=
 (bcL_iff l).1 hl.all _ (getD_mem' h)
theorem ndC_pos (c:GCmd):0 < ndC c:=by rw [ndC_eq];omega
theorem small_bd:∀ n:Nat,∀ c:GCmd,ndC c<=n->wtC c<=281474976710656->BdC c:=by
 intro n
 induction n with
 | zero=>intro c h;have:=ndC_pos c;omega
 | succ n ih =>
  intro c h hw
  rw [ndC_eq] at h
  rw [wtC_eq] at hw
  have key:∀ l:List GCmd,ndL l<=n->l.length+wcL l<=281474976710656->BdL l:=by
   intro l hn hl
   refine ⟨by omega,(bcL_iff l).2 fun c hc=>?_⟩
   obtain ⟨i,hi,rfl⟩:=List.getElem_of_mem hc
   have e:l[i]=l.getD i c:=by rw [List.getD_eq_getElem?_getD,List.getElem?_eq_getElem hi];rfl
   have h1:=ndL_get (d:=c) hi;have h2:=wcL_get (d:=c) hi
   rw [e]
   exact ih _ (by omega) (by omega)
  exact ⟨by omega,by omega,key _ (by omega) (by omega),key _ (by omega) (by omega)⟩
theorem small_bdC {c:GCmd} (h:wtC c<=281474976710656):BdC c:=small_bd _ c (Nat.le_refl _) h
theorem small_bdL {l:List GCmd} (h:l.length+wcL l<=281474976710656):BdL l:=by
 refine ⟨by omega,(bcL_iff l).2 fun c hc=>?_⟩
 obtain ⟨i,hi,rfl⟩:=List.getElem_of_mem hc
 have e:l[i]=l.getD i (Ty.zero .cmd):=by rw [List.getD_eq_getElem?_getD,List.getElem?_eq_getElem hi];rfl
 have h2:=wcL_get (d:=Ty.zero .cmd) hi
 rw [e]
 exact small_bdC (by omega)
def noA (a:GAsn):Bool:=a.facts.length == 0 && a.atoms.length == 0
def pvV (t:Int):Bool:=decide (1<=t) && decide (t<=4)
theorem gf_zero (f:GFact):(f == (⟨false,0,0⟩:GFact))=(f.eq == false && (f.a == 0 && f.b == 0)):=by
 obtain ⟨f1,f2,f3⟩:=f
 rw [Bool.eq_iff_iff]
 simp
theorem gf_zero' (f:GFact):decide (f=(⟨false,0,0⟩:GFact))=(f.eq == false && (f.a == 0 && f.b == 0)):=by
 rw [← gf_zero];rfl
def fokB (c:GCmd):Bool :=
 (c.test == ⟨false,0,0⟩ && noA c.inv && c.body.length == 0 && c.els.length == 0) &&
 (if c.kind=1 ∨ c.kind=2 then pvV c.a && isT c.b else if c.kind=3 then isT c.a && isT c.b else if c.kind=4 then pvV c.a && c.b == 0 else if c.kind=5 then isT c.a && c.b == 0 else false)
def fokC (c:GCmd):Bool :=
 if c.kind=6 then c.a == 0 && c.b == 0 && fV c.test && noA c.inv
 else if c.kind=7 then c.a == 0 && c.b == 0 && fV c.test && asV c.inv && c.els.length == 0
 else fokB c
mutual
def shC (d:Int):GCmd->Bool
 | .mk k a b t i bo el=>fokC (.mk k a b t i bo el) && shL (d - 1) bo && shL (d - 1) el
def shL (d:Int):List GCmd->Bool
 | []=>true
 | c :: l=>decide (1<=d) && shC d c && shL d l
end
mutual
def cnC (d:Int):GCmd->Nat
 | .mk _ _ _ _ _ bo el=>1+cnL (d - 1) bo+cnL (d - 1) el
def cnL (d:Int):List GCmd->Nat
 | []=>0
 | c :: l=>if 1<=d then cnC d c+cnL d l else 0
end
theorem shC_eq (d:Int) (c:GCmd):shC d c=(fokC c && shL (d - 1) c.body && shL (d - 1) c.els):=by cases c;simp only [shC,GCmd.body,GCmd.els]
theorem cnC_eq (d:Int) (c:GCmd):cnC d c=1+cnL (d - 1) c.body+cnL (d - 1) c.els:=by cases c;simp only [cnC,GCmd.body,GCmd.els]
theorem shL_nil (d:Int):shL d []=true:=by simp [shL]
theorem shL_cons (d:Int) (c:GCmd) (l):shL d (c :: l)=(decide (1<=d) && shC d c && shL d l):=by simp [shL]
theorem shL_iff (d:Int) (l:List GCmd):shL d l=true ↔ (l=[] ∨ 1<=d)/\∀ c ∈ l,shC d c=true:=by
 induction l with
 | nil=>simp [shL]
 | cons c l ih =>
  simp only [shL_cons,Bool.and_eq_true,decide_eq_true_eq,ih,List.mem_cons,forall_eq_or_imp]
  constructor
  ·rintro ⟨⟨h1,h2⟩,h3,h4⟩;exact ⟨.inr h1,h2,h4⟩
  ·rintro ⟨h1 | h1,h2,h4⟩
   ·cases h1
   ·exact ⟨⟨h1,h2⟩,.inr h1,h4⟩
theorem shL_zero {d:Int} {l:List GCmd} (h:d < 1) (hl:0 < l.length):shL d l=false:=by
 rw [Bool.eq_false_iff];intro e
 rcases (shL_iff d l).1 e with ⟨h1 | h1,-⟩
 ·subst h1;simp at hl
 ·omega
theorem shL_step {d:Int} {l:List GCmd} {i:Nat} {z:GCmd} (hd:1<=d) (h:i < l.length):shL d (l.take (i+1))=(shL d (l.take i) && shC d (l.getD i z)):=by
 rw [Bool.eq_iff_iff,Bool.and_eq_true,shL_iff,shL_iff,take_step (d:=z) h]
 simp only [List.mem_append,List.mem_singleton]
 constructor
 ·rintro ⟨-,h2⟩;exact ⟨⟨.inr hd,fun c hc=>h2 c (.inl hc)⟩,h2 _ (.inr rfl)⟩
 ·rintro ⟨⟨-,h2⟩,h3⟩;exact ⟨.inr hd,fun c hc=>hc.elim (h2 c) (fun e=>e ▸ h3)⟩
theorem shL_get {d:Int} {l:List GCmd} {i:Nat} {z:GCmd} (h:i < l.length) (hs:shL d l=true):shC d (l.getD i z)=true :=
 ((shL_iff d l).1 hs).2 _ (getD_mem' h)
theorem shL_not {d:Int} {l:List GCmd} {i:Nat} {z:GCmd} (h:i < l.length) (hs:shC d (l.getD i z)=false):shL d l=false:=by
 rw [Bool.eq_false_iff];intro e;rw [shL_get (z:=z) h e] at hs;cases hs
theorem cnL_nil (d:Int):cnL d []=0:=by simp [cnL]
theorem cnL_cons (d:Int) (c:GCmd) (l):cnL d (c :: l)=if 1<=d then cnC d c+cnL d l else 0:=by simp [cnL]
theorem cnL_low {d:Int} (h:¬ 1<=d) (l:List GCmd):cnL d l=0:=by cases l <;> simp [cnL,h]
theorem cnL_append {d:Int} (h:1<=d) (a b:List GCmd):cnL d (a ++ b)=cnL d a+cnL d b:=by
 induction a with
 | nil=>simp [cnL]
 | cons c a ih=>simp only [List.cons_append,cnL_cons,if_pos h,ih];omega
theorem cnL_step {d:Int} {l:List GCmd} {i:Nat} {z:GCmd} (hd:1<=d) (h:i < l.length):cnL d (l.take (i+1))=cnL d (l.take i)+cnC d (l.getD i z):=by
 rw [take_step (d:=z) h,cnL_append hd,cnL_cons,if_pos hd,cnL_nil];omega
theorem cn_le:∀ n:Nat,(∀ c:GCmd,ndC c<=n->∀ d,cnC d c<=ndC c):=by
 intro n
 induction n with
 | zero=>intro c h;have:=ndC_pos c;omega
 | succ n ih =>
  intro c h d
  have key:∀ l:List GCmd,ndL l<=n->∀ d,cnL d l<=ndL l:=by
   intro l
   induction l with
   | nil=>intro _ d;simp [cnL]
   | cons c l ihl =>
    intro hl d
    rw [ndL_cons] at hl ⊢
    rw [cnL_cons]
    split
    ·have:=ih c (by omega) d;have:=ihl (by omega) d;omega
    ·omega
  rw [ndC_eq] at h ⊢
  rw [cnC_eq]
  have:=key c.body (by omega) (d - 1);have:=key c.els (by omega) (d - 1);omega
theorem cnL_le (d:Int) (l:List GCmd):cnL d l<=ndL l:=by
 induction l with
 | nil=>simp [cnL]
 | cons c l ih =>
  rw [ndL_cons,cnL_cons]
  split
  ·have:=cn_le _ c (Nat.le_refl _) d;omega
  ·omega
theorem cn_sh:∀ n:Nat,(∀ c:GCmd,ndC c<=n->∀ d,shC d c=true->cnC d c=ndC c):=by
 intro n
 induction n with
 | zero=>intro c h;have:=ndC_pos c;omega
 | succ n ih =>
  intro c h d hs
  have key:∀ l:List GCmd,ndL l<=n->∀ d,shL d l=true->cnL d l=ndL l:=by
   intro l
   induction l with
   | nil=>intro _ d _;simp [cnL,ndL]
   | cons c l ihl =>
    intro hl d hd
    rw [ndL_cons] at hl ⊢
    simp only [shL_cons,Bool.and_eq_true,decide_eq_true_eq] at hd
    rw [cnL_cons,if_pos hd.1.1,ih c (by omega) d hd.1.2,ihl (by omega) d hd.2]
  rw [ndC_eq] at h ⊢
  rw [shC_eq] at hs
  simp only [Bool.and_eq_true] at hs
  rw [cnC_eq,key c.body (by omega) _ hs.1.2,key c.els (by omega) _ hs.2]
theorem cnL_sh {d:Int} {l:List GCmd} (h:shL d l=true):cnL d l=ndL l:=by
 induction l with
 | nil=>simp [cnL,ndL]
 | cons c l ih =>
  simp only [shL_cons,Bool.and_eq_true,decide_eq_true_eq] at h
  rw [ndL_cons,cnL_cons,if_pos h.1.1,cn_sh _ c (Nat.le_refl _) d h.1.2,ih h.2]
theorem nd_wt:∀ n:Nat,∀ c:GCmd,ndC c<=n->ndC c<=1+wtC c:=by
 intro n
 induction n with
 | zero=>intro c h;have:=ndC_pos c;omega
 | succ n ih =>
  intro c h
  have key:∀ l:List GCmd,ndL l<=n->ndL l<=l.length+wcL l:=by
   intro l
   induction l with
   | nil=>intro _;simp [ndL]
   | cons c l ihl =>
    intro hl
    rw [ndL_cons] at hl ⊢
    rw [wcL_cons,List.length_cons]
    have:=ih c (by omega);have:=ihl (by omega);omega
  rw [ndC_eq] at h ⊢
  rw [wtC_eq]
  have:=key c.body (by omega);have:=key c.els (by omega);omega
theorem ndC_wt (c:GCmd):ndC c<=1+wtC c:=nd_wt _ c (Nat.le_refl _)
theorem ndL_wt (l:List GCmd):ndL l<=l.length+wcL l:=by
 induction l with
 | nil=>simp [ndL]
 | cons c l ih=>rw [ndL_cons,wcL_cons,List.length_cons];have:=ndC_wt c;omega
def cvB (d r:Int) (l:List GCmd):Bool:=shL (5 - d) l && decide ((ndL l:Int)<=r)
def cvN (d r:Int) (l:List GCmd):Int:=if cvB d r l then ndL l else 0
def prV (l:List GCmd):Bool:=shL 4 l && decide (ndL l<=16)
end Go.SE

namespace Go.SE
variable [Base]
end Go.SE

namespace Go.SE
def cE:Nat->Nat
 | 0=>40
 | n+1=>40+9 * cE n
def wE:Nat->Nat
 | 0=>24
 | n+1=>24+6 * wE n
def rdD (i:Int) (c:Nat):Nat:=(3 - i.toNat) * c
theorem cE_step {d:Int} (h:1 < d):cE d.toNat=40+9 * cE (d - 1).toNat:=by
 have:d.toNat=(d - 1).toNat+1:=by omega
 rw [this];rfl
theorem wE_step {d:Int} (h:1 < d):wE d.toNat=24+6 * wE (d - 1).toNat:=by
 have:d.toNat=(d - 1).toNat+1:=by omega
 rw [this];rfl
theorem cE_ge (n:Nat):40<=cE n:=by cases n <;> simp only [cE] <;> omega
theorem wE_ge (n:Nat):24<=wE n:=by cases n <;> simp only [wE] <;> omega
theorem cE_le {d:Int} (h:d<=3):cE d.toNat<=32800:=by
 have h1:d.toNat<=3:=by omega
 match d.toNat,h1 with
 | 0,_=>decide
 | 1,_=>decide
 | 2,_=>decide
 | 3,_=>decide
theorem wE_le {d:Int} (h:d<=3):wE d.toNat<=6216+24:=by
 have h1:d.toNat<=3:=by omega
 match d.toNat,h1 with
 | 0,_=>decide
 | 1,_=>decide
 | 2,_=>decide
 | 3,_=>decide
theorem rdD_step {i:Int} {c:Nat} (h0:0 < i) (h1:i<=3):rdD (i - 1) c=rdD i c+c:=by
 unfold rdD
 rw [show 3 - (i - 1).toNat=(3 - i.toNat)+1 from by omega,Nat.add_mul,Nat.one_mul]
theorem rdD_le (i:Int) (c:Nat):rdD i c<=3 * c:=by
 unfold rdD
 exact Nat.mul_le_mul_right _ (by omega)
theorem rdD_all {i:Int} {c:Nat} (h:¬ 0 < i):rdD i c=3 * c:=by
 unfold rdD
 rw [show 3 - i.toNat=3 from by omega]
theorem prog_cost {d:Int} (h:d=1 ∨ d=2 ∨ d=3 ∨ d=1):1+(1+3 * cE d.toNat)<=98402:=by
 have:=cE_le (d:=d) (by omega)
 omega
theorem prog_w {l:List GCmd} {d:Int} (h:d=1 ∨ d=2 ∨ d=3 ∨ d=1) (h1:l.length<=3) (h2:wcL l<=3 * wE d.toNat):l.length+wcL l<=19000:=by
 have:=wE_le (d:=d) (by omega)
 omega
theorem prog_one {l:List GCmd} (h0:0 < l.length) (h:l.length+wcL l<=19000):1+wcL [l.getD 0 (Ty.zero .cmd)]<=20000:=by
 have:=wcL_get (d:=Ty.zero .cmd) h0
 rw [wcL_cons,wcL_nil]
 omega
theorem rdD_st {i:Int} {c:Nat} (h0:0 < i) (h1:i<=3):rdD (i - 1) c=rdD i c+c/\rdD (i - 1) c<=3 * c:=⟨rdD_step h0 h1,rdD_le _ _⟩
theorem asV_len {a:GAsn} (h:asV a=true):a.facts.length<=12/\a.atoms.length<=6:=by
 simp only [asV,fsV,Bool.and_eq_true,decide_eq_true_eq] at h
 omega
theorem asV_of {fs:List GFact} {as:List GAtom} (h1:fs.length<=2) (h2:fs.all fV=true) (h3:as.length<=4) (h4:as.all atV=true):asV ⟨fs,as⟩=true:=by
 simp only [asV,fsV,h2,h4,Bool.and_eq_true,decide_eq_true_eq,Bool.and_true]
 omega
end Go.SE

namespace Go.SE
variable [Base]
open Go.RowKit
def bareA (a:Act):Act:={ a with defers:=[] }
def withD (a:Act) (ds:List Deferred):Act:={ a with defers:=ds }
theorem eval_bare (a:Act):(bareA a).eval=a.eval:=rfl
theorem bare_withD (a:Act) (ds:List Deferred) (h:a.defers=[]):bareA (withD a ds)=a:=by
 cases a;simp only at h;subst h;rfl
theorem withD_put (a:Act) (dst:Option Tmp) (v:Value):withD ((bareA a).put dst v) a.defers=a.put dst v:=by
 cases dst <;> rfl
theorem bare_put (a:Act) (dst:Option Tmp) (v:Value):bareA (a.put dst v)=(bareA a).put dst v:=by
 cases dst <;> rfl
theorem put_defers (a:Act) (dst:Option Tmp) (v:Value):(a.put dst v).defers=a.defers:=by
 cases dst <;> rfl
def FW (F:Fence):Prop:=F=Fence.wide ∨ ∃ l,F=Fence.wide.inRound l
theorem FW.fn {F:Fence} (h:FW F) (f:FuncId):F.fn f:=by rcases h with rfl | ⟨l,rfl⟩ <;> exact trivial
theorem FW.depth {F:Fence} (h:FW F):F.depth=none:=by rcases h with rfl | ⟨l,rfl⟩ <;> rfl
theorem FW.calls {F:Fence} (h:FW F) {n:Nat} {P:Program} {f:FuncId} {args:Array Value} {w:World} {R:Ending->World->Prop} (hc:Calls P f args w R):CallsIn F n P f args w R:=by
 rcases h with rfl | ⟨l,rfl⟩
 ·exact callsIn_wide.2 hc
 ·exact CallsIn.inRound l (callsIn_wide.2 hc)
theorem FW.rows {F:Fence} (h:FW F) {n:Nat} {P:Program} {row:String} {args:Array Value} {w:World} {R:Value->World->Prop} (hc:Rows P row args w R):RowsIn F n P row args w R:=by
 have:RowsIn Fence.wide n P row args w R:=fun c cs _=>let ⟨v,w',r,s⟩:=hc c cs;⟨v,w',r,stepsIn_wide.2 s⟩
 rcases h with rfl | ⟨l,rfl⟩
 ·exact this
 ·exact this
section
variable {F:Fence} {m:Nat} {P:Program} {E:Ty->TypeId} {tab:TypeId->Option TI} {K:FuncId->Option Con} {pts:FuncId->Option PT} {w0:World} {M:MM} {n:Nat}
abbrev QF:Exit->Act->World->Prop:=fun _ _ _=>False
theorem notOut:¬ LetsOut QF:=fun ⟨_,_,h⟩=>h
theorem wp_in (hF:FW F) {o:Oper} (hd:∀ c,o.op ≠ .defer c) {a:Act} {w:World} {next next':Act->World->Prop} {Q:Exit->Act->World->Prop}
  (h:o.wp P (bareA a) w next QF) (h0:∀ a' w',next a' w'->a'.defers=[]) (hn:∀ a' w',next a' w'->next' (withD a' a.defers) w'):o.wpIn F m P a w next' Q:=by
 refine ⟨fun f _=>hF.fn f,?_⟩
 rw [Oper.semAt_eq _ _ _ hd]
 unfold Oper.wp at h
 rw [eval_bare] at h
 have hput:∀ v w',next ((bareA a).put o.dst v) w'->next' (a.put o.dst v) w':=fun v w' h=>by
  have:=hn _ _ h
  rwa [withD_put] at this
 have hdep:F.depth.isSome=true->1<=m:=fun h=>by rw [hF.depth] at h;cases h
 generalize (execOp a.eval o).run P w=r at h ⊢
 cases r with
 | ok x w' =>
  cases x <;> simp only [Oper.upon] at h <;> simp only [Oper.uponIn]
  case value v=>exact hput v w' h
  case skip=>exact hput undef w' h
  case defer d =>
   have:=h0 _ _ h
   rw [put_defers] at this
   cases this
  case enter f args =>
   refine ⟨hdep,hF.calls (Calls.mono h fun e w'' he=>?_)⟩
   cases e with
   | returned v=>exact hput v w'' he
   | panicked c=>exact he.elim
   | outgrown=>exact (notOut he).elim
  case row row args=>exact ⟨hdep,hF.rows (Rows.mono h fun v w'' he=>hput v w'' he)⟩
 | halt x w' =>
  cases x <;> simp only [Oper.upon] at h
  exact h.elim
def noDefer (o:Oper):Bool:=match o.op with
 | .defer _=>false
 | _=>true
theorem noDefer_ok {o:Oper} (h:noDefer o=true):∀ c,o.op ≠ .defer c:=by
 intro c e
 unfold noDefer at h
 rw [e] at h
 cases h
def RunsIn (F:Fence) (m:Nat) (P:Program) (ops:Array Oper) (o:Oper) (next:Act->World->Prop) (Q:Exit->Act->World->Prop) (a:Act) (w:World):Prop :=
 if Region.wanted o (yielded ops a.tmps) then o.wpIn F m P a w next Q else (∀ f,o.about P w a.eval=some f->F.fn f)/\next (a.put o.dst undef) w
theorem runs_in (hF:FW F) {ops:Array Oper} {o:Oper} (hd:noDefer o=true) {a:Act} {w:World} {next next':Act->World->Prop} {Q:Exit->Act->World->Prop}
  (h:RunsOp P ops o next QF (bareA a) w) (h0:∀ a' w',next a' w'->a'.defers=[]) (hn:∀ a' w',next a' w'->next' (withD a' a.defers) w'):RunsIn F m P ops o next' Q a w:=by
 unfold RunsOp at h
 unfold RunsIn
 have e:(bareA a).tmps=a.tmps:=rfl
 rw [e] at h
 split
 ·rename_i hw
  rw [if_pos hw] at h
  rcases h with h | ⟨_,h⟩
  ·exact wp_in hF (noDefer_ok hd) h h0 hn
  ·exact (notOut h).elim
 ·rename_i hw
  rw [if_neg hw] at h
  refine ⟨fun f _=>hF.fn f,?_⟩
  have:=hn _ _ h
  rwa [withD_put] at this
def RelD (E:Ty->TypeId) (A:World->MM->Prop) (ds:List Deferred) (n:Nat) (st:St) (a:Act) (w:World):Prop :=
 a.defers=ds/\∃ w0 M,A w0 M/\Rel E w0 M n st (bareA a) w
variable {A:World->MM->Prop} {ds:List Deferred}
theorem RelD.size {st:St} {a:Act} {w:World} (h:RelD E A ds n st a w):a.tmps.size=n:=by
 obtain ⟨_,_,_,_,h⟩:=h
 exact h.size
theorem stepI (hF:FW F) (ht:TabOk P E tab) (hKA:KAll P E K) (hPA:PAll P E pts) {ops:Array Oper} {o:Oper} (hok:opOk o=true) (hnd:noDefer o=true) (hd:∀ d,o.dst=some d->d < n) {st:St} {a:Act} {w:World} (h:RelD E A ds n st a w) {k:St->Prop} (hv:vcStepP tab K pts ops o st k)
  {next:Act->World->Prop} {Q:Exit->Act->World->Prop} (hk:∀ st' a' w',RelD E A ds n st' a' w'->k st'->next a' w'):RunsIn F m P ops o next Q a w:=by
 obtain ⟨hds,w0,M,hA,hr⟩:=h
 refine runs_in hF hnd (next:=fun a' w'=>∃ st',Rel E w0 M n st' a' w'/\k st') (stepP_sound ht hKA hPA hok hd hr hv fun st' a' w' h1 h2=>⟨st',h1,h2⟩) (fun a' w' ⟨_,h1,_⟩=>h1.defers) fun a' w' ⟨st',h1,h2⟩=>?_
 refine hk st' _ w' ⟨hds,w0,M,hA,?_⟩ h2
 rw [bare_withD _ _ h1.defers]
 exact h1
theorem stepI0 (hF:FW F) (ht:TabOk P E tab) (hKA:KAll P E K) {ops:Array Oper} {o:Oper} (hok:opOk o=true) (hnd:noDefer o=true) (hd:∀ d,o.dst=some d->d < n) {st:St} {a:Act} {w:World} (h:RelD E A ds n st a w) {k:St->Prop} (hv:vcStep tab K ops o st k)
  {next:Act->World->Prop} {Q:Exit->Act->World->Prop} (hk:∀ st' a' w',RelD E A ds n st' a' w'->k st'->next a' w'):RunsIn F m P ops o next Q a w:=by
 obtain ⟨hds,w0,M,hA,hr⟩:=h
 refine runs_in hF hnd (next:=fun a' w'=>∃ st',Rel E w0 M n st' a' w'/\k st') (step_sound ht hKA hok hd hr hv fun st' a' w' h1 h2=>⟨st',h1,h2⟩) (fun a' w' ⟨_,h1,_⟩=>h1.defers) fun a' w' ⟨st',h1,h2⟩=>?_
 refine hk st' _ w' ⟨hds,w0,M,hA,?_⟩ h2
 rw [bare_withD _ _ h1.defers]
 exact h1
def wpListIn' (F:Fence) (m:Nat) (P:Program) (ops:Array Oper) (Q:Exit->Act->World->Prop):List Oper->Act->World->Prop
 | [],a,w=>Q .normal a w
 | o :: rest,a,w=>RunsIn F m P ops o (wpListIn' F m P ops Q rest) Q a w
theorem wpOpsIn_list {ops:Array Oper} {Q:Exit->Act->World->Prop} (l:List Oper):∀ k,(∀ j,l[j]?=ops[k+j]?)->wpOpsIn F m P ops Q (List.range' k l.length)=wpListIn' F m P ops Q l:=by
 induction l with
 | nil=>intro k _;funext a w;simp [wpOpsIn,wpListIn']
 | cons o l ih =>
  intro k h
  have h0:ops[k]?=some o:=by simpa using (h 0).symm
  have ih':=ih (k+1) (fun j=>by have:=h (j+1);simpa [Nat.add_assoc,Nat.add_comm 1 j] using this)
  funext a w
  simp only [List.length_cons,List.range'_succ,wpOpsIn,h0,wpListIn',RunsIn,ih']
theorem wpIn_region_list' {id:Nat} {ops:Array Oper} {Q:Exit->Act->World->Prop} {a:Act} {w:World} (h:wpListIn' F m P ops Q ops.toList a w):(Code.region id ops false).wpIn F m P Q a w :=
 wpIn_region (by rw [List.range_eq_range',← Array.length_toList,wpOpsIn_list ops.toList 0 (by simp)];exact h)
theorem seqI0 (hF:FW F) (ht:TabOk P E tab) (hKA:KAll P E K) {ops:Array Oper} {k:St->Prop} {Q:Exit->Act->World->Prop} (hk:∀ st' a' w',RelD E A ds n st' a' w'->k st'->Q .normal a' w') :
  ∀ (l:List Oper) (st:St) (a:Act) (w:World),(∀ o ∈ l,(opOk o=true/\∀ d,o.dst=some d->d < n)/\noDefer o=true)->RelD E A ds n st a w->vcOps tab K ops l st k->wpListIn' F m P ops Q l a w:=by
 intro l
 induction l with
 | nil=>intro st a w _ h hv;exact hk st a w h hv
 | cons o rest ih =>
  intro st a w hl h hv
  obtain ⟨⟨hok,hd⟩,hnd⟩:=hl o (by simp)
  have hl':∀ o ∈ rest,(opOk o=true/\∀ d,o.dst=some d->d < n)/\noDefer o=true:=fun o ho=>hl o (by simp [ho])
  unfold wpListIn'
  exact stepI0 hF ht hKA hok hnd hd h hv fun st' a' w' hr hv'=>ih st' a' w' hl' hr hv'
theorem RelD.drawn {st:St} {a:Act} {w:World} (h:RelD E A ds n st a w):RelD E A ds n st a { w with drawn:=w.drawn+1 } :=
 let ⟨h1,w0,M,hA,hr⟩:=h
 ⟨h1,w0,M,hA,hr.drawn⟩
theorem anyI (hF:FW F) (ht:TabOk P E tab) (hKA:KAll P E K) {ops:Array Oper} (hok:opsOk n ops.toList=true) (hnd:ops.toList.all noDefer=true) {k:St->Prop} {Q:Exit->Act->World->Prop} (hQ:∀ st' a' w',RelD E A ds n st' a' w'->k st'->Q .normal a' w') :
  ∀ (fuel:Nat) (listed:Array Bool) (st:St) (a:Act) (w:World),linDone ops fuel listed=true->RelD E A ds n st a w->(∀ l ∈ linExts ops fuel listed,vcOps tab K ops (pickOps ops l) st k)->wpAnyIn F m P .any ops Q fuel listed a w:=by
 intro fuel
 induction fuel with
 | zero =>
  intro listed st a w hd h hv
  simp only [linDone,List.isEmpty_iff] at hd
  exact ⟨hd,hQ st a w h (hv [] (by simp [linExts]))⟩
 | succ fuel ih =>
  intro listed st a w hd h hv
  simp only [linDone,List.all_eq_true] at hd
  refine ⟨fun he=>hQ st a w h (hv [] (by simp [linExts,he])),fun i hi=>?_⟩
  have hmem:∀ l ∈ linExts ops fuel (listed.setIfInBounds i true),(i :: l) ∈ linExts ops (fuel+1) listed:=by
   intro l hl
   simp only [linExts]
   split
   ·rename_i he;rw [he] at hi;cases hi
   ·rename_i x xs he
    rw [he] at hi
    exact List.mem_flatMap.2 ⟨i,hi,List.mem_map.2 ⟨l,hl,rfl⟩⟩
  unfold wpOpIn
  cases ho:ops[i]? with
  | none =>
   exact ih _ st a w (hd i hi) h fun l hl=>by
    have:=hv _ (hmem l hl)
    simpa [pickOps,ho] using this
  | some o =>
   have ho':o ∈ ops.toList:=by
    have:=Array.mem_of_getElem? ho
    simpa using this
   obtain ⟨h1,h2⟩:=opsOk_mem hok o ho'
   obtain ⟨l0,hl0⟩:=linExts_ex ops fuel (listed.setIfInBounds i true)
   have hall:∀ l,l ∈ linExts ops fuel (listed.setIfInBounds i true)->vcStep tab K ops o st (fun s=>vcOps tab K ops (pickOps ops l) s k):=by
    intro l hl
    have:=hv _ (hmem l hl)
    simpa only [pickOps,ho,vcOps] using this
   exact stepI0 hF ht hKA h1 (List.all_eq_true.1 hnd o ho') h2 h (vcStep_all l0 hl0 hall) fun st' a' w' hr hk=>ih _ st' a' w' (hd i hi) hr fun l hl=>hk l hl
theorem oneI (hF:FW F) (ht:TabOk P E tab) (hKA:KAll P E K) (hPA:PAll P E pts) {ops:Array Oper} (hok:opsOk n ops.toList=true) (hnd:ops.toList.all noDefer=true) {k:St->Prop} {Q:Exit->Act->World->Prop} (hQ:∀ st' a' w',RelD E A ds n st' a' w'->k st'->Q .normal a' w') :
  ∀ (fuel:Nat) (l0:List Nat) (listed:Array Bool) (st:St) (a:Act) (w:World),linDone ops fuel listed=true->(∀ l ∈ linExts ops fuel listed,l=l0)->RelD E A ds n st a w->vcOpsP tab K pts ops (pickOps ops l0) st k->wpAnyIn F m P .any ops Q fuel listed a w:=by
 intro fuel
 induction fuel with
 | zero =>
  intro l0 listed st a w hd hone h hv
  simp only [linDone,List.isEmpty_iff] at hd
  have:([]:List Nat)=l0:=hone [] (by simp [linExts])
  subst this
  exact ⟨hd,hQ st a w h hv⟩
 | succ fuel ih =>
  intro l0 listed st a w hd hone h hv
  simp only [linDone,List.all_eq_true] at hd
  refine ⟨fun he=>?_,fun i hi=>?_⟩
  ·have:([]:List Nat)=l0:=hone [] (by simp [linExts,he])
   subst this
   exact hQ st a w h hv
  have hmem:∀ l ∈ linExts ops fuel (listed.setIfInBounds i true),(i :: l) ∈ linExts ops (fuel+1) listed:=by
   intro l hl
   simp only [linExts]
   split
   ·rename_i he;rw [he] at hi;cases hi
   ·rename_i x xs he
    rw [he] at hi
    exact List.mem_flatMap.2 ⟨i,hi,List.mem_map.2 ⟨l,hl,rfl⟩⟩
  obtain ⟨l1,hl1⟩:=linExts_ex ops fuel (listed.setIfInBounds i true)
  have e0:l0=i :: l1:=(hone _ (hmem l1 hl1)).symm
  have hone':∀ l ∈ linExts ops fuel (listed.setIfInBounds i true),l=l1:=by
   intro l hl
   have:=hone _ (hmem l hl)
   rw [e0] at this
   injection this
  subst e0
  unfold wpOpIn
  cases ho:ops[i]? with
  | none =>
   have e1:pickOps ops (i :: l1)=pickOps ops l1:=by simp only [pickOps,ho]
   rw [e1] at hv
   exact ih l1 _ st a w (hd i hi) hone' h hv
  | some o =>
   have ho':o ∈ ops.toList:=by
    have:=Array.mem_of_getElem? ho
    simpa using this
   obtain ⟨h1,h2⟩:=opsOk_mem hok o ho'
   have e1:pickOps ops (i :: l1)=o :: pickOps ops l1:=by simp only [pickOps,ho]
   rw [e1] at hv
   exact stepI hF ht hKA hPA h1 (List.all_eq_true.1 hnd o ho') h2 h hv fun st' a' w' hr hk=>ih l1 _ st' a' w' (hd i hi) hone' hr hk
end
end Go.SE



namespace Go.SE
variable [Base]
open Go.RowKit
section
variable (Γ:Type)
abbrev SpOp:=Oper->St->Γ->Option ((St->Γ->Prop)->Prop)
abbrev SpCode:=Operand->Array Tmp->Code->Code->St->Γ->Option ((XK->St->Γ->Prop)->Prop)
end
section
variable {Γ:Type} (tab:TypeId->Option TI) (K:FuncId->Option Con) (pts:FuncId->Option PT) (sp:SpOp Γ)
def spK (o:Oper) (st:St) (γ:Γ) (k:St->Γ->Prop):Option ((St->Γ->Prop)->Prop)->Prop
 | some f=>f k
 | none=>vcOpP tab K pts o st fun st'=>k st' γ
def vcOpY (o:Oper) (st:St) (γ:Γ) (k:St->Γ->Prop):Prop:=spK tab K pts o st γ k (sp o st γ)
def vcStepY (ops:Array Oper) (o:Oper) (st:St) (γ:Γ) (k:St->Γ->Prop):Prop :=
 match o.guard with
 | none=>vcOpY tab K pts sp o st γ k
 | some (j,want)=>match gslot ops j with
  | none=>False
  | some g=>match st.env g with
   | .s (.c (.d (.val (.bool b)))) =>
    match want with
    | true=>vcIf b (vcOpY tab K pts sp o { st with env:=upd st.env g (sv (.bool true)) } γ k) (k (St.put { st with env:=upd st.env g (sv (.bool false)) } o.dst junk) γ)
    | false=>vcIf b (k (St.put { st with env:=upd st.env g (sv (.bool true)) } o.dst junk) γ) (vcOpY tab K pts sp o { st with env:=upd st.env g (sv (.bool false)) } γ k)
   | _=>False
def vcOpsY (ops:Array Oper):List Oper->St->Γ->(St->Γ->Prop)->Prop
 | [],st,γ,k=>k st γ
 | o :: rest,st,γ,k=>vcStepY tab K pts sp ops o st γ fun st' γ'=>vcOpsY ops rest st' γ' k
def vcRegY (ops:Array Oper) (st:St) (γ:Γ) (k:St->Γ->Prop):Bool->Bool->List (List Nat)->Prop
 | false,_,p=>vcReg tab K ops st (fun st'=>k st' γ) p
 | true,false,[]=>vcOpsY tab K pts sp ops ops.toList st γ k
 | true,true,[]=>vcLast tab K pts ops st fun st'=>k st' γ
 | true,_,l :: _=>vcOpsP tab K pts ops (pickOps ops l) st fun st'=>k st' γ
structure AnnY (Γ:Type) where
 ann:Ann
 gh:ann.α->Γ
def seqY (f:St->Γ->Prop) (Q:XK->St->Γ->Prop):XK->St->Γ->Prop
 | .normal,st,γ=>f st γ
 | x,st,γ=>Q x st γ
def blockY (id:Nat) (Q:XK->St->Γ->Prop):XK->St->Γ->Prop
 | .exit id',st,γ=>if id'=id then Q .normal st γ else Q (.exit id') st γ
 | x,st,γ=>Q x st γ
def vcLoopY (body:St->Γ->(XK->St->Γ->Prop)->Prop) (st:St) (γ:Γ) (Q:XK->St->Γ->Prop):Option (AnnY Γ)->Prop
 | none=>False
 | some ⟨⟨α,ok,mu,i0,nx,live,sets,mids,blks,owns,rd,base⟩,gh⟩=>(ok (i0 st)/\gh (i0 st)=γ/\fitsQ live (sets (i0 st)) mids (blks (i0 st)) (owns (i0 st)) (rd st.rd (i0 st)) st st) /\
   ∀ a:α,ok a->body (headP (fun _=>none) live (sets a) mids (blks a) (owns a) base (rd st.rd a) st) (gh a)
    (seqY (fun st' γ'=>ok (nx a st')/\gh (nx a st')=γ'/\mu (nx a st') < mu a/\fitsQ live (sets (nx a st')) mids (blks (nx a st')) (owns (nx a st')) (rd st.rd (nx a st')) st st') Q)
def spcK (Q:XK->St->Γ->Prop):Option ((XK->St->Γ->Prop)->Prop)->Prop
 | some f=>f Q
 | none=>False
end
section
variable {Γ:Type} (tab:TypeId->Option TI) (K:FuncId->Option Con) (pts:FuncId->Option PT) (sp:SpOp Γ) (spc:SpCode Γ) (drg:Γ->Bool) (hp:Nat->Bool) (gcs:Nat->Option (List Nat × List Nat)) (anns:Nat->St->Γ->Option (AnnY Γ)) (perm:Nat->List (List Nat))
def dOk (b draw:Bool):List (List Nat)->Prop
 | []=>(!draw || b)=true
 | _=>True
def vcY:Code->St->Γ->(XK->St->Γ->Prop)->Prop
 | .skip,st,γ,Q=>Q .normal st γ
 | .region id ops draw,st,γ,Q=>dOk (drg γ) draw (perm id)/\vcRegY tab K pts sp ops st γ (Q .normal) (hp id) draw (perm id)
 | .seq a b,st,γ,Q=>vcY a st γ (seqY (fun st' γ'=>gcQ st' (fun s=>vcY b s γ' Q) (gcs (firstReg b))) Q)
 | .cond c a b,st,γ,Q=>condK (vcY a st γ Q) (vcY b st γ Q) (ev st c)
 | .block id c,st,γ,Q=>vcY c st γ (blockY id Q)
 | .loop c,st,γ,Q=>vcLoopY (fun st' γ' Q'=>vcY c st' γ' Q') st γ Q (anns (firstReg c) st γ)
 | .rangeFunc f ps x c,st,γ,Q=>spcK Q (spc f ps x c st γ)
 | .exit id,st,γ,Q=>Q (.exit id) st γ
 | .ret,st,γ,Q=>Q .ret st γ
 | _,_,_,_=>False
def codeOkY (dr:Bool) (n:Nat):Code->Bool
 | .region id ops draw=>opsOk n ops.toList && ops.toList.all noDefer && (match hp id with
  | false=>(match perm id with
   | []=>!draw || (dr && drawOk K tab ops)
   | l :: ls=>draw && permOk ops (l :: ls))
  | true=>(match perm id with
   | []=>!draw || (dr && drawLast K tab ops)
   | [l]=>draw && permOk ops [l]
   | _=>false))
 | .seq a b=>codeOkY dr n a && codeOkY dr n b
 | .block _ c=>codeOkY dr n c
 | .loop c=>codeOkY dr n c
 | .cond _ a b=>codeOkY dr n a && codeOkY dr n b
 | _=>true
end
def noOO (gcs:Nat->Option (List Nat × List Nat)):Code->Bool
 | .seq a b=>noOO gcs a && noOO gcs b && (gcs (firstReg b)).isNone
 | .block _ c=>noOO gcs c
 | .loop _=>false
 | .cond _ a b=>noOO gcs a && noOO gcs b
 | _=>true
section
variable {Γ:Type} {F:Fence} {m:Nat} {P:Program} {E:Ty->TypeId} {tab:TypeId->Option TI} {K:FuncId->Option Con} {pts:FuncId->Option PT} {sp:SpOp Γ} {spc:SpCode Γ} {drg:Γ->Bool} {hp:Nat->Bool} {gcs:Nat->Option (List Nat × List Nat)} {anns:Nat->St->Γ->Option (AnnY Γ)} {perm:Nat->List (List Nat)} {n:Nat}
 {A:Γ->List Deferred->World->MM->Prop}
def RelY (E:Ty->TypeId) (A:Γ->List Deferred->World->MM->Prop) (n:Nat) (st:St) (γ:Γ) (a:Act) (w:World):Prop :=
 ∃ w0 M,A γ a.defers w0 M/\Rel E w0 M n st (bareA a) w
theorem RelY.nb {st:St} {γ:Γ} {a:Act} {w:World} (h:RelY E A n st γ a w):Base.n0<=w.heap.size :=
 let ⟨_,_,_,hr⟩:=h
 let ⟨_,hg,_⟩:=hr.good
 hg.roin.1
theorem RelY.d {st:St} {γ:Γ} {a:Act} {w:World} (h:RelY E A n st γ a w):RelD E (A γ a.defers) a.defers n st a w :=
 let ⟨w0,M,hA,hr⟩:=h
 ⟨rfl,w0,M,hA,hr⟩
theorem RelD.y {st:St} {γ:Γ} {ds:List Deferred} {a:Act} {w:World} (h:RelD E (A γ ds) ds n st a w):RelY E A n st γ a w:=by
 obtain ⟨rfl,w0,M,hA,hr⟩:=h
 exact ⟨w0,M,hA,hr⟩
def SpOk (F:Fence) (m:Nat) (P:Program) (E:Ty->TypeId) (A:Γ->List Deferred->World->MM->Prop) (n:Nat) (sp:SpOp Γ):Prop :=
 ∀ o st γ f,sp o st γ=some f->(∀ d,o.dst=some d->d < n)->∀ (k:St->Γ->Prop) (a:Act) (w:World) (next:Act->World->Prop) (Q:Exit->Act->World->Prop),RelY E A n st γ a w->f k ->
  (∀ st' γ' a' w',RelY E A n st' γ' a' w'->k st' γ'->next a' w')->o.wpIn F m P a w next Q
def SpcOk (F:Fence) (m:Nat) (P:Program) (E:Ty->TypeId) (A:Γ->List Deferred->World->MM->Prop) (n:Nat) (spc:SpCode Γ):Prop :=
 ∀ f ps x c st γ g,spc f ps x c st γ=some g->∀ (Qs:XK->St->Γ->Prop) (a:Act) (w:World) (Q:Exit->Act->World->Prop),RelY E A n st γ a w->g Qs ->
  (∀ x st' γ' a' w',RelY E A n st' γ' a' w'->Qs x st' γ'->Q x.exit' a' w')->(Code.rangeFunc f ps x c).wpIn F m P Q a w
theorem vcOpY_sound (hF:FW F) (ht:TabOk P E tab) (hKA:KAll P E K) (hPA:PAll P E pts) (hsp:SpOk F m P E A n sp) {o:Oper} (hok:opOk o=true) (hnd:noDefer o=true) (hd:∀ d,o.dst=some d->d < n) {st:St} {γ:Γ} {a:Act} {w:World} (h:RelY E A n st γ a w)
  {k:St->Γ->Prop} (hv:vcOpY tab K pts sp o st γ k) {next:Act->World->Prop} {Q:Exit->Act->World->Prop} (hk:∀ st' γ' a' w',RelY E A n st' γ' a' w'->k st' γ'->next a' w'):o.wpIn F m P a w next Q:=by
 unfold vcOpY at hv
 cases hs:sp o st γ with
 | some f =>
  rw [hs] at hv
  exact hsp o st γ f hs hd k a w next Q h hv hk
 | none =>
  rw [hs] at hv
  obtain ⟨w0,M,hA,hr⟩:=h
  have hop:=vcOpP_sound hr ht hKA hPA hd hok hv (next:=fun a' w'=>∃ st',Rel E w0 M n st' a' w'/\k st' γ) (Q:=QF) fun st' a' w' h1 h2=>⟨st',h1,h2⟩
  refine wp_in hF (noDefer_ok hnd) hop (fun a' w' ⟨_,h1,_⟩=>h1.defers) fun a' w' ⟨st',h1,h2⟩=>?_
  refine hk st' γ _ w' ⟨w0,M,hA,?_⟩ h2
  rw [bare_withD _ _ h1.defers]
  exact h1
theorem stepY (hF:FW F) (ht:TabOk P E tab) (hKA:KAll P E K) (hPA:PAll P E pts) (hsp:SpOk F m P E A n sp) {ops:Array Oper} {o:Oper} (hok:opOk o=true) (hnd:noDefer o=true) (hd:∀ d,o.dst=some d->d < n) {st:St} {γ:Γ} {a:Act} {w:World} (h:RelY E A n st γ a w)
  {k:St->Γ->Prop} (hv:vcStepY tab K pts sp ops o st γ k) {next:Act->World->Prop} {Q:Exit->Act->World->Prop} (hk:∀ st' γ' a' w',RelY E A n st' γ' a' w'->k st' γ'->next a' w'):RunsIn F m P ops o next Q a w:=by
 unfold vcStepY at hv
 unfold RunsIn
 have hjunk:RelY E A n (St.put st o.dst junk) γ (a.put o.dst undef) w:=by
  obtain ⟨w0,M,hA,hr⟩:=h
  refine ⟨w0,M,by rw [put_defers];exact hA,?_⟩
  rw [bare_put]
  exact hr.junk hd undef
 cases hg:o.guard with
 | none =>
  rw [hg] at hv
  rw [if_pos (by simp [Region.wanted,hg])]
  exact vcOpY_sound hF ht hKA hPA hsp hok hnd hd h hv hk
 | some gw =>
  obtain ⟨j,want⟩:=gw
  rw [hg] at hv
  simp only at hv
  split at hv
  ·exact hv.elim
  ·rename_i g hgs
   split at hv
   ·rename_i b he
    have hy:yielded ops a.tmps j=some b:=by
     obtain ⟨w0,M,hA,hr⟩:=h
     exact yields hr hgs he
    have hwant:Region.wanted o (yielded ops a.tmps)=(b == want):=by simp [Region.wanted,hg,hy]
    rw [hwant]
    have hself:∀ c:Bool,b=c->({ st with env:=upd st.env g (sv (.bool c)) }:St)=st:=by
     intro c hc
     subst hc
     have:=upd_self st.env g (sv (.bool b)) he
     rw [this]
    cases want <;> cases b <;> simp only at hv
    ·have hv:=vcIf_f hv
     rw [hself false rfl] at hv
     exact vcOpY_sound hF ht hKA hPA hsp hok hnd hd h hv hk
    ·have hv:=vcIf_t hv
     rw [hself true rfl] at hv
     exact ⟨fun f _=>hF.fn f,hk _ _ _ w hjunk hv⟩
    ·have hv:=vcIf_f hv
     rw [hself false rfl] at hv
     exact ⟨fun f _=>hF.fn f,hk _ _ _ w hjunk hv⟩
    ·have hv:=vcIf_t hv
     rw [hself true rfl] at hv
     exact vcOpY_sound hF ht hKA hPA hsp hok hnd hd h hv hk
   ·exact hv.elim
theorem seqYs (hF:FW F) (ht:TabOk P E tab) (hKA:KAll P E K) (hPA:PAll P E pts) (hsp:SpOk F m P E A n sp) {ops:Array Oper} {k:St->Γ->Prop} {Q:Exit->Act->World->Prop} (hk:∀ st' γ' a' w',RelY E A n st' γ' a' w'->k st' γ'->Q .normal a' w') :
  ∀ (l:List Oper) (st:St) (γ:Γ) (a:Act) (w:World),(∀ o ∈ l,(opOk o=true/\∀ d,o.dst=some d->d < n)/\noDefer o=true)->RelY E A n st γ a w->vcOpsY tab K pts sp ops l st γ k->wpListIn' F m P ops Q l a w:=by
 intro l
 induction l with
 | nil=>intro st γ a w _ h hv;exact hk st γ a w h hv
 | cons o rest ih =>
  intro st γ a w hl h hv
  obtain ⟨⟨hok,hd⟩,hnd⟩:=hl o (by simp)
  have hl':∀ o ∈ rest,(opOk o=true/\∀ d,o.dst=some d->d < n)/\noDefer o=true:=fun o ho=>hl o (by simp [ho])
  unfold wpListIn'
  exact stepY hF ht hKA hPA hsp hok hnd hd h hv fun st' γ' a' w' hr hv'=>ih st' γ' a' w' hl' hr hv'
open Classical in
theorem codeY_sound (hF:FW F) (ht:TabOk P E tab) (hKA:KAll P E K) (hPA:PAll P E pts) (hmix:P.follows .mixedOrders=true) (hsp:SpOk F m P E A n sp) (hspc:SpcOk F m P E A n spc)
  {dr:Bool} (hdr:dr=true->F=Fence.wide/\(∀ γ ds w0 M,drg γ=true->A γ ds w0 M->ds=[])/\∀ w0 M,DrawSound P E tab K w0 M n) :
  ∀ (c:Code) (st:St) (γ:Γ) (a:Act) (w:World) (Qs:XK->St->Γ->Prop) (Q:Exit->Act->World->Prop),((∀ γ ds w0 M,A γ ds w0 M->OOk (fun _=>none) M) ∨ noOO gcs c=true)->codeOkY tab K hp perm dr n c=true->RelY E A n st γ a w->vcY tab K pts sp spc drg hp gcs anns perm c st γ Qs ->
  (∀ x st' γ' a' w',RelY E A n st' γ' a' w'->Qs x st' γ'->Q x.exit' a' w')->c.wpIn F m P Q a w:=by
 intro c
 induction c with
 | skip=>intro st γ a w Qs Q _ _ h hv hQ;exact wpIn_skip (hQ .normal st γ a w h hv)
 | region id ops draw =>
  intro st γ a w Qs Q hoo hok h hv hQ
  simp only [codeOkY,Bool.and_eq_true] at hok
  obtain ⟨⟨hok1,hnd⟩,hok2⟩:=hok
  have hall:∀ o ∈ ops.toList,(opOk o=true/\∀ d,o.dst=some d->d < n)/\noDefer o=true:=fun o ho=>⟨opsOk_mem hok1 o ho,List.all_eq_true.1 hnd o ho⟩
  simp only [vcY] at hv
  obtain ⟨hdo,hv⟩:=hv
  cases hh:hp id with
  | false =>
   rw [hh] at hv hok2
   cases hpm:perm id with
   | nil =>
    rw [hpm] at hv hok2
    simp only [vcRegY,vcReg] at hv
    simp only at hok2
    cases draw with
    | false=>exact wpIn_region_list' (seqI0 hF ht hKA (fun st' a' w' hr hk=>hQ .normal st' γ a' w' hr.y hk) ops.toList st a w hall h.d hv)
    | true =>
     simp only [Bool.not_true,Bool.false_or,Bool.and_eq_true] at hok2
     obtain ⟨hF',hA',hds⟩:=hdr hok2.1
     obtain ⟨w0,M,hA,hr⟩:=h
     have hgd:drg γ=true:=by rw [hpm] at hdo;simpa [dOk] using hdo
     have e0:a.defers=[]:=hA' _ _ _ _ hgd hA
     have e1:bareA a=a:=by cases a;simp only at e0;subst e0;rfl
     subst hF'
     refine wpIn_wide.2 (hds w0 M id ops st a w _ Q hok2.2 hok1 (by rw [← e1];exact hr) hv fun st' a' w' hr' hk=>?_)
     have e2:a'.defers=[]:=hr'.defers
     have e3:bareA a'=a':=by cases a';simp only at e2;subst e2;rfl
     exact hQ .normal st' γ a' w' ⟨w0,M,by rw [e2,← e0];exact hA,by rw [e3];exact hr'⟩ hk
   | cons l ls =>
    rw [hpm] at hv hok2
    simp only [vcRegY,vcReg] at hv
    simp only [Bool.and_eq_true,permOk,List.all_eq_true] at hok2
    obtain ⟨hd,hp1,hp2⟩:=hok2
    subst hd
    refine wpIn_region_any hmix (anyI hF ht hKA hok1 hnd (fun st' a' w' hr hk=>hQ .normal st' γ a' w' hr.y hk) _ _ st a _ hp1 h.d.drawn fun x hx=>vcEach_mem hv x ?_)
    have:=hp2 x hx
    simpa using this
  | true =>
   rw [hh] at hv hok2
   cases hpm:perm id with
   | nil =>
    rw [hpm] at hv hok2
    simp only at hok2
    cases draw with
    | true =>
     simp only [vcRegY] at hv
     simp only [Bool.not_true,Bool.false_or,Bool.and_eq_true] at hok2
     obtain ⟨hF',hA',hds⟩:=hdr hok2.1
     obtain ⟨w0,M,hA,hr⟩:=h
     have hgd:drg γ=true:=by rw [hpm] at hdo;simpa [dOk] using hdo
     have e0:a.defers=[]:=hA' _ _ _ _ hgd hA
     have e1:bareA a=a:=by cases a;simp only at e0;subst e0;rfl
     subst hF'
     refine wpIn_wide.2 (draw_last ht (tab_small ht) hKA hPA hmix hok2.2 hok1 (by rw [← e1];exact hr) hv fun st' a' w' hr' hk=>?_)
     have e2:a'.defers=[]:=hr'.defers
     have e3:bareA a'=a':=by cases a';simp only at e2;subst e2;rfl
     exact hQ .normal st' γ a' w' ⟨w0,M,by rw [e2,← e0];exact hA,by rw [e3];exact hr'⟩ hk
    | false =>
    simp only [vcRegY] at hv
    exact wpIn_region_list' (seqYs hF ht hKA hPA hsp (fun st' γ' a' w' hr hk=>hQ .normal st' γ' a' w' hr hk) ops.toList st γ a w hall h hv)
   | cons l ls =>
    rw [hpm] at hv hok2
    simp only [vcRegY] at hv
    cases ls with
    | cons l' ls=>cases hok2
    | nil =>
     simp only [Bool.and_eq_true,permOk,List.all_eq_true] at hok2
     obtain ⟨hd,hp1,hp2⟩:=hok2
     subst hd
     refine wpIn_region_any hmix (oneI hF ht hKA hPA hok1 hnd (fun st' a' w' hr hk=>hQ .normal st' γ a' w' hr.y hk) _ l _ st a _ hp1 (fun x hx=>?_) h.d.drawn hv)
     have:=hp2 x hx
     simpa using this
 | seq x y ihx ihy =>
  intro st γ a w Qs Q hoo hok h hv hQ
  simp only [codeOkY,Bool.and_eq_true] at hok
  have hx:(∀ γ ds w0 M,A γ ds w0 M->OOk (fun _=>none) M) ∨ noOO gcs x=true:=hoo.imp id fun h=>by simp only [noOO,Bool.and_eq_true] at h;exact h.1.1
  have hy:(∀ γ ds w0 M,A γ ds w0 M->OOk (fun _=>none) M) ∨ noOO gcs y=true:=hoo.imp id fun h=>by simp only [noOO,Bool.and_eq_true] at h;exact h.1.2
  refine wpIn_seq (ihx st γ a w _ _ hx hok.1 h hv fun k st' γ' a' w' hr hk=>?_)
  cases k with
  | normal =>
   simp only [seqY] at hk
   have hk2:=gcQ_ok (k':=fun s=>vcY tab K pts sp spc drg hp gcs anns perm y s γ' Qs) (fun _ h=>h) hk
   cases hgc:gcs (firstReg y) with
   | none=>rw [hgc] at hk2;exact ihy st' γ' a' w' Qs Q hy hok.2 hr hk2 hQ
   | some lv =>
    rw [hgc] at hk2
    obtain ⟨live,ids⟩:=lv
    obtain ⟨w0,M,hA,hr⟩:=hr
    rcases hoo with hOO | hn
    ·exact ihy _ γ' a' w' Qs Q hy hok.2 ⟨w0,M,hA,hr.gc (hOO _ _ _ _ hA) hk2.1⟩ hk2.2 hQ
    ·simp only [noOO,hgc,Option.isNone_some,Bool.and_false] at hn
     cases hn
  | exit id=>exact hQ (.exit id) st' γ' a' w' hr hk
  | ret=>exact hQ .ret st' γ' a' w' hr hk
 | cond cnd x y ihx ihy =>
  intro st γ a w Qs Q hoo hok h hv hQ
  simp only [codeOkY,Bool.and_eq_true] at hok
  simp only [vcY] at hv
  unfold condK at hv
  split at hv
  ·rename_i t he
   have hval:a.eval cnd=.bool t:=by
    obtain ⟨w0,M,hA,hr⟩:=h
    exact (ev_val hr he).1
   cases t with
   | true=>exact wpIn_cond_true hval (ihx st γ a w Qs Q (hoo.imp id fun h=>by simp only [noOO,Bool.and_eq_true] at h;exact h.1) hok.1 h (vcIf_t hv) hQ)
   | false=>exact wpIn_cond_false hval (ihy st γ a w Qs Q (hoo.imp id fun h=>by simp only [noOO,Bool.and_eq_true] at h;exact h.2) hok.2 h (vcIf_f hv) hQ)
  ·exact hv.elim
 | block id x ih =>
  intro st γ a w Qs Q hoo hok h hv hQ
  refine wpIn_block (ih st γ a w _ _ hoo hok h hv fun k st' γ' a' w' hr hk=>?_)
  cases k with
  | normal=>exact hQ .normal st' γ' a' w' hr hk
  | exit id' =>
   simp only [XK.exit',Exit.inBlock]
   simp only [blockY] at hk
   split
   ·rename_i e;rw [if_pos e] at hk;exact hQ .normal st' γ' a' w' hr hk
   ·rename_i e;rw [if_neg e] at hk;exact hQ (.exit id') st' γ' a' w' hr hk
  | ret=>exact hQ .ret st' γ' a' w' hr hk
 | loop x ih =>
  intro st γ a w Qs Q hoo hok h hv hQ
  simp only [vcY] at hv
  have hOO:∀ γ ds w0 M,A γ ds w0 M->OOk (fun _=>none) M:=hoo.resolve_right (by simp [noOO])
  unfold vcLoopY at hv
  split at hv
  ·exact hv.elim
  ·rename_i α ok mu i0 nx live sets mids blks owns rd base gh hA
   obtain ⟨⟨ho0,hg0,hf0⟩,hround⟩:=hv
   let α0:α:=i0 st
   let hd:α->St:=fun α=>SE.headP (fun _=>none) live (sets α) mids (blks α) (owns α) base (rd st.rd α) st
   have toHead:∀ {st':St} {γ':Γ} {a:Act} {w:World} (β:α),gh β=γ'->RelY E A n st' γ' a w->fitsQ live (sets β) mids (blks β) (owns β) (rd st.rd β) st st'->RelY E A n (hd β) (gh β) a w:=by
    intro st' γ' a w β hg hr hf
    subst hg
    obtain ⟨w0,M,hA,hr⟩:=hr
    exact ⟨w0,M,hA,hr.headP (hOO _ _ _ _ hA) (fitsQ_ok hf)⟩
   have hex:∀ (a:Act) (w:World),(∃ α,ok α/\RelY E A n (hd α) (gh α) a w)->∃ m,∃ α,ok α/\RelY E A n (hd α) (gh α) a w/\mu α=m :=
    fun a w ⟨α,h1,h2⟩=>⟨_,α,h1,h2,rfl⟩
   let μ:Act->World->Nat:=fun a w=>if hh:∃ m,∃ α,ok α/\RelY E A n (hd α) (gh α) a w/\mu α=m then Classical.choose (least hh) else 0
   refine wpIn_loop (fun a w=>∃ α,ok α/\RelY E A n (hd α) (gh α) a w) μ ⟨α0,ho0,toHead α0 hg0 h hf0⟩ ?_
   intro a w hI
   have hh:=hex a w hI
   obtain ⟨α,h1,h2,h3⟩:=(Classical.choose_spec (least hh)).1
   have hμ:μ a w=mu α:=by simp only [μ,dif_pos hh];exact h3.symm
   refine ih _ _ a w _ _ (.inl hOO) hok h2 (hround α h1) fun k st' γ' a' w' hr hk=>?_
   cases k with
   | normal =>
    obtain ⟨g1,g0,g2,g3⟩:=hk
    have hrel:RelY E A n (hd (nx α st')) (gh (nx α st')) a' w':=toHead _ g0 hr g3
    refine ⟨⟨nx α st',g1,hrel⟩,?_⟩
    have hh':∃ m,∃ α,ok α/\RelY E A n (hd α) (gh α) a' w'/\mu α=m:=⟨_,nx α st',g1,hrel,rfl⟩
    have:μ a' w'<=mu (nx α st'):=by simp only [μ,dif_pos hh'];exact (Classical.choose_spec (least hh')).2 _ ⟨nx α st',g1,hrel,rfl⟩
    omega
   | exit id=>exact hQ (.exit id) st' γ' a' w' hr hk
   | ret=>exact hQ .ret st' γ' a' w' hr hk
 | rangeFunc f ps x c ihx ihc =>
  intro st γ a w Qs Q hoo hok h hv hQ
  simp only [vcY] at hv
  cases hs:spc f ps x c st γ with
  | none=>rw [hs] at hv;exact hv.elim
  | some g =>
   rw [hs] at hv
   exact hspc f ps x c st γ g hs Qs a w Q h hv hQ
 | exit id=>intro st γ a w Qs Q _ _ h hv hQ;exact wpIn_exit (hQ (.exit id) st γ a w h hv)
 | ret=>intro st γ a w Qs Q _ _ h hv hQ;exact wpIn_ret (hQ .ret st γ a w h hv)
 | _=>intro st γ a w Qs Q _ _ h hv hQ;exact hv.elim
end
end Go.SE

namespace Go.SE
variable [Base]
open Go.RowKit
structure Fp where
 d:Nat->Prop
 r:Nat->Prop
structure Fr (p p':Fp) (w w':World):Prop where
 os:w'.os=w.os
 tape:w'.tape=w.tape
 output:w'.output=w.output
 size:w.heap.size<=w'.heap.size
 block:∀ b,b < w.heap.size->¬ p.d b->w'.heap[b]?=w.heap[b]?
 sub:∀ b,p'.d b->p.d b ∨ w.heap.size<=b
 subr:∀ b,p'.r b->p.r b ∨ p.d b ∨ w.heap.size<=b
theorem Fr.refl (p:Fp) (w:World):Fr p p w w:=⟨rfl,rfl,rfl,Nat.le_refl _,fun _ _ _=>rfl,fun _ h=>.inl h,fun _ h=>.inl h⟩
theorem Fr.trans {p p' p'':Fp} {a b c:World} (h:Fr p p' a b) (k:Fr p' p'' b c):Fr p p'' a c :=
 ⟨k.os.trans h.os,k.tape.trans h.tape,k.output.trans h.output,Nat.le_trans h.size k.size,
  fun i hi hd=>(k.block i (Nat.lt_of_lt_of_le hi h.size) fun hd'=>by rcases h.sub i hd' with h1 | h1;exact hd h1;omega).trans (h.block i hi hd),
  fun i hd=>by
   rcases k.sub i hd with h1 | h1
   ·exact h.sub i h1
   ·exact .inr (Nat.le_trans h.size h1),
  fun i hd=>by
   rcases k.subr i hd with h1 | h1 | h1
   ·exact h.subr i h1
   ·exact (h.sub i h1).elim (fun h=>.inr (.inl h)) fun h=>.inr (.inr h)
   ·exact .inr (.inr (Nat.le_trans h.size h1))⟩
structure JJ (Γ:Type) where
 J:Γ->Fp->World->Prop
 lt:∀ {γ p w b},J γ p w->p.d b ∨ p.r b->b < w.heap.size
 frame:∀ {γ p w w'},J γ p w->w'.os=w.os->w'.tape=w.tape->w'.output=w.output->w.heap.size<=w'.heap.size->(∀ b,p.d b ∨ p.r b->w'.heap[b]?=w.heap[b]?)->J γ p w'
section
variable {Γ:Type} {E:Ty->TypeId} {n:Nat}
structure FrX (X:Nat->Prop) (p p':Fp) (w w':World):Prop where
 os:w'.os=w.os
 tape:w'.tape=w.tape
 output:w'.output=w.output
 size:w.heap.size<=w'.heap.size
 block:∀ b,b < w.heap.size->¬ p.d b->¬ X b->w'.heap[b]?=w.heap[b]?
 sub:∀ b,p'.d b->p.d b ∨ w.heap.size<=b
 subr:∀ b,p'.r b->p.r b ∨ p.d b ∨ w.heap.size<=b
theorem FrX.refl (X:Nat->Prop) (p:Fp) (w:World):FrX X p p w w:=⟨rfl,rfl,rfl,Nat.le_refl _,fun _ _ _ _=>rfl,fun _ h=>.inl h,fun _ h=>.inl h⟩
theorem FrX.fr {X:Nat->Prop} {p p':Fp} {w w':World} (h:FrX X p p' w w') (hX:∀ b,¬ X b):Fr p p' w w':=⟨h.os,h.tape,h.output,h.size,fun b h1 h2=>h.block b h1 h2 (hX b),h.sub,h.subr⟩
theorem FrX.trans {X:Nat->Prop} {p p' p'':Fp} {a b c:World} (h:FrX X p p' a b) (k:Fr p' p'' b c):FrX X p p'' a c :=
 ⟨k.os.trans h.os,k.tape.trans h.tape,k.output.trans h.output,Nat.le_trans h.size k.size,
  fun i hi hd hx=>(k.block i (Nat.lt_of_lt_of_le hi h.size) fun hd'=>by rcases h.sub i hd' with h1 | h1;exact hd h1;omega).trans (h.block i hi hd hx),
  fun i hd=>by
   rcases k.sub i hd with h1 | h1
   ·exact h.sub i h1
   ·exact .inr (Nat.le_trans h.size h1),
  fun i hd=>by
   rcases k.subr i hd with h1 | h1 | h1
   ·exact h.subr i h1
   ·exact (h.sub i h1).elim (fun h=>.inr (.inl h)) fun h=>.inr (.inr h)
   ·exact .inr (.inr (Nat.le_trans h.size h1))⟩
def AnE (J:JJ Γ) (wE:World) (X:Nat->Prop) (DE:Fp):Γ->List Deferred->World->MM->Prop:=fun γ ds w0 M =>
 ds=[]/\(∀ id,M.pin id=none/\M.pinl id=none)/\∃ D:Fp,J.J γ D w0/\(∀ b,D.d b ∨ D.r b->¬ M.can b)/\(∀ b,D.d b->M.ro b=none)/\(∀ b,M.can b->X b ∨ wE.heap.size<=b)/\FrX X DE D wE w0
theorem AnE.oo {J:JJ Γ} {wE:World} {X:Nat->Prop} {DE:Fp} {γ:Γ} {ds:List Deferred} {w0:World} {M:MM} (h:AnE J wE X DE γ ds w0 M):OOk (fun _=>none) M :=
 ⟨fun id r hr=>(by simp at hr),fun id h'=>by rw [(h.2.1 id).1,(h.2.1 id).2] at h';simp at h',fun id h'=>by simp at h'⟩
def reM (g:G) (st:St):MM:={ can:=fun b=>∃ id r,st.mem id=some r/\r.live/\blkOf (g.κ id)=some b,ro:=g.ro,rho:=g.ρ }
theorem Rel.re {w0:World} {M:MM} {st:St} {a:Act} {w w':World} {g:G} (h:Rel E w0 M n st a w) (hg:Good E w0 M g st w) (henv:∀ x,(st.env x).R g (a.tmps.getD x undef)) (hrd:st.rd=none)
  (h1:∀ b,(∃ id r,st.mem id=some r/\r.live/\blkOf (g.κ id)=some b)->w'.heap[b]?=w.heap[b]?) (h2:∀ b vs,g.ro b=some vs->w'.heap[b]?=w.heap[b]?) (h3:w.heap.size<=w'.heap.size):Rel E w' (reM g st) n st a w':=by
 refine ⟨h.cl,h.size,h.defers,g,⟨Ext.refl _ _,?_,?_,hg.sep,?_,hg.wro,?_,?_,fun b vs hb=>.inl hb,⟨rfl,Nat.le_trans hg.roin.1 h3,fun b hb=>by obtain ⟨id,r,hm,hl,hb⟩:=hb;exact .inl (hg.nb hm hl hb)⟩,fun id v hv=>?_,fun id k hk=>?_,fun b vs hb=>?_⟩,henv⟩
 ·intro b vs hb
  obtain ⟨ty,fz,h3,hq_⟩:=hg.ro b vs hb
  exact ⟨ty,fz,by rw [h2 b vs hb];exact h3,hq_⟩
 ·intro id r hr
  by_cases hl:r.live
  ·exact (hg.res id r hr).keep (fun b hb=>h1 b ⟨id,r,hr,hl,hb⟩) (fun _ _ h=>h) rfl ⟨rfl,rfl⟩ fun _ _=>⟨rfl,rfl⟩
  ·cases r <;> first | exact (hl trivial).elim | trivial
 ·intro id r hr hl b hb
  exact .inr ⟨id,r,hr,hl,hb⟩
 ·intro k hk;rw [hrd] at hk;cases hk
 ·intro hk;exact absurd hrd hk
 ·cases hv
 ·cases hk
 ·cases hb
theorem eff {J:JJ Γ} {wE:World} {X:Nat->Prop} {DE:Fp} {st:St} {γ:Γ} {a:Act} {w:World} (h:RelY E (AnE J wE X DE) n st γ a w) (hrd:st.rd=none) :
  ∃ (D:Fp) (g:G),J.J γ D w/\FrX X DE D wE w/\(∀ x,(st.env x).R g (a.tmps.getD x undef))/\(∀ b vs,g.ro b=some vs->(Seen w b vs)/\¬ D.d b) /\
   (∀ id r,st.mem id=some r->ResR E w g id r/\(r.live->∀ b,blkOf (g.κ id)=some b->¬ D.d b/\¬ D.r b)) /\
   ∀ γ' (D':Fp) w',J.J γ' D' w'->Fr D D' w w'->∀ (dst:Option Tmp) (v:Value) (s:S),(∀ d,dst=some d->d < n)->(∀ g,s.R g v)->s.refs=[] ->
    RelY E (AnE J wE X DE) n (St.put st dst s) γ' (a.put dst v) w':=by
 obtain ⟨w0,M,⟨hds,hpin,D,hJ,hD,hDro,hcan,hfr⟩,hr⟩:=h
 obtain ⟨g,hg,henv⟩:=hr.good
 have hext:=hg.ext
 have hDw:∀ b,D.d b ∨ D.r b->w.heap[b]?=w0.heap[b]?:=fun b hb=>hext.block b (J.lt hJ hb) (hD b hb)
 have hJw:J.J γ D w:=J.frame hJ hext.os hext.tape hext.output hext.size hDw
 have hlive:∀ id r,st.mem id=some r->r.live->∀ b,blkOf (g.κ id)=some b->¬ (D.d b ∨ D.r b):=fun id r hm hl b hb hd=>by
  rcases hg.fresh id r hm hl b hb with h1 | h1
  ·have:=J.lt hJ hd;omega
  ·exact hD b hd h1
 have hro:∀ b vs,g.ro b=some vs->¬ D.d b:=fun b vs hb hd=>by
  rcases hg.roo b vs hb with h1 | h1 | h1
  ·rw [hDro b hd] at h1;cases h1
  ·have:=J.lt hJ (.inl hd);omega
  ·exact hD b (.inl hd) h1
 have hfrw:FrX X DE D wE w:=by
  refine ⟨hext.os.trans hfr.os,hext.tape.trans hfr.tape,hext.output.trans hfr.output,Nat.le_trans hfr.size hext.size,fun b hb hd hx=>?_,hfr.sub,hfr.subr⟩
  rw [hext.block b (Nat.lt_of_lt_of_le hb hfr.size) fun hc=>by
   rcases hcan b hc with h1 | h1
   ·exact hx h1
   ·omega]
  exact hfr.block b hb hd hx
 refine ⟨D,g,hJw,hfrw,henv,fun b vs hb=>⟨hg.ro b vs hb,hro b vs hb⟩,fun id r hm=>⟨hg.res id r hm,fun hl b hb=>⟨fun h=>hlive id r hm hl b hb (.inl h),fun h=>hlive id r hm hl b hb (.inr h)⟩⟩,?_⟩
 intro γ' D' w' hJ' hF dst v s hd hs href
 have hlt:∀ b,(∃ id r,st.mem id=some r/\r.live/\blkOf (g.κ id)=some b)->b < w.heap.size:=fun b ⟨id,r,hm,hl,hb⟩=>(hg.res id r hm).lt hl hb
 have hlt2:∀ b vs,g.ro b=some vs->b < w.heap.size:=fun b vs hb=>by obtain ⟨_,_,h3,hq_⟩:=hg.ro b vs hb;exact lt_of_some h3
 have hre:Rel E w' (reM g st) n st (bareA a) w':=hr.re hg henv hrd (fun b hb=>hF.block b (hlt b hb) (by obtain ⟨id,r,hm,hl,hb⟩:=hb;exact fun h=>hlive id r hm hl b hb (.inl h))) (fun b vs hb=>hF.block b (hlt2 b vs hb) (hro b vs hb)) hF.size
 obtain ⟨g',hg',henv'⟩:=hre.good
 refine ⟨w',reM g st,⟨by rw [put_defers];exact hds,fun _=>⟨rfl,rfl⟩,D',hJ',fun b hb hc=>?_,fun b hb=>?_,fun b hc=>?_,?_⟩,?_⟩
 ·have h1:=hlt b hc
  obtain ⟨id,r,hm,hl,hbk⟩:=hc
  rcases hb with hb | hb
  ·rcases hF.sub b hb with h2 | h2
   ·exact hlive id r hm hl b hbk (.inl h2)
   ·omega
  ·rcases hF.subr b hb with h2 | h2 | h2
   ·exact hlive id r hm hl b hbk (.inr h2)
   ·exact hlive id r hm hl b hbk (.inl h2)
   ·omega
 ·show g.ro b=none
  cases hgb:g.ro b with
  | none=>rfl
  | some vs =>
   have h1:=hlt2 b vs hgb
   rcases hF.sub b hb with h2 | h2
   ·exact (hro b vs hgb h2).elim
   ·omega
 ·obtain ⟨id,r,hm,hl,hbk⟩:=hc
  rcases hg.fresh id r hm hl b hbk with h1 | h1
  ·exact .inr (Nat.le_trans hfr.size h1)
  ·exact hcan b h1
 ·exact hfrw.trans hF
 ·rw [bare_put]
  have hm:(St.put st dst s).mem=st.mem:=by cases dst <;> rfl
  refine ⟨⟨?_,by rw [hm];exact hre.cl.2⟩,?_,?_,g',hg'.env (by cases dst <;> rfl) (by cases dst <;> rfl) (by cases dst <;> rfl) (by cases dst <;> rfl),?_⟩
  ·intro x id hid
   rw [hm]
   cases dst with
   | none=>exact hre.cl.1 x id hid
   | some d =>
    by_cases e:x=d
    ·subst e;simp only [St.put,upd_same,href] at hid;cases hid
    ·simp only [St.put,upd_ne _ _ e] at hid;exact hre.cl.1 x id hid
  ·cases dst <;> simp [Act.put,hre.size]
  ·rw [put_defers];exact hre.defers
  ·intro x
   rw [put_get (by rw [hre.size];exact hd)]
   cases dst with
   | none=>simpa [St.put] using henv' x
   | some d =>
    by_cases e:x=d
    ·subst e;simp only [St.put,upd_same];simpa using hs g'
    ·have:¬ (some d=some x):=fun h=>e (by injection h with h;exact h.symm)
     rw [if_neg this]
     simp only [St.put,upd_ne _ _ e]
     exact henv' x
end
end Go.SE

namespace Go.SE
variable [Base]
open Go.RowKit
end Go.SE

namespace Go.SE
variable [Base]
open Go.RowKit
def cl (c:List Int) (t:Int):Int:=c.getD t.toNat 0
def stE (c:List Int) (x:GAtom):Bool:=x.kind == 1 && decide (0<=cl c x.a)
def est (c:List Int) (l:List GAtom):List Int:=(l.filter (stE c)).map fun x=>cl c x.a
end Go.SE

namespace Go.SE
variable [Base]
open Go.RowKit
def hz (a:GAsn) (q:Int->Bool):Nat->Bool:=fun k=>isT (k:Int) && (((k:Int) == 0) || (occ a k || q k))
end Go.SE

namespace Go.SE
variable [Base]
open Go.RowKit
end Go.SE

namespace Go.SE
variable [Base]
open Go.RowKit
end Go.SE
namespace Go.SE
open Go.RowKit
end Go.SE
namespace Go.SE
variable [Base]
open Go.RowKit
end Go.SE

namespace Go.SE
variable [Base]
open Go.RowKit
def ct (s:GState) (n:Int):Int:=if 1<=n/\n<=8 then s.heap.getD (n - 1).toNat 0 else -1
end Go.SE

namespace Go.SE
variable [Base]
open Go.RowKit
end Go.SE
namespace Go.SE
open Go.RowKit
end Go.SE
namespace Go.SE
variable [Base]
open Go.RowKit
end Go.SE
namespace Go.SE
open Go.RowKit
end Go.SE
namespace Go.SE
variable [Base]
open Go.RowKit
end Go.SE

namespace Go.SE
variable [Base]
end Go.SE
namespace Go.SE
structure SimL (l:List GCmd):Prop where
 pos:0 < l.length
 len:l.length<=16
 all:∀ c ∈ l,c.body=[]/\c.els=[]/\c.inv=⟨[],[]⟩
end Go.SE
namespace Go.SE
variable [Base]
theorem SimL.one {c:GCmd} (h1:c.body=[]) (h2:c.els=[]) (h3:c.inv=⟨[],[]⟩):SimL [c]:=⟨by simp,by simp,by simp [h1,h2,h3]⟩
theorem wtC_sim {c:GCmd} (h1:c.body=[]) (h2:c.els=[]) (h3:c.inv=⟨[],[]⟩):wtC c=0:=by
 rw [wtC_eq,h1,h2,h3];simp [wcL]
end Go.SE

namespace Go.SE
variable [Base]
open Go.RowKit
section
variable {P:Program}
def ptrB (P:Program) (t:TypeId):Bool :=
 match P.underlying t with
 | some (.pointer e)=>match P.info? e with
  | some i=>i.size != 0
  | none=>false
 | _=>false
def intB (P:Program) (t:TypeId):Bool :=
 match P.underlying t with
 | some (.int _)=>true
 | _=>false
def keyB (P:Program) (kt:TypeId):Bool :=
 match P.underlying kt with
 | some (.struct fs)=>(match fs.toList with
  | [a, b, c] => a.name != "_" && b.name != "_" && c.name != "_" && a.offset == 0 && b.offset == 1 && c.offset == 2 && ptrB P a.type && ptrB P b.type && intB P c.type
  | _=>false) && !P.stoodInHeld kt
 | _=>false
def mapB (P:Program) (t:TypeId):Bool :=
 match P.underlying t with
 | some (.map k e)=>keyB P k && (match P.info? e with
  | some i=>(match i.zero with
   | some (.int .i64 0)=>true
   | _=>false)
  | none=>false)
 | _=>false
theorem ptrB_eq {t:TypeId} (h:ptrB P t=true):∃ e i,P.underlying t=some (.pointer e)/\P.info? e=some i/\i.size ≠ 0:=by
 unfold ptrB at h
 split at h
 ·rename_i e he
  split at h
  ·rename_i i hi
   exact ⟨e,i,he,hi,by simpa using h⟩
  ·cases h
 ·cases h
theorem intB_eq {t:TypeId} (h:intB P t=true):∃ k,P.underlying t=some (.int k):=by
 unfold intB at h
 split at h
 ·exact ⟨_,by assumption⟩
 ·cases h
structure KeyT (P:Program) (kt:TypeId) (fs:Array Field) (a b c:Field):Prop where
 u:P.underlying kt=some (.struct fs)
 l:fs.toList=[a,b,c]
 h:P.stoodInHeld kt=false
 n0 : a.name ≠ "_"
 n1 : b.name ≠ "_"
 n2 : c.name ≠ "_"
 o0:a.offset=0
 o1:b.offset=1
 o2:c.offset=2
 p0:ptrB P a.type=true
 p1:ptrB P b.type=true
 p2:intB P c.type=true
theorem keyB_eq {kt:TypeId} (h:keyB P kt=true):∃ fs a b c,KeyT P kt fs a b c:=by
 unfold keyB at h
 split at h
 ·rename_i fs hu
  simp only [Bool.and_eq_true,Bool.not_eq_true'] at h
  obtain ⟨h1,h2⟩:=h
  split at h1
  ·rename_i a b c hl
   simp only [Bool.and_eq_true,bne_iff_ne,ne_eq,beq_iff_eq] at h1
   obtain ⟨⟨⟨⟨⟨⟨⟨⟨n0,n1⟩,n2⟩,o0⟩,o1⟩,o2⟩,p0⟩,p1⟩,p2⟩:=h1
   exact ⟨fs,a,b,c,hu,hl,h2,n0,n1,n2,o0,o1,o2,p0,p1,p2⟩
  ·cases h1
 ·cases h
def OkAQ (w:World) (a:Addr):Prop:=∃ vs ty,w.heap[a.block]?=some (.cells vs ty (0,0))
def kv (a b:Addr) (n:Int):Value:=.agg #[.pointer (some a),.pointer (some b),.int .i64 n]
theorem run_sameAddr {w:World} {a b:Addr} (ha:OkAQ w a) (hb:OkAQ w b):(sameAddr a b).run P w=.ok (a == b) w:=by
 obtain ⟨va,ta,h1⟩:=ha
 obtain ⟨vb,tb,h2⟩:=hb
 have fa:∀ o,w.frozen? ⟨a.block,o,none⟩=false:=fun o=>by simp [World.frozen?,h1]
 have fb:∀ o,w.frozen? ⟨b.block,o,none⟩=false:=fun o=>by simp [World.frozen?,h2]
 have fa':w.frozen? a=false:=by simp [World.frozen?,h1]
 have fb':w.frozen? b=false:=by simp [World.frozen?,h2]
 have sa:w.shape? a.block=some (ta,va.size):=by simp [World.shape?,h1]
 have sb:w.shape? b.block=some (tb,vb.size):=by simp [World.shape?,h2]
 by_cases e:a.block=b.block
 ·simp [sameAddr,e]
 ·have hne:(a == b)=false:=by
   rw [beq_eq_false_iff_ne]
   intro h;exact e (by rw [h])
  have e':(a.block == b.block)=false:=by simpa using e
  simp [sameAddr,e',noView,viewAt,mayBeOne,stringish,shape,Sem.run,fa,fb,fa',fb',sa,sb,hne]
theorem run_eq_ptr {w:World} {t:TypeId} (ht:ptrB P t=true) {a b:Addr} (ha:OkAQ w a) (hb:OkAQ w b) (d:Nat):(Op.equalIn (d+1) t (.pointer (some a)) (.pointer (some b))).run P w=.ok (a == b) w:=by
 obtain ⟨e,i,h1,h2,h3⟩:=ptrB_eq ht
 simp [Op.equalIn,run_underlying h1,run_sizeOf h2,h3,run_sameAddr ha hb]
theorem run_part1 {t:TypeId} {d:TypeDesc} (hu:P.underlying t=some d) (hd:aggD d=false) {vs:Array Value} {o:Nat} {v:Value} (h:vs[o]?=some v) (w:World):(part t vs o).run P w=.ok v w:=by
 simp [part,run_isAgg hu,hd,h]
theorem run_equal_key {w:World} {kt:TypeId} (hk:keyB P kt=true) {a b a' b':Addr} {n n':Int} (ha:OkAQ w a) (hb:OkAQ w b) (ha':OkAQ w a') (hb':OkAQ w b') :
  (Op.equal kt (kv a b n) (kv a' b' n')).run P w=.ok (a == a' && (b == b' && n == n')) w:=by
 obtain ⟨fs,f0,f1,f2,K⟩:=keyB_eq hk
 obtain ⟨e0,i0,u0,_⟩:=ptrB_eq K.p0
 obtain ⟨e1,i1,u1,_⟩:=ptrB_eq K.p1
 obtain ⟨k2,u2⟩:=intB_eq K.p2
 have hfo:P.fieldsOf kt=fs:=by simp [Program.fieldsOf,K.u]
 have h:=run_equalIn_struct (P:=P) w 9999 kt #[.pointer (some a),.pointer (some b),.int .i64 n] #[.pointer (some a'),.pointer (some b'),.int .i64 n'] (by rw [hfo];exact K.u) K.h
 rw [hfo,K.l] at h
 have h':(Op.equal kt (kv a b n) (kv a' b' n')).run P w=_:=h
 rw [h']
 have r0:=run_eq_ptr (P:=P) K.p0 ha ha' 9998
 have r1:=run_eq_ptr (P:=P) K.p1 hb hb' 9998
 have r2:=run_equalIn_int (P:=P) w 9998 f2.type .i64 k2 n n' u2
 have P0:∀ x y z:Value,(part f0.type #[x,y,z] 0).run P w=.ok x w:=fun x y z=>run_part1 u0 rfl rfl w
 have P1:∀ x y z:Value,(part f1.type #[x,y,z] 1).run P w=.ok y w:=fun x y z=>run_part1 u1 rfl rfl w
 have P2:∀ x y z:Value,(part f2.type #[x,y,z] 2).run P w=.ok z w:=fun x y z=>run_part1 u2 rfl rfl w
 simp only [Op.eqFields,K.n0,K.n1,K.n2,ne_eq,not_false_eq_true,if_true,K.o0,K.o1,K.o2,Sem.run_bind,P0,P1,P2,Result.andThen_ok,r0]
 cases (a == a')
 ·rfl
 simp only [Bool.not_true,Bool.false_eq_true,if_false,Sem.run_bind,P1,Result.andThen_ok,r1]
 cases (b == b')
 ·rfl
 simp only [Bool.not_true,Bool.false_eq_true,if_false,Sem.run_bind,P2,Result.andThen_ok,r2]
 cases (n == n') <;> rfl
def EntOk (w:World) (e:MapEntry):Prop:=∃ a b n,e.key=kv a b n/\OkAQ w a/\OkAQ w b
theorem run_findAsking {w:World} {kt:TypeId} (hk:keyB P kt=true) {a b:Addr} {n:Int} (ha:OkAQ w a) (hb:OkAQ w b):∀ (es:List MapEntry) (i:Nat),(∀ e ∈ es,EntOk w e) ->
  ∃ r,(Instr.findAsking kt (kv a b n) es i).run P w=.ok r w/\∀ j v,r=some (j,v)->i<=j/\∃ e,es[j - i]?=some e/\e.key=kv a b n/\e.val=v:=by
 intro es
 induction es with
 | nil=>intro i _;exact ⟨none,by simp [Instr.findAsking],fun _ _ h=>by cases h⟩
 | cons e es ih =>
  intro i hes
  obtain ⟨a',b',n',hkey,ha',hb'⟩:=hes e (by simp)
  have h1:=run_equal_key (P:=P) (n:=n) (n':=n') hk ha hb ha' hb'
  rw [← hkey] at h1
  by_cases hc:(a == a' && (b == b' && n == n'))=true
  ·refine ⟨some (i,e.val),by simp [Instr.findAsking,h1,hc],fun j v h=>?_⟩
   injection h with h;injection h with h2 h3
   subst h2 h3
   refine ⟨Nat.le_refl _,e,by simp,?_,rfl⟩
   simp only [Bool.and_eq_true,beq_iff_eq] at hc
   rw [hkey,hc.1,hc.2.1,hc.2.2]
  ·have hc':(a == a' && (b == b' && n == n'))=false:=by simpa using hc
   obtain ⟨r,h2,h3⟩:=ih (i+1) fun e' he=>hes e' (by simp [he])
   refine ⟨r,by simp only [Instr.findAsking,Sem.run_bind,h1,hc',Result.andThen_ok];exact h2,fun j v h=>?_⟩
   obtain ⟨h4,e',h5,h6⟩:=h3 j v h
   refine ⟨by omega,e',?_,h6⟩
   rw [show j - i=(j - (i+1))+1 from by omega]
   simpa using h5
theorem run_findKey_key {w:World} {kt:TypeId} (hk:keyB P kt=true) {a b:Addr} {n:Int} (ha:OkAQ w a) (hb:OkAQ w b) (es:List MapEntry) (hes:∀ e ∈ es,EntOk w e) :
  ∃ r,(Instr.findKey kt (kv a b n) es).run P w=.ok r w/\∀ j v,r=some (j,v)->∃ e,es[j]?=some e/\e.key=kv a b n/\e.val=v:=by
 obtain ⟨fs,f0,f1,f2,K⟩:=keyB_eq hk
 cases es with
 | nil=>exact ⟨none,by simp [Instr.findKey,run_underlying K.u,Instr.findNow],fun _ _ h=>by cases h⟩
 | cons e es =>
  obtain ⟨r,h1,h2⟩:=run_findAsking (P:=P) (n:=n) hk ha hb (e :: es) 0 hes
  refine ⟨r,?_,fun j v h=>?_⟩
  ·have:Instr.findNow (.struct fs) (kv a b n) (e :: es) 0=none:=by
    simp [Instr.findNow,Instr.sameNow]
   simp only [Instr.findKey,Sem.run_bind,run_underlying K.u,Result.andThen_ok,this]
   exact h1
  ·obtain ⟨_,e',h3,h4⟩:=h2 j v h
   exact ⟨e',by simpa using h3,h4⟩
theorem ck_leaf {w:World} {t:TypeId} (em:Bool) (m:Nat) (v:Value) (ht:ptrB P t=true ∨ intB P t=true):(Instr.checkKey em (m+1) t v).run P w=.ok () w:=by
 rcases ht with ht | ht
 ·obtain ⟨e,i,u,_⟩:=ptrB_eq ht
  simp [Instr.checkKey,run_underlying u]
 ·obtain ⟨k,u⟩:=intB_eq ht
  simp [Instr.checkKey,run_underlying u]
theorem ck_key {w:World} {kt:TypeId} (hk:keyB P kt=true) {a b:Addr} {n:Int} (em:Bool) (m:Nat):(Instr.checkKey em (m+1+1) kt (kv a b n)).run P w=.ok () w:=by
 obtain ⟨fs,f0,f1,f2,K⟩:=keyB_eq hk
 obtain ⟨e0,i0,u0,_⟩:=ptrB_eq K.p0
 obtain ⟨e1,i1,u1,_⟩:=ptrB_eq K.p1
 obtain ⟨k2,u2⟩:=intB_eq K.p2
 have c0:=fun v=>ck_leaf (P:=P) (w:=w) em m v (.inl K.p0)
 have c1:=fun v=>ck_leaf (P:=P) (w:=w) em m v (.inl K.p1)
 have c2:=fun v=>ck_leaf (P:=P) (w:=w) em m v (.inr K.p2)
 have P0:∀ x y z:Value,(part f0.type #[x,y,z] 0).run P w=.ok x w:=fun x y z=>run_part1 u0 rfl rfl w
 have P1:∀ x y z:Value,(part f1.type #[x,y,z] 1).run P w=.ok y w:=fun x y z=>run_part1 u1 rfl rfl w
 have P2:∀ x y z:Value,(part f2.type #[x,y,z] 2).run P w=.ok z w:=fun x y z=>run_part1 u2 rfl rfl w
 rw [kv,Instr.checkKey]
 simp only [Sem.run_bind,run_underlying K.u,Result.andThen_ok]
 rw [← Array.forIn_toList,K.l]
 simp [K.n0,K.n1,K.n2,K.o0,K.o1,K.o2,P0,P1,P2,c0,c1,c2]
theorem run_checkKey_key {w:World} {kt:TypeId} (hk:keyB P kt=true) {a b:Addr} {n:Int} (em:Bool):(Instr.checkKey em 10000 kt (kv a b n)).run P w=.ok () w:=ck_key hk em 9998
theorem run_lookup_key {w:World} {t:TypeId} (ht:mapB P t=true) {mb:Nat} {es:Array MapEntry} {ck:Nat} (hm:w.heap[mb]?=some (.map es ck)) {a b:Addr} {n:Int} (ha:OkAQ w a) (hb:OkAQ w b) (hes:∀ e ∈ es.toList,EntOk w e) :
  ∃ v,(Instr.lookup t (.map (some mb)) (kv a b n) false).run P w=.ok v w/\(v=.int .i64 0 ∨ ∃ e ∈ es.toList,e.key=kv a b n/\e.val=v):=by
 unfold mapB at ht
 split at ht
 ·rename_i k e hu
  simp only [Bool.and_eq_true] at ht
  obtain ⟨hk,hz⟩:=ht
  split at hz
  ·rename_i i hi
   split at hz
   ·rename_i hz0
    obtain ⟨r,h1,h2⟩:=run_findKey_key (P:=P) (n:=n) hk ha hb es.toList hes
    have hg:(getObj mb).run P w=.ok (.map es ck) w:=by simp [getObj,Sem.run,hm]
    cases r with
    | none =>
     refine ⟨.int .i64 0,?_,.inl rfl⟩
     simp [Instr.lookup,run_underlying hu,hg,run_checkKey_key hk,h1,run_zeroValue hi hz0]
    | some q =>
     obtain ⟨j,v⟩:=q
     obtain ⟨e',h3,h4,h5⟩:=h2 j v rfl
     refine ⟨v,?_,.inr ⟨e',List.mem_of_getElem? h3,h4,h5⟩⟩
     simp [Instr.lookup,run_underlying hu,hg,run_checkKey_key hk,h1]
   ·cases hz
  ·cases hz
 ·cases ht
theorem run_mapUpdate_key {w:World} {t:TypeId} (ht:mapB P t=true) {mb:Nat} {es:Array MapEntry} {ck:Nat} (hm:w.heap[mb]?=some (.map es ck)) {a b:Addr} {n:Int} (ha:OkAQ w a) (hb:OkAQ w b) (hes:∀ e ∈ es.toList,EntOk w e) (v:Value) :
  ∃ es' ck',(Instr.mapUpdate t (.map (some mb)) (kv a b n) v).run P w=.ok () (w.putObj mb (.map es' ck'))/\∀ e ∈ es'.toList,(e.key=kv a b n/\e.val=v) ∨ e ∈ es.toList:=by
 unfold mapB at ht
 split at ht
 ·rename_i k e hu
  simp only [Bool.and_eq_true] at ht
  obtain ⟨hk,-⟩:=ht
  obtain ⟨r,h1,h2⟩:=run_findKey_key (P:=P) (n:=n) hk ha hb es.toList hes
  have hg:(getObj mb).run P w=.ok (.map es ck) w:=by simp [getObj,Sem.run,hm]
  have hs:∀ o,(setObj mb o).run P w=.ok () (w.putObj mb o):=fun o=>by simp [setObj,Sem.run,hm,World.putObj]
  cases r with
  | none =>
   refine ⟨es.push { key:=kv a b n,val:=v,born:=ck },ck+1,?_,fun e he=>?_⟩
   ·simp [Instr.mapUpdate,run_underlying hu,hg,run_checkKey_key hk,h1,hs]
   ·simp at he
    rcases he with he | he
    ·exact .inr (by simpa using he)
    ·subst he;exact .inl ⟨rfl,rfl⟩
  | some q =>
   obtain ⟨j,v0⟩:=q
   obtain ⟨e',h3,h4,h5⟩:=h2 j v0 rfl
   have h3':es[j]?=some e':=by simpa using h3
   have hst:(Instr.keyThatStays (((es[j]?).map (·.key)).getD (kv a b n)) (kv a b n)).run P w=.ok (kv a b n) w:=by
    have:(((es[j]?).map (·.key)).getD (kv a b n))=kv a b n:=by rw [h3'];simpa using h4
    rw [this]
    simp [Instr.keyThatStays,kv,Instr.sameBits]
   refine ⟨es.modify j fun e=>{ e with key:=kv a b n,val:=v },ck,?_,fun e he=>?_⟩
   ·simp only [Instr.mapUpdate,Sem.run_bind,run_underlying hu,hg,run_checkKey_key hk,h1,hst,Result.andThen_ok,hs]
   ·obtain ⟨i,hi⟩:=List.getElem?_of_mem he
    simp only [Array.getElem?_toList,Array.getElem?_modify] at hi
    split at hi
    ·simp only [Option.map_eq_some_iff] at hi
     obtain ⟨e0,_,rfl⟩:=hi
     exact .inl ⟨rfl,rfl⟩
    ·exact .inr (List.mem_of_getElem? (by simpa using hi))
 ·cases ht
end
end Go.SE

namespace Go.SE
open Go.RowKit
theorem getD_ext {α:Type} {xs ys:List α} (z:α) (hl:xs.length=ys.length) (h:∀ i,i < xs.length->xs.getD i z=ys.getD i z):xs=ys:=by
 apply List.ext_getElem hl
 intro i h1 h2
 have:=h i h1
 simpa [List.getD_eq_getElem?_getD,h1,h2] using this
variable [Base]
theorem DR.val_eq {ro:Nat->Option (Array Value)} {x v:Value} (h:DR ro (.val x) v):v=x:=by
 generalize hc:DC.val x=c at h
 cases h with
 | val x' h=>injection hc with hc;exact hc.symm
 | nil=>cases hc
 | emp=>cases hc
 | arr=>cases hc
 | fix=>cases hc
 | ne=>cases hc
theorem DR.fix_inv {ro:Nat->Option (Array Value)} {t:Ty} {xs:List t.den} {u v:Value} (h:DR ro (.fix t xs u) v):v=u/\DR ro (.arr t xs) v:=by
 generalize hc:DC.fix t xs u=c at h
 cases h with
 | val=>cases hc
 | nil=>cases hc
 | emp=>cases hc
 | arr=>cases hc
 | ne=>cases hc
 | fix t' xs' v' h' =>
  injection hc with h1 h2 h3
  subst h1
  cases h2
  exact ⟨h3.symm,h'⟩
theorem row_val {ro:Nat->Option (Array Value)} {ds es:List DC} {vs:Array Value} {o k:Nat} {x y:Value} (h:RowR ro ds vs o) (h':RowR ro es vs o) (hx:ds[k]?=some (.val x)) (hy:es[k]?=some (.val y)):x=y:=by
 obtain ⟨u,h1,h2⟩:=h k _ hx
 obtain ⟨u',h3,h4⟩:=h' k _ hy
 rw [h1] at h3
 injection h3 with h3
 rw [← h2.val_eq,← h4.val_eq,h3]
theorem DR.same_place {ro:Nat->Option (Array Value)} {t:Ty} {xs ys:List t.den} {v:Value} (h:DR ro (.arr t xs) v) (h':DR ro (.arr t ys) v) :
  (xs=[]/\ys=[]) ∨ ∃ vs o,xs.length=ys.length/\RowR ro (flat t xs) vs o/\RowR ro (flat t ys) vs o:=by
 rcases h.arr_inv with ⟨⟨a,h1⟩,h2⟩ | ⟨b,o,cap,vs,h1,h2,h3,h4,h5,_⟩
 ·rcases h'.arr_inv with ⟨_,h4⟩ | ⟨b',o',cap',vs',k1,_⟩
  ·exact .inl ⟨h2,h4⟩
  ·rw [h1] at k1
   injection k1 with k1 k2 k3
   exact .inl ⟨h2,List.eq_nil_of_length_eq_zero k2.symm⟩
 ·rcases h'.arr_inv with ⟨⟨a,k1⟩,k2⟩ | ⟨b',o',cap',vs',k1,k2,k3,k4,k5,_⟩
  ·rw [h1] at k1
   injection k1 with k1 k3
   exact .inl ⟨List.eq_nil_of_length_eq_zero k3,k2⟩
  ·rw [h1] at k1
   injection k1 with k1 k6 k7
   injection k1 with k1
   injection k1 with k8 k9
   subst k8 k9
   rw [h2] at k2
   injection k2 with k2
   subst k2
   exact .inr ⟨vs,o,k6,h5,k5⟩
theorem DR.fact_uniq {ro:Nat->Option (Array Value)} {xs ys:List GFact} {v:Value} (h:DR ro (.arr .fact xs) v) (h':DR ro (.arr .fact ys) v):xs=ys:=by
 rcases h.same_place h' with ⟨h1,h2⟩ | ⟨vs,o,hl,h1,h2⟩
 ·rw [h1,h2]
 ·refine getD_ext (Ty.zero .fact) hl fun i hi=>?_
  have e:∀ j,j < 3->(flat .fact xs)[i * 3+j]?=(Ty.cells .fact (xs.getD i (Ty.zero .fact)))[j]?:=fun j hj=>flat_get .fact xs i j hi hj
  have e':∀ j,j < 3->(flat .fact ys)[i * 3+j]?=(Ty.cells .fact (ys.getD i (Ty.zero .fact)))[j]?:=fun j hj=>flat_get .fact ys i j (by omega) hj
  have v0:=row_val h1 h2 ((e 0 (by omega)).trans rfl) ((e' 0 (by omega)).trans rfl)
  have v1:=row_val h1 h2 ((e 1 (by omega)).trans rfl) ((e' 1 (by omega)).trans rfl)
  have v2:=row_val h1 h2 ((e 2 (by omega)).trans rfl) ((e' 2 (by omega)).trans rfl)
  generalize xs.getD i (Ty.zero .fact)=x at v0 v1 v2
  generalize ys.getD i (Ty.zero .fact)=y at v0 v1 v2
  obtain ⟨a,b,c⟩:=x
  obtain ⟨a',b',c'⟩:=y
  simp at v0 v1 v2
  rw [v0,v1,v2]
theorem DR.atom_uniq {ro:Nat->Option (Array Value)} {xs ys:List GAtom} {v:Value} (h:DR ro (.arr .atom xs) v) (h':DR ro (.arr .atom ys) v):xs=ys:=by
 rcases h.same_place h' with ⟨h1,h2⟩ | ⟨vs,o,hl,h1,h2⟩
 ·rw [h1,h2]
 ·refine getD_ext (Ty.zero .atom) hl fun i hi=>?_
  have e:∀ j,j < 3->(flat .atom xs)[i * 3+j]?=(Ty.cells .atom (xs.getD i (Ty.zero .atom)))[j]?:=fun j hj=>flat_get .atom xs i j hi hj
  have e':∀ j,j < 3->(flat .atom ys)[i * 3+j]?=(Ty.cells .atom (ys.getD i (Ty.zero .atom)))[j]?:=fun j hj=>flat_get .atom ys i j (by omega) hj
  have v0:=row_val h1 h2 ((e 0 (by omega)).trans rfl) ((e' 0 (by omega)).trans rfl)
  have v1:=row_val h1 h2 ((e 1 (by omega)).trans rfl) ((e' 1 (by omega)).trans rfl)
  have v2:=row_val h1 h2 ((e 2 (by omega)).trans rfl) ((e' 2 (by omega)).trans rfl)
  generalize xs.getD i (Ty.zero .atom)=x at v0 v1 v2
  generalize ys.getD i (Ty.zero .atom)=y at v0 v1 v2
  obtain ⟨a,b,c⟩:=x
  obtain ⟨a',b',c'⟩:=y
  simp at v0 v1 v2
  rw [v0,v1,v2]
theorem xsize {xs:List XCmd} {i:Nat} (hi:i < xs.length):SizeOf.sizeOf (xs.getD i (Ty.zero .xcmd)).body < SizeOf.sizeOf xs/\SizeOf.sizeOf (xs.getD i (Ty.zero .xcmd)).els < SizeOf.sizeOf xs:=by
 have e:xs.getD i (Ty.zero .xcmd)=xs[i]:=by simp [List.getD_eq_getElem?_getD,hi]
 have h1:SizeOf.sizeOf xs[i] < SizeOf.sizeOf xs:=List.sizeOf_lt_of_mem (List.getElem_mem hi)
 rw [e]
 generalize xs[i]=c at h1
 obtain ⟨k,a,b,t,inv,bv,bo,lv,el⟩:=c
 simp only [XCmd.mk.sizeOf_spec] at h1
 simp only [XCmd.body,XCmd.els]
 omega
theorem DR.xuniq {ro:Nat->Option (Array Value)}:∀ (n:Nat) (xs ys:List XCmd) (v:Value),SizeOf.sizeOf xs<=n->DR ro (.arr .xcmd xs) v->DR ro (.arr .xcmd ys) v->xs=ys:=by
 intro n
 induction n with
 | zero=>intro xs ys v hn;cases xs <;> simp at hn <;> omega
 | succ n ih =>
  intro xs ys v hn h h'
  rcases h.same_place h' with ⟨h1,h2⟩ | ⟨vs,o,hl,h1,h2⟩
  ·rw [h1,h2]
  ·refine getD_ext (Ty.zero .xcmd) hl fun i hi=>?_
   have e:∀ j,j < 10->(flat .xcmd xs)[i * 10+j]?=(Ty.cells .xcmd (xs.getD i (Ty.zero .xcmd)))[j]?:=fun j hj=>flat_get .xcmd xs i j hi hj
   have e':∀ j,j < 10->(flat .xcmd ys)[i * 10+j]?=(Ty.cells .xcmd (ys.getD i (Ty.zero .xcmd)))[j]?:=fun j hj=>flat_get .xcmd ys i j (by omega) hj
   have s1:=xsize hi
   have v0:=row_val h1 h2 ((e 0 (by omega)).trans rfl) ((e' 0 (by omega)).trans rfl)
   have v1:=row_val h1 h2 ((e 1 (by omega)).trans rfl) ((e' 1 (by omega)).trans rfl)
   have v2:=row_val h1 h2 ((e 2 (by omega)).trans rfl) ((e' 2 (by omega)).trans rfl)
   have v3:=row_val h1 h2 ((e 3 (by omega)).trans rfl) ((e' 3 (by omega)).trans rfl)
   have v4:=row_val h1 h2 ((e 4 (by omega)).trans rfl) ((e' 4 (by omega)).trans rfl)
   have v5:=row_val h1 h2 ((e 5 (by omega)).trans rfl) ((e' 5 (by omega)).trans rfl)
   obtain ⟨u6,a6,d6⟩:=h1 _ _ ((e 6 (by omega)).trans rfl)
   obtain ⟨w6,b6,c6⟩:=h2 _ _ ((e' 6 (by omega)).trans rfl)
   rw [a6] at b6;injection b6 with b6;subst b6
   obtain ⟨u7,a7,d7⟩:=h1 _ _ ((e 7 (by omega)).trans rfl)
   obtain ⟨w7,b7,c7⟩:=h2 _ _ ((e' 7 (by omega)).trans rfl)
   rw [a7] at b7;injection b7 with b7;subst b7
   obtain ⟨u8,a8,d8⟩:=h1 _ _ ((e 8 (by omega)).trans rfl)
   obtain ⟨w8,b8,c8⟩:=h2 _ _ ((e' 8 (by omega)).trans rfl)
   rw [a8] at b8;injection b8 with b8;subst b8
   obtain ⟨u9,a9,d9⟩:=h1 _ _ ((e 9 (by omega)).trans rfl)
   obtain ⟨w9,b9,c9⟩:=h2 _ _ ((e' 9 (by omega)).trans rfl)
   rw [a9] at b9;injection b9 with b9;subst b9
   have e6:=d6.fact_uniq c6
   have e7:=d7.atom_uniq c7
   obtain ⟨p8,q8⟩:=d8.fix_inv
   obtain ⟨p8',q8'⟩:=c8.fix_inv
   obtain ⟨p9,q9⟩:=d9.fix_inv
   obtain ⟨p9',q9'⟩:=c9.fix_inv
   have e8:=ih _ _ _ (by omega) q8 q8'
   have e9:=ih _ _ _ (by omega) q9 q9'
   have p8:=p8.symm.trans p8'
   have p9:=p9.symm.trans p9'
   generalize xs.getD i (Ty.zero .xcmd)=x at v0 v1 v2 v3 v4 v5 e6 e7 e8 e9 p8 p9
   generalize ys.getD i (Ty.zero .xcmd)=y at v0 v1 v2 v3 v4 v5 e6 e7 e8 e9 p8 p9
   obtain ⟨k,a,b,⟨t0,t1,t2⟩,⟨i0,i1⟩,bv,bo,lv,el⟩:=x
   obtain ⟨k',a',b',⟨t0',t1',t2'⟩,⟨i0',i1'⟩,bv',bo',lv',el'⟩:=y
   simp [XCmd.kind,XCmd.a,XCmd.b,XCmd.test,XCmd.inv,XCmd.bv,XCmd.body,XCmd.lv,XCmd.els] at v0 v1 v2 v3 v4 v5 e6 e7 e8 e9 p8 p9
   rw [v0,v1,v2,v3,v4,v5,e6,e7,e8,e9,p8,p9]
theorem DR.xplace {ro:Nat->Option (Array Value)} {xs:List XCmd} {v:Value} (h:DR ro (.arr .xcmd xs) v) (h0:0 < xs.length) :
  ∃ b o cap vs,v=.slice (some ⟨b,o,none⟩) xs.length cap/\ptrAt v 0=.pointer (some ⟨b,o,none⟩)/\ro b=some vs/\Base.n0<=b/\xs.length<=cap/\cap<=maxLen/\RowR ro (flat .xcmd xs) vs o:=by
 rcases h.arr_inv with ⟨_,h2⟩ | ⟨b,o,cap,vs,h1,h2,h3,h4,h5,h6⟩
 ·subst h2;simp at h0
 ·exact ⟨b,o,cap,vs,h1,by rw [h1];simp [ptrAt],h2,(h6 rfl).1,h3,h4,h5⟩
theorem DR.xptr {ro:Nat->Option (Array Value)} {xs ys:List XCmd} {v v':Value} (h:DR ro (.arr .xcmd xs) v) (h':DR ro (.arr .xcmd ys) v') (h0:0 < xs.length) (hl:xs.length=ys.length) (hp:ptrAt v 0=ptrAt v' 0):xs=ys:=by
 obtain ⟨b,o,cap,vs,h1,h2,h3,h4,h5,h6,h7⟩:=h.xplace h0
 obtain ⟨b',o',cap',vs',k1,k2,k3,k4,k5,k6,k7⟩:=h'.xplace (by omega)
 rw [h2,k2] at hp
 injection hp with hp
 injection hp with hp
 injection hp with hp hp'
 subst hp hp'
 rw [h3] at k3
 injection k3 with k3
 subst k3
 have:=DR.of_row (t:=.xcmd) (cap:=cap) h3 (fun _=>⟨h4,fun h=>by cases h⟩) (by rw [← hl];exact h5) h6 k7
 rw [← hl] at this
 rw [h1] at h
 exact DR.xuniq _ _ _ _ (Nat.le_refl _) h this
end Go.SE

namespace Go.SE
variable [Base]
open Go.RowKit
abbrev XP:=(List XCmd × Value) × (List XCmd × Value)
abbrev MG:=Option (Nat × List XP)
def keyOf (p:XP):Value:=.agg #[ptrAt p.1.2 0,ptrAt p.2.2 0,.int .i64 p.1.1.length]
structure PairD (ro:Nat->Option (Array Value)) (p:XP):Prop where
 a:DR ro (.arr .xcmd p.1.1) p.1.2
 b:DR ro (.arr .xcmd p.2.1) p.2.2
 n:0 < p.1.1.length
 l:p.1.1.length=p.2.1.length
structure AMap (wE w0:World) (M:MM) (mb:Nat) (S:List XP):Prop where
 ge:wE.heap.size<=mb
 no:¬ M.can mb
 ps:∀ q ∈ S,PairD M.rok q
 hp:∃ es ck,w0.heap[mb]?=some (.map es ck)/\∀ e ∈ es.toList,e.val=.int .i64 1/\∃ q ∈ S,e.key=keyOf q
def AMm (wE w0:World) (M:MM):MG->Prop
 | none=>True
 | some (mb,S)=>AMap wE w0 M mb S
def AM (wE:World) (ro0:Nat->Option (Array Value)) (ρ:Nat):MG->List Deferred->World->MM->Prop:=fun γ ds w0 M =>
 ds=[]/\(∀ id,M.pin id=none/\M.pinl id=none)/\Ext (fun _=>False) wE w0/\(∀ b,M.can b->wE.heap.size<=b)/\(∀ b vs,M.ro b=some vs->ro0 b=some vs ∨ wE.heap.size<=b)/\M.rho=ρ/\AMm wE w0 M γ
section
variable {P:Program} {E:Ty->TypeId} {n:Nat} {wE w w0 w':World} {ro0:Nat->Option (Array Value)} {ρ:Nat} {γ γ':MG} {ds:List Deferred} {M:MM} {g:G} {st:St} {a:Act}
theorem AM.oo (h:AM wE ro0 ρ γ ds w0 M):OOk (fun _=>none) M :=
 ⟨fun id r hr=>(by simp at hr),fun id h'=>by rw [(h.2.1 id).1,(h.2.1 id).2] at h';simp at h',fun id h'=>by simp at h'⟩
theorem AM.ext (h:AM wE ro0 ρ γ ds w0 M) (hg:Good E w0 M g st w):Ext (fun _=>False) wE w:=by
 obtain ⟨_,_,he,hcan,_⟩:=h
 refine ⟨hg.ext.os.trans he.os,hg.ext.tape.trans he.tape,hg.ext.output.trans he.output,Nat.le_trans he.size hg.ext.size,fun b hb _=>?_⟩
 rw [hg.ext.block b (Nat.lt_of_lt_of_le hb he.size) fun hc=>by have:=hcan b hc;omega]
 exact he.block b hb fun h=>h
theorem AM.good (h:AM wE ro0 ρ γ ds w0 M) (hg:Good E w0 M g st w) (hrd:st.rd=none) (hE:Base.n0<=wE.heap.size):Good E wE (MOf false ρ ro0) g st w:=by
 have hx:=h.ext hg
 obtain ⟨_,_,he,hcan,hro,hrho,_⟩:=h
 refine ⟨⟨hx.os,hx.tape,hx.output,hx.size,fun b hb _=>hx.block b hb fun h=>h⟩,hg.ro,hg.res,hg.sep,fun id r hm hl b hb=>?_,hg.wro,?_,?_,fun b vs hb=>?_,⟨hg.rho.1.trans hrho,hE,fun b hb=>by cases hb.1⟩,fun _ _ h=>(by cases h),fun _ _ h=>(by cases h),fun _ _ h=>(by cases h)⟩
 ·rcases hg.fresh id r hm hl b hb with h1 | h1
  ·exact .inl (Nat.le_trans he.size h1)
  ·exact .inl (hcan b h1)
 ·intro k hk;rw [hrd] at hk;cases hk
 ·intro hk;exact absurd hrd hk
 ·rcases hg.roo b vs hb with h1 | h1 | h1
  ·rcases hro b vs h1 with h2 | h2
   ·exact .inl h2
   ·exact .inr (.inl h2)
  ·exact .inr (.inl (Nat.le_trans he.size h1))
  ·exact .inr (.inl (hcan b h1))
def reK (g:G) (st:St):MM:={ can:=fun b=>∃ id r,st.mem id=some r/\r.live/\blkOf (g.κ id)=some b,ro:=g.ro,rho:=g.ρ,rok:=g.ro }
theorem Good.reK {w0:World} {M:MM} (hg:Good E w0 M g st w) (hrd:st.rd=none) (h1:∀ b,(∃ id r,st.mem id=some r/\r.live/\blkOf (g.κ id)=some b)->w'.heap[b]?=w.heap[b]?)
  (h2:∀ b vs,g.ro b=some vs->w'.heap[b]?=w.heap[b]?) (h3:w.heap.size<=w'.heap.size):Good E w' (reK g st) g st w':=by
 refine ⟨Ext.refl _ _,?_,?_,hg.sep,?_,hg.wro,?_,?_,fun b vs hb=>.inl hb,⟨rfl,Nat.le_trans hg.roin.1 h3,fun b hb=>by obtain ⟨id,r,hm,hl,hb⟩:=hb;exact .inl (hg.nb hm hl hb)⟩,fun id v hv=>?_,fun id k hk=>?_,fun b vs hb=>hb⟩
 ·intro b vs hb
  exact (hg.ro b vs hb).keep fun _=>h2 b vs hb
 ·intro id r hr
  by_cases hl:r.live
  ·exact (hg.res id r hr).keep (fun b hb=>h1 b ⟨id,r,hr,hl,hb⟩) (fun _ _ h=>h) rfl ⟨rfl,rfl⟩ fun _ _=>⟨rfl,rfl⟩
  ·cases r <;> first | exact (hl trivial).elim | trivial
 ·intro id r hr hl b hb
  exact .inr ⟨id,r,hr,hl,hb⟩
 ·intro k hk;rw [hrd] at hk;cases hk
 ·intro hk;exact absurd hrd hk
 ·cases hv
 ·cases hk
theorem ResR.cells {r:Res} {id:Nat} (h:ResR E w g id r) (hl:r.live) {b:Nat} (hb:blkOf (g.κ id)=some b):∃ vs ty,w.heap[b]?=some (.cells vs ty (0,0)):=by
 cases r with
 | blk cs =>
  obtain ⟨b',vs,ty,h1,h2,_⟩:=h
  rw [h1] at hb;simp [blkOf] at hb;subst hb;exact ⟨_,_,h2⟩
 | vec t xs =>
  obtain ⟨_,b',vs,ty,h1,h2,_⟩:=h
  rw [h1] at hb;simp [blkOf] at hb;subst hb;exact ⟨_,_,h2⟩
 | sl f t xs =>
  obtain ⟨_,h⟩:=h
  rcases h with ⟨h1,_⟩ | ⟨b',_,vs,h1,h2,_⟩
  ·rw [h1] at hb;simp [blkOf] at hb
  ·rw [h1] at hb;simp [blkOf] at hb;subst hb;exact ⟨_,_,h2⟩
 | dead=>exact hl.elim
theorem AMap.now {mb:Nat} {S:List XP} (h:AMap wE w0 M mb S) (hg:Good E w0 M g st w):∃ es ck,w.heap[mb]?=some (.map es ck)/\(∀ e ∈ es.toList,e.val=.int .i64 1/\∃ q ∈ S,e.key=keyOf q)/\∀ q ∈ S,PairD g.ro q:=by
 obtain ⟨es,ck,h1,h2⟩:=h.hp
 refine ⟨es,ck,?_,h2,fun q hq=>?_⟩
 ·rw [hg.ext.block mb (lt_of_some h1) h.no];exact h1
 ·have:=h.ps q hq
  exact ⟨this.a.mono hg.keep.2,this.b.mono hg.keep.2,this.n,this.l⟩
theorem AM.re (h:AM wE ro0 ρ γ a.defers w0 M) (hr:Rel E w0 M n st (bareA a) w) (hg:Good E w0 M g st w) (henv:∀ x,(st.env x).R g (a.tmps.getD x undef)) (hrd:st.rd=none)
  (hos:w'.os=w.os) (htape:w'.tape=w.tape) (hout:w'.output=w.output) (hsz:w.heap.size<=w'.heap.size)
  (hb:∀ b,b < w.heap.size->(∀ es ck,w.heap[b]? ≠ some (.map es ck))->w'.heap[b]?=w.heap[b]?) (hold:∀ b,b < wE.heap.size->w'.heap[b]?=w.heap[b]?)
  (hm:AMm wE w' (reK g st) γ') {dst:Option Tmp} {v:Value} {s:S} (hd:∀ d,dst=some d->d < n) (hs:s.R g v) (href:s.refs=[]):RelY E (AM wE ro0 ρ) n (St.put st dst s) γ' (a.put dst v) w':=by
 have hx:=h.ext hg
 obtain ⟨hds,hpin,he,hcan,hro,hrho,_⟩:=h
 have hlive:∀ b,(∃ id r,st.mem id=some r/\r.live/\blkOf (g.κ id)=some b)->w'.heap[b]?=w.heap[b]?:=fun b ⟨id,r,hm,hl,hbk⟩=>by
  obtain ⟨vs,ty,h1⟩:=(hg.res id r hm).cells hl hbk
  exact hb b (lt_of_some h1) fun es ck=>by rw [h1];simp
 have hrow:∀ b vs,g.ro b=some vs->w'.heap[b]?=w.heap[b]?:=fun b vs hbv=>by
  obtain ⟨ty,fz,h1,_⟩:=hg.ro b vs hbv
  exact hb b (lt_of_some h1) fun es ck=>by rw [h1];simp
 have hg':=hg.reK (w':=w') hrd hlive hrow hsz
 refine ⟨w',SE.reK g st,⟨by rw [put_defers];exact hds,fun _=>⟨rfl,rfl⟩,⟨hos.trans hx.os,htape.trans hx.tape,hout.trans hx.output,Nat.le_trans hx.size hsz,fun b hb' _=>?_⟩,fun b hc=>?_,fun b vs hbv=>?_,hg.rho.1.trans hrho,hm⟩,?_⟩
 ·rw [hold b hb'];exact hx.block b hb' fun h=>h
 ·obtain ⟨id,r,hm,hl,hbk⟩:=hc
  rcases hg.fresh id r hm hl b hbk with h1 | h1
  ·exact Nat.le_trans he.size h1
  ·exact hcan b h1
 ·rcases hg.roo b vs hbv with h1 | h1 | h1
  ·exact hro b vs h1
  ·exact .inr (Nat.le_trans he.size h1)
  ·exact .inr (hcan b h1)
 ·rw [bare_put]
  have hm:(St.put st dst s).mem=st.mem:=by cases dst <;> rfl
  refine ⟨⟨?_,by rw [hm];exact hr.cl.2⟩,?_,?_,g,hg'.env (by cases dst <;> rfl) (by cases dst <;> rfl) (by cases dst <;> rfl) (by cases dst <;> rfl),?_⟩
  ·intro x id hid
   rw [hm]
   cases dst with
   | none=>exact hr.cl.1 x id hid
   | some d =>
    by_cases e:x=d
    ·subst e;simp only [St.put,upd_same,href] at hid;cases hid
    ·simp only [St.put,upd_ne _ _ e] at hid;exact hr.cl.1 x id hid
  ·cases dst <;> simp [Act.put,hr.size]
  ·rw [put_defers];exact hr.defers
  ·intro x
   rw [put_get (by rw [hr.size];exact hd)]
   cases dst with
   | none=>simpa [St.put,bareA] using henv x
   | some d =>
    by_cases e:x=d
    ·subst e;simp only [St.put,upd_same];simpa using hs
    ·have:¬ (some d=some x):=fun h=>e (by injection h with h;exact h.symm)
     rw [if_neg this]
     simp only [St.put,upd_ne _ _ e]
     exact henv x
end
end Go.SE

namespace Go.SE
variable [Base]
open Go.RowKit
def pairOf (st:St) (t:Nat):Option XP :=
 match st.env t with
 | .s (.c (.ptr id 0))=>match st.mem id with
  | some (.blk [.d (.fix .xcmd xs va),.d (.fix .xcmd ys vb)])=>some ((xs,va),(ys,vb))
  | _=>none
 | _=>none
def keyK (mb:Nat) (p:XP) (v a b n:Value) (rd:Option Nat):Prop :=
 rd=none/\v=.map (some mb)/\a=ptrAt p.1.2 0/\b=ptrAt p.2.2 0/\n=.int .i64 p.1.1.length/\0 < p.1.1.length/\p.1.1.length=p.2.1.length
def inS (qs:List XP) (p:XP):Prop:=∃ q ∈ qs,q.1.1=p.1.1/\q.2.1=p.2.1
def lookK (mb:Nat) (qs:List XP) (st:St) (dst:Option Tmp):S->S->Option XP->Option ((St->MG->Prop)->Prop)
 | .s (.c (.d (.val v))),.s (.agg [.d (.val a),.d (.val b),.d (.val n)]),some p=>some fun k=>keyK mb p v a b n st.rd /\
   (inS qs p->k (St.put st dst (sv (.int .i64 1))) (some (mb,qs)))/\k (St.put st dst (sv (.int .i64 0))) (some (mb,qs))
 | _,_,_=>none
def updK (mb:Nat) (qs:List XP) (st:St):S->S->S->Option XP->Option ((St->MG->Prop)->Prop)
 | .s (.c (.d (.val v))),.s (.agg [.d (.val a),.d (.val b),.d (.val n)]),.s (.c (.d (.val x))),some p=>some fun k=>keyK mb p v a b n st.rd/\x=.int .i64 1/\k st (some (mb,p :: qs))
 | _,_,_,_=>none
def gM:MG->Nat
 | some (m,_)=>m
 | none=>0
def gS:MG->List XP
 | some (_,l)=>l
 | none=>[]
def lastP (l:List XP):XP:=l.getD ((l.length:Int) - (1:Int)).toNat (Ty.zero .cpair)
def expS:S->List XP × List XP->List XP
 | .s (.c (.d (.val (.int _ _)))),q=>lastP q.1 :: q.2
 | _,q=>q.2
def prAt (st:St):XP :=
 match pairOf st 7 with
 | some p=>p
 | none=>Ty.zero .cpair
def cutSt (st:St) (d fam id:Nat) (xs:List XP) (k:Nat):St :=
 { st with mem:=upd (upd (kill fam id st.mem) id (some .dead)) (nid st.base d 0) (some (.sl (nid st.base d 0) .cpair (xs.take k))),env:=upd st.env d (.s (.c (.own (nid st.base d 0)))) }
def cutK (γ:MG) (st:St) (d:Nat):S->S->Option ((St->MG->Prop)->Prop)
 | .s (.c (.own id)),.s (.c (.d (.val (.int _ h))))=>match st.mem id with
  | some (.sl fam .cpair xs)=>some fun k=>st.rd=none/\st.sp id=false/\st.fr id=false/\st.mem (nid st.base d 0)=none/\(0<=h/\h < xs.length)/\k (cutSt st d fam id xs h.toNat) γ
  | _=>none
 | _,_=>none
def spM (mt ct t:Nat):SpOp MG:=fun o st γ =>
 match o.op,γ,o.dst with
 | .makeMap ty none,none,dst=>if ty=mt then some fun k=>st.rd=none/\∀ mb:Nat,k (St.put st dst (sv (.map (some mb)))) (some (mb,[])) else none
 | .lookup ty m key false,some (mb,qs),dst=>if ty=mt then lookK mb qs st dst (ev st m) (ev st key) (pairOf st t) else none
 | .mapUpdate ty m key x,some (mb,qs),none=>if ty=mt then updK mb qs st (ev st m) (ev st key) (ev st x) (pairOf st t) else none
 | .slice ty x none (some h) none,γ,some d=>if ty=ct then cutK γ st d (ev st x) (ev st h) else none
 | _,_,_=>none
section
variable {P:Program} {E:Ty->TypeId} {n:Nat} {wE w w0:World} {ro0:Nat->Option (Array Value)} {ρ:Nat} {γ:MG} {M:MM} {g:G} {st:St} {a:Act}
theorem pairOf_D {E:Ty->TypeId} (hg:Good E w0 M g st w) {t:Nat} {p:XP} (h:pairOf st t=some p):DR g.ro (.arr .xcmd p.1.1) p.1.2/\DR g.ro (.arr .xcmd p.2.1) p.2.2:=by
 unfold pairOf at h
 split at h
 ·rename_i id _
  split at h
  ·rename_i xs va ys vb hm
   injection h with h
   subst h
   obtain ⟨b,vs,ty,h1,h2,h3⟩:=hg.res _ _ hm
   obtain ⟨u,hu,hr⟩:=h3.2 0 _ rfl
   obtain ⟨u',hu',hr'⟩:=h3.2 1 _ rfl
   obtain ⟨e1,d1⟩:=DR.fix_inv (show DR g.ro (.fix .xcmd xs va) u from hr)
   obtain ⟨e2,d2⟩:=DR.fix_inv (show DR g.ro (.fix .xcmd ys vb) u' from hr')
   exact ⟨e1 ▸ d1,e2 ▸ d2⟩
  ·cases h
 ·cases h
theorem PairD.key {p:XP} (h:PairD g.ro p) (hg:Good E w0 M g st w):∃ a b,keyOf p=kv a b p.1.1.length/\OkAQ w a/\OkAQ w b/\ptrAt p.1.2 0=.pointer (some a)/\ptrAt p.2.2 0=.pointer (some b):=by
 obtain ⟨b,o,cap,vs,h1,h2,h3,h4,_⟩:=h.a.xplace h.n
 obtain ⟨b',o',cap',vs',k1,k2,k3,k4,_⟩:=h.b.xplace (by rw [← h.l];exact h.n)
 obtain ⟨ty,fz,q1,q2⟩:=hg.ro b vs h3
 obtain ⟨ty',fz',q3,q4⟩:=hg.ro b' vs' k3
 refine ⟨⟨b,o,none⟩,⟨b',o',none⟩,by rw [keyOf,h2,k2];rfl,⟨vs,ty,by rw [q1,q2 (Nat.le_trans Base.le h4)]⟩,⟨vs',ty',by rw [q3,q4 (Nat.le_trans Base.le k4)]⟩,h2,k2⟩
theorem PairD.uniq {ro:Nat->Option (Array Value)} {p q:XP} (hp:PairD ro p) (hq:PairD ro q) (h:keyOf q=keyOf p):q.1.1=p.1.1/\q.2.1=p.2.1:=by
 simp only [keyOf,Value.agg.injEq,Array.mk.injEq,List.cons.injEq,and_true,Value.int.injEq,true_and,Int.natCast_inj] at h
 obtain ⟨h1,h2,h3⟩:=h
 exact ⟨hq.a.xptr hp.a hq.n h3 h1,hq.b.xptr hp.b (by rw [← hq.l];exact hq.n) (by rw [← hq.l,← hp.l];exact h3) h2⟩
theorem AMap.ents {mb:Nat} {qs:List XP} {es:Array MapEntry} (hg:Good E w0 M g st w) (h1:∀ e ∈ es.toList,e.val=.int .i64 1/\∃ q ∈ qs,e.key=keyOf q) (h2:∀ q ∈ qs,PairD g.ro q):∀ e ∈ es.toList,EntOk w e:=by
 intro e he
 obtain ⟨_,q,hq,hk⟩:=h1 e he
 obtain ⟨a,b,h3,h4,h5,_⟩:=(h2 q hq).key hg
 exact ⟨a,b,_,hk.trans h3,h4,h5⟩
theorem key_val {vs:Value} {a b x:Value} (h:(S.s (.agg [.d (.val a),.d (.val b),.d (.val x)])).R g vs):vs=.agg #[a,b,x]:=by
 obtain ⟨us,rfl,h1,h2⟩:=h
 obtain ⟨u0,e0,r0⟩:=h2 0 _ rfl
 obtain ⟨u1,e1,r1⟩:=h2 1 _ rfl
 obtain ⟨u2,e2,r2⟩:=h2 2 _ rfl
 have d0:=DR.val_eq (show DR g.ro (.val a) u0 from r0)
 have d1:=DR.val_eq (show DR g.ro (.val b) u1 from r1)
 have d2:=DR.val_eq (show DR g.ro (.val x) u2 from r2)
 subst d0 d1 d2
 obtain ⟨l⟩:=us
 match l,h1 with
 | [p,q,r],_=>simp at e0 e1 e2;simp [e0,e1,e2]
theorem spM_lookup {mt:Nat} (hmt:mapB P mt=true) {o:Oper} {m key:Operand} (ho:o.op=.lookup mt m key false) {mb:Nat} {qs:List XP} {p:XP} {va ka kb kn:Value} (hm:ev st m=.s (.c (.d (.val va)))) (hk:ev st key=.s (.agg [.d (.val ka),.d (.val kb),.d (.val kn)]))
  {t:Nat} (hp:pairOf st t=some p) (hK:keyK mb p va ka kb kn st.rd) (hA:AM wE ro0 ρ (some (mb,qs)) a.defers w0 M) (hr:Rel E w0 M n st (bareA a) w) (hd:∀ d,o.dst=some d->d < n) :
  ∃ v,(execOp a.eval o).run P w=.ok (.value v) w/\((v=.int .i64 1/\∃ q ∈ qs,q.1.1=p.1.1/\q.2.1=p.2.1) ∨ v=.int .i64 0):=by
 obtain ⟨g,hg,henv⟩:=hr.good
 obtain ⟨hrd,rfl,rfl,rfl,rfl,h5,h6⟩:=hK
 have hmap:=hA.2.2.2.2.2.2
 obtain ⟨es,ck,h1,h2,h3⟩:=AMap.now hmap hg
 have hD:=pairOf_D hg hp
 have hPD:PairD g.ro p:=⟨hD.1,hD.2,h5,h6⟩
 obtain ⟨a',b',k1,k2,k3,k4,k5⟩:=hPD.key hg
 have e1:a.eval m=.map (some mb):=by
  have:=ev_R henv m
  rw [hm] at this
  exact DR.val_eq this
 have e2:a.eval key=kv a' b' p.1.1.length:=by
  have:=ev_R henv key
  rw [hk] at this
  rw [show a.eval key=_ from key_val this,k4,k5];rfl
 obtain ⟨v,q1,q2⟩:=run_lookup_key (P:=P) hmt h1 k2 k3 (n:=p.1.1.length) (AMap.ents hg h2 h3 (mb:=mb))
 refine ⟨v,by simp [execOp,ho,e1,e2,q1],?_⟩
 rcases q2 with rfl | ⟨e,he,hek,hev⟩
 ·exact .inr rfl
 ·obtain ⟨hv1,q,hq,hkq⟩:=h2 e he
  refine .inl ⟨by rw [← hev];exact hv1,q,hq,hPD.uniq (h3 q hq) ?_⟩
  rw [← hkq,hek,k1]
end
end Go.SE

namespace Go.SE
variable [Base]
open Go.RowKit
section
variable {P:Program} {E:Ty->TypeId} {tab:TypeId->Option TI} {n:Nat} {wE w w0:World} {ro0:Nat->Option (Array Value)} {ρ:Nat} {γ:MG} {M:MM} {g:G} {st:St} {a:Act}
theorem live_cells (hg:Good E w0 M g st w) {b:Nat} (h:(reK g st).can b):∃ vs ty,w.heap[b]?=some (.cells vs ty (0,0)):=by
 obtain ⟨id,r,hm,hl,hb⟩:=h
 exact (hg.res id r hm).cells hl hb
theorem AMap.here {mb:Nat} {qs:List XP} (h:AMap wE w0 M mb qs) (hg:Good E w0 M g st w):AMap wE w (reK g st) mb qs:=by
 obtain ⟨es,ck,h1,h2,h3⟩:=h.now hg
 refine ⟨h.ge,fun hc=>?_,h3,es,ck,h1,h2⟩
 obtain ⟨vs,ty,h4⟩:=live_cells hg hc
 rw [h1] at h4;cases h4
theorem AMm.here {γ:MG} (h:AMm wE w0 M γ) (hg:Good E w0 M g st w):AMm wE w (reK g st) γ:=by
 cases γ with
 | none=>trivial
 | some q=>exact AMap.here h hg
theorem wp_value {F:Fence} {m:Nat} (hF:FW F) {o:Oper} (hnd:noDefer o=true) {v:Value} {w':World} (hrun:(execOp a.eval o).run P w=.ok (.value v) w') {next:Act->World->Prop} {Q:Exit->Act->World->Prop} (hn:next (a.put o.dst v) w'):o.wpIn F m P a w next Q:=by
 refine wp_in hF (noDefer_ok hnd) (next:=fun a' w''=>a'=(bareA a).put o.dst v/\w''=w') ?_ (fun a' w'' ⟨h,_⟩=>by rw [h,put_defers];rfl) fun a' w'' ⟨h,e⟩=>?_
 ·unfold Oper.wp
  rw [eval_bare,hrun,Oper.upon_value]
  exact ⟨rfl,rfl⟩
 ·rw [h,e,withD_put];exact hn
theorem wp_skip {F:Fence} {m:Nat} (hF:FW F) {o:Oper} (hnd:noDefer o=true) (hdst:o.dst=none) {w':World} (hrun:(execOp a.eval o).run P w=.ok .skip w') {next:Act->World->Prop} {Q:Exit->Act->World->Prop} (hn:next a w'):o.wpIn F m P a w next Q:=by
 refine wp_in hF (noDefer_ok hnd) (next:=fun a' w''=>a'=bareA a/\w''=w') ?_ (fun a' w'' ⟨h,_⟩=>by rw [h];rfl) fun a' w'' ⟨h,e⟩=>?_
 ·unfold Oper.wp
  rw [eval_bare,hrun,Oper.upon_skip,hdst]
  exact ⟨rfl,rfl⟩
 ·rw [h,e]
  have:withD (bareA a) a.defers=a:=by cases a;rfl
  rw [this];exact hn
theorem spM_make {F:Fence} {m:Nat} (hF:FW F) {mt:Nat} {o:Oper} (ho:o.op=.makeMap mt none) (hA:AM wE ro0 ρ none a.defers w0 M) (hr:Rel E w0 M n st (bareA a) w) (hd:∀ d,o.dst=some d->d < n) (hrd:st.rd=none)
  {next:Act->World->Prop} {Q:Exit->Act->World->Prop} (hk:∀ mb a' w',RelY E (AM wE ro0 ρ) n (St.put st o.dst (sv (.map (some mb)))) (some (mb,[])) a' w'->next a' w'):o.wpIn F m P a w next Q:=by
 obtain ⟨g,hg,henv⟩:=hr.good
 have hx:=hA.ext hg
 refine wp_value hF (by simp [noDefer,ho]) (v:=.map (some w.heap.size)) (w':=w.alloc (.map #[] 0)) (by simp [execOp,ho,Instr.makeMap]) (hk w.heap.size _ _ ?_)
 have hold:∀ b,b < w.heap.size->(w.alloc (.map #[] 0)).heap[b]?=w.heap[b]?:=fun b hb=>Below.heap_alloc _ _ _ hb
 refine hA.re (w':=w.alloc (.map #[] 0)) (v:=.map (some w.heap.size)) hr hg henv hrd rfl rfl rfl (by simp) (fun b hb _=>hold b hb) (fun b hb=>hold b (Nat.lt_of_lt_of_le hb hx.size)) ?_ hd (R_sv rfl) (by simp [refs_sv])
 refine ⟨hx.size,fun hc=>?_,fun q hq=>(by cases hq),#[],0,World.alloc_heap_new _ _,fun e he=>(by simp at he)⟩
 obtain ⟨vs,ty,h⟩:=live_cells hg hc
 have:=lt_of_some h
 omega
theorem spM_upd {F:Fence} {m:Nat} (hF:FW F) {mt:Nat} (hmt:mapB P mt=true) {o:Oper} {x key val:Operand} (ho:o.op=.mapUpdate mt x key val) (hdst:o.dst=none) {mb:Nat} {qs:List XP} {p:XP} {va ka kb kn:Value}
  (hm:ev st x=.s (.c (.d (.val va)))) (hk:ev st key=.s (.agg [.d (.val ka),.d (.val kb),.d (.val kn)])) (hx1:ev st val=.s (.c (.d (.val (.int .i64 1)))))
  {t:Nat} (hp:pairOf st t=some p) (hK:keyK mb p va ka kb kn st.rd) (hA:AM wE ro0 ρ (some (mb,qs)) a.defers w0 M) (hr:Rel E w0 M n st (bareA a) w)
  {next:Act->World->Prop} {Q:Exit->Act->World->Prop} (hn:∀ a' w',RelY E (AM wE ro0 ρ) n st (some (mb,p :: qs)) a' w'->next a' w'):o.wpIn F m P a w next Q:=by
 obtain ⟨g,hg,henv⟩:=hr.good
 have hx:=hA.ext hg
 obtain ⟨hrd,rfl,rfl,rfl,rfl,h5,h6⟩:=hK
 have hmap:AMap wE w0 M mb qs:=hA.2.2.2.2.2.2
 obtain ⟨es,ck,h1,h2,h3⟩:=hmap.now hg
 have hD:=pairOf_D hg hp
 have hPD:PairD g.ro p:=⟨hD.1,hD.2,h5,h6⟩
 obtain ⟨a',b',k1,k2,k3,k4,k5⟩:=hPD.key hg
 have e1:a.eval x=.map (some mb):=by
  have:=ev_R henv x
  rw [hm] at this
  exact DR.val_eq this
 have e2:a.eval key=kv a' b' p.1.1.length:=by
  have:=ev_R henv key
  rw [hk] at this
  rw [show a.eval key=_ from key_val this,k4,k5];rfl
 have e3:a.eval val=.int .i64 1:=by
  have:=ev_R henv val
  rw [hx1] at this
  exact DR.val_eq this
 obtain ⟨es',ck',q1,q2⟩:=run_mapUpdate_key (P:=P) hmt h1 k2 k3 (n:=p.1.1.length) (AMap.ents hg h2 h3 (mb:=mb)) (.int .i64 1)
 refine wp_skip hF (by simp [noDefer,ho]) hdst (w':=w.putObj mb (.map es' ck')) (by simp [execOp,ho,e1,e2,e3,q1]) (hn _ _ ?_)
 have hne:∀ b,(∀ es ck,w.heap[b]? ≠ some (.map es ck))->b ≠ mb:=fun b hb e=>by subst e;exact hb es ck h1
 have:=hA.re (γ':=some (mb,p :: qs)) (dst:=none) (v:=undef) (s:=junk) hr hg henv hrd (w':=w.putObj mb (.map es' ck')) rfl rfl rfl (by simp) (fun b hb hb2=>World.putObj_heap_other (hne b hb2)) (fun b hb=>World.putObj_heap_other (by have:=hmap.ge;omega)) ?_ (fun d hd=>by cases hd) trivial rfl
 ·exact this
 ·refine ⟨hmap.ge,fun hc=>?_,fun q hq=>?_,es',ck',World.putObj_heap_same (lt_of_some h1),fun e he=>?_⟩
  ·obtain ⟨vs,ty,h⟩:=live_cells hg hc
   rw [h1] at h;cases h
  ·rcases List.mem_cons.1 hq with rfl | hq
   ·exact hPD
   ·exact h3 q hq
  ·rcases q2 e he with ⟨h7,h8⟩ | h7
   ·exact ⟨h8,p,List.mem_cons_self,by rw [h7,k1]⟩
   ·obtain ⟨h8,q,hq,h9⟩:=h2 e h7
    exact ⟨h8,q,List.mem_cons_of_mem _ hq,h9⟩
theorem Good.cut {w0:World} {M:MM} (hg:Good E w0 M g st w) (hcl:Cl st) (hrd:st.rd=none) (hpin:∀ id,M.pin id=none/\M.pinl id=none) {d fam id:Nat} {xs:List XP} {k:Nat} (hm:st.mem id=some (.sl fam .cpair xs)) (hs:st.sp id=false) (hf:st.fr id=false)
  (hfree:st.mem (nid st.base d 0)=none) {b cap:Nat} {cur:Array Value} (hκ:g.κ id=.slice (some ⟨b,0,none⟩) xs.length cap) (hb:w.heap[b]?=some (.cells cur (E .cpair) (0,0))) (hle:xs.length<=cap) (hcap:CapOk .cpair xs.length cap cur) (hcs:cur.size=cap * Ty.cpair.sz) (hrow:RowR g.ro (flat .cpair xs) cur 0) (hk:k<=xs.length) :
  Good E w0 M { g with κ:=upd g.κ (nid st.base d 0) (.slice (some ⟨b,0,none⟩) k cap),ln:=upd g.ln (nid st.base d 0) k } (cutSt st d fam id xs k) w:=by
 generalize hN:nid st.base d 0=N at hfree
 have hNid:N ≠ id:=fun e=>by subst e;rw [hm] at hfree;cases hfree
 have hbk:blkOf (g.κ id)=some b:=by rw [hκ];rfl
 have old:∀ i,(st.mem i).isSome=true->upd g.κ N (.slice (some ⟨b,0,none⟩) k cap) i=g.κ i/\upd g.ln N k i=g.ln i:=fun i hi=>by
  have e:i ≠ N:=fun e=>by subst e;rw [hfree] at hi;cases hi
  exact ⟨upd_ne _ _ e,upd_ne _ _ e⟩
 -- what lives
 have cases':∀ j r,(cutSt st d fam id xs k).mem j=some r->r.live->(j=N/\r=.sl N .cpair (xs.take k)) ∨ (j ≠ N/\j ≠ id/\st.mem j=some r/\∀ f t ys,r=.sl f t ys->f ≠ fam):=by
  intro j r hj hl
  simp only [cutSt,hN] at hj
  by_cases e:j=N
  ·subst e;rw [upd_same] at hj;injection hj with hj;exact .inl ⟨rfl,hj.symm⟩
  ·rw [upd_ne _ _ e] at hj
   by_cases e':j=id
   ·subst e';rw [upd_same] at hj;injection hj with hj;subst hj;exact hl.elim
   ·rw [upd_ne _ _ e'] at hj
    refine .inr ⟨e,e',?_,fun f t ys hr hff=>?_⟩
    ·rcases kill_cases hj with h | h
     ·exact h
     ·subst h;exact hl.elim
    ·subst hr hff
     unfold kill at hj
     split at hj
     ·rename_i f' t' ys' hm'
      split at hj
      ·injection hj with hj;cases hj
      ·rename_i hc
       injection hj with hj
       injection hj with h1 h2 h3
       exact hc ⟨e',h1⟩
     ·rename_i hc
      exact hc _ _ _ hj
 have apart:∀ j r,st.mem j=some r->r.live->j ≠ id->(∀ f t ys,r=.sl f t ys->f ≠ fam)->blkOf (g.κ j) ≠ some b:=fun j r hj hl hne hfam hbj=>by
  obtain ⟨f,t,ys,zs,h1,h2,_⟩:=hg.sep j id r _ hj hm hne hl trivial b hbj hbk
  injection h2 with h2 h3 h4
  exact hfam f t ys h1 h2.symm
 have dead:∀ j r,(cutSt st d fam id xs k).mem j=some r->¬ r.live->r=.dead:=fun j r _ hl=>by cases r <;> first | rfl | exact (hl trivial).elim
 refine ⟨hg.ext,hg.ro,fun j r hj=>?_,fun i j r s hi hj hij hli hlj b' hbi hbj=>?_,fun j r hj hl b' hb'=>?_,fun j r hj hl b' hb' h1 h2=>?_,?_,?_,hg.roo,hg.rho,(fun i v hv=>by rw [(hpin i).1] at hv;cases hv),(fun i v hv=>by rw [(hpin i).2] at hv;cases hv),hg.keep.2⟩
 ·by_cases hl:r.live
  ·rcases cases' j r hj hl with ⟨rfl,rfl⟩ | ⟨h1,h2,h3,h4⟩
   ·have hkl:(xs.take k).length=k:=by simp;omega
    refine ⟨by show upd g.ln j k j=_;rw [upd_same,hkl],.inr ⟨b,cap,cur,by show upd g.κ j _ j=_;rw [upd_same,hkl],hb,by rw [hkl];omega,⟨hcap.le,fun h=>(by cases h),fun h=>(by cases h)⟩,hcs,?_⟩⟩
    have:=hrow.part 0 k
    simpa using this
   ·exact (hg.res j r h3).keep (fun _ _=>rfl) (fun _ _ h=>h) rfl (old j (by simp [h3])) fun i hi=>old i (hcl.2 j r h3 i hi)
  ·rw [dead j r hj hl];trivial
 ·change blkOf (upd g.κ N (Value.slice (some ⟨b,0,none⟩) k cap) i)=some b' at hbi
  change blkOf (upd g.κ N (Value.slice (some ⟨b,0,none⟩) k cap) j)=some b' at hbj
  rcases cases' i r hi hli with ⟨rfl,rfl⟩ | ⟨h1,h2,h3,h4⟩ <;> rcases cases' j s hj hlj with ⟨e,rfl⟩ | ⟨k1,k2,k3,k4⟩
  ·exact (hij e.symm).elim
  ·exfalso
   rw [(old j (by simp [k3])).1] at hbj
   rw [show upd g.κ i (Value.slice (some ⟨b,0,none⟩) k cap) i=_ from upd_same _ _ _] at hbi
   simp [blkOf] at hbi
   subst hbi
   exact apart j s k3 hlj k2 k4 hbj
  ·subst e
   exfalso
   rw [(old i (by simp [h3])).1] at hbi
   rw [show upd g.κ j (Value.slice (some ⟨b,0,none⟩) k cap) j=_ from upd_same _ _ _] at hbj
   simp [blkOf] at hbj
   subst hbj
   exact apart i r h3 hli h2 h4 hbi
  ·rw [(old i (by simp [h3])).1] at hbi
   rw [(old j (by simp [k3])).1] at hbj
   exact hg.sep i j r s h3 k3 hij hli hlj b' hbi hbj
 ·change blkOf (upd g.κ N (Value.slice (some ⟨b,0,none⟩) k cap) j)=some b' at hb'
  rcases cases' j r hj hl with ⟨rfl,rfl⟩ | ⟨h1,h2,h3,h4⟩
  ·rw [show upd g.κ j (Value.slice (some ⟨b,0,none⟩) k cap) j=_ from upd_same _ _ _] at hb'
   simp [blkOf] at hb'
   subst hb'
   exact hg.fresh id _ hm trivial b hbk
  ·rw [(old j (by simp [h3])).1] at hb'
   exact hg.fresh j r h3 hl b' hb'
 ·change blkOf (upd g.κ N (Value.slice (some ⟨b,0,none⟩) k cap) j)=some b' at hb'
  rcases cases' j r hj hl with ⟨rfl,rfl⟩ | ⟨k1,k2,k3,k4⟩
  ·rw [show upd g.κ j (Value.slice (some ⟨b,0,none⟩) k cap) j=_ from upd_same _ _ _] at hb'
   simp [blkOf] at hb'
   subst hb'
   exact hg.wro id _ hm trivial b hbk hs hf
  ·rw [(old j (by simp [k3])).1] at hb'
   exact hg.wro j r k3 hl b' hb' h1 h2
 ·intro m hm'
  have:st.rd=some m:=hm'
  rw [hrd] at this;cases this
 ·intro h;exact absurd hrd h
theorem spM_cut {F:Fence} {m:Nat} (hF:FW F) (ht:TabOk P E tab) {ct:Nat} {sz by_:Nat} {e:TypeId} (hti:tab ct=some ⟨sz,by_,.sl true e .cpair⟩) {o:Oper} {x h0:Operand} (ho:o.op=.slice ct x none (some h0) none) {d:Tmp} (hdst:o.dst=some d) {id:Nat} {kk:IntKind} {h:Int} {fam:Nat} {xs:List XP}
  (hx:ev st x=.s (.c (.own id))) (hh:ev st h0=.s (.c (.d (.val (.int kk h))))) (hm:st.mem id=some (.sl fam .cpair xs)) (hrd:st.rd=none) (hs:st.sp id=false) (hf:st.fr id=false) (hfree:st.mem (nid st.base d 0)=none) (hb0:0<=h) (hb1:h < xs.length)
  (hA:AM wE ro0 ρ γ a.defers w0 M) (hr:Rel E w0 M n st (bareA a) w) (hd:d < n) {next:Act->World->Prop} {Q:Exit->Act->World->Prop} (hn:∀ a' w',RelY E (AM wE ro0 ρ) n (cutSt st d fam id xs h.toNat) γ a' w'->next a' w'):o.wpIn F m P a w next Q:=by
 obtain ⟨g,hg,henv⟩:=hr.good
 obtain ⟨inf,dd,_,hu,_,_,⟨rfl,_⟩,ie,hie,hsz,_⟩:=ht _ _ hti
 obtain ⟨hln,hres⟩:=hg.res _ _ hm
 rcases hres with ⟨_,h2⟩ | ⟨b,cap,cur,hκ,hb,hle,hcap,hcs,hrow⟩
 ·subst h2;simp at hb1;omega
 have hk:h.toNat<=xs.length:=by omega
 have hg':=hg.cut hr.cl hrd hA.2.1 hm hs hf hfree hκ hb hle hcap hcs hrow hk
 have hev:=ev_R henv x
 rw [hx] at hev
 have hvx:a.eval x=g.κ id:=hev.1
 have hbd:=run_bounds (P:=P) (lo:=none) (hi:=some h0) (l:=none) (h:=some h) hr rfl (by simp [intOp,hh]) true xs.length cap hle (by simp) (by simpa using hb0) (by simp;omega)
 have hrun:(execOp a.eval o).run P w=.ok (.value (.slice (some ⟨b,0,none⟩) h.toNat cap)) w:=by
  rw [eval_bare] at hbd
  simp only [Option.map_none,Option.map_some,Option.getD_none,Option.getD_some,Int.toNat_zero] at hbd
  simp [execOp,ho,Instr.sliceAt,Instr.slice,hvx,hκ,run_underlying hu,hbd,run_sizeOf hie,Addr.add_lit]
 refine wp_value hF (by simp [noDefer,ho]) hrun (hn _ _ ⟨w0,M,by rw [put_defers];exact hA,?_⟩)
 rw [bare_put,hdst]
 have isS:∀ i,(st.mem i).isSome=true->((cutSt st d fam id xs h.toNat).mem i).isSome=true:=fun i hi=>upd_dom (upd_dom (kill_dom hi))
 have hN:((cutSt st d fam id xs h.toNat).mem (nid st.base d 0)).isSome=true:=by simp [cutSt,upd_same]
 refine ⟨⟨?_,?_⟩,by simp [Act.put,hr.size],rfl,_,hg',?_⟩
 ·intro y i hi
  by_cases e:y=d
  ·subst e
   simp only [cutSt,upd_same,S.refs,S0.refs,CV.refs,List.mem_singleton] at hi
   subst hi;exact hN
  ·simp only [cutSt,upd_ne _ _ e] at hi
   exact isS i (hr.cl.1 y i hi)
 ·intro j r hj i hi
  simp only [cutSt] at hj
  by_cases e:j=nid st.base d 0
  ·subst e;rw [upd_same] at hj;injection hj with hj;subst hj;simp [Res.refs] at hi
  ·rw [upd_ne _ _ e] at hj
   by_cases e':j=id
   ·subst e';rw [upd_same] at hj;injection hj with hj;subst hj;simp [Res.refs] at hi
   ·rw [upd_ne _ _ e'] at hj
    rcases kill_cases hj with h3 | h3
    ·exact isS i (hr.cl.2 j r h3 i hi)
    ·subst h3;simp [Res.refs] at hi
 ·intro y
  rw [put_get (by rw [hr.size];intro d' hd';injection hd' with hd';subst hd';exact hd)]
  by_cases e:y=d
  ·subst e
   rw [if_pos rfl]
   show S.R _ (upd st.env y _ y) _
   rw [upd_same]
   exact ⟨(upd_same _ _ _).symm,rfl⟩
  ·rw [if_neg (fun h=>e (by injection h with h;exact h.symm))]
   show S.R _ (upd st.env d _ y) _
   rw [upd_ne _ _ e]
   refine S.R.mono (g:=g) (g':={ g with κ:=upd g.κ (nid st.base d 0) (.slice (some ⟨b,0,none⟩) h.toNat cap),ln:=upd g.ln (nid st.base d 0) h.toNat }) (fun _ _ h=>h) rfl (fun i hi=>?_) (henv y)
   have hi':=hr.cl.1 y i hi
   have en:i ≠ nid st.base d 0:=fun e=>by subst e;rw [hfree] at hi';cases hi'
   exact ⟨upd_ne _ _ en,upd_ne _ _ en⟩
theorem spM_ok {F:Fence} {m:Nat} (hF:FW F) (ht:TabOk P E tab) {mt ct t:Nat} (hmt:mapB P mt=true) {sz by_:Nat} {e:TypeId} (hti:tab ct=some ⟨sz,by_,.sl true e .cpair⟩):SpOk F m P E (AM wE ro0 ρ) n (spM mt ct t):=by
 intro o st γ f hs hd k a w next Q h hf hk
 obtain ⟨w0,M,hA,hr⟩:=h
 unfold spM at hs
 split at hs
 ·rename_i ty ho
  split at hs
  ·rename_i he
   subst he
   injection hs with hs
   subst hs
   obtain ⟨hrd,hkk⟩:=hf
   exact spM_make hF ho hA hr hd hrd fun mb a' w' hr'=>hk _ _ _ _ hr' (hkk mb)
  ·cases hs
 ·rename_i ty mm key mb qs ho
  split at hs
  ·rename_i he
   subst he
   unfold lookK at hs
   split at hs
   ·rename_i va ka kb kn p hm hky hp
    injection hs with hs
    subst hs
    obtain ⟨hK,hk1,hk0⟩:=hf
    obtain ⟨v,hrun,hv⟩:=spM_lookup (P:=P) hmt ho hm hky hp hK hA hr hd
    refine wp_value hF (by simp [noDefer,ho]) hrun ?_
    obtain ⟨g,hg,henv⟩:=hr.good
    have step:∀ i:Int,RelY E (AM wE ro0 ρ) n (St.put st o.dst (sv (.int .i64 i))) (some (mb,qs)) (a.put o.dst (.int .i64 i)) w:=fun i =>
     hA.re hr hg henv hK.1 rfl rfl rfl (Nat.le_refl _) (fun _ _ _=>rfl) (fun _ _=>rfl) (AMm.here hA.2.2.2.2.2.2 hg) hd (R_sv rfl) (by simp [refs_sv])
    rcases hv with ⟨rfl,hq⟩ | rfl
    ·exact hk _ _ _ _ (step 1) (hk1 hq)
    ·exact hk _ _ _ _ (step 0) hk0
   ·cases hs
  ·cases hs
 ·rename_i ty mm key x mb qs ho hdst
  split at hs
  ·rename_i he
   subst he
   unfold updK at hs
   split at hs
   ·rename_i va ka kb kn xv p hm hky hxv hp
    injection hs with hs
    subst hs
    obtain ⟨hK,rfl,hkk⟩:=hf
    exact spM_upd hF hmt ho hdst hm hky hxv hp hK hA hr fun a' w' hr'=>hk _ _ _ _ hr' hkk
   ·cases hs
  ·cases hs
 ·rename_i ty x h0 d ho hdst
  split at hs
  ·rename_i he
   subst he
   unfold cutK at hs
   split at hs
   ·rename_i id kk hv hx hh
    split at hs
    ·rename_i fam xs hm
     injection hs with hs
     subst hs
     obtain ⟨hrd,h1,h2,h3,⟨h4,h5⟩,hkk⟩:=hf
     exact spM_cut hF ht hti ho hdst hx hh hm hrd h1 h2 h3 h4 h5 hA hr (hd _ hdst) fun a' w' hr'=>hk _ _ _ _ hr' hkk
    ·cases hs
   ·cases hs
  ·cases hs
 ·cases hs
end
end Go.SE

namespace Go.SE
open Go.RowKit
mutual
def eraC:XCmd->GCmd
 | .mk k a b t i _ bo _ el=>.mk k a b t i (eraL bo) (eraL el)
def eraL:List XCmd->List GCmd
 | []=>[]
 | c :: l=>eraC c :: eraL l
end
theorem eraL_map (l:List XCmd):eraL l=l.map eraC:=by
 induction l with
 | nil=>rfl
 | cons c l ih=>simp [eraL,ih]
theorem eraL_len (l:List XCmd):(eraL l).length=l.length:=by rw [eraL_map];simp
theorem list_choose {α:Type} (z:α) {p:Nat->α->Prop}:∀ n,(∀ i,i < n->∃ c,p i c)->∃ l:List α,l.length=n/\∀ i,i < n->p i (l.getD i z):=by
 intro n h
 classical
 refine ⟨(List.range n).map fun i=>if hi:i < n then (h i hi).choose else z,by simp,fun i hi=>?_⟩
 have e:((List.range n).map fun i=>if hi:i < n then (h i hi).choose else z).getD i z=(h i hi).choose:=by
  simp [List.getD_eq_getElem?_getD,hi]
 rw [e]
 exact (h i hi).choose_spec
theorem gsize {xs:List GCmd} {i:Nat} (hi:i < xs.length):SizeOf.sizeOf (xs.getD i (Ty.zero .cmd)).body < SizeOf.sizeOf xs/\SizeOf.sizeOf (xs.getD i (Ty.zero .cmd)).els < SizeOf.sizeOf xs:=by
 have e:xs.getD i (Ty.zero .cmd)=xs[i]:=by simp [List.getD_eq_getElem?_getD,hi]
 have h1:SizeOf.sizeOf xs[i] < SizeOf.sizeOf xs:=List.sizeOf_lt_of_mem (List.getElem_mem hi)
 rw [e]
 generalize xs[i]=c at h1
 obtain ⟨k,a,b,t,inv,bo,el⟩:=c
 simp only [GCmd.mk.sizeOf_spec] at h1
 simp only [GCmd.body,GCmd.els]
 omega
end Go.SE
namespace Go.SE
variable [Base]
open Go.RowKit
theorem RowR.of_get {ro:Nat->Option (Array Value)} {t:Ty} {xs:List t.den} {vs:Array Value} {o:Nat} (h:∀ i,i < xs.length->∀ j c,(t.cells (xs.getD i t.zero))[j]?=some c->∃ u,vs[o+(i * t.sz+j)]?=some u/\DR ro c u):RowR ro (flat t xs) vs o:=by
 intro k c hk
 have hlt:k < xs.length * t.sz:=by rw [← flat_len];exact (List.getElem?_eq_some_iff.1 hk).1
 have hs:0 < t.sz:=by cases t <;> decide
 have h1:k / t.sz < xs.length:=(Nat.div_lt_iff_lt_mul hs).2 hlt
 have h2:k % t.sz < t.sz:=Nat.mod_lt _ hs
 have e:k / t.sz * t.sz+k % t.sz=k:=by rw [Nat.mul_comm];exact Nat.div_add_mod k t.sz
 have h3:=flat_get t xs (k / t.sz) (k % t.sz) h1 h2
 rw [e,hk] at h3
 have:=h _ h1 (k % t.sz) c h3.symm
 rwa [e] at this
theorem DR.places {ro:Nat->Option (Array Value)}:∀ (n:Nat) (xs:List GCmd) (v:Value),SizeOf.sizeOf xs<=n->DR ro (.arr .cmd xs) v->∃ ys:List XCmd,DR ro (.arr .xcmd ys) v/\eraL ys=xs:=by
 intro n
 induction n with
 | zero=>intro xs v hn;cases xs <;> simp at hn <;> omega
 | succ n ih =>
  intro xs v hn h
  rcases h.arr_inv with ⟨⟨a,rfl⟩,rfl⟩ | ⟨b,o,cap,vs,rfl,hb,hle,hcap,hrow,hpm⟩
  ·refine ⟨[],?_,rfl⟩
   cases a with
   | none=>exact .nil _
   | some a=>exact .emp _ _
  ·have key:∀ i,i < xs.length->∃ c:XCmd,eraC c=xs.getD i (Ty.zero .cmd)/\∀ j d,(Ty.cells .xcmd c)[j]?=some d->∃ u,vs[o+(i * 10+j)]?=some u/\DR ro d u:=by
    intro i hi
    have e:∀ j,j < 10->(flat .cmd xs)[i * 10+j]?=(Ty.cells .cmd (xs.getD i (Ty.zero .cmd)))[j]?:=fun j hj=>flat_get .cmd xs i j hi hj
    have s1:=gsize hi
    obtain ⟨u8,a8,d8⟩:=hrow _ _ ((e 8 (by omega)).trans rfl)
    obtain ⟨u9,a9,d9⟩:=hrow _ _ ((e 9 (by omega)).trans rfl)
    obtain ⟨bo,q8,e8⟩:=ih _ _ (by omega) d8.unne
    obtain ⟨el,q9,e9⟩:=ih _ _ (by omega) d9.unne
    have g:∀ j,j < 8->∀ d,(Ty.cells .cmd (xs.getD i (Ty.zero .cmd)))[j]?=some d->∃ u,vs[o+(i * 10+j)]?=some u/\DR ro d u:=fun j hj d hd=>hrow _ _ ((e j (by omega)).trans hd)
    generalize xs.getD i (Ty.zero .cmd)=c at e8 e9 g
    obtain ⟨k,a,b',t,inv,bo',el'⟩:=c
    simp only [GCmd.body,GCmd.els] at e8 e9
    refine ⟨.mk k a b' t inv u8 bo u9 el,by simp only [eraC,e8,e9],fun j d hd=>?_⟩
    match j,hd with
    | 0,hd=>exact g 0 (by omega) d hd
    | 1,hd=>exact g 1 (by omega) d hd
    | 2,hd=>exact g 2 (by omega) d hd
    | 3,hd=>exact g 3 (by omega) d hd
    | 4,hd=>exact g 4 (by omega) d hd
    | 5,hd=>exact g 5 (by omega) d hd
    | 6,hd=>exact g 6 (by omega) d hd
    | 7,hd=>exact g 7 (by omega) d hd
    | 8,hd=>cases hd;exact ⟨u8,a8,.fix _ _ _ q8⟩
    | 9,hd=>cases hd;exact ⟨u9,a9,.fix _ _ _ q9⟩
    | j+10,hd=>cases hd
   obtain ⟨ys,hl,hy⟩:=list_choose (Ty.zero .xcmd) _ key
   refine ⟨ys,?_,?_⟩
   ·have:=DR.of_row (t:=.xcmd) (xs:=ys) (cap:=cap) hb (fun _=>⟨(hpm rfl).1,fun h=>by cases h⟩) (by omega) hcap (RowR.of_get (t:=.xcmd) fun i hi j c hc=>(hy i (by omega)).2 j c hc)
    rwa [hl] at this
   ·rw [eraL_map]
    refine getD_ext (Ty.zero .cmd) (by simpa using hl) fun i hi=>?_
    have hi':i < ys.length:=by simpa using hi
    have h1:=(hy i (by omega)).1
    rw [← h1]
    simp [List.getD_eq_getElem?_getD,hi']
abbrev noSpM:SpCode MG:=fun _ _ _ _ _ _=>none
section
variable {P:Program} {E:Ty->TypeId} {tab:TypeId->Option TI} {K:FuncId->Option Con} {pts:FuncId->Option PT} {hp:Nat->Bool} {gcs:Nat->Option (List Nat × List Nat)} {perm:Nat->List (List Nat)}
abbrev conM (pre:List GCmd->List GCmd->Prop):Con:=⟨[.sl .cmd,.sl .cmd],[.bool],fun (a,b,_)=>pre a b,.inl fun (a,b,_)=>(decide (a=b),()),fun _=>0⟩
abbrev entM (p:XP):St:=entry [.c (.d (.fix .xcmd p.1.1 p.1.2)),.c (.d (.fix .xcmd p.2.1 p.2.2))] none
def retM (tab:TypeId->Option TI) (rvs:List ResultVar) (r:Bool):XK->St->MG->Prop
 | .exit _,_,_=>False
 | _,st,_=>match loadsS tab st rvs with
  | some [.c (.d (.val (.bool b)))]=>st.rd=none/\b=r
  | _=>False
theorem entry_fix {n:Nat} {w0:World} {ro0:Nat->Option (Array Value)} {ρ:Nat} {l:List S0} {vs:List Value} (hin:ROin w0 ro0) (hargs:ArgsR (argG ro0 ρ) l vs) (hr:∀ s ∈ l,s.refs=[]) (hn:vs.length<=n) :
  Rel E w0 (MOf false ρ ro0) n (entry l none) { tmps:=vs.toArray ++ Array.replicate (n - vs.toArray.size) undef,defers:=[] } w0:=by
 have hgood:Good E w0 (MOf false ρ ro0) (argG ro0 ρ) (entry l none) w0:=by
  refine ⟨Ext.refl _ _,hin.2,(fun id r hr=>by cases hr),(fun i j r s hi=>by cases hi),(fun id r hr=>by cases hr),(fun id r hr=>by cases hr),?_,?_,(fun b vs hb=>.inl hb),⟨rfl,hin.1,fun b hb=>by cases hb.1⟩,(fun id v hv=>by cases hv),⟨fun id v hv=>(by cases hv),fun b vs hv=>(by cases hv)⟩⟩
  ·intro m hm;cases hm
  ·intro h;exact absurd rfl h
 refine ⟨⟨?_,fun j r hj=>by cases hj⟩,by simp;omega,rfl,argG ro0 ρ,hgood,?_⟩
 ·intro j id hid
  exfalso
  have e:(entry l none).env j=envOf l 0 j:=rfl
  rw [e] at hid
  rcases envOf_cases l 0 j with h1 | ⟨i,s,h1,_,h3⟩
  ·rw [h1] at hid;simp [junk,S.refs,S0.refs,CV.refs] at hid
  ·rw [h3] at hid
   simp only [S.refs] at hid
   rw [hr s (List.mem_of_getElem? h1)] at hid
   cases hid
 ·intro j
  have e:(entry l none).env j=envOf l 0 j:=rfl
  rw [e]
  rcases envOf_cases l 0 j with h1 | ⟨i,s,h1,h2,h3⟩
  ·rw [h1];trivial
  ·rw [h3]
   obtain ⟨v,h4,h5⟩:=hargs.2 i s h1
   have hj:j=i:=by omega
   subst hj
   have hlt:j < vs.length:=(List.getElem?_eq_some_iff.1 h4).1
   have:(vs.toArray ++ Array.replicate (n - vs.toArray.size) undef).getD j undef=v:=by
    rw [Array.getD_eq_getD_getElem?,Array.getElem?_append_left (by simpa using hlt)]
    simp [h4]
   show S.R _ _ ((vs.toArray ++ Array.replicate (n - vs.toArray.size) undef).getD j undef)
   rw [this]
   exact h5
theorem fnM_sound (ht:TabOk P E tab) (hKA:KAll P E K) (hPA:PAll P E pts) (hmix:P.follows .mixedOrders=true) (hdr:∀ w0 M n,DrawSound P E tab K w0 M n) {f:FuncId} {fn:Func} {c:Code} {pre:List GCmd->List GCmd->Prop} (hf:P.funcs[f]?=some fn) (hb:fn.body=some c) (hn:2<=fn.ntmps) (hok:codeOkY tab K hp perm true fn.ntmps c=true)
  {mt ct t:Nat} (hmt:mapB P mt=true) {sz by_:Nat} {e:TypeId} (hti:tab ct=some ⟨sz,by_,.sl true e .cpair⟩)
  {anns:XP->Nat->St->MG->Option (AnnY MG)}
  (hvc:∀ p:XP,pre (eraL p.1.1) (eraL p.2.1)->vcY tab K pts (spM mt ct t) noSpM (fun _=>true) hp gcs (anns p) perm c (entM p) none (retM tab fn.results.toList (decide (eraL p.1.1=eraL p.2.1)))):CallOk P E f (conM pre):=by
 intro w0 ro0 ρ k x vs id0 hpre hin hrd hargs
 obtain ⟨xs,ys,_⟩:=x
 have hlen:vs.length=2:=hargs.1
 obtain ⟨va,hva,hra⟩:=hargs.2 0 _ rfl
 obtain ⟨vb,hvb,hrb⟩:=hargs.2 1 _ rfl
 obtain ⟨xs',hx1,hx2⟩:=DR.places _ xs va (Nat.le_refl _) hra
 obtain ⟨ys',hy1,hy2⟩:=DR.places _ ys vb (Nat.le_refl _) hrb
 subst hx2 hy2
 let p:XP:=((xs',va),(ys',vb))
 have hargs':ArgsR (argG ro0 ρ) [.c (.d (.fix .xcmd p.1.1 p.1.2)),.c (.d (.fix .xcmd p.2.1 p.2.2))] vs:=by
  refine ⟨by rw [hlen];rfl,fun j s hj=>?_⟩
  match j,hj with
  | 0,hj=>cases hj;exact ⟨va,hva,DR.fix _ _ _ hx1⟩
  | 1,hj=>cases hj;exact ⟨vb,hvb,DR.fix _ _ _ hy1⟩
  | j+2,hj=>simp at hj
 have hent:Rel E w0 (MOf false ρ ro0) fn.ntmps (entM p) { tmps:=vs.toArray ++ Array.replicate (fn.ntmps - vs.toArray.size) undef,defers:=[] } w0 :=
  entry_fix hin hargs' (by intro s hs;simp at hs;rcases hs with rfl | rfl <;> rfl) (by omega)
 refine callsIn_wide.1 (callsIn_of_wp (n:=0) hf hb trivial ?_)
 refine codeY_sound (A:=AM w0 ro0 ρ) (drg:=fun _=>true) (.inl rfl) ht hKA hPA hmix (spM_ok (.inl rfl) ht hmt hti) (fun _ _ _ _ _ _ _ h=>by cases h) (dr:=true) (fun _=>⟨rfl,fun γ ds w0 M _ hA=>hA.1,fun _ _=>hdr _ _ _⟩) c _ none _ _
  (retM tab fn.results.toList (decide (eraL p.1.1=eraL p.2.1))) _ (.inl fun γ ds w0 M h=>h.oo) hok
  ⟨w0,MOf false ρ ro0,⟨rfl,fun _=>⟨rfl,rfl⟩,Ext.refl _ _,fun b h=>(by cases h.1),fun b vs h=>.inl h,rfl,trivial⟩,hent⟩ (hvc p hpre) ?_
 intro xk st' γ' a' w' hr hk
 obtain ⟨wA,M,hA,hr⟩:=hr
 obtain ⟨g,hg,henv⟩:=hr.good
 have fin:retM tab fn.results.toList (decide (eraL p.1.1=eraL p.2.1)) .ret st' γ'->a'.defers=[]/\∃ v,(results fn a'.tmps).run P w'=.ok v w'/\∃ v1 r g,Ending.returned v=.returned v1/\Con.post (conM pre) (eraL xs',eraL ys',()) r/\Ext (fun b=>hasRdr (conM pre).aks=true/\b=ρ) w0 w'/\g.ρ=ρ/\ResOk E w0 w' ro0 (conM pre).rks id0 r v1 g/\(hasRdr (conM pre).aks=true->RdStep w0 w' ρ (k+(conM pre).cost (eraL xs',eraL ys',()))):=by
  intro hk
  unfold retM at hk
  simp only at hk
  split at hk
  ·rename_i b hss
   obtain ⟨hrd,rfl⟩:=hk
   obtain ⟨vs1,hrun,hargs1,_⟩:=loads_run (P:=P) ht hg henv hr.cl hss
   have hres:=results_run (fn:=fn) hrun
   have hv1:vs1=[.bool (decide (eraL p.1.1=eraL p.2.1))]:=by
    obtain ⟨h1,h2⟩:=hargs1
    obtain ⟨v,h3,h4⟩:=h2 0 _ rfl
    have:=DR.val_eq (show DR g.ro (.val _) v from h4)
    subst this
    match vs1,h1 with
    | [u],_=>simpa using h3
   subst hv1
   have hE:=hA.ext hg
   refine ⟨hA.1,_,hres,_,(decide (eraL xs'=eraL ys'),()),argG ro0 ρ,rfl,rfl,⟨hE.os,hE.tape,hE.output,hE.size,fun b hb _=>hE.block b hb fun h=>h⟩,rfl,⟨fun _ _ h=>h,fun _ _ h=>.inl h,?_,?_,?_,?_⟩,fun h=>by cases h⟩
   ·exact DR.val _ rfl
   ·intro id q h;simp [ress,AK.res] at h
   ·intro id q h;simp [ress,AK.res] at h
   ·intro i q j s h;simp [ress,AK.res] at h
  ·exact hk.elim
 cases xk with
 | normal=>exact fin hk
 | ret=>exact fin hk
 | exit id=>exact hk.elim
end
end Go.SE

namespace Go.SE
open Go.RowKit
def eqP (p:XP):Prop:=eraL p.1.1=eraL p.2.1
def kid (c d:XCmd):List XP:=[((c.body,c.bv),(d.body,d.bv)),((c.els,c.lv),(d.els,d.lv))]
def kidsN (p:XP) (i:Nat):List XP:=(List.range i).flatMap fun j=>kid (p.1.1.getD j (Ty.zero .xcmd)) (p.2.1.getD j (Ty.zero .xcmd))
def sameX (c d:XCmd):Bool:=decide (c.kind=d.kind/\c.a=d.a/\c.b=d.b/\c.test=d.test/\c.inv=d.inv)
mutual
def wXC:XCmd->Nat
 | .mk _ _ _ _ _ _ bo _ el=>2+wX bo+wX el
def wX:List XCmd->Nat
 | []=>0
 | c :: l=>wXC c+wX l
end
def muO:List XP->Nat
 | []=>0
 | r :: l=>1+wX r.1.1+muO l
theorem muO_append (a b:List XP):muO (a ++ b)=muO a+muO b:=by
 induction a with
 | nil=>simp [muO]
 | cons r a ih=>simp [muO,ih];omega
theorem muO_len (l:List XP):l.length<=muO l:=by
 induction l with
 | nil=>simp
 | cons r l ih=>simp [muO];omega
theorem wXC_eq (c:XCmd):wXC c=2+wX c.body+wX c.els:=by cases c;simp [wXC,XCmd.body,XCmd.els]
theorem wX_append (a b:List XCmd):wX (a ++ b)=wX a+wX b:=by
 induction a with
 | nil=>simp [wX]
 | cons r a ih=>simp [wX,ih];omega
theorem muO_kid (c d:XCmd):muO (kid c d)=wXC c:=by rw [wXC_eq];simp [kid,muO];omega
theorem kidsN_succ (p:XP) (i:Nat):kidsN p (i+1)=kidsN p i ++ kid (p.1.1.getD i (Ty.zero .xcmd)) (p.2.1.getD i (Ty.zero .xcmd)):=by
 simp [kidsN,List.range_succ,List.flatMap_append]
theorem muO_kids (p:XP):∀ i,i<=p.1.1.length->muO (kidsN p i)=wX (p.1.1.take i):=by
 intro i
 induction i with
 | zero=>intro _;simp [kidsN,muO,wX]
 | succ i ih =>
  intro h
  rw [kidsN_succ,muO_append,ih (by omega),muO_kid,List.take_add_one,List.getElem?_eq_getElem (by omega)]
  simp only [Option.toList_some,wX_append,wX,Nat.add_zero,List.getD_eq_getElem?_getD,List.getElem?_eq_getElem (show i < p.1.1.length by omega),Option.getD_some]
theorem wX_take (l:List XCmd) (i:Nat):wX (l.take i)<=wX l:=by
 have h:wX (l.take i)+wX (l.drop i)=wX l:=by rw [← wX_append,List.take_append_drop]
 omega
theorem mem_kids {p k:XP} {i:Nat} (h:k ∈ kidsN p i):∃ j,j < i/\k ∈ kid (p.1.1.getD j (Ty.zero .xcmd)) (p.2.1.getD j (Ty.zero .xcmd)):=by
 simp only [kidsN,List.mem_flatMap,List.mem_range] at h
 exact h
theorem kids_mem {p k:XP} {i j:Nat} (hj:j < i) (h:k ∈ kid (p.1.1.getD j (Ty.zero .xcmd)) (p.2.1.getD j (Ty.zero .xcmd))):k ∈ kidsN p i:=by
 simp only [kidsN,List.mem_flatMap,List.mem_range]
 exact ⟨j,hj,h⟩
theorem nd_wX:∀ (n:Nat) (l:List XCmd),SizeOf.sizeOf l<=n->wX l=2 * ndL (eraL l):=by
 intro n
 induction n with
 | zero=>intro l hn;cases l <;> simp at hn <;> omega
 | succ n ih =>
  intro l hn
  cases l with
  | nil=>simp [wX,eraL,ndL_nil]
  | cons c l =>
   obtain ⟨k,a,b,t,i,bv,bo,lv,el⟩:=c
   simp only [List.cons.sizeOf_spec,XCmd.mk.sizeOf_spec] at hn
   simp only [wX,wXC,eraL,eraC,ndL_cons,ndC_eq,GCmd.body,GCmd.els,ih l (by omega),ih bo (by omega),ih el (by omega)]
   omega
theorem wX_nd (l:List XCmd):wX l=2 * ndL (eraL l):=nd_wX _ l (Nat.le_refl _)
def datE (r k:XP):Prop:=r.1.1=k.1.1/\r.2.1=k.2.1
theorem datE.eqP {r k:XP} (h:datE r k):eqP r ↔ eqP k:=by unfold SE.eqP;rw [h.1,h.2]
def Cov (O S:List XP) (k:XP):Prop:=(∃ r ∈ O,datE r k) ∨ (∃ r ∈ S,datE r k) ∨ (k.1.1=[]/\k.2.1=[])
structure LocN (s:XP) (i:Nat):Prop where
 l:s.1.1.length=s.2.1.length
 f:∀ j,j < i->sameX (s.1.1.getD j (Ty.zero .xcmd)) (s.2.1.getD j (Ty.zero .xcmd))=true
structure BdP (r:XP):Prop where
 a:BdL (eraL r.1.1)
 b:BdL (eraL r.2.1)
structure WInv (p:XP) (O S:List XP):Prop where
 root:Cov O S p
 loc:∀ s ∈ S,LocN s s.1.1.length
 kids:∀ s ∈ S,∀ k ∈ kidsN s s.1.1.length,Cov O S k
 eqs:eqP p->∀ r ∈ O,eqP r
 bds:∀ r ∈ O,BdP r
 mu:muO O<=2147483648
structure IInv (p:XP) (O S:List XP) (r:XP) (i:Nat):Prop where
 le:i<=r.1.1.length
 root:Cov (O ++ kidsN r i) (r :: S) p
 loc:∀ s ∈ S,LocN s s.1.1.length
 kids:∀ s ∈ S,∀ k ∈ kidsN s s.1.1.length,Cov (O ++ kidsN r i) (r :: S) k
 lr:LocN r i
 eqs:eqP p->eqP r/\∀ k ∈ O ++ kidsN r i,eqP k
 bd:BdP r
 bds:∀ k ∈ O ++ kidsN r i,BdP k
 mu:muO O+1+wX r.1.1<=2147483648
theorem eraL_get (l:List XCmd) {i:Nat} (h:i < l.length):(eraL l).getD i (Ty.zero .cmd)=eraC (l.getD i (Ty.zero .xcmd)):=by
 rw [eraL_map]
 simp [List.getD_eq_getElem?_getD,h]
theorem eraC_eq (c:XCmd):eraC c=.mk c.kind c.a c.b c.test c.inv (eraL c.body) (eraL c.els):=by cases c;simp [eraC,XCmd.kind,XCmd.a,XCmd.b,XCmd.test,XCmd.inv,XCmd.body,XCmd.els]
theorem eqP_iff (r:XP) (hl:r.1.1.length=r.2.1.length):eqP r ↔ ∀ j,j < r.1.1.length->sameX (r.1.1.getD j (Ty.zero .xcmd)) (r.2.1.getD j (Ty.zero .xcmd))=true/\∀ k ∈ kid (r.1.1.getD j (Ty.zero .xcmd)) (r.2.1.getD j (Ty.zero .xcmd)),eqP k:=by
 constructor
 ·intro h j hj
  have e:eraC (r.1.1.getD j (Ty.zero .xcmd))=eraC (r.2.1.getD j (Ty.zero .xcmd)):=by
   rw [← eraL_get _ hj,← eraL_get _ (by omega)]
   rw [show eraL r.1.1=eraL r.2.1 from h]
  rw [eraC_eq,eraC_eq,GCmd.mk.injEq] at e
  obtain ⟨h1,h2,h3,h4,h5,h6,h7⟩:=e
  refine ⟨by simp only [sameX,decide_eq_true_eq];exact ⟨h1,h2,h3,h4,h5⟩,fun k hk=>?_⟩
  simp only [kid,List.mem_cons,List.mem_nil_iff,or_false] at hk
  rcases hk with rfl | rfl
  ·exact h6
  ·exact h7
 ·intro h
  unfold eqP
  refine getD_ext (Ty.zero .cmd) (by rw [eraL_len,eraL_len,hl]) fun j hj=>?_
  rw [eraL_len] at hj
  obtain ⟨h1,h2⟩:=h j hj
  rw [eraL_get _ hj,eraL_get _ (by omega),eraC_eq,eraC_eq,GCmd.mk.injEq]
  simp only [sameX,decide_eq_true_eq] at h1
  exact ⟨h1.1,h1.2.1,h1.2.2.1,h1.2.2.2.1,h1.2.2.2.2,h2 _ (List.mem_cons_self),h2 _ (List.mem_cons_of_mem _ List.mem_cons_self)⟩
theorem eqP_len {r:XP} (h:eqP r):r.1.1.length=r.2.1.length:=by
 have:=congrArg List.length (show eraL r.1.1=eraL r.2.1 from h)
 rwa [eraL_len,eraL_len] at this
theorem bd_kids {r k:XP} {i:Nat} (h:BdP r) (hl:r.1.1.length=r.2.1.length) (hi:i<=r.1.1.length) (hk:k ∈ kidsN r i):BdP k:=by
 obtain ⟨j,hj,hk⟩:=mem_kids hk
 have h1:=h.a.get (i:=j) (d:=Ty.zero .cmd) (by rw [eraL_len];omega)
 have h2:=h.b.get (i:=j) (d:=Ty.zero .cmd) (by rw [eraL_len];omega)
 rw [eraL_get _ (by omega),eraC_eq] at h1
 rw [eraL_get _ (by omega),eraC_eq] at h2
 simp only [kid,List.mem_cons,List.mem_nil_iff,or_false] at hk
 rcases hk with rfl | rfl
 ·exact ⟨h1.b,h2.b⟩
 ·exact ⟨h1.e,h2.e⟩
theorem Cov.mono {O O' S S':List XP} {k:XP} (h:Cov O S k) (h1:∀ r ∈ O,Cov O' S' r) (h2:∀ r ∈ S,r ∈ S'):Cov O' S' k:=by
 rcases h with ⟨r,hr,e⟩ | ⟨r,hr,e⟩ | h
 ·rcases h1 r hr with ⟨q,hq,e'⟩ | ⟨q,hq,e'⟩ | ⟨a,b⟩
  ·exact .inl ⟨q,hq,e'.1.trans e.1,e'.2.trans e.2⟩
  ·exact .inr (.inl ⟨q,hq,e'.1.trans e.1,e'.2.trans e.2⟩)
  ·exact .inr (.inr ⟨e.1 ▸ a,e.2 ▸ b⟩)
 ·exact .inr (.inl ⟨r,h2 r hr,e⟩)
 ·exact .inr (.inr h)
theorem Cov.self {O S:List XP} {r:XP} (h:r ∈ O):Cov O S r:=.inl ⟨r,h,rfl,rfl⟩
theorem winv_init {p:XP} (h:BdP p) (hw:1+wX p.1.1<=2147483648):WInv p [p] [] :=
 ⟨.self (by simp),(fun _ h=>by cases h),(fun _ h=>by cases h),(fun h r hr=>by simp at hr;rw [hr];exact h),(fun r hr=>by simp at hr;rw [hr];exact h),by simp [muO];omega⟩
theorem winv_fin {p:XP} {S:List XP} (h:WInv p [] S):eqP p:=by
 have key:∀ n (s:XP),s ∈ S->wX s.1.1<=n->eqP s:=by
  intro n
  induction n with
  | zero =>
   intro s hs hn
   have hl:=(h.loc s hs).l
   have:s.1.1=[]:=by
    cases hc:s.1.1 with
    | nil=>rfl
    | cons c l=>rw [hc] at hn;simp only [wX,wXC_eq] at hn;omega
   rw [this] at hl
   have:s.2.1=[]:=List.eq_nil_of_length_eq_zero hl.symm
   unfold eqP
   simp_all
  | succ n ih =>
   intro s hs hn
   rw [eqP_iff s (h.loc s hs).l]
   intro j hj
   refine ⟨(h.loc s hs).f j hj,fun k hk=>?_⟩
   have hw:wX k.1.1 < wX s.1.1:=by
    have h1:wXC (s.1.1.getD j (Ty.zero .xcmd))<=wX s.1.1:=by
     have h2:wX (s.1.1.take (j+1))<=wX s.1.1:=wX_take _ _
     rw [List.take_add_one,List.getElem?_eq_getElem hj,wX_append] at h2
     simp only [Option.toList_some,wX] at h2
     simp only [List.getD_eq_getElem?_getD,List.getElem?_eq_getElem hj,Option.getD_some]
     omega
    rw [wXC_eq] at h1
    simp only [kid,List.mem_cons,List.mem_nil_iff,or_false] at hk
    rcases hk with rfl | rfl
    ·simp only;omega
    ·simp only;omega
   rcases h.kids s hs k (kids_mem hj hk) with ⟨r,hr,_⟩ | ⟨r,hr,e⟩ | ⟨a,b⟩
   ·cases hr
   ·exact e.eqP.1 (ih r hr (by rw [e.1];omega))
   ·unfold eqP;rw [a,b]
 rcases h.root with ⟨r,hr,_⟩ | ⟨r,hr,e⟩ | ⟨a,b⟩
 ·cases hr
 ·exact e.eqP.1 (key _ r hr (Nat.le_refl _))
 ·unfold eqP;rw [a,b]
theorem split_last {O:List XP} (h:0 < O.length):O=O.take (O.length - 1) ++ [lastP O]:=by
 have e:((O.length:Int) - (1:Int)).toNat=O.length - 1:=by omega
 unfold lastP
 rw [e]
 have h1:O.length - 1 < O.length:=by omega
 have:=List.take_append_drop (O.length - 1) O
 rw [List.drop_eq_getElem_cons h1] at this
 have h2:O.drop (O.length - 1+1)=[]:=List.drop_eq_nil_of_le (by omega)
 rw [h2] at this
 rw [List.getD_eq_getElem?_getD,List.getElem?_eq_getElem h1]
 exact this.symm
theorem lastP_mem {O:List XP} (h:0 < O.length):lastP O ∈ O:=by
 have e:((O.length:Int) - (1:Int)).toNat=O.length - 1:=by omega
 unfold lastP
 rw [e,List.getD_eq_getElem?_getD,List.getElem?_eq_getElem (by omega)]
 exact List.getElem_mem _
variable {p:XP} {O S:List XP}
theorem winv_last (h:WInv p O S) (h0:0 < O.length):BdP (lastP O)/\(eqP p->eqP (lastP O)):=by
 have hm:lastP O ∈ O:=lastP_mem h0
 exact ⟨h.bds _ hm,fun e=>h.eqs e _ hm⟩
theorem winv_pop (h:WInv p O S) (h0:0 < O.length) (hc:Cov (O.take (O.length - 1)) S (lastP O)):WInv p (O.take (O.length - 1)) S/\muO (O.take (O.length - 1)) < muO O:=by
 have hs:=split_last h0
 have hO:∀ r ∈ O,Cov (O.take (O.length - 1)) S r:=fun r hr=>by
  rw [hs] at hr
  simp only [List.mem_append,List.mem_singleton] at hr
  rcases hr with hr | rfl
  ·exact .self hr
  ·exact hc
 have hmu:muO O=muO (O.take (O.length - 1))+(1+wX (lastP O).1.1):=by
  have:=congrArg muO hs
  rw [muO_append] at this
  simpa [muO] using this
 refine ⟨⟨h.root.mono hO fun _ h=>h,h.loc,fun s hs k hk=>(h.kids s hs k hk).mono hO fun _ h=>h,fun e r hr=>h.eqs e r (List.mem_of_mem_take hr),fun r hr=>h.bds r (List.mem_of_mem_take hr),?_⟩,by omega⟩
 have:=h.mu
 omega
theorem winv_enter (h:WInv p O S) (h0:0 < O.length) (hl:(lastP O).1.1.length=(lastP O).2.1.length):IInv p (O.take (O.length - 1)) S (lastP O) 0:=by
 have hs:=split_last h0
 have hk0:kidsN (lastP O) 0=[]:=rfl
 have hO:∀ r ∈ O,Cov (O.take (O.length - 1) ++ kidsN (lastP O) 0) (lastP O :: S) r:=fun r hr=>by
  rw [hs] at hr
  simp only [List.mem_append,List.mem_singleton] at hr
  rcases hr with hr | rfl
  ·exact .self (by simp [hr])
  ·exact .inr (.inl ⟨_,List.mem_cons_self,rfl,rfl⟩)
 have hS:∀ r ∈ S,r ∈ lastP O :: S:=fun r hr=>List.mem_cons_of_mem _ hr
 have hmu:muO O=muO (O.take (O.length - 1))+(1+wX (lastP O).1.1):=by
  have:=congrArg muO hs
  rw [muO_append] at this
  simpa [muO] using this
 have hmem:lastP O ∈ O:=lastP_mem h0
 refine ⟨Nat.zero_le _,h.root.mono hO hS,h.loc,fun s hs k hk=>(h.kids s hs k hk).mono hO hS,⟨hl,fun j hj=>by omega⟩,fun e=>⟨h.eqs e _ hmem,fun k hk=>?_⟩,h.bds _ hmem,fun k hk=>?_,?_⟩
 ·rw [hk0,List.append_nil] at hk;exact h.eqs e k (List.mem_of_mem_take hk)
 ·rw [hk0,List.append_nil] at hk;exact h.bds k (List.mem_of_mem_take hk)
 ·have:=h.mu;omega
theorem iinv_ne {r:XP} {i:Nat} (h:IInv p O S r i) (hi:i < r.1.1.length) (hf:sameX (r.1.1.getD i (Ty.zero .xcmd)) (r.2.1.getD i (Ty.zero .xcmd))=false):¬ eqP p:=by
 intro e
 have:=((eqP_iff r h.lr.l).1 (h.eqs e).1 i hi).1
 rw [hf] at this;cases this
theorem iinv_step {r:XP} {i:Nat} (h:IInv p O S r i) (hi:i < r.1.1.length) (hf:sameX (r.1.1.getD i (Ty.zero .xcmd)) (r.2.1.getD i (Ty.zero .xcmd))=true):IInv p O S r (i+1):=by
 have hO:∀ k ∈ O ++ kidsN r i,Cov (O ++ kidsN r (i+1)) (r :: S) k:=fun k hk=>.self (by
  rw [kidsN_succ,← List.append_assoc];exact List.mem_append_left _ hk)
 refine ⟨hi,h.root.mono hO fun _ h=>h,h.loc,fun s hs k hk=>(h.kids s hs k hk).mono hO fun _ h=>h,⟨h.lr.l,fun j hj=>?_⟩,fun e=>⟨(h.eqs e).1,fun k hk=>?_⟩,h.bd,fun k hk=>?_,h.mu⟩
 ·by_cases e:j=i
  ·subst e;exact hf
  ·exact h.lr.f j (by omega)
 ·rcases List.mem_append.1 hk with hk | hk
  ·exact (h.eqs e).2 k (List.mem_append_left _ hk)
  ·obtain ⟨j,hj,hk⟩:=mem_kids hk
   exact ((eqP_iff r h.lr.l).1 (h.eqs e).1 j (by omega)).2 k hk
 ·rcases List.mem_append.1 hk with hk | hk
  ·exact h.bds k (List.mem_append_left _ hk)
  ·exact bd_kids h.bd h.lr.l hi hk
theorem iinv_end {r:XP} (h:IInv p O S r r.1.1.length):WInv p (O ++ kidsN r r.1.1.length) (r :: S)/\muO (O ++ kidsN r r.1.1.length) < muO O+(1+wX r.1.1):=by
 have hmu:muO (O ++ kidsN r r.1.1.length)=muO O+wX r.1.1:=by
  rw [muO_append,muO_kids r _ (Nat.le_refl _),List.take_length]
 refine ⟨⟨h.root,fun s hs=>?_,fun s hs k hk=>?_,fun e k hk=>(h.eqs e).2 k hk,h.bds,?_⟩,by omega⟩
 ·rcases List.mem_cons.1 hs with rfl | hs
  ·exact h.lr
  ·exact h.loc s hs
 ·rcases List.mem_cons.1 hs with rfl | hs
  ·exact .self (List.mem_append_right _ hk)
  ·exact h.kids s hs k hk
 ·have:=h.mu;omega
theorem iinv_len {r:XP} {i:Nat} (h:IInv p O S r i):(O ++ kidsN r i).length<=2147483648:=by
 have h1:=muO_len (O ++ kidsN r i)
 rw [muO_append,muO_kids r i h.le] at h1
 have h2:=wX_take r.1.1 i
 have:=h.mu
 omega
end Go.SE

namespace Go.SE
variable [Base]
open Go.RowKit
theorem fnM_ok {P:Program} {E:Ty->TypeId} {tab:TypeId->Option TI} {hp:Nat->Bool} {gcs:Nat->Option (List Nat × List Nat)} {perm:Nat->List (List Nat)} {l:List (FuncId × Con)} (ht:TabOk P E tab) (hmix:P.follows .mixedOrders=true) (hl:AllOk P E l) {f:FuncId} {fn:Func} {pre:List GCmd->List GCmd->Prop} (hf:P.funcs[f]?=some fn)
  (hb : fn.body = some (bodyOf fn)) (hname : (fn.name == "runtime.NumGoroutine") = false) (hn : 2 <= fn.ntmps) (hok : codeOkY tab (lookF l) hp perm true fn.ntmps (bodyOf fn) = true) {mt ct t : Nat} (hmt : mapB P mt = true) {sz by_ : Nat} {e : TypeId} (hti : tab ct = some ⟨sz, by_, .sl true e .cpair⟩) {anns : XP -> Nat -> St -> MG -> Option (AnnY MG)}
  (hvc:∀ p:XP,pre (eraL p.1.1) (eraL p.2.1)->vcY tab (lookF l) (lookP []) (spM mt ct t) noSpM (fun _=>true) hp gcs (anns p) perm (bodyOf fn) (entM p) none (retM tab fn.results.toList (decide (eraL p.1.1=eraL p.2.1)))):FnOk P E f (conM pre) :=
 ⟨⟨fn,_,hf,hname,hb⟩,fnM_sound ht (kall_of hl) (pall_of (l:=[]) trivial) hmix (fun _ _ _=>draw_sound ht (tab_small ht) (kall_of hl) hmix _ _ _) hf hb hn hok hmt hti hvc,fun x _=>⟨_,rfl⟩⟩
end Go.SE
