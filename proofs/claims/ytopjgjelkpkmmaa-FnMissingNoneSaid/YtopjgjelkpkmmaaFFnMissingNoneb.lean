/-
  Contracts of single functions of the program, each shown by the engine: what a call returns for arguments within the contract's bounds.
-/
import Derived.Test.YtopjgjelkpkmmaaFFnMissingNonea
import Derived.Test.YtopjgjelkpkmmaaEd
import Derived.Test.YtopjgjelkpkmmaaEc
import Derived.Test.YtopjgjelkpkmmaaEe
set_option linter.unusedSimpArgs false
set_option linter.unusedVariables false
set_option linter.unusedSectionVars false

namespace Go.Proofs.Ytopjgjelkpkmmaa
open Go.SE Go.RowKit
set_option linter.unusedSimpArgs false
set_option linter.unusedVariables false
set_option maxHeartbeats 1000000
set_option maxRecDepth 100000
def lmHp:Nat->Bool
 | 4=>true
 | _=>false
def seqL:Code->Code
 | .seq a _=>a
 | c=>c
def seqR:Code->Code
 | .seq _ a=>a
 | c=>c
def loopB:Code->Code
 | .block _ (.loop a)=>a
 | c=>c
noncomputable def lmLB:Code:=loopB (seqR (seqL (seqR (bodyOf Try.f81))))
theorem lm_code:bodyOf Try.f81=.seq (seqL (bodyOf Try.f81)) (.seq (.seq (seqL (seqL (seqR (bodyOf Try.f81)))) (.block 0 (.loop lmLB))) (seqR (seqR (bodyOf Try.f81)))):=by rfl
def lmAnn (n:Int) (acc:Int->Bool) (base:Nat):Nat->Option Ann
 | 2=>some { α:=Nat,ok:=fun m=>(m:Int)<=2 ^ n.toNat/\∀ j:Nat,j < m->acc j=false,mu:=fun m=>2 ^ n.toNat - m,i0:=fun _=>0,nx:=fun m _=>m+1,live:=[0,1],sets:=fun m=>[(6,sv (.int .i64 (m:Int)))],mids:=[],blks:=fun _=>[],owns:=fun _=>[],rd:=fun r _=>r,base:=base }
 | _=>none
def lmAnnS (c:ClC) (args:List S0) (base:Nat) (st:St):Nat->Option Ann :=
 match args with
 | [.c (.d (.val (.int .i64 n))),.c (.fn _ [i1,i2])]=>match asnBlk st i1,asnBlk st i2 with
  | some a,some b=>lmAnn n (fun m=>c.acc m a b) base
  | _,_=>fun _=>none
 | _=>fun _=>none
theorem lm_round (c:ClC) (h:St) (n m:Int) (f:Nat) (i1 i2:Nat) (a b:GAsn) (O:Nat->Option Res) (ann:Nat->Option Ann) (Q:XK->St->Prop) (e0:h.env 0=.s (.c (.d (.val (.int .i64 n))))) (e1:h.env 1=.s (.c (.fn f [i1,i2]))) (e6:h.env 6=.s (.c (.d (.val (.int .i64 m))))) (hrd:h.rd=none)
  (ha:∀ env sp fr base rd,asnBlk { env:=env,mem:=h.mem,sp:=sp,fr:=fr,base:=base,rd:=rd } i1=some a) (hb':∀ env sp fr base rd,asnBlk { env:=env,mem:=h.mem,sp:=sp,fr:=fr,base:=base,rd:=rd } i2=some b)
  (hb:∀ env sp fr base rd,blkIds { env:=env,mem:=h.mem,sp:=sp,fr:=fr,base:=base,rd:=rd } [i1,i2]=true)
  (h0:0<=n) (h62:n<=62) (hm0:0<=m) (hpre:m < 2 ^ n.toNat->c.pre m a b)
  (q1:m < 2 ^ n.toNat->c.acc m a b=true->∀ env,env 4=.s (.c (.d (.val (.int .i64 m))))->env 5=.s (.c (.d (.val (.bool true))))->Q .ret { env:=env,mem:=h.mem,sp:=h.sp,fr:=h.fr,base:=h.base,rd:=none })
  (q2:m < 2 ^ n.toNat->c.acc m a b=false->∀ env,env 0=h.env 0->env 1=h.env 1->env 6=.s (.c (.d (.val (.int .i64 (m+1)))))->Q .normal { env:=env,mem:=h.mem,sp:=h.sp,fr:=h.fr,base:=h.base,rd:=none })
  (q3:¬ m < 2 ^ n.toNat->∀ env,Q (.exit 0) { env:=env,mem:=h.mem,sp:=h.sp,fr:=h.fr,base:=h.base,rd:=none }) :
  vcP tab (lookF []) O (lookP [(f,ptCl c)]) lmHp (fun _=>none) ann (fun _=>[]) lmLB h Q:=by
 have hp:=pow62 h0 h62
 dsimp only [lmLB,loopB,seqR,seqL,bodyOf,Try.f81]
 simp only [e0,e1,e6,hrd,hb,ha,hb',hp.1,ptCl,List.map_cons,List.map_nil,List.cons_append,List.nil_append,upd,lmHp,SE.lookF,tab2,tab3,tab4,tab5,tab7,tab9,tab12,tab13,tab21,tab22,tab23,tab24,tab25,tab26,tab29,tab30,tab31,tab38,tab39,tab40,tab41,tab65,tab66,tab67,tab68,tab71,tab77,tab78,tab93,tab94,tab104,tab105,tab110,tab111,tab112,tab119,tab121,tab130,tab139,tab141,tab149,tab151,tab156,tab157,tab158,Option.map_none,Option.map_some,if_true,if_false,reduceCtorEq,Option.getD_some,Nat.reduceEqDiff,vcReg,condK,seqK,blockK,vcOps,vcStep,vcOp,vcTr,vcDet_some,vcDet_none,vcIf_true,vcIf_false,gslot,trOp,trMove,trPick,trBin,argsS,ev,constS,junk,sv,St.app,St.put,noJunk,inK,binI,shf,isShift,intOp,vcP,vcRegP,vcOpsP,vcStepP,vcOpP,vcOpX,idxOf,cloK,cloOf,withPtrs,ptK,ptOf,vcPt,gcK,lookP,ptBase,St.back,adds,sets,cond_true,true_and,and_true]
 rw [vcIf_iff,decide_eq_true_eq,decide_eq_false_iff_not]
 refine ⟨h0,fun hlt=>⟨hpre hlt,?_⟩,fun hge=>q3 hge _⟩
 rw [vcIf_iff]
 refine ⟨fun ht=>q1 hlt ht _ rfl rfl,fun hf=>⟨?_,q2 hlt hf _ rfl rfl rfl⟩⟩
 have h2:=hp.2.1
 have:IntKind.i64.min=-9223372036854775808:=rfl
 have:IntKind.i64.max=9223372036854775807:=rfl
 omega
theorem lm_fits (st s0 st':St) (n m:Int) (f i1 i2:Nat) (hm0:s0.mem=st.mem) (hm:st'.mem=st.mem) (hs:∀ j,(st.mem j).isSome=true->st'.sp j=s0.sp j/\st'.fr j=s0.fr j) (e0:s0.env 0=.s (.c (.d (.val (.int .i64 n))))) (e1:s0.env 1=.s (.c (.fn f [i1,i2]))) (h0:st'.env 0=s0.env 0) (h1:st'.env 1=s0.env 1) (h6:st'.env 6=.s (.c (.d (.val (.int .i64 m)))))
  (hi:(st.mem i1).isSome=true) (hj:(st.mem i2).isSome=true) (hrd:st'.rd=none):fitsP st.mem [0,1] [(6,sv (.int .i64 m))] [] [] [] none s0 st':=by
 refine ⟨⟨h0,h1,trivial⟩,⟨h6,trivial⟩,trivial,trivial,trivial,trivial,trivial,trivial,?_,⟨trivial,trivial⟩,trivial,trivial,trivial,fun j hj' _=>?_,fun _ _ _ _ _ _=>trivial,by rw [hrd];trivial⟩
 ·refine ⟨?_,?_,trivial⟩
  ·rw [e0];trivial
  ·rw [e1]
   exact ⟨by rw [hi,Bool.or_true],by rw [hj,Bool.or_true],trivial⟩
 ·exact ⟨by rw [hm0],by rw [hm,hm0],(hs j hj').1,(hs j hj').2⟩
theorem lm_loop (c:ClC) (st s0:St) (base:Nat) (n:Int) (f i1 i2:Nat) (a b:GAsn) (ha:asnBlk st i1=some a) (hb:asnBlk st i2=some b) (h0:0<=n) (h62:n<=62) (hpre:∀ m:Int,0<=m->m < 2 ^ n.toNat->c.pre m a b)
  (hm0:s0.mem=st.mem) (hs0:∀ j,(st.mem j).isSome=true->s0.sp j=st.sp j/\s0.fr j=st.fr j) (hrd:s0.rd=none) (e0:s0.env 0=.s (.c (.d (.val (.int .i64 n))))) (e1:s0.env 1=.s (.c (.fn f [i1,i2]))) (e6:s0.env 6=.s (.c (.d (.val (.int .i64 0))))) (ann:Nat->Option Ann) (Q:XK->St->Prop)
  (q1:∀ m:Nat,(m:Int) < 2 ^ n.toNat->(∀ j:Nat,j < m->c.acc j a b=false)->c.acc m a b=true->∀ st',st'.mem=st.mem->(∀ j,(st.mem j).isSome=true->st'.sp j=st.sp j/\st'.fr j=st.fr j)->st'.rd=none->st'.env 4=.s (.c (.d (.val (.int .i64 m))))->st'.env 5=.s (.c (.d (.val (.bool true))))->Q .ret st')
  (q3:∀ m:Nat,¬ (m:Int) < 2 ^ n.toNat->(∀ j:Nat,j < m->c.acc j a b=false)->∀ st',st'.mem=st.mem->(∀ j,(st.mem j).isSome=true->st'.sp j=st.sp j/\st'.fr j=st.fr j)->st'.rd=none->Q (.exit 0) st') :
  vcLoopP st.mem (fun st' Q'=>vcP tab (lookF []) st.mem (lookP [(f,ptCl c)]) lmHp (fun _=>none) ann (fun _=>[]) lmLB st' Q') s0 Q (lmAnn n (fun m=>c.acc m a b) base 2):=by
 have hp:=pow62 h0 h62
 have m1:(st.mem i1).isSome=true:=by rw [asnBlk_mem ha];rfl
 have m2:(st.mem i2).isSome=true:=by rw [asnBlk_mem hb];rfl
 have tm:tabM st.mem s0.mem []=st.mem:=by
  rw [hm0]
  funext j
  simp only [tabM]
  cases st.mem j <;> rfl
 have tq:∀ (q:Nat->Bool) j,(st.mem j).isSome=true->tabQ st.mem q [] j=q j:=fun q j hj=>by
  simp only [tabQ]
  cases hq:st.mem j with
  | none=>rw [hq] at hj;cases hj
  | some r=>rfl
 have e2:((2 ^ n.toNat:Nat):Int)=2 ^ n.toNat:=by push_cast;rfl
 refine ⟨⟨⟨by show ((0:Nat):Int)<=_;omega,fun j hj=>absurd hj (Nat.not_lt_zero _)⟩,?_⟩,fun m hm=>?_⟩
 ·show fitsP st.mem [0,1] [(6,sv (.int .i64 ((0:Nat):Int)))] [] [] [] s0.rd s0 s0
  rw [hrd]
  exact lm_fits st s0 s0 n 0 f i1 i2 hm0 hm0 (fun _ _=>⟨rfl,rfl⟩) e0 e1 rfl rfl e6 m1 m2 hrd
 ·obtain ⟨hle,hno⟩:=hm
  show vcP tab (lookF []) st.mem _ lmHp _ ann _ lmLB (headP st.mem [0,1] [(6,sv (.int .i64 (m:Int)))] [] [] [] base s0.rd s0) _
  have hmem:(headP st.mem [0,1] [(6,sv (.int .i64 (m:Int)))] [] [] [] base s0.rd s0).mem=st.mem:=tm
  have hsp:∀ j,(st.mem j).isSome=true->(headP st.mem [0,1] [(6,sv (.int .i64 (m:Int)))] [] [] [] base s0.rd s0).sp j=s0.sp j/\(headP st.mem [0,1] [(6,sv (.int .i64 (m:Int)))] [] [] [] base s0.rd s0).fr j=s0.fr j:=fun j hj=>⟨tq _ j hj,tq _ j hj⟩
  have hrd':(headP st.mem [0,1] [(6,sv (.int .i64 (m:Int)))] [] [] [] base s0.rd s0).rd=none:=hrd
  have he0:(headP st.mem [0,1] [(6,sv (.int .i64 (m:Int)))] [] [] [] base s0.rd s0).env 0=s0.env 0:=rfl
  have he1:(headP st.mem [0,1] [(6,sv (.int .i64 (m:Int)))] [] [] [] base s0.rd s0).env 1=s0.env 1:=rfl
  have he6:(headP st.mem [0,1] [(6,sv (.int .i64 (m:Int)))] [] [] [] base s0.rd s0).env 6=.s (.c (.d (.val (.int .i64 (m:Int))))):=rfl
  generalize headP st.mem [0,1] [(6,sv (.int .i64 (m:Int)))] [] [] [] base s0.rd s0=h at hmem hsp hrd' he0 he1 he6
  have hsp':∀ j,(st.mem j).isSome=true->h.sp j=st.sp j/\h.fr j=st.fr j:=fun j hj=>⟨(hsp j hj).1.trans (hs0 j hj).1,(hsp j hj).2.trans (hs0 j hj).2⟩
  refine lm_round c h n (m:Int) f i1 i2 a b st.mem ann _ (he0.trans e0) (he1.trans e1) he6 hrd' ?_ ?_ ?_ h0 h62 (by omega) (fun hlt=>hpre _ (by omega) hlt) ?_ ?_ ?_
  ·intro env sp fr base rd
   unfold asnBlk at ha ⊢
   rw [hmem];exact ha
  ·intro env sp fr base rd
   unfold asnBlk at hb ⊢
   rw [hmem];exact hb
  ·intro env sp fr base rd
   simp only [blkIds,hmem,asnBlk_mem ha,asnBlk_mem hb]
  ·intro hlt hacc env h4 h5
   exact q1 m hlt hno hacc _ hmem hsp' rfl h4 h5
  ·intro hlt hacc env g0 g1 g6
   show (((m+1:Nat):Int)<=2 ^ n.toNat/\∀ j:Nat,j < m+1->c.acc j a b=false)/\2 ^ n.toNat - (m+1) < 2 ^ n.toNat - m/\fitsP st.mem [0,1] [(6,sv (.int .i64 ((m+1:Nat):Int)))] [] [] [] s0.rd s0 _
   refine ⟨⟨by omega,fun j hj=>?_⟩,by omega,?_⟩
   ·by_cases e:j=m
    ·subst e;exact hacc
    ·exact hno j (by omega)
   ·rw [hrd]
    exact lm_fits st s0 _ n ((m+1:Nat):Int) f i1 i2 hm0 hmem hsp e0 e1 (g0.trans he0) (g1.trans he1) (by rw [show ((m+1:Nat):Int)=(m:Int)+1 by omega];exact g6) m1 m2 rfl
  ·intro hge env
   exact q3 m hge hno _ hmem hsp' rfl
theorem lm_vc (c:ClC) (st:St) (base:Nat) (n:Int) (f i1 i2:Nat) (a b:GAsn) (ha:asnBlk st i1=some a) (hb:asnBlk st i2=some b) (hrd:st.rd=none) (h0:0<=n) (h62:n<=62) (hpre:∀ m:Int,0<=m->m < 2 ^ n.toNat->c.pre m a b) (k:S->St->Prop)
  (hk:∀ st',st'.mem=st.mem->(∀ j,(st.mem j).isSome=true->st'.sp j=st.sp j/\st'.fr j=st.fr j)->st'.rd=none->k (.tup [.c (.d (.val (.int .i64 (lmI (fun m=>c.acc m a b) n)))),.c (.d (.val (.bool (lmB (fun m=>c.acc m a b) n))))]) st') :
  inl tab (lookF []) (lookP [(f,ptCl c)]) lmHp (fun _ _=>none) (lmAnnS c) (fun _=>[]) Try.f81.ntmps (bodyOf Try.f81) Try.f81.results.toList [.c (.d (.val (.int .i64 n))),.c (.fn f [i1,i2])] base st k:=by
 have hp:=pow62 h0 h62
 refine ⟨by show 2<=17;decide,?_⟩
 have hA:lmAnnS c [.c (.d (.val (.int .i64 n))),.c (.fn f [i1,i2])] base st=lmAnn n (fun m=>c.acc m a b) base:=by
  unfold lmAnnS
  simp only [ha,hb]
 rw [hA,lm_code]
 have m1:=asnBlk_mem ha
 have m2:=asnBlk_mem hb
 have tm:∀ m:Nat->Option Res,m=st.mem->tabM st.mem m []=st.mem:=fun m hm=>by
  subst hm
  funext j
  simp only [tabM]
  cases st.mem j <;> rfl
 have tq:∀ (q:Nat->Bool) j,(st.mem j).isSome=true->tabQ st.mem q [] j=q j:=fun q j hj=>by
  simp only [tabQ]
  cases hq:st.mem j with
  | none=>rw [hq] at hj;cases hj
  | some r=>rfl
 simp only [vcP,seqK,gcK,blockK]
 dsimp only [seqL,seqR,bodyOf,Try.f81]
 simp only [inlSt,envOf,upd,SE.lookF,tab2,tab3,tab4,tab5,tab7,tab9,tab12,tab13,tab21,tab22,tab23,tab24,tab25,tab26,tab29,tab30,tab31,tab38,tab39,tab40,tab41,tab65,tab66,tab67,tab68,tab71,tab77,tab78,tab93,tab94,tab104,tab105,tab110,tab111,tab112,tab119,tab121,tab130,tab139,tab141,tab149,tab151,tab156,tab157,tab158,hrd,Option.map_none,Option.map_some,reduceCtorEq,Option.getD_some,Nat.reduceEqDiff,vcReg,condK,seqK,blockK,vcOps,vcStep,vcOp,vcTr,vcDet_some,vcDet_none,trOp,trMove,ev,constS,junk,sv,St.app,St.put,vcP,vcRegP,vcOpsP,lmHp,gcK,adds,sets,true_and,and_true]
 rw [show firstReg lmLB=2 from rfl]
 refine lm_loop c st _ base n f i1 i2 a b ha hb h0 h62 hpre ?_ ?_ ?_ ?_ ?_ ?_ _ _ ?_ ?_
 ·rfl
 ·exact fun _ _=>⟨rfl,rfl⟩
 ·rfl
 ·rfl
 ·rfl
 ·rfl
 ·intro m hlt hno hacc st' g1 g2 g3 g4 g5
  obtain ⟨l1,l2⟩:=lm_found (acc:=fun m=>c.acc m a b) hlt hno hacc
  show retP tab [.tmp 4,.tmp 5] k .ret st'
  simp only [retP,loadsS,loadS,g4,g5,pack1]
  rw [l1,l2]
  exact hk st' g1 g2 g3
 ·intro m hge hno st' g1 g2 g3
  obtain ⟨l1,l2⟩:=lm_none (acc:=fun m=>c.acc m a b) hge hno
  simp only [blockK,seqK,retP,loadsS,loadS,upd,pack1,Nat.reduceEqDiff,if_true,if_false]
  rw [l1,l2]
  exact hk _ g1 g2 (by simp [g3])
theorem ptok_lm {f:Nat} {c:ClC} (hF:FnOk Try.prog E f c.con):PTOk Try.prog E 81 (ptLM f c):=by
 have base:=pt_ok (l:=[]) (lp:=[(f,ptCl c)]) (hp:=lmHp) (perm:=fun _=>[]) (gcb:=fun _ _=>none) (ann:=lmAnnS c) tabOk mix trivial ⟨ptCl_ok hF,trivial⟩ Try.func81 rfl (by kernel_rfl) (by kernel_rfl)
 refine ⟨base.fn,?_⟩
 intro w0 M g st w args vs bs k hg hcl hrefs hargs hv
 unfold ptLM at hv
 split at hv
 ·rename_i n f' i1 i2
  split at hv
  ·rename_i a b ha hb
   obtain ⟨rfl,hrd,⟨h0,h62⟩,hpre,hk⟩:=hv
   have hi:=lm_vc c st bs n f' i1 i2 a b ha hb hrd h0 h62 hpre
    (fun s st'=>s=.tup [.c (.d (.val (.int .i64 (lmI (fun m=>c.acc m a b) n)))),.c (.d (.val (.bool (lmB (fun m=>c.acc m a b) n))))]/\st'.mem=st.mem/\(∀ j,(st.mem j).isSome=true->st'.sp j=st.sp j/\st'.fr j=st.fr j)/\st'.rd=st.rd)
    (fun st' g1 g2 g3=>⟨rfl,g1,g2,g3.trans hrd.symm⟩)
   refine Calls.mono (base.call w0 M g st w _ vs bs _ hg hcl hrefs hargs hi) fun e w' he=>?_
   obtain ⟨v,s,st',g',rfl,⟨rfl,g1,g2,g3⟩,hg',hsR,hsref,hcl',hold,hro,hρ⟩:=he
   exact ⟨v,_,st,g',rfl,hk,hg'.agree g1 g2 g3,hsR,(fun id hid=>by cases hid),hcl,fun id h=>⟨h,(hold id h).2⟩,hro,hρ⟩
  ·exact hv.elim
 ·exact hv.elim
theorem lm_roundW (c:WCon) (h:St) (n m:Int) (f:Nat) (i1 i2 i3 j0 j1 j2 j3 bs:Nat) (a b:GAsn) (O:Nat->Option Res) (ann:Nat->Option Ann) (Q:XK->St->Prop) (e0:h.env 0=.s (.c (.d (.val (.int .i64 n))))) (e1:h.env 1=.s (.c (.fn f [i1,i2,i3]))) (e6:h.env 6=.s (.c (.d (.val (.int .i64 m))))) (hrd:h.rd=none)
  (ha:∀ env sp fr base rd,asnBlk { env:=env,mem:=h.mem,sp:=sp,fr:=fr,base:=base,rd:=rd } i1=some a) (hb':∀ env sp fr base rd,asnBlk { env:=env,mem:=h.mem,sp:=sp,fr:=fr,base:=base,rd:=rd } i2=some b)
  (hb:∀ env sp fr base rd,blkIds { env:=env,mem:=h.mem,sp:=sp,fr:=fr,base:=base,rd:=rd } [i1,i2,i3]=true)
  (h3:h.mem i3=some (.blk [.own j0,.own j1,.own j2,.own j3])) (hn1:i1 ≠ i3) (hn2:i2 ≠ i3) (hsp3:h.sp i3=false) (hfr3:h.fr i3=false) (hbs:h.base=bs) (hfree:∀ env sp fr base rd,freeL { env:=env,mem:=h.mem,sp:=sp,fr:=fr,base:=base,rd:=rd } (rids kkW (ptBase bs 15)))
  (h0:0<=n) (h62:n<=62) (hm0:0<=m) (hpre:m < 2 ^ n.toNat->c.pre m a b)
  (q1:m < 2 ^ n.toNat->c.acc m a b=true->∀ env,env 4=.s (.c (.d (.val (.int .i64 m))))->env 5=.s (.c (.d (.val (.bool true))))->Q .ret { env:=env,mem:=upd (adds h.mem (ress kkW (ptBase bs 15) (c.val m a b)).2) i3 (some (.blk (owC (ptBase bs 15)))),sp:=h.sp,fr:=h.fr,base:=h.base,rd:=none })
  (q2:m < 2 ^ n.toNat->c.acc m a b=false->∀ env,env 0=h.env 0->env 1=h.env 1->env 6=.s (.c (.d (.val (.int .i64 (m+1)))))->Q .normal { env:=env,mem:=h.mem,sp:=h.sp,fr:=h.fr,base:=h.base,rd:=none })
  (q3:¬ m < 2 ^ n.toNat->∀ env,Q (.exit 0) { env:=env,mem:=h.mem,sp:=h.sp,fr:=h.fr,base:=h.base,rd:=none }) :
  vcP tab (lookF []) O (lookP [(f,ptW c)]) lmHp (fun _=>none) ann (fun _=>[]) lmLB h Q:=by
 have hp:=pow62 h0 h62
 subst hbs
 dsimp only [lmLB,loopB,seqR,seqL,bodyOf,Try.f81]
 simp only [e0,e1,e6,hrd,hb,ha,hb',h3,hsp3,hfr3,hfree,hn1,hn2,ne_eq,not_false_eq_true,hp.1,ptW,ptW3,ptWk,List.map_cons,List.map_nil,List.cons_append,List.nil_append,upd,lmHp,SE.lookF,tab2,tab3,tab4,tab5,tab7,tab9,tab12,tab13,tab21,tab22,tab23,tab24,tab25,tab26,tab29,tab30,tab31,tab38,tab39,tab40,tab41,tab65,tab66,tab67,tab68,tab71,tab77,tab78,tab93,tab94,tab104,tab105,tab110,tab111,tab112,tab119,tab121,tab130,tab139,tab141,tab149,tab151,tab156,tab157,tab158,Option.map_none,Option.map_some,if_true,if_false,reduceCtorEq,Option.getD_some,Nat.reduceEqDiff,vcReg,condK,seqK,blockK,vcOps,vcStep,vcOp,vcTr,vcDet_some,vcDet_none,vcIf_true,vcIf_false,gslot,trOp,trMove,trPick,trBin,argsS,ev,constS,junk,sv,St.app,St.put,noJunk,inK,binI,shf,isShift,intOp,vcP,vcRegP,vcOpsP,vcStepP,vcOpP,vcOpX,idxOf,cloK,cloOf,withPtrs,ptK,ptOf,vcPt,gcK,lookP,St.back,adds,sets,cond_true,true_and,and_true]
 rw [vcIf_iff,decide_eq_true_eq,decide_eq_false_iff_not]
 refine ⟨h0,fun hlt=>⟨hpre hlt,fun hf=>⟨?_,?_⟩,fun ht=>?_⟩,fun hge=>?_⟩
 ·have h2:=hp.2.1
  have:IntKind.i64.min=-9223372036854775808:=rfl
  have:IntKind.i64.max=9223372036854775807:=rfl
  omega
 ·exact q2 hlt hf _ rfl rfl rfl
 ·exact q1 hlt ht _ rfl rfl
 ·exact q3 hge _
theorem lm_fitsW (st s0 st':St) (n m:Int) (f i1 i2 i3:Nat) (hm0:s0.mem=st.mem) (hm:st'.mem=st.mem) (hs:∀ j,(st.mem j).isSome=true->st'.sp j=s0.sp j/\st'.fr j=s0.fr j) (e0:s0.env 0=.s (.c (.d (.val (.int .i64 n))))) (e1:s0.env 1=.s (.c (.fn f [i1,i2,i3]))) (h0:st'.env 0=s0.env 0) (h1:st'.env 1=s0.env 1) (h6:st'.env 6=.s (.c (.d (.val (.int .i64 m)))))
  (hi:(st.mem i1).isSome=true) (hj:(st.mem i2).isSome=true) (hk:(st.mem i3).isSome=true) (hrd:st'.rd=none):fitsP st.mem [0,1] [(6,sv (.int .i64 m))] [] [] [] none s0 st':=by
 refine ⟨⟨h0,h1,trivial⟩,⟨h6,trivial⟩,trivial,trivial,trivial,trivial,trivial,trivial,?_,⟨trivial,trivial⟩,trivial,trivial,trivial,fun j hj' _=>?_,fun _ _ _ _ _ _=>trivial,by rw [hrd];trivial⟩
 ·refine ⟨?_,?_,trivial⟩
  ·rw [e0];trivial
  ·rw [e1]
   exact ⟨by rw [hi,Bool.or_true],by rw [hj,Bool.or_true],by rw [hk,Bool.or_true],trivial⟩
 ·exact ⟨by rw [hm0],by rw [hm,hm0],(hs j hj').1,(hs j hj').2⟩
theorem lm_loopW (c:WCon) (st s0:St) (base:Nat) (n:Int) (f i1 i2 i3 j0 j1 j2 j3:Nat) (a b:GAsn) (ha:asnBlk st i1=some a) (hb:asnBlk st i2=some b) (h3:st.mem i3=some (.blk [.own j0,.own j1,.own j2,.own j3])) (hn1:i1 ≠ i3) (hn2:i2 ≠ i3) (hsp3:st.sp i3=false) (hfr3:st.fr i3=false) (hfree:freeL st (rids kkW (ptBase base 15))) (h0:0<=n) (h62:n<=62) (hpre:∀ m:Int,0<=m->m < 2 ^ n.toNat->c.pre m a b)
  (hm0:s0.mem=st.mem) (hs0:∀ j,(st.mem j).isSome=true->s0.sp j=st.sp j/\s0.fr j=st.fr j) (hrd:s0.rd=none) (e0:s0.env 0=.s (.c (.d (.val (.int .i64 n))))) (e1:s0.env 1=.s (.c (.fn f [i1,i2,i3]))) (e6:s0.env 6=.s (.c (.d (.val (.int .i64 0))))) (ann:Nat->Option Ann) (Q:XK->St->Prop)
  (q1:∀ m:Nat,(m:Int) < 2 ^ n.toNat->(∀ j:Nat,j < m->c.acc j a b=false)->c.acc m a b=true->∀ st',st'.mem=upd (adds st.mem (ress kkW (ptBase base 15) (c.val m a b)).2) i3 (some (.blk (owC (ptBase base 15))))->(∀ j,st'.sp j=clO st.mem st.sp j/\st'.fr j=clO st.mem st.fr j)->st'.rd=none->st'.env 4=.s (.c (.d (.val (.int .i64 m))))->st'.env 5=.s (.c (.d (.val (.bool true))))->Q .ret st')
  (q3:∀ m:Nat,¬ (m:Int) < 2 ^ n.toNat->(∀ j:Nat,j < m->c.acc j a b=false)->∀ st',st'.mem=st.mem->(∀ j,(st.mem j).isSome=true->st'.sp j=st.sp j/\st'.fr j=st.fr j)->st'.rd=none->Q (.exit 0) st') :
  vcLoopP st.mem (fun st' Q'=>vcP tab (lookF []) st.mem (lookP [(f,ptW c)]) lmHp (fun _=>none) ann (fun _=>[]) lmLB st' Q') s0 Q (lmAnn n (fun m=>c.acc m a b) base 2):=by
 have hp:=pow62 h0 h62
 have m1:(st.mem i1).isSome=true:=by rw [asnBlk_mem ha];rfl
 have m2:(st.mem i2).isSome=true:=by rw [asnBlk_mem hb];rfl
 have m3:(st.mem i3).isSome=true:=by rw [h3];rfl
 have tm:tabM st.mem s0.mem []=st.mem:=by
  rw [hm0]
  funext j
  simp only [tabM]
  cases st.mem j <;> rfl
 have tq:∀ (q:Nat->Bool) j,(st.mem j).isSome=true->tabQ st.mem q [] j=q j:=fun q j hj=>by
  simp only [tabQ]
  cases hq:st.mem j with
  | none=>rw [hq] at hj;cases hj
  | some r=>rfl
 have e2:((2 ^ n.toNat:Nat):Int)=2 ^ n.toNat:=by push_cast;rfl
 refine ⟨⟨⟨by show ((0:Nat):Int)<=_;omega,fun j hj=>absurd hj (Nat.not_lt_zero _)⟩,?_⟩,fun m hm=>?_⟩
 ·show fitsP st.mem [0,1] [(6,sv (.int .i64 ((0:Nat):Int)))] [] [] [] s0.rd s0 s0
  rw [hrd]
  exact lm_fitsW st s0 s0 n 0 f i1 i2 i3 hm0 hm0 (fun _ _=>⟨rfl,rfl⟩) e0 e1 rfl rfl e6 m1 m2 m3 hrd
 ·obtain ⟨hle,hno⟩:=hm
  show vcP tab (lookF []) st.mem _ lmHp _ ann _ lmLB (headP st.mem [0,1] [(6,sv (.int .i64 (m:Int)))] [] [] [] base s0.rd s0) _
  have hmem:(headP st.mem [0,1] [(6,sv (.int .i64 (m:Int)))] [] [] [] base s0.rd s0).mem=st.mem:=tm
  have hsp:∀ j,(st.mem j).isSome=true->(headP st.mem [0,1] [(6,sv (.int .i64 (m:Int)))] [] [] [] base s0.rd s0).sp j=s0.sp j/\(headP st.mem [0,1] [(6,sv (.int .i64 (m:Int)))] [] [] [] base s0.rd s0).fr j=s0.fr j:=fun j hj=>⟨tq _ j hj,tq _ j hj⟩
  have hcl:∀ j,(headP st.mem [0,1] [(6,sv (.int .i64 (m:Int)))] [] [] [] base s0.rd s0).sp j=clO st.mem st.sp j/\(headP st.mem [0,1] [(6,sv (.int .i64 (m:Int)))] [] [] [] base s0.rd s0).fr j=clO st.mem st.fr j:=fun j=>by
   show tabQ st.mem s0.sp [] j=_/\tabQ st.mem s0.fr [] j=_
   simp only [tabQ,clO]
   cases hq:st.mem j with
   | none=>exact ⟨rfl,rfl⟩
   | some r=>exact hs0 j (by rw [hq];rfl)
  have hbs:(headP st.mem [0,1] [(6,sv (.int .i64 (m:Int)))] [] [] [] base s0.rd s0).base=base:=rfl
  have hrd':(headP st.mem [0,1] [(6,sv (.int .i64 (m:Int)))] [] [] [] base s0.rd s0).rd=none:=hrd
  have he0:(headP st.mem [0,1] [(6,sv (.int .i64 (m:Int)))] [] [] [] base s0.rd s0).env 0=s0.env 0:=rfl
  have he1:(headP st.mem [0,1] [(6,sv (.int .i64 (m:Int)))] [] [] [] base s0.rd s0).env 1=s0.env 1:=rfl
  have he6:(headP st.mem [0,1] [(6,sv (.int .i64 (m:Int)))] [] [] [] base s0.rd s0).env 6=.s (.c (.d (.val (.int .i64 (m:Int))))):=rfl
  generalize headP st.mem [0,1] [(6,sv (.int .i64 (m:Int)))] [] [] [] base s0.rd s0=h at hmem hsp hcl hbs hrd' he0 he1 he6
  have hsp':∀ j,(st.mem j).isSome=true->h.sp j=st.sp j/\h.fr j=st.fr j:=fun j hj=>⟨(hsp j hj).1.trans (hs0 j hj).1,(hsp j hj).2.trans (hs0 j hj).2⟩
  refine lm_roundW c h n (m:Int) f i1 i2 i3 j0 j1 j2 j3 base a b st.mem ann _ (he0.trans e0) (he1.trans e1) he6 hrd' ?_ ?_ ?_ (by rw [hmem];exact h3) hn1 hn2 (by rw [(hsp' i3 m3).1];exact hsp3) (by rw [(hsp' i3 m3).2];exact hfr3) hbs ?_ h0 h62 (by omega) (fun hlt=>hpre _ (by omega) hlt) ?_ ?_ ?_
  ·intro env sp fr base rd
   unfold asnBlk at ha ⊢
   rw [hmem];exact ha
  ·intro env sp fr base rd
   unfold asnBlk at hb ⊢
   rw [hmem];exact hb
  ·intro env sp fr base rd
   simp only [blkIds,hmem,asnBlk_mem ha,asnBlk_mem hb,h3]
  ·intro env sp fr base' rd
   rw [hmem]
   exact hfree
  ·intro hlt hacc env h4 h5
   exact q1 m hlt hno hacc _ (by rw [hmem]) hcl rfl h4 h5
  ·intro hlt hacc env g0 g1 g6
   show (((m+1:Nat):Int)<=2 ^ n.toNat/\∀ j:Nat,j < m+1->c.acc j a b=false)/\2 ^ n.toNat - (m+1) < 2 ^ n.toNat - m/\fitsP st.mem [0,1] [(6,sv (.int .i64 ((m+1:Nat):Int)))] [] [] [] s0.rd s0 _
   refine ⟨⟨by omega,fun j hj=>?_⟩,by omega,?_⟩
   ·by_cases e:j=m
    ·subst e;exact hacc
    ·exact hno j (by omega)
   ·rw [hrd]
    exact lm_fitsW st s0 _ n ((m+1:Nat):Int) f i1 i2 i3 hm0 hmem hsp e0 e1 (g0.trans he0) (g1.trans he1) (by rw [show ((m+1:Nat):Int)=(m:Int)+1 by omega];exact g6) m1 m2 m3 rfl
  ·intro hge env
   exact q3 m hge hno _ hmem hsp' rfl
def lmAnnW (c:WCon) (args:List S0) (base:Nat) (st:St):Nat->Option Ann :=
 match args with
 | [.c (.d (.val (.int .i64 n))),.c (.fn _ [i1,i2,_])]=>match asnBlk st i1,asnBlk st i2 with
  | some a,some b=>lmAnn n (fun m=>c.acc m a b) base
  | _,_=>fun _=>none
 | _=>fun _=>none
theorem lm_vcW (c:WCon) (st:St) (base:Nat) (n:Int) (f i1 i2 i3 j0 j1 j2 j3:Nat) (a b:GAsn) (ha:asnBlk st i1=some a) (hb:asnBlk st i2=some b) (hrd:st.rd=none) (h3:st.mem i3=some (.blk [.own j0,.own j1,.own j2,.own j3])) (hn1:i1 ≠ i3) (hn2:i2 ≠ i3) (hsp3:st.sp i3=false) (hfr3:st.fr i3=false) (hfree:freeL st (rids kkW (ptBase base 15))) (h0:0<=n) (h62:n<=62) (hpre:∀ m:Int,0<=m->m < 2 ^ n.toNat->c.pre m a b) (k:S->St->Prop)
  (hk0:lmB (fun m=>c.acc m a b) n=false->∀ st',st'.mem=st.mem->(∀ j,(st.mem j).isSome=true->st'.sp j=st.sp j/\st'.fr j=st.fr j)->st'.rd=none->k (.tup [.c (.d (.val (.int .i64 0))),.c (.d (.val (.bool false)))]) st')
  (hk1:lmB (fun m=>c.acc m a b) n=true->∀ st',st'.mem=upd (adds st.mem (ress kkW (ptBase base 15) (c.val (lmI (fun m=>c.acc m a b) n) a b)).2) i3 (some (.blk (owC (ptBase base 15))))->(∀ j,st'.sp j=clO st.mem st.sp j/\st'.fr j=clO st.mem st.fr j)->st'.rd=none->k (.tup [.c (.d (.val (.int .i64 (lmI (fun m=>c.acc m a b) n)))),.c (.d (.val (.bool true)))]) st') :
  inl tab (lookF []) (lookP [(f,ptW c)]) lmHp (fun _ _=>none) (lmAnnW c) (fun _=>[]) Try.f81.ntmps (bodyOf Try.f81) Try.f81.results.toList [.c (.d (.val (.int .i64 n))),.c (.fn f [i1,i2,i3])] base st k:=by
 have hp:=pow62 h0 h62
 refine ⟨by show 2<=17;decide,?_⟩
 have hA:lmAnnW c [.c (.d (.val (.int .i64 n))),.c (.fn f [i1,i2,i3])] base st=lmAnn n (fun m=>c.acc m a b) base:=by
  unfold lmAnnW
  simp only [ha,hb]
 rw [hA,lm_code]
 have m1:=asnBlk_mem ha
 have m2:=asnBlk_mem hb
 have tm:∀ m:Nat->Option Res,m=st.mem->tabM st.mem m []=st.mem:=fun m hm=>by
  subst hm
  funext j
  simp only [tabM]
  cases st.mem j <;> rfl
 have tq:∀ (q:Nat->Bool) j,(st.mem j).isSome=true->tabQ st.mem q [] j=q j:=fun q j hj=>by
  simp only [tabQ]
  cases hq:st.mem j with
  | none=>rw [hq] at hj;cases hj
  | some r=>rfl
 simp only [vcP,seqK,gcK,blockK]
 dsimp only [seqL,seqR,bodyOf,Try.f81]
 simp only [inlSt,envOf,upd,SE.lookF,tab2,tab3,tab4,tab5,tab7,tab9,tab12,tab13,tab21,tab22,tab23,tab24,tab25,tab26,tab29,tab30,tab31,tab38,tab39,tab40,tab41,tab65,tab66,tab67,tab68,tab71,tab77,tab78,tab93,tab94,tab104,tab105,tab110,tab111,tab112,tab119,tab121,tab130,tab139,tab141,tab149,tab151,tab156,tab157,tab158,hrd,Option.map_none,Option.map_some,reduceCtorEq,Option.getD_some,Nat.reduceEqDiff,vcReg,condK,seqK,blockK,vcOps,vcStep,vcOp,vcTr,vcDet_some,vcDet_none,trOp,trMove,ev,constS,junk,sv,St.app,St.put,vcP,vcRegP,vcOpsP,lmHp,gcK,adds,sets,true_and,and_true]
 rw [show firstReg lmLB=2 from rfl]
 refine lm_loopW c st _ base n f i1 i2 i3 j0 j1 j2 j3 a b ha hb h3 hn1 hn2 hsp3 hfr3 hfree h0 h62 hpre ?_ ?_ ?_ ?_ ?_ ?_ _ _ ?_ ?_
 ·rfl
 ·exact fun _ _=>⟨rfl,rfl⟩
 ·rfl
 ·rfl
 ·rfl
 ·rfl
 ·intro m hlt hno hacc st' g1 g2 g3 g4 g5
  obtain ⟨l1,l2⟩:=lm_found (acc:=fun m=>c.acc m a b) hlt hno hacc
  show retP tab [.tmp 4,.tmp 5] k .ret st'
  simp only [retP,loadsS,loadS,g4,g5,pack1]
  rw [l1] at g1 ⊢
  exact hk1 l2.symm st' g1 g2 g3
 ·intro m hge hno st' g1 g2 g3
  obtain ⟨l1,l2⟩:=lm_none (acc:=fun m=>c.acc m a b) hge hno
  simp only [blockK,seqK,retP,loadsS,loadS,upd,pack1,Nat.reduceEqDiff,if_true,if_false]
  exact hk0 l2.symm _ g1 g2 (by simp [g3])
theorem ptok_lmW {f:Nat} {c:WCon} (hF:PTOk Try.prog E f (ptW c)):PTOk Try.prog E 81 (ptLMW f c):=by
 have base:=pt_ok (l:=[]) (lp:=[(f,ptW c)]) (hp:=lmHp) (perm:=fun _=>[]) (gcb:=fun _ _=>none) (ann:=lmAnnW c) tabOk mix trivial ⟨hF,trivial⟩ Try.func81 rfl (by kernel_rfl) (by kernel_rfl)
 refine ⟨base.fn,?_⟩
 intro w0 M g st w args vs bs k hg hcl hrefs hargs hv
 unfold ptLMW at hv
 split at hv
 ·rename_i n f' i1 i2 i3
  obtain ⟨rfl,hv⟩:=hv
  unfold ptLW3 at hv
  split at hv
  ·rename_i a b j0 j1 j2 j3 ha hb h3
   obtain ⟨hn1,hn2,hrd,⟨h0,h62⟩,hsp3,hfr3,hfree,hpre,hk0,hk1⟩:=hv
   have hi:=lm_vcW c st bs n f' i1 i2 i3 j0 j1 j2 j3 a b ha hb hrd h3 hn1 hn2 hsp3 hfr3 hfree h0 h62 hpre
    (fun s st'=>st'.rd=st.rd/\((lmB (fun m=>c.acc m a b) n=false/\s=.tup [.c (.d (.val (.int .i64 0))),.c (.d (.val (.bool false)))]/\st'.mem=st.mem/\(∀ j,(st.mem j).isSome=true->st'.sp j=st.sp j/\st'.fr j=st.fr j)) ∨
     (lmB (fun m=>c.acc m a b) n=true/\s=.tup [.c (.d (.val (.int .i64 (lmI (fun m=>c.acc m a b) n)))),.c (.d (.val (.bool true)))]/\st'.mem=upd (adds st.mem (ress kkW (ptBase bs 15) (c.val (lmI (fun m=>c.acc m a b) n) a b)).2) i3 (some (.blk (owC (ptBase bs 15))))/\(∀ j,st'.sp j=clO st.mem st.sp j/\st'.fr j=clO st.mem st.fr j))))
    (fun hB st' g1 g2 g3=>⟨g3.trans hrd.symm,.inl ⟨hB,rfl,g1,g2⟩⟩) (fun hB st' g1 g2 g3=>⟨g3.trans hrd.symm,.inr ⟨hB,rfl,g1,g2⟩⟩)
   refine Calls.mono (base.call w0 M g st w _ vs bs _ hg hcl hrefs hargs hi) fun e w' he=>?_
   obtain ⟨v,s,st',g',rfl,⟨g3,hh⟩,hg',hsR,hsref,hcl',hold,hro,hρ⟩:=he
   rcases hh with ⟨hB,rfl,g1,g2⟩ | ⟨hB,rfl,g1,g2⟩
   ·exact ⟨v,_,st,g',rfl,hk0 hB,hg'.agree g1 g2 g3,hsR,(fun id hid=>by cases hid),hcl,fun id h=>⟨h,(hold id h).2⟩,hro,hρ⟩
   ·refine ⟨v,_,_,g',rfl,hk1 hB,hg'.agree g1 (fun j _=>g2 j) g3,hsR,(fun id hid=>by cases hid),?_,fun id h=>⟨?_,(hold id h).2⟩,hro,hρ⟩
    ·intro j r hj i hi
     have:=hcl' j r (by rw [g1];exact hj) i hi
     rw [g1] at this;exact this
    ·have:=(hold id h).1
     rw [g1] at this;exact this
  ·exact hv.elim
 ·exact hv.elim
abbrev c_tsWith:Con:=⟨[.u16,.int],[.u16],fun (s,t,_)=>0<=s/\s < 512,.inl fun (s,t,_)=>(tsWith s t,()),fun _=>0⟩
abbrev L_tsWith:List (FuncId × Con):=[(126,c_isTerm)]
abbrev P_tsWith:List (FuncId × PT):=[]
def VC_tsWith (s:Int) (t:Int) (k:Nat):Prop:=True/\True/\(True/\True/\True)/\True/\(vcIf (!(isT t)) (True/\True/\(((s,()):Int × Unit)=(tsWith s t,()))/\True/\True/\True/\True/\TF) (True/\True/\(0<=t)/\True/\True/\(((bits .or .u16 s (IntKind.wrap .u16 ((1:Int) * 2 ^ (min t.toNat (IntKind.bits .u16)))),()):Int × Unit)=(tsWith s t,()))/\True/\True/\True/\True/\TF))
theorem vcn_tsWith (s:Int) (t:Int) (k:Nat) (hp:0<=s/\s < 512):VC_tsWith s t k:=by
 unfold VC_tsWith
 simp only [cln,Nat.reduceEqDiff,Nat.reduceLeDiff,Nat.reduceAdd]
 simp only [vcIf_iff]
 exact ⟨fun h=>(tsWith_no (by simpa using h)).symm,fun h=>⟨(isT_iff.1 (by simpa using h)).1,tsWith_eq hp.1 hp.2 (by simpa using h)⟩⟩
theorem ok_tsWith:FnOk Try.prog E 133 c_tsWith :=
 fn_okQ (l:=L_tsWith) (lp:=P_tsWith) (hp:=fun _=>false) (gcs:=fun _=>none) (perm:=fun _=>[]) tabOk mix ⟨ok_isTerm,trivial⟩ trivial Try.func133 rfl (by kernel_rfl) (by decide) (by kernel_rfl) (anns:=fun x _=>fun _ _=>none) (fun ⟨s,t,_⟩ k hp _=>Eq.mp (by kernel_rfl) (vcn_tsWith s t k hp)) tot_fn
abbrev c_termsIn:Con:=⟨[.asn],[.u16],fun (a,_)=>a.facts.length<=281474976710656/\a.atoms.length<=281474976710656,.inl fun (a,_)=>(tsA a,()),fun _=>0⟩
abbrev L_termsIn:List (FuncId × Con):=[(133,c_tsWith)]
abbrev P_termsIn:List (FuncId × PT):=[]
def an_termsIn (a:GAsn):Nat->St->Option Ann
 | 3,se=>some { α:=Nat,ok:=fun i=>i<=a.facts.length,mu:=fun i=>a.facts.length - i,i0:=fun _=>0,nx:=fun a _=>(fun i=>i+1) a,live:=[1,2,9,10],sets:=fun i=>[(11,sv (.int .i64 i)),(3,sv (.int .u16 (tsF (a.facts.take i))))],mids:=[31],blks:=fun i=>[],owns:=fun i=>[],rd:=fun r _=>r,base:=100000 }
 | 8,se=>some { α:=Nat,ok:=fun i=>i<=a.atoms.length,mu:=fun i=>a.atoms.length - i,i0:=fun _=>0,nx:=fun a _=>(fun i=>i+1) a,live:=[2,24,25],sets:=fun i=>[(26,sv (.int .i64 i)),(3,sv (.int .u16 (tsG (tsF a.facts) (a.atoms.take i))))],mids:=[],blks:=fun i=>[],owns:=fun i=>[],rd:=fun r _=>r,base:=200000 }
 | _,_=>none
def VC_termsIn_1 (a:GAsn):Prop:=RL [.s (.c (.ptr 31 0)),.s (.c (.d (.val (.int .u16 (0:Int))))),.s (.c (.d (.arr .fact a.facts))),.s (.c (.d (.val (.int .i64 ((a.facts.length:Nat):Int)))))]
def VC_termsIn_2 (a:GAsn):Prop:=(RM [some (.blk [.d (.arr .fact a.facts),.d (.arr .atom a.atoms)])])/\(RM [])/\True/\TT
def VC_termsIn_3 (a:GAsn):Prop:=RL [.s (.c (.d (.val (.int .u16 (0:Int))))),.s (.c (.d (.arr .atom a.atoms))),.s (.c (.d (.val (.int .i64 ((a.atoms.length:Nat):Int)))))]
def VC_termsIn_4 (a:GAsn):Prop:=(((0<=a.facts.length)/\TT/\(VC_termsIn_1 a)/\(([.s (.c (.d (.val (.int .i64 (0:Int))))),.s (.c (.d (.val (.int .u16 (0:Int)))))]:List S)=[.s (.c (.d (.val (.int .i64 ((0:Nat):Int))))),.s (.c (.d (.val (.int .u16 (tsF (a.facts.take 0):Int)))))])/\(VC_termsIn_2 a))/\(∀ i1:Nat,(i1<=a.facts.length)->True/\(vcIf (decide (((i1:Nat):Int) < ((a.facts.length:Nat):Int))) ((0<=((i1:Nat):Int)/\((i1:Nat):Int) < ((a.facts.length:Nat):Int))/\True/\(TN/\True)/\(TF/\TF)/\True/\True/\True/\((0<=(tsF (a.facts.take i1):Int)/\(tsF (a.facts.take i1):Int) < 512)/\True/\True)/\True/\True/\((0<=(tsWith (tsF (a.facts.take i1):Int) ((a.facts.getD i1 (⟨false,0,0⟩:GFact)).a))/\(tsWith (tsF (a.facts.take i1):Int) ((a.facts.getD i1 (⟨false,0,0⟩:GFact)).a)) < 512)/\True/\True)/\True/\(inK .i64 (((i1:Nat):Int)+(1:Int)))/\True/\((i1+1)<=a.facts.length)/\(a.facts.length - (i1+1) < a.facts.length - i1)/\TT/\(VC_termsIn_1 a)/\(([.s (.c (.d (.val (.int .i64 (((i1:Nat):Int)+(1:Int)))))),.s (.c (.d (.val (.int .u16 (tsWith (tsWith (tsF (a.facts.take i1):Int) ((a.facts.getD i1 (⟨false,0,0⟩:GFact)).a)) ((a.facts.getD i1 (⟨false,0,0⟩:GFact)).b))))))]:List S)=[.s (.c (.d (.val (.int .i64 (((i1+1):Nat):Int))))),.s (.c (.d (.val (.int .u16 (tsF (a.facts.take (i1+1)):Int)))))])/\(VC_termsIn_2 a)) (True/\True/\True/\True/\((0<=a.atoms.length)/\TT/\(VC_termsIn_3 a)/\(([.s (.c (.d (.val (.int .i64 (0:Int))))),.s (.c (.d (.val (.int .u16 (tsF (a.facts.take i1):Int)))))]:List S)=[.s (.c (.d (.val (.int .i64 ((0:Nat):Int))))),.s (.c (.d (.val (.int .u16 (tsG (tsF a.facts) (a.atoms.take 0):Int)))))])/\(RM [])/\(RM [])/\True/\TT)/\(∀ i2:Nat,(i2<=a.atoms.length)->True/\(vcIf (decide (((i2:Nat):Int) < ((a.atoms.length:Nat):Int))) ((0<=((i2:Nat):Int)/\((i2:Nat):Int) < ((a.atoms.length:Nat):Int))/\True/\(TN/\True)/\(TF/\TF)/\True/\True/\True/\((0<=(tsG (tsF a.facts) (a.atoms.take i2):Int)/\(tsG (tsF a.facts) (a.atoms.take i2):Int) < 512)/\True/\True)/\True/\True/\((0<=(tsWith (tsG (tsF a.facts) (a.atoms.take i2):Int) ((a.atoms.getD i2 (⟨0,0,0⟩:GAtom)).a))/\(tsWith (tsG (tsF a.facts) (a.atoms.take i2):Int) ((a.atoms.getD i2 (⟨0,0,0⟩:GAtom)).a)) < 512)/\True/\True)/\True/\(inK .i64 (((i2:Nat):Int)+(1:Int)))/\True/\((i2+1)<=a.atoms.length)/\(a.atoms.length - (i2+1) < a.atoms.length - i2)/\TT/\(VC_termsIn_3 a)/\(([.s (.c (.d (.val (.int .i64 (((i2:Nat):Int)+(1:Int)))))),.s (.c (.d (.val (.int .u16 (tsWith (tsWith (tsG (tsF a.facts) (a.atoms.take i2):Int) ((a.atoms.getD i2 (⟨0,0,0⟩:GAtom)).a)) ((a.atoms.getD i2 (⟨0,0,0⟩:GAtom)).b))))))]:List S)=[.s (.c (.d (.val (.int .i64 (((i2+1):Nat):Int))))),.s (.c (.d (.val (.int .u16 (tsG (tsF a.facts) (a.atoms.take (i2+1)):Int)))))])/\(RM [])/\(RM [])/\True/\TT) (True/\True/\((((tsG (tsF a.facts) (a.atoms.take i2):Int),()):Int × Unit)=(tsA a,()))/\True/\True/\True/\True/\TF)))))))
def VC_termsIn (a:GAsn) (k:Nat):Prop:=TN/\True/\True/\True/\True/\True/\True/\(VC_termsIn_4 a)
theorem vcn_termsIn (a:GAsn) (k:Nat) (hp:a.facts.length<=281474976710656/\a.atoms.length<=281474976710656):VC_termsIn a k:=by
 unfold VC_termsIn VC_termsIn_4 VC_termsIn_3 VC_termsIn_2 VC_termsIn_1
 simp only [cln,Nat.reduceEqDiff,Nat.reduceLeDiff,Nat.reduceAdd]
 have hF:=tsF_bd
 have hW1:∀ s t,0<=s->s < 512->0<=tsWith s t:=fun _ _ h0 h1=>(tsWith_bd h0 h1).1
 have hW2:∀ s t,0<=s->s < 512->tsWith s t < 512:=fun _ _ h0 h1=>(tsWith_bd h0 h1).2
 have hF0:tsF []=0:=rfl
 have hG0:∀ z,tsG z []=z:=fun _=>rfl
 have hG:=fun l=>tsG_bd l _ (tsF_bd a.facts)
 all_goals (try simp only [opn])
 all_goals (repeat' (first | apply And.intro | intro _))
 all_goals (first | omega | (simp_all;done) | grind [tsF_step,tsG_step,tsA,take_full,Ty.zero])
theorem ok_termsIn:FnOk Try.prog E 99 c_termsIn :=
 fn_okQ (l:=L_termsIn) (lp:=P_termsIn) (hp:=fun _=>false) (gcs:=fun _=>none) (perm:=fun _=>[]) tabOk mix ⟨ok_tsWith,trivial⟩ trivial Try.func99 rfl (by kernel_rfl) (by decide) (by kernel_rfl) (anns:=fun x _=>an_termsIn x.1) (fun ⟨a,_⟩ k hp _=>Eq.mp (by kernel_rfl) (vcn_termsIn a k hp)) tot_fn
abbrev c_tsHas:Con:=⟨[.u16,.int],[.bool],fun (s,t,_)=>0<=s/\s < 512,.inl fun (s,t,_)=>(tsHas s t,()),fun _=>0⟩
abbrev L_tsHas:List (FuncId × Con):=[(126,c_isTerm)]
abbrev P_tsHas:List (FuncId × PT):=[]
def VC_tsHas (s:Int) (t:Int) (k:Nat):Prop:=True/\True/\(True/\True/\True)/\True/\(vcIf (isT t) (True/\True/\(0<=t)/\True/\True/\True/\True/\((((bits .and .u16 (Int.fdiv s (2 ^ (min t.toNat (IntKind.bits .u16)))) (1:Int)) == (1:Int),()):Bool × Unit)=(tsHas s t,()))/\True/\True/\True/\True/\TF) (True/\True/\(((false,()):Bool × Unit)=(tsHas s t,()))/\True/\True/\True/\True/\TF))
theorem vcn_tsHas (s:Int) (t:Int) (k:Nat) (hp:0<=s/\s < 512):VC_tsHas s t k:=by
 unfold VC_tsHas
 simp only [cln,Nat.reduceEqDiff,Nat.reduceLeDiff,Nat.reduceAdd]
 simp only [vcIf_iff]
 exact ⟨fun h=>⟨(isT_iff.1 h).1,tsHas_eq hp.1 hp.2 h⟩,fun h=>by simp [tsHas,h]⟩
theorem ok_tsHas:FnOk Try.prog E 156 c_tsHas :=
 fn_okQ (l:=L_tsHas) (lp:=P_tsHas) (hp:=fun _=>false) (gcs:=fun _=>none) (perm:=fun _=>[]) tabOk mix ⟨ok_isTerm,trivial⟩ trivial Try.func156 rfl (by kernel_rfl) (by decide) (by kernel_rfl) (anns:=fun x _=>fun _ _=>none) (fun ⟨s,t,_⟩ k hp _=>Eq.mp (by kernel_rfl) (vcn_tsHas s t k hp)) tot_fn
abbrev c_isFilled:Con:=⟨[.pkase,.atom],[.bool],fun (c,x,_)=>c.length=9/\atV x=true,.inl fun (c,x,_)=>(filB c x,()),fun _=>0⟩
abbrev L_isFilled:List (FuncId × Con):=[]
abbrev P_isFilled:List (FuncId × PT):=[]
def VC_isFilled (c:List Int) (x:GAtom) (k:Nat):Prop:=TN/\True/\True/\True/\True/\True/\(vcIf (x.kind == (1:Int)) (True/\True/\(((true,()):Bool × Unit)=(filB c x,()))/\True/\True/\True/\True/\TF) (True/\True/\True/\True/\(0<=x.a/\x.a < ((9:Nat):Int)/\c.length=9)/\True/\True/\True/\True/\True/\(0<=x.b/\x.b < ((9:Nat):Int)/\c.length=9)/\True/\True/\True/\True/\((((c.getD x.a.toNat (0:Int)) != (c.getD x.b.toNat (0:Int)),()):Bool × Unit)=(filB c x,()))/\True/\True/\True/\True/\TF))
theorem vcn_isFilled (c:List Int) (x:GAtom) (k:Nat) (hp:c.length=9/\atV x=true):VC_isFilled c x k:=by
 unfold VC_isFilled
 simp only [cln,Nat.reduceEqDiff,Nat.reduceLeDiff,Nat.reduceAdd]
 have h1:=atV_isT hp.2
 have h2:=isT_iff.1 h1.1
 have h3:=isT_iff.1 h1.2
 all_goals (try simp only [opn])
 all_goals (repeat' (first | apply And.intro | intro _))
 all_goals (first | omega | (simp_all;done) | grind [filB,cl])
theorem ok_isFilled:FnOk Try.prog E 139 c_isFilled :=
 fn_okQ (l:=L_isFilled) (lp:=P_isFilled) (hp:=fun _=>false) (gcs:=fun _=>none) (perm:=fun _=>[]) tabOk mix trivial trivial Try.func139 rfl (by kernel_rfl) (by decide) (by kernel_rfl) (anns:=fun x _=>fun _ _=>none) (fun ⟨c,x,_⟩ k hp _=>Eq.mp (by kernel_rfl) (vcn_isFilled c x k hp)) tot_fn
abbrev c_factHolds:Con:=⟨[.pkase,.fact],[.bool],fun (c,f,_)=>c.length=9/\fV f=true,.inl fun (c,f,_)=>(fh c f,()),fun _=>0⟩
abbrev L_factHolds:List (FuncId × Con):=[]
abbrev P_factHolds:List (FuncId × PT):=[]
def VC_factHolds (c:List Int) (f:GFact) (k:Nat):Prop:=TN/\True/\True/\True/\True/\True/\(0<=f.a/\f.a < ((9:Nat):Int)/\c.length=9)/\True/\True/\True/\True/\True/\(0<=f.b/\f.b < ((9:Nat):Int)/\c.length=9)/\True/\True/\True/\True/\True/\True/\(((((c.getD f.a.toNat (0:Int)) == (c.getD f.b.toNat (0:Int))) == f.eq,()):Bool × Unit)=(fh c f,()))/\True/\True/\True/\True/\TF
theorem vcn_factHolds (c:List Int) (f:GFact) (k:Nat) (hp:c.length=9/\fV f=true):VC_factHolds c f k:=by
 unfold VC_factHolds
 simp only [cln,Nat.reduceEqDiff,Nat.reduceLeDiff,Nat.reduceAdd]
 have h1:=fV_isT hp.2
 have h2:=isT_iff.1 h1.1
 have h3:=isT_iff.1 h1.2
 all_goals (try simp only [opn])
 all_goals (repeat' (first | apply And.intro | intro _))
 all_goals (first | omega | (simp_all;done) | grind [fh,cl])
theorem ok_factHolds:FnOk Try.prog E 158 c_factHolds :=
 fn_okQ (l:=L_factHolds) (lp:=P_factHolds) (hp:=fun _=>false) (gcs:=fun _=>none) (perm:=fun _=>[]) tabOk mix trivial trivial Try.func158 rfl (by kernel_rfl) (by decide) (by kernel_rfl) (anns:=fun x _=>fun _ _=>none) (fun ⟨c,f,_⟩ k hp _=>Eq.mp (by kernel_rfl) (vcn_factHolds c f k hp)) tot_fn
abbrev c_possible:Con:=⟨[.pkase,.asn,.int],[.bool],fun (c,a,last,_)=>c.length=9/\asV a=true/\0<=last/\last<=8,.inl fun (c,a,last,_)=>(possI a c last,()),fun _=>0⟩
abbrev L_possible:List (FuncId × Con):=[(133,c_tsWith),(139,c_isFilled),(156,c_tsHas),(158,c_factHolds)]
abbrev P_possible:List (FuncId × PT):=[]
def an_possible (c:List Int) (a:GAsn) (last:Int):Nat->St->Option Ann
 | 2,se=>some { α:=Nat,ok:=fun i=>i<=a.facts.length/\possF c last (a.facts.take i)=true,mu:=fun i=>a.facts.length - i,i0:=fun _=>0,nx:=fun a _=>(fun i=>i+1) a,live:=[0,2,4,13,14],sets:=fun i=>[(15,sv (.int .i64 i))],mids:=[79],blks:=fun i=>[],owns:=fun i=>[],rd:=fun r _=>r,base:=100000 }
 | 9,se=>some { α:=Nat,ok:=fun i=>i<=a.atoms.length/\possF c last a.facts=true/\okS [] (sts c last (a.atoms.take i))=true,mu:=fun i=>a.atoms.length - i,i0:=fun _=>0,nx:=fun a _=>(fun i=>i+1) a,live:=[0,2,37,38],sets:=fun i=>[(39,sv (.int .i64 i)),(9,sv (.int .u16 (maskS (sts c last (a.atoms.take i)))))],mids:=[],blks:=fun i=>[],owns:=fun i=>[],rd:=fun r _=>r,base:=200000 }
 | _,_=>none
def VC_possible_1 (c:List Int) (last:Int) (a:GAsn):Prop:=RL [.s (.c (.rv .int c)),.s (.c (.d (.val (.int .i64 last)))),.s (.c (.ptr 79 0)),.s (.c (.d (.arr .fact a.facts))),.s (.c (.d (.val (.int .i64 ((a.facts.length:Nat):Int)))))]
def VC_possible_2 (a:GAsn):Prop:=(RM [some (.blk [.d (.arr .fact a.facts),.d (.arr .atom a.atoms)])])/\(RM [])/\True/\TT
def VC_possible_3 (a:GAsn) (c:List Int) (last:Int):Prop:=True/\(((false,()):Bool × Unit)=(possI a c last,()))/\True/\True/\True/\True/\TF
def VC_possible_4 (i1:Nat) (a:GAsn) (c:List Int) (last:Int):Prop:=(inK .i64 (((i1:Nat):Int)+(1:Int)))/\True/\((i1+1)<=a.facts.length/\possF c last (a.facts.take (i1+1))=true)/\(a.facts.length - (i1+1) < a.facts.length - i1)/\TT/\(VC_possible_1 c last a)/\(([.s (.c (.d (.val (.int .i64 (((i1:Nat):Int)+(1:Int))))))]:List S)=[.s (.c (.d (.val (.int .i64 (((i1+1):Nat):Int)))))])/\(VC_possible_2 a)
def VC_possible_5 (i1:Nat) (a:GAsn) (c:List Int) (last:Int):Prop:=True/\(VC_possible_4 i1 a c last)
def VC_possible_6 (c:List Int) (last:Int) (a:GAsn):Prop:=RL [.s (.c (.rv .int c)),.s (.c (.d (.val (.int .i64 last)))),.s (.c (.d (.arr .atom a.atoms))),.s (.c (.d (.val (.int .i64 ((a.atoms.length:Nat):Int)))))]
def VC_possible_7 (i2:Nat) (a:GAsn) (c:List Int) (last:Int):Prop:=(i2+1)<=a.atoms.length/\possF c last a.facts=true/\okS [] (sts c last (a.atoms.take (i2+1)))=true
def VC_possible_8 (i2:Nat) (a:GAsn) (c:List Int) (last:Int):Prop:=(inK .i64 (((i2:Nat):Int)+(1:Int)))/\True/\(VC_possible_7 i2 a c last)/\(a.atoms.length - (i2+1) < a.atoms.length - i2)/\TT/\(VC_possible_6 c last a)/\(([.s (.c (.d (.val (.int .i64 (((i2:Nat):Int)+(1:Int)))))),.s (.c (.d (.val (.int .u16 (maskS (sts c last (a.atoms.take i2)):Int)))))]:List S)=[.s (.c (.d (.val (.int .i64 (((i2+1):Nat):Int))))),.s (.c (.d (.val (.int .u16 (maskS (sts c last (a.atoms.take (i2+1))):Int)))))])/\(RM [])/\(RM [])/\True/\TT
def VC_possible_9 (i2:Nat) (a:GAsn) (c:List Int) (last:Int):Prop:=True/\(VC_possible_8 i2 a c last)
def VC_possible_10 (a:GAsn) (i2:Nat) (c:List Int):Prop:=0<=((a.atoms.getD i2 (⟨0,0,0⟩:GAtom)).a)/\((a.atoms.getD i2 (⟨0,0,0⟩:GAtom)).a) < ((9:Nat):Int)/\c.length=9
def VC_possible_11 (c:List Int) (last:Int) (a:GAsn) (i2:Nat):Prop:=(0<=(maskS (sts c last (a.atoms.take i2)):Int)/\(maskS (sts c last (a.atoms.take i2)):Int) < 512)/\True/\True
def VC_possible_12 (i1:Nat) (a:GAsn) (last:Int) (c:List Int):Prop:=(True/\(vcIf (decide (((i1:Nat):Int) < ((a.facts.length:Nat):Int))) ((0<=((i1:Nat):Int)/\((i1:Nat):Int) < ((a.facts.length:Nat):Int))/\True/\(TN/\True)/\(TF/\TF)/\True/\True/\True/\True/\True/\(vcIf (decide (((a.facts.getD i1 (⟨false,0,0⟩:GFact)).a)<=last)) (True/\True/\True/\True/\True/\True/\(vcIf (decide (((a.facts.getD i1 (⟨false,0,0⟩:GFact)).b)<=last)) (True/\True/\((c.length=9/\fV (a.facts.getD i1 (⟨false,0,0⟩:GFact))=true)/\True/\True)/\True/\True/\(vcIf (!(fh c (a.facts.getD i1 (⟨false,0,0⟩:GFact)))) (VC_possible_3 a c last) (VC_possible_4 i1 a c last))) (VC_possible_5 i1 a c last))) (True/\True/\(VC_possible_5 i1 a c last)))) (True/\True/\True/\True/\True/\((0<=a.atoms.length/\possF c last a.facts=true/\okS [] (sts c last (a.atoms.take 0))=true)/\TT/\(VC_possible_6 c last a)/\(([.s (.c (.d (.val (.int .i64 (0:Int))))),.s (.c (.d (.val (.int .u16 (0:Int)))))]:List S)=[.s (.c (.d (.val (.int .i64 ((0:Nat):Int))))),.s (.c (.d (.val (.int .u16 (maskS (sts c last (a.atoms.take 0)):Int)))))])/\(RM [])/\(RM [])/\True/\TT)/\(∀ i2:Nat,(i2<=a.atoms.length/\possF c last a.facts=true/\okS [] (sts c last (a.atoms.take i2))=true)->True/\(vcIf (decide (((i2:Nat):Int) < ((a.atoms.length:Nat):Int))) ((0<=((i2:Nat):Int)/\((i2:Nat):Int) < ((a.atoms.length:Nat):Int))/\True/\(TN/\True)/\(TF/\TF)/\True/\True/\True/\True/\True/\(vcIf (decide (last < ((a.atoms.getD i2 (⟨0,0,0⟩:GAtom)).a))) (True/\True/\(VC_possible_9 i2 a c last)) (True/\True/\True/\True/\True/\True/\(vcIf (decide (last < ((a.atoms.getD i2 (⟨0,0,0⟩:GAtom)).b))) (VC_possible_9 i2 a c last) (True/\True/\((c.length=9/\atV (a.atoms.getD i2 (⟨0,0,0⟩:GAtom))=true)/\True/\True)/\True/\True/\(vcIf (!(filB c (a.atoms.getD i2 (⟨0,0,0⟩:GAtom)))) (VC_possible_8 i2 a c last) (True/\True/\True/\True/\(VC_possible_10 a i2 c)/\True/\True/\True/\(vcIf ((c.getD ((a.atoms.getD i2 (⟨0,0,0⟩:GAtom)).a).toNat (0:Int)) == (0:Int)) (True/\(VC_possible_3 a c last)) (True/\True/\True/\True/\True/\(VC_possible_10 a i2 c)/\True/\(VC_possible_11 c last a i2)/\True/\(vcIf (tsHas (maskS (sts c last (a.atoms.take i2)):Int) (c.getD ((a.atoms.getD i2 (⟨0,0,0⟩:GAtom)).a).toNat (0:Int))) (VC_possible_3 a c last) (True/\True/\True/\True/\True/\(VC_possible_10 a i2 c)/\True/\(VC_possible_11 c last a i2)/\True/\(inK .i64 (((i2:Nat):Int)+(1:Int)))/\True/\(VC_possible_7 i2 a c last)/\(a.atoms.length - (i2+1) < a.atoms.length - i2)/\TT/\(VC_possible_6 c last a)/\(([.s (.c (.d (.val (.int .i64 (((i2:Nat):Int)+(1:Int)))))),.s (.c (.d (.val (.int .u16 (tsWith (maskS (sts c last (a.atoms.take i2)):Int) (c.getD ((a.atoms.getD i2 (⟨0,0,0⟩:GAtom)).a).toNat (0:Int)))))))]:List S)=[.s (.c (.d (.val (.int .i64 (((i2+1):Nat):Int))))),.s (.c (.d (.val (.int .u16 (maskS (sts c last (a.atoms.take (i2+1))):Int)))))])/\(RM [])/\(RM [])/\True/\TT))))))))))) (True/\(((true,()):Bool × Unit)=(possI a c last,()))/\True/\True/\True/\True/\TF))))))
def VC_possible (c:List Int) (a:GAsn) (last:Int) (k:Nat):Prop:=TN/\True/\True/\True/\True/\True/\((0<=a.facts.length/\possF c last (a.facts.take 0)=true)/\TT/\(VC_possible_1 c last a)/\(([.s (.c (.d (.val (.int .i64 (0:Int)))))]:List S)=[.s (.c (.d (.val (.int .i64 ((0:Nat):Int)))))])/\(VC_possible_2 a))/\(∀ i1:Nat,(i1<=a.facts.length/\possF c last (a.facts.take i1)=true)->(VC_possible_12 i1 a last c))
theorem vcn_possible (c:List Int) (a:GAsn) (last:Int) (k:Nat) (hp:c.length=9/\asV a=true/\0<=last/\last<=8):VC_possible c a last k:=by
 unfold VC_possible VC_possible_12 VC_possible_11 VC_possible_10 VC_possible_9 VC_possible_8 VC_possible_7 VC_possible_6 VC_possible_5 VC_possible_4 VC_possible_3 VC_possible_2 VC_possible_1
 simp only [cln,Nat.reduceEqDiff,Nat.reduceLeDiff,Nat.reduceAdd]
 have hF:=asV_facts hp.2.1
 have hX:=fun i (h:i < a.atoms.length)=>isT_iff.1 (asV_atom (d:=⟨0,0,0⟩) hp.2.1 h).1
 have hM:=fun i=>maskS_bd (sts c last (a.atoms.take i))
 all_goals (try simp only [opn])
 all_goals (repeat' (first | apply And.intro | intro _))
 all_goals (repeat (cases ‹_/\_›))
 all_goals (first | omega | rfl | assumption | (simp_all;done) | (exact (hX _ ‹_›).1) | (exact (hM _).1) | (exact (hM _).2) | (symm;exact possI_noF ‹_› ‹_› ‹_› ‹_›) | (rw [possF_step (d:=⟨false,0,0⟩) ‹_›];simp_all;done) | (rw [possF_step (d:=⟨false,0,0⟩) ‹_›];simp_all;omega) | (rw [← take_full (l:=a.facts) ‹_›];assumption) | (rw [sts_skip (c:=c) (last:=last) (l:=a.atoms) (d:=⟨0,0,0⟩) ‹_› (by simp only [stB,Bool.and_eq_false_iff,decide_eq_false_iff_not];first | (left;left;omega) | (left;right;omega) | (right;assumption))];done) | (rw [sts_skip (c:=c) (last:=last) (l:=a.atoms) (d:=⟨0,0,0⟩) ‹_› (by simp only [stB,Bool.and_eq_false_iff,decide_eq_false_iff_not];first | (left;left;omega) | (left;right;omega) | (right;assumption))];assumption) | (rw [take_full (l:=a.atoms) ‹_›] at *;simp_all [possI];done) | skip)
 all_goals (have hS:=fun (j:Nat) (h1:¬ last < (a.atoms.getD j ⟨0,0,0⟩).a) (h2:¬ last < (a.atoms.getD j ⟨0,0,0⟩).b) (h3:filB c (a.atoms.getD j ⟨0,0,0⟩)=true)=>show stB c last (a.atoms.getD j ⟨0,0,0⟩)=true by (simp only [stB,Bool.and_eq_true,decide_eq_true_eq];exact ⟨⟨by omega,by omega⟩,by assumption⟩))
 all_goals (first | (symm;exact possI_noA ‹_› (hS _ ‹_› ‹_› ‹_›) (.inl ‹_›)) | (symm;exact possI_noA ‹_› (hS _ ‹_› ‹_› ‹_›) (.inr ‹_›)) | (exact (okS_step ‹_› ‹_› (hS _ ‹_› ‹_› ‹_›) ‹_› ‹_›).1) | (exact (okS_step ‹_› ‹_› (hS _ ‹_› ‹_› ‹_›) ‹_› ‹_›).2.symm) | skip)
theorem ok_possible:FnOk Try.prog E 157 c_possible :=
 fn_okQ (l:=L_possible) (lp:=P_possible) (hp:=fun _=>false) (gcs:=fun _=>none) (perm:=fun _=>[]) tabOk mix ⟨ok_tsWith,ok_isFilled,ok_tsHas,ok_factHolds,trivial⟩ trivial Try.func157 rfl (by kernel_rfl) (by decide) (by kernel_rfl) (anns:=fun x _=>an_possible x.1 x.2.1 x.2.2.1) (fun ⟨c,a,last,_⟩ k hp _=>Eq.mp (by kernel_rfl) (vcn_possible c a last k hp)) tot_fn
end Go.Proofs.Ytopjgjelkpkmmaa
