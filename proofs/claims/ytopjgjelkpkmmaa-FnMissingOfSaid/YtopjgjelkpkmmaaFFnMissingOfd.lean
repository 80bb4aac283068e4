/-
  Contracts of single functions of the program, each shown by the engine: what a call returns for arguments within the contract's bounds.
-/
import Derived.Test.YtopjgjelkpkmmaaFFnMissingOfa
import Derived.Test.YtopjgjelkpkmmaaFFnMissingOfc
import Derived.Test.YtopjgjelkpkmmaaEd
import Derived.Test.YtopjgjelkpkmmaaEe
import Derived.Test.YtopjgjelkpkmmaaFFnMissingOfb
import Derived.Test.YtopjgjelkpkmmaaEf
set_option linter.unusedSimpArgs false
set_option linter.unusedVariables false
set_option linter.unusedSectionVars false

namespace Go.Proofs.Ytopjgjelkpkmmaa
open Go.SE Go.RowKit
set_option linter.unusedSimpArgs false
set_option linter.unusedVariables false
set_option maxHeartbeats 1000000
set_option maxRecDepth 100000
abbrev c_DrawMissingOf:Con:=⟨[.sl .u8],[.asn,.asn],fun _=>True,.inr fun (code,_) r=>r.1.facts.length<=40/\r.1.atoms.length<=40/\r.2.1.facts.length<=40/\r.2.1.atoms.length<=40,fun (code,_)=>40⟩
abbrev L_DrawMissingOf:List (FuncId × Con):=[(51,c_pick),(52,c_l3Mutate),(75,c_l7Pick),(86,c_l7Small)]
abbrev P_DrawMissingOf:List (FuncId × PT):=[]
def VC_DrawMissingOf_1 (r1:GAsn × Unit) (r4:GAsn × Unit):Prop:=True/\True/\((r1.1.facts.length<=100000/\r1.1.atoms.length<=100000)/\(0+13+1+1+4+4<=1099511627776)/\TN/\TN/\True)/\(∀ r5:GAsn × Unit,(r5.1.facts.length<=r1.1.facts.length+14/\r5.1.atoms.length<=r1.1.atoms.length+7)->(TF/\TF)/\(TF/\TF)/\(r4.1.facts.length<=40/\r4.1.atoms.length<=40/\r5.1.facts.length<=40/\r5.1.atoms.length<=40)/\((((512:Nat) ≠ 513)/\((512:Nat) ≠ 560)/\((512:Nat) ≠ 561)/\True)/\(((513:Nat) ≠ 560)/\((513:Nat) ≠ 561)/\True)/\(((560:Nat) ≠ 561)/\True)/\True/\True)/\((TF/\TF)/\(TF/\TF)/\(TF/\TF)/\(TF/\TF)/\True)/\True/\(True/\True/\True/\True/\True)/\(0+13+1+1+4+4<=0+40))
def VC_DrawMissingOf_2 (r2:Int × Unit) (r1:GAsn × Unit):Prop:=True/\True/\(((⟨[],(pkA r2.1 r1.1.atoms)⟩:GAsn).facts.length<=100000/\(⟨[],(pkA r2.1 r1.1.atoms)⟩:GAsn).atoms.length<=100000)/\(0+13+1+1+4<=1099511627776)/\TN/\TN/\True)/\(∀ r6:GAsn × Unit,(r6.1.facts.length<=(⟨[],(pkA r2.1 r1.1.atoms)⟩:GAsn).facts.length+14/\r6.1.atoms.length<=(⟨[],(pkA r2.1 r1.1.atoms)⟩:GAsn).atoms.length+7)->(VC_DrawMissingOf_1 r1 r6))
def VC_DrawMissingOf (code:List UInt8) (k:Nat):Prop:=(TN/\TN/\TN/\True)/\(TN/\TN/\TN/\True)/\(((7:Nat) < 36)/\((8:Nat) < 36)/\((4:Nat) < 36)/\((7:Nat) ≠ 0))/\((none:Option Nat)=none)/\TT/\TT/\True/\True/\(True/\True/\(0+13<=1099511627776)/\True)/\(∀ r1:GAsn × Unit,(r1.1.facts.length<=1/\r1.1.atoms.length<=4)->(TN/\TN/\TN/\True)/\(TF/\TF)/\True/\True/\(True/\(0+13+1<=1099511627776)/\True)/\(∀ r2:Int × Unit,(pickP (8:Int) r2.1)->((r1.1.facts.length<=1048576/\r1.1.atoms.length<=1048576)/\True/\TN/\TN/\True)/\(TN/\TN/\TN/\True)/\(TF/\TF)/\True/\(True/\(0+13+1+1<=1099511627776)/\True)/\(∀ r3:Int × Unit,(pickP (3:Int) r3.1)->True/\True/\(vcIf (r3.1 == (0:Int)) (True/\True/\True/\True/\True/\(vcIf (decide ((((pkA r2.1 r1.1.atoms).length:Nat):Int) < (3:Int))) (True/\True/\True/\(TN/\True)/\(TN/\TF/\TF/\((pkA r2.1 r1.1.atoms).length+([(⟨(1:Int),(3:Int),(0:Int)⟩:GAtom)]:List GAtom).length<=4294967296))/\True/\(TF/\TF)/\True/\True/\(((⟨[],(pkA r2.1 r1.1.atoms) ++ ([(⟨(1:Int),(3:Int),(0:Int)⟩:GAtom)]:List GAtom)⟩:GAsn).facts.length<=100000/\(⟨[],(pkA r2.1 r1.1.atoms) ++ ([(⟨(1:Int),(3:Int),(0:Int)⟩:GAtom)]:List GAtom)⟩:GAsn).atoms.length<=100000)/\(0+13+1+1+4<=1099511627776)/\TN/\TN/\True)/\(∀ r4:GAsn × Unit,(r4.1.facts.length<=(⟨[],(pkA r2.1 r1.1.atoms) ++ ([(⟨(1:Int),(3:Int),(0:Int)⟩:GAtom)]:List GAtom)⟩:GAsn).facts.length+14/\r4.1.atoms.length<=(⟨[],(pkA r2.1 r1.1.atoms) ++ ([(⟨(1:Int),(3:Int),(0:Int)⟩:GAtom)]:List GAtom)⟩:GAsn).atoms.length+7)->(VC_DrawMissingOf_1 r1 r4))) (VC_DrawMissingOf_2 r2 r1))) (True/\(VC_DrawMissingOf_2 r2 r1))))))
theorem vcn_DrawMissingOf (code:List UInt8) (k:Nat):VC_DrawMissingOf code k:=by
 unfold VC_DrawMissingOf VC_DrawMissingOf_2 VC_DrawMissingOf_1
 simp only [cln,Nat.reduceEqDiff,Nat.reduceLeDiff,Nat.reduceAdd]
 all_goals (try simp only [opn])
 all_goals (repeat' (first | apply And.intro | intro _))
 all_goals (repeat (cases ‹_/\_›))
 all_goals (first | (exfalso;contradiction) | omega | with_reducible assumption | with_reducible rfl | skip)
 all_goals (try simp only [List.length_append,List.length_cons,List.length_nil,List.length_set,List.length_take,List.length_drop,List.mem_cons,List.mem_nil_iff,or_false] at *)
 all_goals (first
  | omega
  | (rcases ‹_ ∨ _› with h | h | h | h <;> omega)
  | exact Nat.le_trans fcL_len.1 ‹_› | exact Nat.le_trans fcL_len.2 ‹_›
  | grind [asV,fsV,pkA_le,fcL_len])
theorem ok_DrawMissingOf:FnOk Try.prog E 41 c_DrawMissingOf :=
 draw_fnQ (hp:=fun _=>false) (perm:=fun _=>[]) (gl:=([0,2,3],[32,33,47,48,49,63])) tabOk mix (kall_of (l:=L_DrawMissingOf) ⟨ok_pick,ok_l3Mutate,ok_l7Pick,ok_l7Small,trivial⟩) (pall_of (l:=P_DrawMissingOf) trivial) open_l18Open fn_l18Open Try.func41 rfl (by kernel_rfl) (by decide) (by kernel_rfl) rfl rfl (anns:=fun x=>fun _ _=>none) (fun ⟨code,_⟩ _=>Eq.mp (by kernel_rfl) (vcn_DrawMissingOf code 0)) (fun _ _=>⟨((⟨[],[]⟩:GAsn),(⟨[],[]⟩:GAsn),()),⟨Nat.zero_le _,Nat.zero_le _,Nat.zero_le _,Nat.zero_le _⟩⟩)
def lmHp:Nat->Bool
 | 4=>true
 | _=>false
def seqL:Code->Code
 | .seq a _=>a
 | c=>c
def seqR:Code->Code
 | .seq _ a=>a
 | c=>c
def loopB:Code->Code
 | .block _ (.loop a)=>a
 | c=>c
noncomputable def lmLB:Code:=loopB (seqR (seqL (seqR (bodyOf Try.f81))))
theorem lm_code:bodyOf Try.f81=.seq (seqL (bodyOf Try.f81)) (.seq (.seq (seqL (seqL (seqR (bodyOf Try.f81)))) (.block 0 (.loop lmLB))) (seqR (seqR (bodyOf Try.f81)))):=by rfl
def lmAnn (n:Int) (acc:Int->Bool) (base:Nat):Nat->Option Ann
 | 2=>some { α:=Nat,ok:=fun m=>(m:Int)<=2 ^ n.toNat/\∀ j:Nat,j < m->acc j=false,mu:=fun m=>2 ^ n.toNat - m,i0:=fun _=>0,nx:=fun m _=>m+1,live:=[0,1],sets:=fun m=>[(6,sv (.int .i64 (m:Int)))],mids:=[],blks:=fun _=>[],owns:=fun _=>[],rd:=fun r _=>r,base:=base }
 | _=>none
def lmAnnS (c:ClC) (args:List S0) (base:Nat) (st:St):Nat->Option Ann :=
 match args with
 | [.c (.d (.val (.int .i64 n))),.c (.fn _ [i1,i2])]=>match asnBlk st i1,asnBlk st i2 with
  | some a,some b=>lmAnn n (fun m=>c.acc m a b) base
  | _,_=>fun _=>none
 | _=>fun _=>none
theorem lm_round (c:ClC) (h:St) (n m:Int) (f:Nat) (i1 i2:Nat) (a b:GAsn) (O:Nat->Option Res) (ann:Nat->Option Ann) (Q:XK->St->Prop) (e0:h.env 0=.s (.c (.d (.val (.int .i64 n))))) (e1:h.env 1=.s (.c (.fn f [i1,i2]))) (e6:h.env 6=.s (.c (.d (.val (.int .i64 m))))) (hrd:h.rd=none)
  (ha:∀ env sp fr base rd,asnBlk { env:=env,mem:=h.mem,sp:=sp,fr:=fr,base:=base,rd:=rd } i1=some a) (hb':∀ env sp fr base rd,asnBlk { env:=env,mem:=h.mem,sp:=sp,fr:=fr,base:=base,rd:=rd } i2=some b)
  (hb:∀ env sp fr base rd,blkIds { env:=env,mem:=h.mem,sp:=sp,fr:=fr,base:=base,rd:=rd } [i1,i2]=true)
  (h0:0<=n) (h62:n<=62) (hm0:0<=m) (hpre:m < 2 ^ n.toNat->c.pre m a b)
  (q1:m < 2 ^ n.toNat->c.acc m a b=true->∀ env,env 4=.s (.c (.d (.val (.int .i64 m))))->env 5=.s (.c (.d (.val (.bool true))))->Q .ret { env:=env,mem:=h.mem,sp:=h.sp,fr:=h.fr,base:=h.base,rd:=none })
  (q2:m < 2 ^ n.toNat->c.acc m a b=false->∀ env,env 0=h.env 0->env 1=h.env 1->env 6=.s (.c (.d (.val (.int .i64 (m+1)))))->Q .normal { env:=env,mem:=h.mem,sp:=h.sp,fr:=h.fr,base:=h.base,rd:=none })
  (q3:¬ m < 2 ^ n.toNat->∀ env,Q (.exit 0) { env:=env,mem:=h.mem,sp:=h.sp,fr:=h.fr,base:=h.base,rd:=none }) :
  vcP tab (lookF []) O (lookP [(f,ptCl c)]) lmHp (fun _=>none) ann (fun _=>[]) lmLB h Q:=by
 have hp:=pow62 h0 h62
 dsimp only [lmLB,loopB,seqR,seqL,bodyOf,Try.f81]
 simp only [e0,e1,e6,hrd,hb,ha,hb',hp.1,ptCl,List.map_cons,List.map_nil,List.cons_append,List.nil_append,upd,lmHp,SE.lookF,tab2,tab3,tab4,tab5,tab7,tab9,tab12,tab13,tab21,tab22,tab23,tab24,tab25,tab26,tab29,tab30,tab31,tab38,tab39,tab40,tab41,tab65,tab66,tab67,tab68,tab71,tab77,tab78,tab93,tab94,tab104,tab105,tab110,tab111,tab112,tab119,tab121,tab130,tab139,tab141,tab149,tab151,tab156,tab157,tab158,Option.map_none,Option.map_some,if_true,if_false,reduceCtorEq,Option.getD_some,Nat.reduceEqDiff,vcReg,condK,seqK,blockK,vcOps,vcStep,vcOp,vcTr,vcDet_some,vcDet_none,vcIf_true,vcIf_false,gslot,trOp,trMove,trPick,trBin,argsS,ev,constS,junk,sv,St.app,St.put,noJunk,inK,binI,shf,isShift,intOp,vcP,vcRegP,vcOpsP,vcStepP,vcOpP,vcOpX,idxOf,cloK,cloOf,withPtrs,ptK,ptOf,vcPt,gcK,lookP,ptBase,St.back,adds,sets,cond_true,true_and,and_true]
 rw [vcIf_iff,decide_eq_true_eq,decide_eq_false_iff_not]
 refine ⟨h0,fun hlt=>⟨hpre hlt,?_⟩,fun hge=>q3 hge _⟩
 rw [vcIf_iff]
 refine ⟨fun ht=>q1 hlt ht _ rfl rfl,fun hf=>⟨?_,q2 hlt hf _ rfl rfl rfl⟩⟩
 have h2:=hp.2.1
 have:IntKind.i64.min=-9223372036854775808:=rfl
 have:IntKind.i64.max=9223372036854775807:=rfl
 omega
theorem lm_fits (st s0 st':St) (n m:Int) (f i1 i2:Nat) (hm0:s0.mem=st.mem) (hm:st'.mem=st.mem) (hs:∀ j,(st.mem j).isSome=true->st'.sp j=s0.sp j/\st'.fr j=s0.fr j) (e0:s0.env 0=.s (.c (.d (.val (.int .i64 n))))) (e1:s0.env 1=.s (.c (.fn f [i1,i2]))) (h0:st'.env 0=s0.env 0) (h1:st'.env 1=s0.env 1) (h6:st'.env 6=.s (.c (.d (.val (.int .i64 m)))))
  (hi:(st.mem i1).isSome=true) (hj:(st.mem i2).isSome=true) (hrd:st'.rd=none):fitsP st.mem [0,1] [(6,sv (.int .i64 m))] [] [] [] none s0 st':=by
 refine ⟨⟨h0,h1,trivial⟩,⟨h6,trivial⟩,trivial,trivial,trivial,trivial,trivial,trivial,?_,⟨trivial,trivial⟩,trivial,trivial,trivial,fun j hj' _=>?_,fun _ _ _ _ _ _=>trivial,by rw [hrd];trivial⟩
 ·refine ⟨?_,?_,trivial⟩
  ·rw [e0];trivial
  ·rw [e1]
   exact ⟨by rw [hi,Bool.or_true],by rw [hj,Bool.or_true],trivial⟩
 ·exact ⟨by rw [hm0],by rw [hm,hm0],(hs j hj').1,(hs j hj').2⟩
theorem lm_loop (c:ClC) (st s0:St) (base:Nat) (n:Int) (f i1 i2:Nat) (a b:GAsn) (ha:asnBlk st i1=some a) (hb:asnBlk st i2=some b) (h0:0<=n) (h62:n<=62) (hpre:∀ m:Int,0<=m->m < 2 ^ n.toNat->c.pre m a b)
  (hm0:s0.mem=st.mem) (hs0:∀ j,(st.mem j).isSome=true->s0.sp j=st.sp j/\s0.fr j=st.fr j) (hrd:s0.rd=none) (e0:s0.env 0=.s (.c (.d (.val (.int .i64 n))))) (e1:s0.env 1=.s (.c (.fn f [i1,i2]))) (e6:s0.env 6=.s (.c (.d (.val (.int .i64 0))))) (ann:Nat->Option Ann) (Q:XK->St->Prop)
  (q1:∀ m:Nat,(m:Int) < 2 ^ n.toNat->(∀ j:Nat,j < m->c.acc j a b=false)->c.acc m a b=true->∀ st',st'.mem=st.mem->(∀ j,(st.mem j).isSome=true->st'.sp j=st.sp j/\st'.fr j=st.fr j)->st'.rd=none->st'.env 4=.s (.c (.d (.val (.int .i64 m))))->st'.env 5=.s (.c (.d (.val (.bool true))))->Q .ret st')
  (q3:∀ m:Nat,¬ (m:Int) < 2 ^ n.toNat->(∀ j:Nat,j < m->c.acc j a b=false)->∀ st',st'.mem=st.mem->(∀ j,(st.mem j).isSome=true->st'.sp j=st.sp j/\st'.fr j=st.fr j)->st'.rd=none->Q (.exit 0) st') :
  vcLoopP st.mem (fun st' Q'=>vcP tab (lookF []) st.mem (lookP [(f,ptCl c)]) lmHp (fun _=>none) ann (fun _=>[]) lmLB st' Q') s0 Q (lmAnn n (fun m=>c.acc m a b) base 2):=by
 have hp:=pow62 h0 h62
 have m1:(st.mem i1).isSome=true:=by rw [asnBlk_mem ha];rfl
 have m2:(st.mem i2).isSome=true:=by rw [asnBlk_mem hb];rfl
 have tm:tabM st.mem s0.mem []=st.mem:=by
  rw [hm0]
  funext j
  simp only [tabM]
  cases st.mem j <;> rfl
 have tq:∀ (q:Nat->Bool) j,(st.mem j).isSome=true->tabQ st.mem q [] j=q j:=fun q j hj=>by
  simp only [tabQ]
  cases hq:st.mem j with
  | none=>rw [hq] at hj;cases hj
  | some r=>rfl
 have e2:((2 ^ n.toNat:Nat):Int)=2 ^ n.toNat:=by push_cast;rfl
 refine ⟨⟨⟨by show ((0:Nat):Int)<=_;omega,fun j hj=>absurd hj (Nat.not_lt_zero _)⟩,?_⟩,fun m hm=>?_⟩
 ·show fitsP st.mem [0,1] [(6,sv (.int .i64 ((0:Nat):Int)))] [] [] [] s0.rd s0 s0
  rw [hrd]
  exact lm_fits st s0 s0 n 0 f i1 i2 hm0 hm0 (fun _ _=>⟨rfl,rfl⟩) e0 e1 rfl rfl e6 m1 m2 hrd
 ·obtain ⟨hle,hno⟩:=hm
  show vcP tab (lookF []) st.mem _ lmHp _ ann _ lmLB (headP st.mem [0,1] [(6,sv (.int .i64 (m:Int)))] [] [] [] base s0.rd s0) _
  have hmem:(headP st.mem [0,1] [(6,sv (.int .i64 (m:Int)))] [] [] [] base s0.rd s0).mem=st.mem:=tm
  have hsp:∀ j,(st.mem j).isSome=true->(headP st.mem [0,1] [(6,sv (.int .i64 (m:Int)))] [] [] [] base s0.rd s0).sp j=s0.sp j/\(headP st.mem [0,1] [(6,sv (.int .i64 (m:Int)))] [] [] [] base s0.rd s0).fr j=s0.fr j:=fun j hj=>⟨tq _ j hj,tq _ j hj⟩
  have hrd':(headP st.mem [0,1] [(6,sv (.int .i64 (m:Int)))] [] [] [] base s0.rd s0).rd=none:=hrd
  have he0:(headP st.mem [0,1] [(6,sv (.int .i64 (m:Int)))] [] [] [] base s0.rd s0).env 0=s0.env 0:=rfl
  have he1:(headP st.mem [0,1] [(6,sv (.int .i64 (m:Int)))] [] [] [] base s0.rd s0).env 1=s0.env 1:=rfl
  have he6:(headP st.mem [0,1] [(6,sv (.int .i64 (m:Int)))] [] [] [] base s0.rd s0).env 6=.s (.c (.d (.val (.int .i64 (m:Int))))):=rfl
  generalize headP st.mem [0,1] [(6,sv (.int .i64 (m:Int)))] [] [] [] base s0.rd s0=h at hmem hsp hrd' he0 he1 he6
  have hsp':∀ j,(st.mem j).isSome=true->h.sp j=st.sp j/\h.fr j=st.fr j:=fun j hj=>⟨(hsp j hj).1.trans (hs0 j hj).1,(hsp j hj).2.trans (hs0 j hj).2⟩
  refine lm_round c h n (m:Int) f i1 i2 a b st.mem ann _ (he0.trans e0) (he1.trans e1) he6 hrd' ?_ ?_ ?_ h0 h62 (by omega) (fun hlt=>hpre _ (by omega) hlt) ?_ ?_ ?_
  ·intro env sp fr base rd
   unfold asnBlk at ha ⊢
   rw [hmem];exact ha
  ·intro env sp fr base rd
   unfold asnBlk at hb ⊢
   rw [hmem];exact hb
  ·intro env sp fr base rd
   simp only [blkIds,hmem,asnBlk_mem ha,asnBlk_mem hb]
  ·intro hlt hacc env h4 h5
   exact q1 m hlt hno hacc _ hmem hsp' rfl h4 h5
  ·intro hlt hacc env g0 g1 g6
   show (((m+1:Nat):Int)<=2 ^ n.toNat/\∀ j:Nat,j < m+1->c.acc j a b=false)/\2 ^ n.toNat - (m+1) < 2 ^ n.toNat - m/\fitsP st.mem [0,1] [(6,sv (.int .i64 ((m+1:Nat):Int)))] [] [] [] s0.rd s0 _
   refine ⟨⟨by omega,fun j hj=>?_⟩,by omega,?_⟩
   ·by_cases e:j=m
    ·subst e;exact hacc
    ·exact hno j (by omega)
   ·rw [hrd]
    exact lm_fits st s0 _ n ((m+1:Nat):Int) f i1 i2 hm0 hmem hsp e0 e1 (g0.trans he0) (g1.trans he1) (by rw [show ((m+1:Nat):Int)=(m:Int)+1 by omega];exact g6) m1 m2 rfl
  ·intro hge env
   exact q3 m hge hno _ hmem hsp' rfl
theorem lm_vc (c:ClC) (st:St) (base:Nat) (n:Int) (f i1 i2:Nat) (a b:GAsn) (ha:asnBlk st i1=some a) (hb:asnBlk st i2=some b) (hrd:st.rd=none) (h0:0<=n) (h62:n<=62) (hpre:∀ m:Int,0<=m->m < 2 ^ n.toNat->c.pre m a b) (k:S->St->Prop)
  (hk:∀ st',st'.mem=st.mem->(∀ j,(st.mem j).isSome=true->st'.sp j=st.sp j/\st'.fr j=st.fr j)->st'.rd=none->k (.tup [.c (.d (.val (.int .i64 (lmI (fun m=>c.acc m a b) n)))),.c (.d (.val (.bool (lmB (fun m=>c.acc m a b) n))))]) st') :
  inl tab (lookF []) (lookP [(f,ptCl c)]) lmHp (fun _ _=>none) (lmAnnS c) (fun _=>[]) Try.f81.ntmps (bodyOf Try.f81) Try.f81.results.toList [.c (.d (.val (.int .i64 n))),.c (.fn f [i1,i2])] base st k:=by
 have hp:=pow62 h0 h62
 refine ⟨by show 2<=17;decide,?_⟩
 have hA:lmAnnS c [.c (.d (.val (.int .i64 n))),.c (.fn f [i1,i2])] base st=lmAnn n (fun m=>c.acc m a b) base:=by
  unfold lmAnnS
  simp only [ha,hb]
 rw [hA,lm_code]
 have m1:=asnBlk_mem ha
 have m2:=asnBlk_mem hb
 have tm:∀ m:Nat->Option Res,m=st.mem->tabM st.mem m []=st.mem:=fun m hm=>by
  subst hm
  funext j
  simp only [tabM]
  cases st.mem j <;> rfl
 have tq:∀ (q:Nat->Bool) j,(st.mem j).isSome=true->tabQ st.mem q [] j=q j:=fun q j hj=>by
  simp only [tabQ]
  cases hq:st.mem j with
  | none=>rw [hq] at hj;cases hj
  | some r=>rfl
 simp only [vcP,seqK,gcK,blockK]
 dsimp only [seqL,seqR,bodyOf,Try.f81]
 simp only [inlSt,envOf,upd,SE.lookF,tab2,tab3,tab4,tab5,tab7,tab9,tab12,tab13,tab21,tab22,tab23,tab24,tab25,tab26,tab29,tab30,tab31,tab38,tab39,tab40,tab41,tab65,tab66,tab67,tab68,tab71,tab77,tab78,tab93,tab94,tab104,tab105,tab110,tab111,tab112,tab119,tab121,tab130,tab139,tab141,tab149,tab151,tab156,tab157,tab158,hrd,Option.map_none,Option.map_some,reduceCtorEq,Option.getD_some,Nat.reduceEqDiff,vcReg,condK,seqK,blockK,vcOps,vcStep,vcOp,vcTr,vcDet_some,vcDet_none,trOp,trMove,ev,constS,junk,sv,St.app,St.put,vcP,vcRegP,vcOpsP,lmHp,gcK,adds,sets,true_and,and_true]
 rw [show firstReg lmLB=2 from rfl]
 refine lm_loop c st _ base n f i1 i2 a b ha hb h0 h62 hpre ?_ ?_ ?_ ?_ ?_ ?_ _ _ ?_ ?_
 ·rfl
 ·exact fun _ _=>⟨rfl,rfl⟩
 ·rfl
 ·rfl
 ·rfl
 ·rfl
 ·intro m hlt hno hacc st' g1 g2 g3 g4 g5
  obtain ⟨l1,l2⟩:=lm_found (acc:=fun m=>c.acc m a b) hlt hno hacc
  show retP tab [.tmp 4,.tmp 5] k .ret st'
  simp only [retP,loadsS,loadS,g4,g5,pack1]
  rw [l1,l2]
  exact hk st' g1 g2 g3
 ·intro m hge hno st' g1 g2 g3
  obtain ⟨l1,l2⟩:=lm_none (acc:=fun m=>c.acc m a b) hge hno
  simp only [blockK,seqK,retP,loadsS,loadS,upd,pack1,Nat.reduceEqDiff,if_true,if_false]
  rw [l1,l2]
  exact hk _ g1 g2 (by simp [g3])
theorem ptok_lm {f:Nat} {c:ClC} (hF:FnOk Try.prog E f c.con):PTOk Try.prog E 81 (ptLM f c):=by
 have base:=pt_ok (l:=[]) (lp:=[(f,ptCl c)]) (hp:=lmHp) (perm:=fun _=>[]) (gcb:=fun _ _=>none) (ann:=lmAnnS c) tabOk mix trivial ⟨ptCl_ok hF,trivial⟩ Try.func81 rfl (by kernel_rfl) (by kernel_rfl)
 refine ⟨base.fn,?_⟩
 intro w0 M g st w args vs bs k hg hcl hrefs hargs hv
 unfold ptLM at hv
 split at hv
 ·rename_i n f' i1 i2
  split at hv
  ·rename_i a b ha hb
   obtain ⟨rfl,hrd,⟨h0,h62⟩,hpre,hk⟩:=hv
   have hi:=lm_vc c st bs n f' i1 i2 a b ha hb hrd h0 h62 hpre
    (fun s st'=>s=.tup [.c (.d (.val (.int .i64 (lmI (fun m=>c.acc m a b) n)))),.c (.d (.val (.bool (lmB (fun m=>c.acc m a b) n))))]/\st'.mem=st.mem/\(∀ j,(st.mem j).isSome=true->st'.sp j=st.sp j/\st'.fr j=st.fr j)/\st'.rd=st.rd)
    (fun st' g1 g2 g3=>⟨rfl,g1,g2,g3.trans hrd.symm⟩)
   refine Calls.mono (base.call w0 M g st w _ vs bs _ hg hcl hrefs hargs hi) fun e w' he=>?_
   obtain ⟨v,s,st',g',rfl,⟨rfl,g1,g2,g3⟩,hg',hsR,hsref,hcl',hold,hro,hρ⟩:=he
   exact ⟨v,_,st,g',rfl,hk,hg'.agree g1 g2 g3,hsR,(fun id hid=>by cases hid),hcl,fun id h=>⟨h,(hold id h).2⟩,hro,hρ⟩
  ·exact hv.elim
 ·exact hv.elim
theorem lm_roundW (c:WCon) (h:St) (n m:Int) (f:Nat) (i1 i2 i3 j0 j1 j2 j3 bs:Nat) (a b:GAsn) (O:Nat->Option Res) (ann:Nat->Option Ann) (Q:XK->St->Prop) (e0:h.env 0=.s (.c (.d (.val (.int .i64 n))))) (e1:h.env 1=.s (.c (.fn f [i1,i2,i3]))) (e6:h.env 6=.s (.c (.d (.val (.int .i64 m))))) (hrd:h.rd=none)
  (ha:∀ env sp fr base rd,asnBlk { env:=env,mem:=h.mem,sp:=sp,fr:=fr,base:=base,rd:=rd } i1=some a) (hb':∀ env sp fr base rd,asnBlk { env:=env,mem:=h.mem,sp:=sp,fr:=fr,base:=base,rd:=rd } i2=some b)
  (hb:∀ env sp fr base rd,blkIds { env:=env,mem:=h.mem,sp:=sp,fr:=fr,base:=base,rd:=rd } [i1,i2,i3]=true)
  (h3:h.mem i3=some (.blk [.own j0,.own j1,.own j2,.own j3])) (hn1:i1 ≠ i3) (hn2:i2 ≠ i3) (hsp3:h.sp i3=false) (hfr3:h.fr i3=false) (hbs:h.base=bs) (hfree:∀ env sp fr base rd,freeL { env:=env,mem:=h.mem,sp:=sp,fr:=fr,base:=base,rd:=rd } (rids kkW (ptBase bs 15)))
  (h0:0<=n) (h62:n<=62) (hm0:0<=m) (hpre:m < 2 ^ n.toNat->c.pre m a b)
  (q1:m < 2 ^ n.toNat->c.acc m a b=true->∀ env,env 4=.s (.c (.d (.val (.int .i64 m))))->env 5=.s (.c (.d (.val (.bool true))))->Q .ret { env:=env,mem:=upd (adds h.mem (ress kkW (ptBase bs 15) (c.val m a b)).2) i3 (some (.blk (owC (ptBase bs 15)))),sp:=h.sp,fr:=h.fr,base:=h.base,rd:=none })
  (q2:m < 2 ^ n.toNat->c.acc m a b=false->∀ env,env 0=h.env 0->env 1=h.env 1->env 6=.s (.c (.d (.val (.int .i64 (m+1)))))->Q .normal { env:=env,mem:=h.mem,sp:=h.sp,fr:=h.fr,base:=h.base,rd:=none })
  (q3:¬ m < 2 ^ n.toNat->∀ env,Q (.exit 0) { env:=env,mem:=h.mem,sp:=h.sp,fr:=h.fr,base:=h.base,rd:=none }) :
  vcP tab (lookF []) O (lookP [(f,ptW c)]) lmHp (fun _=>none) ann (fun _=>[]) lmLB h Q:=by
 have hp:=pow62 h0 h62
 subst hbs
 dsimp only [lmLB,loopB,seqR,seqL,bodyOf,Try.f81]
 simp only [e0,e1,e6,hrd,hb,ha,hb',h3,hsp3,hfr3,hfree,hn1,hn2,ne_eq,not_false_eq_true,hp.1,ptW,ptW3,ptWk,List.map_cons,List.map_nil,List.cons_append,List.nil_append,upd,lmHp,SE.lookF,tab2,tab3,tab4,tab5,tab7,tab9,tab12,tab13,tab21,tab22,tab23,tab24,tab25,tab26,tab29,tab30,tab31,tab38,tab39,tab40,tab41,tab65,tab66,tab67,tab68,tab71,tab77,tab78,tab93,tab94,tab104,tab105,tab110,tab111,tab112,tab119,tab121,tab130,tab139,tab141,tab149,tab151,tab156,tab157,tab158,Option.map_none,Option.map_some,if_true,if_false,reduceCtorEq,Option.getD_some,Nat.reduceEqDiff,vcReg,condK,seqK,blockK,vcOps,vcStep,vcOp,vcTr,vcDet_some,vcDet_none,vcIf_true,vcIf_false,gslot,trOp,trMove,trPick,trBin,argsS,ev,constS,junk,sv,St.app,St.put,noJunk,inK,binI,shf,isShift,intOp,vcP,vcRegP,vcOpsP,vcStepP,vcOpP,vcOpX,idxOf,cloK,cloOf,withPtrs,ptK,ptOf,vcPt,gcK,lookP,St.back,adds,sets,cond_true,true_and,and_true]
 rw [vcIf_iff,decide_eq_true_eq,decide_eq_false_iff_not]
 refine ⟨h0,fun hlt=>⟨hpre hlt,fun hf=>⟨?_,?_⟩,fun ht=>?_⟩,fun hge=>?_⟩
 ·have h2:=hp.2.1
  have:IntKind.i64.min=-9223372036854775808:=rfl
  have:IntKind.i64.max=9223372036854775807:=rfl
  omega
 ·exact q2 hlt hf _ rfl rfl rfl
 ·exact q1 hlt ht _ rfl rfl
 ·exact q3 hge _
theorem lm_fitsW (st s0 st':St) (n m:Int) (f i1 i2 i3:Nat) (hm0:s0.mem=st.mem) (hm:st'.mem=st.mem) (hs:∀ j,(st.mem j).isSome=true->st'.sp j=s0.sp j/\st'.fr j=s0.fr j) (e0:s0.env 0=.s (.c (.d (.val (.int .i64 n))))) (e1:s0.env 1=.s (.c (.fn f [i1,i2,i3]))) (h0:st'.env 0=s0.env 0) (h1:st'.env 1=s0.env 1) (h6:st'.env 6=.s (.c (.d (.val (.int .i64 m)))))
  (hi:(st.mem i1).isSome=true) (hj:(st.mem i2).isSome=true) (hk:(st.mem i3).isSome=true) (hrd:st'.rd=none):fitsP st.mem [0,1] [(6,sv (.int .i64 m))] [] [] [] none s0 st':=by
 refine ⟨⟨h0,h1,trivial⟩,⟨h6,trivial⟩,trivial,trivial,trivial,trivial,trivial,trivial,?_,⟨trivial,trivial⟩,trivial,trivial,trivial,fun j hj' _=>?_,fun _ _ _ _ _ _=>trivial,by rw [hrd];trivial⟩
 ·refine ⟨?_,?_,trivial⟩
  ·rw [e0];trivial
  ·rw [e1]
   exact ⟨by rw [hi,Bool.or_true],by rw [hj,Bool.or_true],by rw [hk,Bool.or_true],trivial⟩
 ·exact ⟨by rw [hm0],by rw [hm,hm0],(hs j hj').1,(hs j hj').2⟩
theorem lm_loopW (c:WCon) (st s0:St) (base:Nat) (n:Int) (f i1 i2 i3 j0 j1 j2 j3:Nat) (a b:GAsn) (ha:asnBlk st i1=some a) (hb:asnBlk st i2=some b) (h3:st.mem i3=some (.blk [.own j0,.own j1,.own j2,.own j3])) (hn1:i1 ≠ i3) (hn2:i2 ≠ i3) (hsp3:st.sp i3=false) (hfr3:st.fr i3=false) (hfree:freeL st (rids kkW (ptBase base 15))) (h0:0<=n) (h62:n<=62) (hpre:∀ m:Int,0<=m->m < 2 ^ n.toNat->c.pre m a b)
  (hm0:s0.mem=st.mem) (hs0:∀ j,(st.mem j).isSome=true->s0.sp j=st.sp j/\s0.fr j=st.fr j) (hrd:s0.rd=none) (e0:s0.env 0=.s (.c (.d (.val (.int .i64 n))))) (e1:s0.env 1=.s (.c (.fn f [i1,i2,i3]))) (e6:s0.env 6=.s (.c (.d (.val (.int .i64 0))))) (ann:Nat->Option Ann) (Q:XK->St->Prop)
  (q1:∀ m:Nat,(m:Int) < 2 ^ n.toNat->(∀ j:Nat,j < m->c.acc j a b=false)->c.acc m a b=true->∀ st',st'.mem=upd (adds st.mem (ress kkW (ptBase base 15) (c.val m a b)).2) i3 (some (.blk (owC (ptBase base 15))))->(∀ j,st'.sp j=clO st.mem st.sp j/\st'.fr j=clO st.mem st.fr j)->st'.rd=none->st'.env 4=.s (.c (.d (.val (.int .i64 m))))->st'.env 5=.s (.c (.d (.val (.bool true))))->Q .ret st')
  (q3:∀ m:Nat,¬ (m:Int) < 2 ^ n.toNat->(∀ j:Nat,j < m->c.acc j a b=false)->∀ st',st'.mem=st.mem->(∀ j,(st.mem j).isSome=true->st'.sp j=st.sp j/\st'.fr j=st.fr j)->st'.rd=none->Q (.exit 0) st') :
  vcLoopP st.mem (fun st' Q'=>vcP tab (lookF []) st.mem (lookP [(f,ptW c)]) lmHp (fun _=>none) ann (fun _=>[]) lmLB st' Q') s0 Q (lmAnn n (fun m=>c.acc m a b) base 2):=by
 have hp:=pow62 h0 h62
 have m1:(st.mem i1).isSome=true:=by rw [asnBlk_mem ha];rfl
 have m2:(st.mem i2).isSome=true:=by rw [asnBlk_mem hb];rfl
 have m3:(st.mem i3).isSome=true:=by rw [h3];rfl
 have tm:tabM st.mem s0.mem []=st.mem:=by
  rw [hm0]
  funext j
  simp only [tabM]
  cases st.mem j <;> rfl
 have tq:∀ (q:Nat->Bool) j,(st.mem j).isSome=true->tabQ st.mem q [] j=q j:=fun q j hj=>by
  simp only [tabQ]
  cases hq:st.mem j with
  | none=>rw [hq] at hj;cases hj
  | some r=>rfl
 have e2:((2 ^ n.toNat:Nat):Int)=2 ^ n.toNat:=by push_cast;rfl
 refine ⟨⟨⟨by show ((0:Nat):Int)<=_;omega,fun j hj=>absurd hj (Nat.not_lt_zero _)⟩,?_⟩,fun m hm=>?_⟩
 ·show fitsP st.mem [0,1] [(6,sv (.int .i64 ((0:Nat):Int)))] [] [] [] s0.rd s0 s0
  rw [hrd]
  exact lm_fitsW st s0 s0 n 0 f i1 i2 i3 hm0 hm0 (fun _ _=>⟨rfl,rfl⟩) e0 e1 rfl rfl e6 m1 m2 m3 hrd
 ·obtain ⟨hle,hno⟩:=hm
  show vcP tab (lookF []) st.mem _ lmHp _ ann _ lmLB (headP st.mem [0,1] [(6,sv (.int .i64 (m:Int)))] [] [] [] base s0.rd s0) _
  have hmem:(headP st.mem [0,1] [(6,sv (.int .i64 (m:Int)))] [] [] [] base s0.rd s0).mem=st.mem:=tm
  have hsp:∀ j,(st.mem j).isSome=true->(headP st.mem [0,1] [(6,sv (.int .i64 (m:Int)))] [] [] [] base s0.rd s0).sp j=s0.sp j/\(headP st.mem [0,1] [(6,sv (.int .i64 (m:Int)))] [] [] [] base s0.rd s0).fr j=s0.fr j:=fun j hj=>⟨tq _ j hj,tq _ j hj⟩
  have hcl:∀ j,(headP st.mem [0,1] [(6,sv (.int .i64 (m:Int)))] [] [] [] base s0.rd s0).sp j=clO st.mem st.sp j/\(headP st.mem [0,1] [(6,sv (.int .i64 (m:Int)))] [] [] [] base s0.rd s0).fr j=clO st.mem st.fr j:=fun j=>by
   show tabQ st.mem s0.sp [] j=_/\tabQ st.mem s0.fr [] j=_
   simp only [tabQ,clO]
   cases hq:st.mem j with
   | none=>exact ⟨rfl,rfl⟩
   | some r=>exact hs0 j (by rw [hq];rfl)
  have hbs:(headP st.mem [0,1] [(6,sv (.int .i64 (m:Int)))] [] [] [] base s0.rd s0).base=base:=rfl
  have hrd':(headP st.mem [0,1] [(6,sv (.int .i64 (m:Int)))] [] [] [] base s0.rd s0).rd=none:=hrd
  have he0:(headP st.mem [0,1] [(6,sv (.int .i64 (m:Int)))] [] [] [] base s0.rd s0).env 0=s0.env 0:=rfl
  have he1:(headP st.mem [0,1] [(6,sv (.int .i64 (m:Int)))] [] [] [] base s0.rd s0).env 1=s0.env 1:=rfl
  have he6:(headP st.mem [0,1] [(6,sv (.int .i64 (m:Int)))] [] [] [] base s0.rd s0).env 6=.s (.c (.d (.val (.int .i64 (m:Int))))):=rfl
  generalize headP st.mem [0,1] [(6,sv (.int .i64 (m:Int)))] [] [] [] base s0.rd s0=h at hmem hsp hcl hbs hrd' he0 he1 he6
  have hsp':∀ j,(st.mem j).isSome=true->h.sp j=st.sp j/\h.fr j=st.fr j:=fun j hj=>⟨(hsp j hj).1.trans (hs0 j hj).1,(hsp j hj).2.trans (hs0 j hj).2⟩
  refine lm_roundW c h n (m:Int) f i1 i2 i3 j0 j1 j2 j3 base a b st.mem ann _ (he0.trans e0) (he1.trans e1) he6 hrd' ?_ ?_ ?_ (by rw [hmem];exact h3) hn1 hn2 (by rw [(hsp' i3 m3).1];exact hsp3) (by rw [(hsp' i3 m3).2];exact hfr3) hbs ?_ h0 h62 (by omega) (fun hlt=>hpre _ (by omega) hlt) ?_ ?_ ?_
  ·intro env sp fr base rd
   unfold asnBlk at ha ⊢
   rw [hmem];exact ha
  ·intro env sp fr base rd
   unfold asnBlk at hb ⊢
   rw [hmem];exact hb
  ·intro env sp fr base rd
   simp only [blkIds,hmem,asnBlk_mem ha,asnBlk_mem hb,h3]
  ·intro env sp fr base' rd
   rw [hmem]
   exact hfree
  ·intro hlt hacc env h4 h5
   exact q1 m hlt hno hacc _ (by rw [hmem]) hcl rfl h4 h5
  ·intro hlt hacc env g0 g1 g6
   show (((m+1:Nat):Int)<=2 ^ n.toNat/\∀ j:Nat,j < m+1->c.acc j a b=false)/\2 ^ n.toNat - (m+1) < 2 ^ n.toNat - m/\fitsP st.mem [0,1] [(6,sv (.int .i64 ((m+1:Nat):Int)))] [] [] [] s0.rd s0 _
   refine ⟨⟨by omega,fun j hj=>?_⟩,by omega,?_⟩
   ·by_cases e:j=m
    ·subst e;exact hacc
    ·exact hno j (by omega)
   ·rw [hrd]
    exact lm_fitsW st s0 _ n ((m+1:Nat):Int) f i1 i2 i3 hm0 hmem hsp e0 e1 (g0.trans he0) (g1.trans he1) (by rw [show ((m+1:Nat):Int)=(m:Int)+1 by omega];exact g6) m1 m2 m3 rfl
  ·intro hge env
   exact q3 m hge hno _ hmem hsp' rfl
def lmAnnW (c:WCon) (args:List S0) (base:Nat) (st:St):Nat->Option Ann :=
 match args with
 | [.c (.d (.val (.int .i64 n))),.c (.fn _ [i1,i2,_])]=>match asnBlk st i1,asnBlk st i2 with
  | some a,some b=>lmAnn n (fun m=>c.acc m a b) base
  | _,_=>fun _=>none
 | _=>fun _=>none
theorem lm_vcW (c:WCon) (st:St) (base:Nat) (n:Int) (f i1 i2 i3 j0 j1 j2 j3:Nat) (a b:GAsn) (ha:asnBlk st i1=some a) (hb:asnBlk st i2=some b) (hrd:st.rd=none) (h3:st.mem i3=some (.blk [.own j0,.own j1,.own j2,.own j3])) (hn1:i1 ≠ i3) (hn2:i2 ≠ i3) (hsp3:st.sp i3=false) (hfr3:st.fr i3=false) (hfree:freeL st (rids kkW (ptBase base 15))) (h0:0<=n) (h62:n<=62) (hpre:∀ m:Int,0<=m->m < 2 ^ n.toNat->c.pre m a b) (k:S->St->Prop)
  (hk0:lmB (fun m=>c.acc m a b) n=false->∀ st',st'.mem=st.mem->(∀ j,(st.mem j).isSome=true->st'.sp j=st.sp j/\st'.fr j=st.fr j)->st'.rd=none->k (.tup [.c (.d (.val (.int .i64 0))),.c (.d (.val (.bool false)))]) st')
  (hk1:lmB (fun m=>c.acc m a b) n=true->∀ st',st'.mem=upd (adds st.mem (ress kkW (ptBase base 15) (c.val (lmI (fun m=>c.acc m a b) n) a b)).2) i3 (some (.blk (owC (ptBase base 15))))->(∀ j,st'.sp j=clO st.mem st.sp j/\st'.fr j=clO st.mem st.fr j)->st'.rd=none->k (.tup [.c (.d (.val (.int .i64 (lmI (fun m=>c.acc m a b) n)))),.c (.d (.val (.bool true)))]) st') :
  inl tab (lookF []) (lookP [(f,ptW c)]) lmHp (fun _ _=>none) (lmAnnW c) (fun _=>[]) Try.f81.ntmps (bodyOf Try.f81) Try.f81.results.toList [.c (.d (.val (.int .i64 n))),.c (.fn f [i1,i2,i3])] base st k:=by
 have hp:=pow62 h0 h62
 refine ⟨by show 2<=17;decide,?_⟩
 have hA:lmAnnW c [.c (.d (.val (.int .i64 n))),.c (.fn f [i1,i2,i3])] base st=lmAnn n (fun m=>c.acc m a b) base:=by
  unfold lmAnnW
  simp only [ha,hb]
 rw [hA,lm_code]
 have m1:=asnBlk_mem ha
 have m2:=asnBlk_mem hb
 have tm:∀ m:Nat->Option Res,m=st.mem->tabM st.mem m []=st.mem:=fun m hm=>by
  subst hm
  funext j
  simp only [tabM]
  cases st.mem j <;> rfl
 have tq:∀ (q:Nat->Bool) j,(st.mem j).isSome=true->tabQ st.mem q [] j=q j:=fun q j hj=>by
  simp only [tabQ]
  cases hq:st.mem j with
  | none=>rw [hq] at hj;cases hj
  | some r=>rfl
 simp only [vcP,seqK,gcK,blockK]
 dsimp only [seqL,seqR,bodyOf,Try.f81]
 simp only [inlSt,envOf,upd,SE.lookF,tab2,tab3,tab4,tab5,tab7,tab9,tab12,tab13,tab21,tab22,tab23,tab24,tab25,tab26,tab29,tab30,tab31,tab38,tab39,tab40,tab41,tab65,tab66,tab67,tab68,tab71,tab77,tab78,tab93,tab94,tab104,tab105,tab110,tab111,tab112,tab119,tab121,tab130,tab139,tab141,tab149,tab151,tab156,tab157,tab158,hrd,Option.map_none,Option.map_some,reduceCtorEq,Option.getD_some,Nat.reduceEqDiff,vcReg,condK,seqK,blockK,vcOps,vcStep,vcOp,vcTr,vcDet_some,vcDet_none,trOp,trMove,ev,constS,junk,sv,St.app,St.put,vcP,vcRegP,vcOpsP,lmHp,gcK,adds,sets,true_and,and_true]
 rw [show firstReg lmLB=2 from rfl]
 refine lm_loopW c st _ base n f i1 i2 i3 j0 j1 j2 j3 a b ha hb h3 hn1 hn2 hsp3 hfr3 hfree h0 h62 hpre ?_ ?_ ?_ ?_ ?_ ?_ _ _ ?_ ?_
 ·rfl
 ·exact fun _ _=>⟨rfl,rfl⟩
 ·rfl
 ·rfl
 ·rfl
 ·rfl
 ·intro m hlt hno hacc st' g1 g2 g3 g4 g5
  obtain ⟨l1,l2⟩:=lm_found (acc:=fun m=>c.acc m a b) hlt hno hacc
  show retP tab [.tmp 4,.tmp 5] k .ret st'
  simp only [retP,loadsS,loadS,g4,g5,pack1]
  rw [l1] at g1 ⊢
  exact hk1 l2.symm st' g1 g2 g3
 ·intro m hge hno st' g1 g2 g3
  obtain ⟨l1,l2⟩:=lm_none (acc:=fun m=>c.acc m a b) hge hno
  simp only [blockK,seqK,retP,loadsS,loadS,upd,pack1,Nat.reduceEqDiff,if_true,if_false]
  exact hk0 l2.symm _ g1 g2 (by simp [g3])
theorem ptok_lmW {f:Nat} {c:WCon} (hF:PTOk Try.prog E f (ptW c)):PTOk Try.prog E 81 (ptLMW f c):=by
 have base:=pt_ok (l:=[]) (lp:=[(f,ptW c)]) (hp:=lmHp) (perm:=fun _=>[]) (gcb:=fun _ _=>none) (ann:=lmAnnW c) tabOk mix trivial ⟨hF,trivial⟩ Try.func81 rfl (by kernel_rfl) (by kernel_rfl)
 refine ⟨base.fn,?_⟩
 intro w0 M g st w args vs bs k hg hcl hrefs hargs hv
 unfold ptLMW at hv
 split at hv
 ·rename_i n f' i1 i2 i3
  obtain ⟨rfl,hv⟩:=hv
  unfold ptLW3 at hv
  split at hv
  ·rename_i a b j0 j1 j2 j3 ha hb h3
   obtain ⟨hn1,hn2,hrd,⟨h0,h62⟩,hsp3,hfr3,hfree,hpre,hk0,hk1⟩:=hv
   have hi:=lm_vcW c st bs n f' i1 i2 i3 j0 j1 j2 j3 a b ha hb hrd h3 hn1 hn2 hsp3 hfr3 hfree h0 h62 hpre
    (fun s st'=>st'.rd=st.rd/\((lmB (fun m=>c.acc m a b) n=false/\s=.tup [.c (.d (.val (.int .i64 0))),.c (.d (.val (.bool false)))]/\st'.mem=st.mem/\(∀ j,(st.mem j).isSome=true->st'.sp j=st.sp j/\st'.fr j=st.fr j)) ∨
     (lmB (fun m=>c.acc m a b) n=true/\s=.tup [.c (.d (.val (.int .i64 (lmI (fun m=>c.acc m a b) n)))),.c (.d (.val (.bool true)))]/\st'.mem=upd (adds st.mem (ress kkW (ptBase bs 15) (c.val (lmI (fun m=>c.acc m a b) n) a b)).2) i3 (some (.blk (owC (ptBase bs 15))))/\(∀ j,st'.sp j=clO st.mem st.sp j/\st'.fr j=clO st.mem st.fr j))))
    (fun hB st' g1 g2 g3=>⟨g3.trans hrd.symm,.inl ⟨hB,rfl,g1,g2⟩⟩) (fun hB st' g1 g2 g3=>⟨g3.trans hrd.symm,.inr ⟨hB,rfl,g1,g2⟩⟩)
   refine Calls.mono (base.call w0 M g st w _ vs bs _ hg hcl hrefs hargs hi) fun e w' he=>?_
   obtain ⟨v,s,st',g',rfl,⟨g3,hh⟩,hg',hsR,hsref,hcl',hold,hro,hρ⟩:=he
   rcases hh with ⟨hB,rfl,g1,g2⟩ | ⟨hB,rfl,g1,g2⟩
   ·exact ⟨v,_,st,g',rfl,hk0 hB,hg'.agree g1 g2 g3,hsR,(fun id hid=>by cases hid),hcl,fun id h=>⟨h,(hold id h).2⟩,hro,hρ⟩
   ·refine ⟨v,_,_,g',rfl,hk1 hB,hg'.agree g1 (fun j _=>g2 j) g3,hsR,(fun id hid=>by cases hid),?_,fun id h=>⟨?_,(hold id h).2⟩,hro,hρ⟩
    ·intro j r hj i hi
     have:=hcl' j r (by rw [g1];exact hj) i hi
     rw [g1] at this;exact this
    ·have:=(hold id h).1
     rw [g1] at this;exact this
  ·exact hv.elim
 ·exact hv.elim
abbrev c_pickAtoms:Con:=⟨[.asn,.int],[.asn],fun (a,mask,_)=>a.facts.length<=1048576/\a.atoms.length<=1048576,.inl fun (a,mask,_)=>(⟨[],pkA mask a.atoms⟩,()),fun _=>0⟩
abbrev L_pickAtoms:List (FuncId × Con):=[]
abbrev P_pickAtoms:List (FuncId × PT):=[]
def an_pickAtoms (a:GAsn) (mask:Int):Nat->St->Option Ann
 | 3,se=>some { α:=Nat,ok:=fun i=>i<=a.atoms.length,mu:=fun i=>a.atoms.length - i,i0:=fun _=>0,nx:=fun a _=>(fun i=>i+1) a,live:=[1,4,5,9,10],sets:=fun i=>[(11,sv (.int .i64 i))],mids:=[64,65,79],blks:=fun i=>[(95,.blk [.own 7,.own 8])],owns:=fun i=>[⟨7,.cell 95 0,.fact,[]⟩,⟨8,.cell 95 1,.atom,pk mask a.atoms i⟩],rd:=fun r _=>r,base:=100000 }
 | _,_=>none
def VC_pickAtoms_1 (mask:Int) (a:GAsn):Prop:=RL [.s (.c (.d (.val (.int .i64 mask)))),.s (.c (.ptr 79 0)),.s (.c (.ptr 95 0)),.s (.c (.d (.arr .atom a.atoms))),.s (.c (.d (.val (.int .i64 ((a.atoms.length:Nat):Int)))))]
def VC_pickAtoms_2 :Prop:=RM [some (.sl 64 .fact ([]:List GFact)),some (.sl 65 .atom ([]:List GAtom)),some (.blk [.own 64,.own 65])]
def VC_pickAtoms_3 (i1:Nat):Prop:=([.s (.c (.d (.val (.int .i64 (((i1:Nat):Int)+(1:Int))))))]:List S)=[.s (.c (.d (.val (.int .i64 (((i1+1):Nat):Int)))))]
def VC_pickAtoms (a:GAsn) (mask:Int) (k:Nat):Prop:=TN/\(TN/\TN/\TN/\True)/\(TN/\TN/\TN/\True)/\True/\True/\True/\True/\((0<=a.atoms.length)/\TT/\(VC_pickAtoms_1 mask a)/\(([.s (.c (.d (.val (.int .i64 (0:Int)))))]:List S)=[.s (.c (.d (.val (.int .i64 ((0:Nat):Int)))))])/\VC_pickAtoms_2/\(RM [some (.blk [.own 80,.own 81])])/\(((some ([]:List GFact):Option (List GFact))=some [])/\((some ([]:List GAtom):Option (List GAtom))=some (pk mask a.atoms 0))/\True)/\TT)/\(∀ i1:Nat,(i1<=a.atoms.length)->True/\(vcIf (decide (((i1:Nat):Int) < ((a.atoms.length:Nat):Int))) (True/\(0<=((i1:Nat):Int)/\((i1:Nat):Int) < ((a.atoms.length:Nat):Int))/\True/\(TN/\True)/\True/\(TF/\TF)/\True/\True/\(0<=((i1:Nat):Int))/\True/\True/\(vcIf ((bits .and .i64 (Int.fdiv mask (2 ^ (min i1 (IntKind.bits .i64)))) (1:Int)) == (1:Int)) (True/\True/\True/\(TN/\True)/\(TN/\TF/\TF/\((pk mask a.atoms i1).length+([(a.atoms.getD i1 (⟨0,0,0⟩:GAtom))]:List GAtom).length<=4294967296))/\True/\(TF/\TF)/\(inK .i64 (((i1:Nat):Int)+(1:Int)))/\True/\((i1+1)<=a.atoms.length)/\(a.atoms.length - (i1+1) < a.atoms.length - i1)/\TT/\(VC_pickAtoms_1 mask a)/\(VC_pickAtoms_3 i1)/\VC_pickAtoms_2/\(RM [some (.blk [.own 7,.own 100400])])/\(((some []:Option (List GFact))=some [])/\((some ((pk mask a.atoms i1) ++ ([(a.atoms.getD i1 (⟨0,0,0⟩:GAtom))]:List GAtom)):Option (List GAtom))=some (pk mask a.atoms (i1+1)))/\True)/\TT) ((inK .i64 (((i1:Nat):Int)+(1:Int)))/\True/\((i1+1)<=a.atoms.length)/\(a.atoms.length - (i1+1) < a.atoms.length - i1)/\TT/\(VC_pickAtoms_1 mask a)/\(VC_pickAtoms_3 i1)/\VC_pickAtoms_2/\(RM [some (.blk [.own 7,.own 8])])/\(((some []:Option (List GFact))=some [])/\((some (pk mask a.atoms i1):Option (List GAtom))=some (pk mask a.atoms (i1+1)))/\True)/\TT))) (True/\(TF/\TF)/\((((⟨[],pk mask a.atoms i1⟩:GAsn),()):GAsn × Unit)=(⟨[],pkA mask a.atoms⟩,()))/\((((7:Nat) ≠ 8)/\True)/\True/\True)/\((TF/\TF)/\(TF/\TF)/\True)/\True/\(True/\True/\True)/\TF)))
theorem vcn_pickAtoms (a:GAsn) (mask:Int) (k:Nat) (hp:a.facts.length<=1048576/\a.atoms.length<=1048576):VC_pickAtoms a mask k:=by
 unfold VC_pickAtoms VC_pickAtoms_3 VC_pickAtoms_2 VC_pickAtoms_1
 simp only [cln,Nat.reduceEqDiff,Nat.reduceLeDiff,Nat.reduceAdd]
 have hs:=pk_step mask a.atoms
 have hl:=pk_len mask a.atoms
 all_goals (try simp only [opn])
 all_goals (repeat' (first | apply And.intro | intro _))
 all_goals (first | omega | (simp_all;done) | grind [pkA,mbit,pk])
theorem ok_pickAtoms:FnOk Try.prog E 73 c_pickAtoms :=
 fn_okQ (l:=L_pickAtoms) (lp:=P_pickAtoms) (hp:=fun _=>false) (gcs:=fun _=>none) (perm:=fun _=>[]) tabOk mix trivial trivial Try.func73 rfl (by kernel_rfl) (by decide) (by kernel_rfl) (anns:=fun x _=>an_pickAtoms x.1 x.2.1) (fun ⟨a,mask,_⟩ k hp _=>Eq.mp (by kernel_rfl) (vcn_pickAtoms a mask k hp)) tot_fn
abbrev c_frAcc:Con:=⟨[.int,.pasn,.pasn],[.bool],fun (m,b,a,_)=>asV a=true/\asV b=true,.inl fun (m,b,a,_)=>(FRA m b a,()),fun _=>0⟩
abbrev L_frAcc:List (FuncId × Con):=[(20,c_iEntails),(32,c_iStarAssertions),(73,c_pickAtoms)]
abbrev P_frAcc:List (FuncId × PT):=[]
def VC_frAcc (m:Int) (b:GAsn) (a:GAsn) (k:Nat):Prop:=True/\True/\True/\True/\((a.facts.length<=1048576/\a.atoms.length<=1048576)/\True/\TN/\TN/\True)/\((b.facts.length<=1048576/\b.atoms.length<=1048576/\(⟨[],(pkA m a.atoms)⟩:GAsn).facts.length<=1048576/\(⟨[],(pkA m a.atoms)⟩:GAsn).atoms.length<=1048576)/\True/\TN/\TN/\True)/\True/\True/\True/\(TN/\TN/\TN/\True)/\(TF/\TF)/\True/\True/\True/\(vcIf (starOk b (⟨[],(pkA m a.atoms)⟩:GAsn)) (True/\True/\((a.facts.length<=281474976710656/\a.atoms.length<=281474976710656/\(starL b (⟨[],(pkA m a.atoms)⟩:GAsn)).facts.length<=281474976710656/\(starL b (⟨[],(pkA m a.atoms)⟩:GAsn)).atoms.length<=281474976710656)/\True/\True)/\True/\True/\((((ENT a (starL b (⟨[],(pkA m a.atoms)⟩:GAsn))),()):Bool × Unit)=(FRA m b a,()))/\True/\True/\True/\True/\TF) (True/\True/\(((false,()):Bool × Unit)=(FRA m b a,()))/\True/\True/\True/\True/\TF))
theorem vcn_frAcc (m:Int) (b:GAsn) (a:GAsn) (k:Nat) (hp:asV a=true/\asV b=true):VC_frAcc m b a k:=by
 unfold VC_frAcc
 simp only [cln,Nat.reduceEqDiff,Nat.reduceLeDiff,Nat.reduceAdd]
 all_goals (try simp only [opn])
 all_goals (repeat' (first | apply And.intro | intro _))
 all_goals (repeat (cases ‹_/\_›))
 all_goals (first | with_reducible exact True.intro | (exfalso;contradiction) | omega | with_reducible assumption | with_reducible rfl | skip)
 all_goals (try have hA:=fo_len6 ‹asV a=true›)
 all_goals (try have hB:=fo_len6 ‹asV b=true›)
 all_goals (first
  | omega
  | with_reducible exact pk200 (by omega)
  | (with_reducible refine Nat.le_trans (m:=200) ?_ (by decide);first
   | with_reducible exact star_pkF (by omega) | with_reducible exact star_pkA (by omega) (by omega))
  | with_reducible exact fra_y ‹_› | with_reducible exact fra_n ‹_›
  | with_reducible exact (frm_no1 ‹_›).1 | with_reducible exact (frm_no1 ‹_›).2 | with_reducible exact (frm_no2 ‹_›).1 | with_reducible exact (frm_no2 ‹_›).2
  | with_reducible exact (frm_n ‹_› ‹_› ‹_›).1 | with_reducible exact (frm_n ‹_› ‹_› ‹_›).2
  | with_reducible exact (frm_y ‹_› ‹_› ‹_›).1 | with_reducible exact (frm_y ‹_› ‹_› ‹_›).2
  | skip)
abbrev cl_frAcc:ClC:=⟨fun m b a=>asV a=true/\asV b=true,fun m b a=>FRA m b a⟩
theorem ok_frAcc:FnOk Try.prog E 82 c_frAcc :=
 fn_okQ (l:=L_frAcc) (lp:=P_frAcc) (hp:=fun _=>false) (gcs:=fun _=>none) (perm:=fun _=>[]) tabOk mix ⟨ok_iEntails,ok_iStarAssertions,ok_pickAtoms,trivial⟩ trivial Try.func82 rfl (by kernel_rfl) (by decide) (by kernel_rfl) (anns:=fun x _=>fun _ _=>none) (fun ⟨m,b,a,_⟩ k hp _=>Eq.mp (by kernel_rfl) (vcn_frAcc m b a k hp)) tot_fn
abbrev c_iFrameOf:Con:=⟨[.asn,.asn],[.asn,.bool],fun (a,b,_)=>a.facts.length<=281474976710656/\a.atoms.length<=281474976710656/\b.facts.length<=281474976710656/\b.atoms.length<=281474976710656,.inl fun (a,b,_)=>(frmL a b,frmB a b,()),fun _=>0⟩
abbrev L_iFrameOf:List (FuncId × Con):=[(37,c_iAssertionValid),(73,c_pickAtoms)]
abbrev P_iFrameOf:List (FuncId × PT):=[(81,ptLM 82 cl_frAcc)]
def hp_iFrameOf:Nat->Bool
 | 3=>true
 | _=>false
def VC_iFrameOf_1 (a:GAsn) (b:GAsn):Prop:=(((⟨([]:List GFact),([]:List GAtom)⟩:GAsn),false,()):GAsn × Bool × Unit)=(frmL a b,frmB a b,())
def VC_iFrameOf_2 (a:GAsn) (b:GAsn):Prop:=(TN/\TN/\True)/\(TF/\TF)/\True/\(VC_iFrameOf_1 a b)/\((((256:Nat) ≠ 257)/\True)/\True/\True)/\((TF/\TF)/\(TF/\TF)/\True)/\True/\(True/\True/\True)/\TF
def VC_iFrameOf (a:GAsn) (b:GAsn) (k:Nat):Prop:=TN/\TN/\(TN/\TN/\TN/\True)/\True/\True/\((a.facts.length<=281474976710656/\a.atoms.length<=281474976710656)/\True/\True)/\True/\True/\(vcIf (!(asV a)) (True/\(VC_iFrameOf_2 a b)) (True/\((b.facts.length<=281474976710656/\b.atoms.length<=281474976710656)/\True/\True)/\True/\True/\(vcIf (!(asV b)) (VC_iFrameOf_2 a b) (True/\True/\True/\True/\((82:Nat)=82)/\((none:Option Nat)=none)/\(0<=((a.atoms.length:Nat):Int)/\((a.atoms.length:Nat):Int)<=62)/\(∀ m1:Int,(0:Int)<=m1->m1 < (2:Int) ^ (((a.atoms.length:Nat):Int)).toNat->asV a=true/\asV b=true)/\True/\True/\True/\True/\True/\True/\True/\(vcIf (!(lmB (fun m1=>FRA m1 b a) ((a.atoms.length:Nat):Int))) ((TN/\TN/\True)/\(TF/\TF)/\True/\(VC_iFrameOf_1 a b)/\((((432:Nat) ≠ 433)/\True)/\True/\True)/\((TF/\TF)/\(TF/\TF)/\True)/\True/\(True/\True/\True)/\TF) (True/\True/\((a.facts.length<=1048576/\a.atoms.length<=1048576)/\True/\TN/\TN/\True)/\(TF/\TF)/\True/\((((⟨[],(pkA (lmI (fun m1=>FRA m1 b a) ((a.atoms.length:Nat):Int)) a.atoms)⟩:GAsn),true,()):GAsn × Bool × Unit)=(frmL a b,frmB a b,()))/\((((480:Nat) ≠ 481)/\True)/\True/\True)/\((TF/\TF)/\(TF/\TF)/\True)/\True/\(True/\True/\True)/\TF))))))
theorem vcn_iFrameOf (a:GAsn) (b:GAsn) (k:Nat) (hp:a.facts.length<=281474976710656/\a.atoms.length<=281474976710656/\b.facts.length<=281474976710656/\b.atoms.length<=281474976710656):VC_iFrameOf a b k:=by
 unfold VC_iFrameOf VC_iFrameOf_2 VC_iFrameOf_1
 simp only [cln,Nat.reduceEqDiff,Nat.reduceLeDiff,Nat.reduceAdd]
 all_goals (try simp only [opn])
 all_goals (repeat' (first | apply And.intro | intro _))
 all_goals (repeat (cases ‹_/\_›))
 all_goals (first | with_reducible exact True.intro | (exfalso;contradiction) | omega | with_reducible assumption | with_reducible rfl | skip)
 all_goals (try have hA:=fo_len6 ‹asV a=true›)
 all_goals (try have hB:=fo_len6 ‹asV b=true›)
 all_goals (first
  | omega
  | with_reducible exact pk200 (by omega)
  | (with_reducible refine Nat.le_trans (m:=200) ?_ (by decide);first
   | with_reducible exact star_pkF (by omega) | with_reducible exact star_pkA (by omega) (by omega))
  | with_reducible exact fra_y ‹_› | with_reducible exact fra_n ‹_›
  | with_reducible exact (frm_no1 ‹_›).1 | with_reducible exact (frm_no1 ‹_›).2 | with_reducible exact (frm_no2 ‹_›).1 | with_reducible exact (frm_no2 ‹_›).2
  | with_reducible exact (frm_n ‹_› ‹_› ‹_›).1 | with_reducible exact (frm_n ‹_› ‹_› ‹_›).2
  | with_reducible exact (frm_y ‹_› ‹_› ‹_›).1 | with_reducible exact (frm_y ‹_› ‹_› ‹_›).2
  | skip)
theorem ok_iFrameOf:FnOk Try.prog E 35 c_iFrameOf :=
 fn_okQ (l:=L_iFrameOf) (lp:=P_iFrameOf) (hp:=hp_iFrameOf) (gcs:=fun _=>none) (perm:=fun _=>[]) tabOk mix ⟨ok_iAssertionValid,ok_pickAtoms,trivial⟩ ⟨(ptok_lm (c:=cl_frAcc) ok_frAcc),trivial⟩ Try.func35 rfl (by kernel_rfl) (by decide) (by kernel_rfl) (anns:=fun x _=>fun _ _=>none) (fun ⟨a,b,_⟩ k hp _=>Eq.mp (by kernel_rfl) (vcn_iFrameOf a b k hp)) tot_fn
abbrev c_firstCase:Con:=⟨[.asn],[.kase,.bool],fun (a,_)=>asV a=true,.inl fun (a,_)=>((casesF a).headD (List.replicate 9 0),!(casesF a).isEmpty,()),fun _=>0⟩
abbrev L_firstCase:List (FuncId × Con):=[]
abbrev P_firstCase:List (FuncId × PT):=[(98,pt_possibleCases)]
def hp_firstCase:Nat->Bool
 | 1=>true
 | _=>false
def ra_firstCase (a:GAsn):St->Option RAnn:=fun se=>some ⟨fun _=>false,[2,3],[47,63],fun i=>[],[47,63],fun i=>[],fun i=>[],300000⟩
def VC_firstCase_1 (c2_0:Int) (c2_1:Int) (c2_2:Int) (c2_3:Int) (c2_4:Int) (c2_5:Int) (c2_6:Int) (c2_7:Int) (c2_8:Int):Prop:=(([c2_0,c2_1,c2_2,c2_3,c2_4,c2_5,c2_6,c2_7,c2_8]:List Int).length=(List.replicate 9 (0:Int)).length)/\TF/\TF
def VC_firstCase (a:GAsn) (k:Nat):Prop:=TT/\TN/\(TN/\True)/\(TN/\True)/\TT/\True/\((2:Nat)<=12)/\TN/\True/\True/\((a.facts.length<=281474976710656/\a.atoms.length<=281474976710656)/\True/\True)/\((0<=(tsA a)/\(tsA a) < 512)/\True/\True)/\True/\True/\(TN/\True)/\(TF/\TF)/\True/\True/\((((134:Nat)=134)/\((none:Option Nat)=none)/\(itPre a (bits .or .u16 (tsWith (tsA a) (0:Int)) (0:Int))))/\TT/\TT/\(RL [.s (.c (.ptr 47 0)),.s (.c (.ptr 63 0))])/\(RL [])/\(RM [some (.vec .int (List.replicate 9 (0:Int))),some (.blk [.d (.val (.bool false))])])/\(RM [])/\True/\TT)/\(∀ i1:Nat,∀ c2_0:Int,∀ c2_1:Int,∀ c2_2:Int,∀ c2_3:Int,∀ c2_4:Int,∀ c2_5:Int,∀ c2_6:Int,∀ c2_7:Int,∀ c2_8:Int,((itEn a (bits .or .u16 (tsWith (tsA a) (0:Int)) (0:Int)))[i1]?=some ([c2_0,c2_1,c2_2,c2_3,c2_4,c2_5,c2_6,c2_7,c2_8]:List Int))->(((itEn a (bits .or .u16 (tsWith (tsA a) (0:Int)) (0:Int))).take i1).all (fun _=>false)=true)->TT/\(TN/\True)/\(VC_firstCase_1 c2_0 c2_1 c2_2 c2_3 c2_4 c2_5 c2_6 c2_7 c2_8)/\((none:Option Nat)=none)/\TT/\(9=([c2_0,c2_1,c2_2,c2_3,c2_4,c2_5,c2_6,c2_7,c2_8]:List Int).length * 1)/\(VC_firstCase_1 c2_0 c2_1 c2_2 c2_3 c2_4 c2_5 c2_6 c2_7 c2_8)/\(TF/\TF)/\(false=false)/\((none:Option Nat)=none)/\((none:Option Nat)=none)/\(((([c2_0,c2_1,c2_2,c2_3,c2_4,c2_5,c2_6,c2_7,c2_8]:List Int),true,()):(List Int) × Bool × Unit)=((casesF a).headD (List.replicate 9 0),!(casesF a).isEmpty,()))/\True/\True/\True/\True/\TF)/\(((itEn a (bits .or .u16 (tsWith (tsA a) (0:Int)) (0:Int))).all (fun _=>false)=true)->TT/\True/\(((List.replicate 9 (0:Int)).length=(List.replicate 9 (0:Int)).length)/\TF/\TF)/\(TF/\TF)/\((none:Option Nat)=none)/\(((List.replicate 9 (0:Int),false,()):(List Int) × Bool × Unit)=((casesF a).headD (List.replicate 9 0),!(casesF a).isEmpty,()))/\True/\True/\True/\True/\TF)
theorem vcn_firstCase (a:GAsn) (k:Nat) (hp:asV a=true):VC_firstCase a k:=by
 unfold VC_firstCase VC_firstCase_1
 simp only [cln,Nat.reduceEqDiff,Nat.reduceLeDiff,Nat.reduceAdd]
 have hs:=asV_small hp
 have hb:=tsA_bd a
 have hw:=tsWith_bd (t:=0) hb.1 hb.2
 have ho:=tsOr hw.1 hw.2 (y:=0) (by decide) (by decide)
 have hi:=itEn_or hp (s:=0) (by decide) (by decide)
 rw [itEn_zero hp]
 all_goals (repeat' (first | apply And.intro | intro _))
 all_goals (first | omega | assumption | rfl | exact hs.1 | exact hs.2 | exact hi.2 | (rw [itEn_zero hp] at *;exact hi.2) | exact ho.1 | exact ho.2.1 | (simp_all;done) | exact (head_hit ‹_› ‹_›).1 | exact (head_hit (d:=[]) ‹_› ‹_›).2 | exact (head_none ‹_›).1 | exact (head_none (d:=[]) ‹_›).2 | skip)
abbrev spc_firstCase (a:GAsn):SpCode Bool:=spR tab (lookF L_firstCase) (lookP P_firstCase) hp_firstCase (fun _=>none) (fun _ _ _=>none) (fun _=>[]) Try.f91.ntmps 134 itPre itEn (ra_firstCase a)
theorem spcok_firstCase (a:GAsn) (wE:World) (ro0:Nat->Option (Array Value)) (ρ:Nat):SpcOk Fence.wide 0 Try.prog E (AC wE ro0 ρ) Try.f91.ntmps (spc_firstCase a) :=
 spR_ok tabOk (kall_of (l:=L_firstCase) trivial) (pall_of (l:=P_firstCase) ⟨ptok_possibleCases,trivial⟩) mix it_ok it_len it_run
theorem vcr_firstCase:∀ x:Args c_firstCase.aks,c_firstCase.pre x->vcY tab (lookF L_firstCase) (lookP P_firstCase) noSpB (spc_firstCase x.1) (fun b=>!b) hp_firstCase (fun _=>none) (fun _ _ _=>none) (fun _=>[]) (bodyOf Try.f91) (entry (encs c_firstCase.aks x) none) false (retR tab c_firstCase Try.f91.results.toList x) :=
 fun ⟨a,_⟩ hp=>Eq.mp (by kernel_rfl) (vcn_firstCase a 0 hp)
theorem ok_firstCase:FnOk Try.prog E 91 c_firstCase :=
 fnR_ok (con:=c_firstCase) (fn:=Try.f91) (l:=L_firstCase) (lp:=P_firstCase) (hp:=hp_firstCase) (gcs:=fun _=>none) (perm:=fun _=>[]) (spc:=fun x=>spc_firstCase x.1) (anns:=fun x=>(fun _ _ _=>none)) tabOk mix trivial ⟨ptok_possibleCases,trivial⟩ rfl Try.func91 rfl (by kernel_rfl) (by decide) (by kernel_rfl) (fun x _=>spcok_firstCase x.1) vcr_firstCase tot_fn
abbrev c_iConsistent:Con:=⟨[.asn],[.bool],fun (a,_)=>a.facts.length<=281474976710656/\a.atoms.length<=281474976710656,.inl fun (a,_)=>(asV a && !(casesF a).isEmpty,()),fun _=>0⟩
abbrev L_iConsistent:List (FuncId × Con):=[(37,c_iAssertionValid),(91,c_firstCase)]
abbrev P_iConsistent:List (FuncId × PT):=[]
def VC_iConsistent (a:GAsn) (k:Nat):Prop:=TN/\True/\True/\((a.facts.length<=281474976710656/\a.atoms.length<=281474976710656)/\True/\True)/\True/\(vcIf (!(asV a)) (True/\(((false,()):Bool × Unit)=(asV a && !(casesF a).isEmpty,()))/\True/\True/\True/\True/\TF) (True/\((asV a=true)/\True/\True)/\True/\True/\True/\(TN/\True)/\((((casesF a).headD (List.replicate 9 0)).length=(List.replicate 9 (0:Int)).length)/\TF/\TF)/\True/\True/\True/\((((!(casesF a).isEmpty),()):Bool × Unit)=(asV a && !(casesF a).isEmpty,()))/\True/\True/\True/\True/\TF))
theorem vcn_iConsistent (a:GAsn) (k:Nat) (hp:a.facts.length<=281474976710656/\a.atoms.length<=281474976710656):VC_iConsistent a k:=by
 unfold VC_iConsistent
 simp only [cln,Nat.reduceEqDiff,Nat.reduceLeDiff,Nat.reduceAdd]
 have hl:=casesF_len a
 all_goals (try simp only [opn])
 all_goals (repeat' (first | apply And.intro | intro _))
 all_goals (first | omega | (simp_all;done) | grind [])
theorem ok_iConsistent:FnOk Try.prog E 44 c_iConsistent :=
 fn_okQ (l:=L_iConsistent) (lp:=P_iConsistent) (hp:=fun _=>false) (gcs:=fun _=>none) (perm:=fun _=>[]) tabOk mix ⟨ok_iAssertionValid,ok_firstCase,trivial⟩ trivial Try.func44 rfl (by kernel_rfl) (by decide) (by kernel_rfl) (anns:=fun x _=>fun _ _=>none) (fun ⟨a,_⟩ k hp _=>Eq.mp (by kernel_rfl) (vcn_iConsistent a k hp)) tot_fn
abbrev L_repairWith:List (FuncId × Con):=[(32,c_iStarAssertions),(35,c_iFrameOf),(44,c_iConsistent),(73,c_pickAtoms)]
abbrev P_repairWith:List (FuncId × PT):=[]
abbrev pt_repairWith:PT:=inl tab (lookF L_repairWith) (lookP P_repairWith) (fun _=>false) (fun _ _=>none) (fun _ _ _ _=>none) (fun _=>[]) Try.f89.ntmps (bodyOf Try.f89) Try.f89.results.toList
theorem ptok_repairWith:PTOk Try.prog E 89 pt_repairWith :=
 pt_ok (l:=L_repairWith) (lp:=P_repairWith) tabOk mix ⟨ok_iStarAssertions,ok_iFrameOf,ok_iConsistent,ok_pickAtoms,trivial⟩ trivial Try.func89 rfl (by kernel_rfl) (by kernel_rfl)
abbrev cw_miAcc:WCon:=⟨fun m a b=>asV a=true/\asV b=true/\0<=m/\m < pkTop b,fun m a b=>mxB a b m,fun m a b=>(⟨[],pkA m b.atoms⟩:GAsn),fun m a b=>frmL (mxS a b m) b⟩
abbrev pt_miAcc:PT:=ptW cw_miAcc
abbrev L_miAcc:List (FuncId × Con):=[]
abbrev P_miAcc:List (FuncId × PT):=[(89,pt_repairWith)]
def hp_miAcc:Nat->Bool
 | 1=>true
 | _=>false
def VC_miAcc_1 (a:GAsn) (b:GAsn) (m:Int) (v0:Value) (v1:Value) (v2:Value) (v3:Value):Prop:=(TN/\TN/\TN/\TN/\True)/\(TF/\TF)/\True/\True/\True/\True/\(TN/\TN/\TN/\TN/\TN/\True)/\(TF/\TF)/\True/\True/\True/\True/\((false:Bool)=mxB a b m)/\(TF/\TF)/\((v0:Value)=v0)/\((v1:Value)=v1)/\((v2:Value)=v2)/\((v3:Value)=v3)
def VC_miAcc (m:Int) (a:GAsn) (b:GAsn) (v0 v1 v2 v3:Value) (k:Nat):Prop:=True/\True/\True/\True/\((3:Nat)<=41)/\TN/\TN/\(TN/\TN/\TN/\TN/\TN/\True)/\True/\True/\True/\((b.facts.length<=1048576/\b.atoms.length<=1048576)/\True/\TN/\TN/\True)/\(TN/\TN/\TN/\True)/\(TF/\TF)/\True/\True/\((a.facts.length<=1048576/\a.atoms.length<=1048576/\(⟨[],(pkA m b.atoms)⟩:GAsn).facts.length<=1048576/\(⟨[],(pkA m b.atoms)⟩:GAsn).atoms.length<=1048576)/\True/\TN/\TN/\True)/\True/\True/\True/\(TN/\TN/\TN/\True)/\(TF/\TF)/\True/\True/\True/\True/\(vcIf (!(starOk a (⟨[],(pkA m b.atoms)⟩:GAsn))) (True/\(VC_miAcc_1 a b m v0 v1 v2 v3)) (True/\(((starL a (⟨[],(pkA m b.atoms)⟩:GAsn)).facts.length<=281474976710656/\(starL a (⟨[],(pkA m b.atoms)⟩:GAsn)).atoms.length<=281474976710656)/\True/\True)/\True/\True/\(vcIf (!(asV (starL a (⟨[],(pkA m b.atoms)⟩:GAsn)) && !(casesF (starL a (⟨[],(pkA m b.atoms)⟩:GAsn))).isEmpty)) (VC_miAcc_1 a b m v0 v1 v2 v3) (True/\True/\(((starL a (⟨[],(pkA m b.atoms)⟩:GAsn)).facts.length<=281474976710656/\(starL a (⟨[],(pkA m b.atoms)⟩:GAsn)).atoms.length<=281474976710656/\b.facts.length<=281474976710656/\b.atoms.length<=281474976710656)/\True/\TN/\TN/\True)/\True/\True/\True/\(TN/\TN/\TN/\True)/\(TF/\TF)/\True/\True/\True/\(vcIf (!(frmB (starL a (⟨[],(pkA m b.atoms)⟩:GAsn)) b)) (VC_miAcc_1 a b m v0 v1 v2 v3) (True/\True/\(TN/\TN/\TN/\TN/\True)/\(TF/\TF)/\True/\True/\True/\True/\(TN/\TN/\TN/\TN/\TN/\True)/\(TF/\TF)/\True/\True/\True/\(TF/\TF)/\True/\True/\((true:Bool)=mxB a b m)/\(TF/\TF)/\((((⟨[],(pkA m b.atoms)⟩:GAsn),(frmL (starL a (⟨[],(pkA m b.atoms)⟩:GAsn)) b),()):GAsn × GAsn × Unit)=((⟨[],pkA m b.atoms⟩:GAsn),frmL (mxS a b m) b,()))/\((((214240:Nat) ≠ 214241)/\((214240:Nat) ≠ 214528)/\((214240:Nat) ≠ 214529)/\True)/\(((214241:Nat) ≠ 214528)/\((214241:Nat) ≠ 214529)/\True)/\(((214528:Nat) ≠ 214529)/\True)/\True/\True)/\((TF/\TF)/\(TF/\TF)/\(TF/\TF)/\(TF/\TF)/\True)/\True))))))
theorem vcn_miAcc (m:Int) (a:GAsn) (b:GAsn) (v0 v1 v2 v3:Value) (k:Nat) (hp:asV a=true/\asV b=true/\0<=m/\m < pkTop b):VC_miAcc m a b v0 v1 v2 v3 k:=by
 unfold VC_miAcc VC_miAcc_1
 simp only [cln,Nat.reduceEqDiff,Nat.reduceLeDiff,Nat.reduceAdd]
 all_goals (try simp only [opn])
 all_goals (try simp only [pkTop_w])
 all_goals (repeat' (first | apply And.intro | intro _))
 all_goals (repeat (cases ‹_/\_›))
 all_goals (first | with_reducible exact True.intro | (exfalso;contradiction) | omega | with_reducible assumption | with_reducible rfl | skip)
 all_goals (have hA:=fo_len6 ‹asV a=true›;have hB:=fo_len6 ‹asV b=true›;have hT:=pkTop_eq ‹asV b=true›)
 all_goals (first
  | omega
  | (with_reducible refine Nat.le_trans (m:=200) ?_ (by decide);first | with_reducible exact mxs200F (by omega) | with_reducible exact mxs200A (by omega) (by omega) | with_reducible exact pk200 (by omega))
  | with_reducible exact (mxN1 ‹_› ‹_› ‹_›).symm | with_reducible exact (mxN2 ‹_› ‹_›).symm | with_reducible exact (mxN3 ‹_› ‹_›).symm
  | with_reducible exact (mxY ‹_› ‹_› ‹_›).symm
  | with_reducible exact mx_fr ‹_›
  | skip)
theorem ptok_miAcc:PTOk Try.prog E 88 pt_miAcc :=
 clw_ok (c:=cw_miAcc) (fn:=Try.f88) (l:=L_miAcc) (lp:=P_miAcc) (hp:=hp_miAcc) (perm:=fun _=>[]) tabOk mix trivial ⟨ptok_repairWith,trivial⟩ Try.func88 rfl (by kernel_rfl) (show 4<=Try.f88.ntmps by decide) (by kernel_rfl) (anns:=fun _ _=>none) (fun m a b v0 v1 v2 v3 hp=>Eq.mp (by kernel_rfl) (vcn_miAcc m a b v0 v1 v2 v3 0 hp))
end Go.Proofs.Ytopjgjelkpkmmaa
