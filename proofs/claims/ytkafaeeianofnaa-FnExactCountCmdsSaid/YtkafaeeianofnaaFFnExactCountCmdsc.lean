/-
  Contracts of single functions of the program, each shown by the engine: what a call returns for arguments within the contract's bounds.
-/
import Derived.Test.YtkafaeeianofnaaFFnExactCountCmdsa
import Derived.Test.YtkafaeeianofnaaFFnExactCountCmdsb
import Derived.Test.YtkafaeeianofnaaEc
set_option linter.unusedSimpArgs false
set_option linter.unusedVariables false
set_option linter.unusedSectionVars false

namespace Go.Proofs.Ytkafaeeianofnaa
open Go.SE Go.RowKit
set_option linter.unusedSimpArgs false
set_option linter.unusedVariables false
set_option maxHeartbeats 1000000
set_option maxRecDepth 100000
abbrev c_countValid:Con:=⟨[.sl .cmd,.int,.int],[.int,.bool],fun (l,d,r,_)=>BdL l/\1<=d/\d<=5/\0<=r/\r<=16,.inl fun (l,d,r,_)=>(cvN d r l,cvB d r l,()),fun _=>0⟩
abbrev mu_countValid:Args c_countValid.aks->Nat:=fun (l,d,r,_)=>ndL l
abbrev L_countValid (m:Nat):List (FuncId × Con):=[(49,c_countValid.lim mu_countValid m),(59,c_fieldsValid)]
abbrev P_countValid:List (FuncId × PT):=[]
def an_countValid (l:List GCmd) (d:Int) (r:Int):Nat->St->Option Ann
 | 5,se=>some { α:=Nat,ok:=fun i=>i<=l.length/\(l.length=0 ∨ d<=4)/\shL (5 - d) (l.take i)=true/\l.length+ndL (l.take i) - i<=r,mu:=fun i=>l.length - i,i0:=fun _=>0,nx:=fun a _=>(fun i=>i+1) a,live:=[1,2,30,31],sets:=fun i=>[(32,sv (.int .i64 i)),(8,sv (.int .i64 (l.length+ndL (l.take i) - i)))],mids:=[],blks:=fun i=>[],owns:=fun i=>[],rd:=fun r _=>r,base:=100000 }
 | 10,se=>some { α:=Nat,ok:=fun j=>j<=2/\((vcsAt se 43).take j).all (shL (4 - d))=true/\intAt se 8+sumN ((vcsAt se 43).take j)<=r,mu:=fun j=>2 - j,i0:=fun _=>0,nx:=fun a _=>(fun j=>j+1) a,live:=[1,2,30,31,32,43],sets:=fun j=>[(44,sv (.int .i64 j)),(8,sv (.int .i64 (intAt se 8+sumN ((vcsAt se 43).take j))))],mids:=[],blks:=fun j=>[],owns:=fun j=>[],rd:=fun r _=>r,base:=200000 }
 | _,_=>none
def VC_countValid_1 (d:Int) (r:Int) (l:List GCmd):Prop:=True/\True/\((((0:Int),false,()):Int × Bool × Unit)=(cvN d r l,cvB d r l,()))/\True/\True/\True/\True/\TF
def VC_countValid_2 (d:Int) (r:Int) (l:List GCmd):Prop:=RL [.s (.c (.d (.val (.int .i64 d)))),.s (.c (.d (.val (.int .i64 r)))),.s (.c (.d (.arr .cmd l))),.s (.c (.d (.val (.int .i64 ((l.length:Nat):Int)))))]
def VC_countValid_3 (d:Int) (r:Int) (l:List GCmd) (i1:Nat):Prop:=RL [.s (.c (.d (.val (.int .i64 d)))),.s (.c (.d (.val (.int .i64 r)))),.s (.c (.d (.arr .cmd l))),.s (.c (.d (.val (.int .i64 ((l.length:Nat):Int))))),.s (.c (.d (.val (.int .i64 ((i1:Nat):Int))))),.s (.vec .cmds ([(l.getD i1 (Ty.zero .cmd)).body,(l.getD i1 (Ty.zero .cmd)).els]:List (List GCmd)))]
def VC_countValid_4 (d:Int) (r:Int) (l:List GCmd) (i1:Nat) (j2:Nat) (m:Nat):Prop:=(True/\(inK .i64 (d+(1:Int)))/\True/\True/\(inK .i64 (r - ((l.length+ndL (l.take i1) - i1:Int)+sumN ((([(l.getD i1 (Ty.zero .cmd)).body,(l.getD i1 (Ty.zero .cmd)).els]:List (List GCmd))).take j2):Int)))/\(((BdL (([(l.getD i1 (Ty.zero .cmd)).body,(l.getD i1 (Ty.zero .cmd)).els]:List (List GCmd)).getD j2 ([]:List GCmd))/\1<=(d+(1:Int))/\(d+(1:Int))<=5/\0<=(r - ((l.length+ndL (l.take i1) - i1:Int)+sumN ((([(l.getD i1 (Ty.zero .cmd)).body,(l.getD i1 (Ty.zero .cmd)).els]:List (List GCmd))).take j2):Int))/\(r - ((l.length+ndL (l.take i1) - i1:Int)+sumN ((([(l.getD i1 (Ty.zero .cmd)).body,(l.getD i1 (Ty.zero .cmd)).els]:List (List GCmd))).take j2):Int))<=16)/\ndL (([(l.getD i1 (Ty.zero .cmd)).body,(l.getD i1 (Ty.zero .cmd)).els]:List (List GCmd)).getD j2 ([]:List GCmd)) < m)/\True/\True)/\True/\True/\True/\True/\True/\True/\True/\(vcIf (!(cvB (d+(1:Int)) (r - ((l.length+ndL (l.take i1) - i1:Int)+sumN ((([(l.getD i1 (Ty.zero .cmd)).body,(l.getD i1 (Ty.zero .cmd)).els]:List (List GCmd))).take j2):Int)) (([(l.getD i1 (Ty.zero .cmd)).body,(l.getD i1 (Ty.zero .cmd)).els]:List (List GCmd)).getD j2 ([]:List GCmd)))) (VC_countValid_1 d r l) (True/\True/\(inK .i64 (((l.length+ndL (l.take i1) - i1:Int)+sumN ((([(l.getD i1 (Ty.zero .cmd)).body,(l.getD i1 (Ty.zero .cmd)).els]:List (List GCmd))).take j2):Int)+(cvN (d+(1:Int)) (r - ((l.length+ndL (l.take i1) - i1:Int)+sumN ((([(l.getD i1 (Ty.zero .cmd)).body,(l.getD i1 (Ty.zero .cmd)).els]:List (List GCmd))).take j2):Int)) (([(l.getD i1 (Ty.zero .cmd)).body,(l.getD i1 (Ty.zero .cmd)).els]:List (List GCmd)).getD j2 ([]:List GCmd)))))/\True/\(inK .i64 (((j2:Nat):Int)+(1:Int)))/\True/\((j2+1)<=2/\((([(l.getD i1 (Ty.zero .cmd)).body,(l.getD i1 (Ty.zero .cmd)).els]:List (List GCmd))).take (j2+1)).all (shL (4 - d))=true/\(l.length+ndL (l.take i1) - i1:Int)+sumN ((([(l.getD i1 (Ty.zero .cmd)).body,(l.getD i1 (Ty.zero .cmd)).els]:List (List GCmd))).take (j2+1))<=r)/\(2 - (j2+1) < 2 - j2)/\TT/\(VC_countValid_3 d r l i1)/\(([.s (.c (.d (.val (.int .i64 (((j2:Nat):Int)+(1:Int)))))),.s (.c (.d (.val (.int .i64 (((l.length+ndL (l.take i1) - i1:Int)+sumN ((([(l.getD i1 (Ty.zero .cmd)).body,(l.getD i1 (Ty.zero .cmd)).els]:List (List GCmd))).take j2):Int)+(cvN (d+(1:Int)) (r - ((l.length+ndL (l.take i1) - i1:Int)+sumN ((([(l.getD i1 (Ty.zero .cmd)).body,(l.getD i1 (Ty.zero .cmd)).els]:List (List GCmd))).take j2):Int)) (([(l.getD i1 (Ty.zero .cmd)).body,(l.getD i1 (Ty.zero .cmd)).els]:List (List GCmd)).getD j2 ([]:List GCmd))))))))]:List S)=[.s (.c (.d (.val (.int .i64 (((j2+1):Nat):Int))))),.s (.c (.d (.val (.int .i64 ((l.length+ndL (l.take i1) - i1:Int)+sumN ((([(l.getD i1 (Ty.zero .cmd)).body,(l.getD i1 (Ty.zero .cmd)).els]:List (List GCmd))).take (j2+1)):Int)))))])/\(RM [])/\(RM [])/\True/\TT)))
def VC_countValid_5 (i1:Nat) (l:List GCmd) (d:Int) (r:Int) (m:Nat):Prop:=(i1<=l.length/\(l.length=0 ∨ d<=4)/\shL (5 - d) (l.take i1)=true/\l.length+ndL (l.take i1) - i1<=r)->True/\(vcIf (decide (((i1:Nat):Int) < ((l.length:Nat):Int))) ((0<=((i1:Nat):Int)/\((i1:Nat):Int) < ((l.length:Nat):Int))/\True/\(TN/\TN/\TN/\TN/\TN/\True)/\(TF/\TF)/\True/\((BdC (GCmd.mk ((l.getD i1 (Ty.zero .cmd)).kind) ((l.getD i1 (Ty.zero .cmd)).a) ((l.getD i1 (Ty.zero .cmd)).b) ((l.getD i1 (Ty.zero .cmd)).test) ((l.getD i1 (Ty.zero .cmd)).inv) ((l.getD i1 (Ty.zero .cmd)).body) ((l.getD i1 (Ty.zero .cmd)).els)))/\True/\True)/\True/\(vcIf (!(fokC (GCmd.mk ((l.getD i1 (Ty.zero .cmd)).kind) ((l.getD i1 (Ty.zero .cmd)).a) ((l.getD i1 (Ty.zero .cmd)).b) ((l.getD i1 (Ty.zero .cmd)).test) ((l.getD i1 (Ty.zero .cmd)).inv) ((l.getD i1 (Ty.zero .cmd)).body) ((l.getD i1 (Ty.zero .cmd)).els)))) (VC_countValid_1 d r l) (True/\True/\True/\True/\True/\True/\((0<=2/\((([(l.getD i1 (Ty.zero .cmd)).body,(l.getD i1 (Ty.zero .cmd)).els]:List (List GCmd))).take 0).all (shL (4 - d))=true/\(l.length+ndL (l.take i1) - i1:Int)+sumN ((([(l.getD i1 (Ty.zero .cmd)).body,(l.getD i1 (Ty.zero .cmd)).els]:List (List GCmd))).take 0)<=r)/\TT/\(VC_countValid_3 d r l i1)/\(([.s (.c (.d (.val (.int .i64 (0:Int))))),.s (.c (.d (.val (.int .i64 (l.length+ndL (l.take i1) - i1:Int)))))]:List S)=[.s (.c (.d (.val (.int .i64 ((0:Nat):Int))))),.s (.c (.d (.val (.int .i64 ((l.length+ndL (l.take i1) - i1:Int)+sumN ((([(l.getD i1 (Ty.zero .cmd)).body,(l.getD i1 (Ty.zero .cmd)).els]:List (List GCmd))).take 0):Int)))))])/\(RM [])/\(RM [])/\True/\TT)/\(∀ j2:Nat,(j2<=2/\((([(l.getD i1 (Ty.zero .cmd)).body,(l.getD i1 (Ty.zero .cmd)).els]:List (List GCmd))).take j2).all (shL (4 - d))=true/\(l.length+ndL (l.take i1) - i1:Int)+sumN ((([(l.getD i1 (Ty.zero .cmd)).body,(l.getD i1 (Ty.zero .cmd)).els]:List (List GCmd))).take j2)<=r)->True/\(vcIf (decide (((j2:Nat):Int) < (2:Int))) ((0<=((j2:Nat):Int)/\((j2:Nat):Int) < ((2:Nat):Int)/\([(l.getD i1 (Ty.zero .cmd)).body,(l.getD i1 (Ty.zero .cmd)).els]:List (List GCmd)).length=2)/\True/\True/\(VC_countValid_4 d r l i1 j2 m)) ((inK .i64 (((i1:Nat):Int)+(1:Int)))/\True/\((i1+1)<=l.length/\(l.length=0 ∨ d<=4)/\shL (5 - d) (l.take (i1+1))=true/\l.length+ndL (l.take (i1+1)) - (i1+1)<=r)/\(l.length - (i1+1) < l.length - i1)/\TT/\(VC_countValid_2 d r l)/\(([.s (.c (.d (.val (.int .i64 (((i1:Nat):Int)+(1:Int)))))),.s (.c (.d (.val (.int .i64 ((l.length+ndL (l.take i1) - i1:Int)+sumN ((([(l.getD i1 (Ty.zero .cmd)).body,(l.getD i1 (Ty.zero .cmd)).els]:List (List GCmd))).take j2):Int)))))]:List S)=[.s (.c (.d (.val (.int .i64 (((i1+1):Nat):Int))))),.s (.c (.d (.val (.int .i64 (l.length+ndL (l.take (i1+1)) - (i1+1):Int)))))])/\(RM [])/\(RM [])/\True/\TT)))))) (True/\True/\True/\((((l.length+ndL (l.take i1) - i1:Int),true,()):Int × Bool × Unit)=(cvN d r l,cvB d r l,()))/\True/\True/\True/\True/\TF))
def VC_countValid_6 (l:List GCmd) (d:Int) (r:Int) (m:Nat):Prop:=True/\True/\True/\True/\True/\True/\((0<=l.length/\(l.length=0 ∨ d<=4)/\shL (5 - d) (l.take 0)=true/\l.length+ndL (l.take 0) - 0<=r)/\TT/\(VC_countValid_2 d r l)/\(([.s (.c (.d (.val (.int .i64 (0:Int))))),.s (.c (.d (.val (.int .i64 ((l.length:Nat):Int)))))]:List S)=[.s (.c (.d (.val (.int .i64 ((0:Nat):Int))))),.s (.c (.d (.val (.int .i64 (l.length+ndL (l.take 0) - 0:Int)))))])/\(RM [])/\(RM [])/\True/\TT)/\(∀ i1:Nat,(VC_countValid_5 i1 l d r m))
def VC_countValid (l:List GCmd) (d:Int) (r:Int) (m:Nat) (k:Nat):Prop:=True/\True/\True/\True/\True/\True/\True/\(vcIf (decide (r < ((l.length:Nat):Int))) (True/\(VC_countValid_1 d r l)) (True/\True/\True/\True/\(vcIf (decide ((0:Int) < ((l.length:Nat):Int))) (True/\True/\True/\True/\(vcIf (decide ((4:Int) < d)) (VC_countValid_1 d r l) (VC_countValid_6 l d r m))) (True/\True/\(VC_countValid_6 l d r m)))))
theorem vcn_countValid (l:List GCmd) (d:Int) (r:Int) (m:Nat) (k:Nat) (hp:(BdL l/\1<=d/\d<=5/\0<=r/\r<=16)/\ndL l < m+1):VC_countValid l d r m k:=by
 unfold VC_countValid VC_countValid_6 VC_countValid_5 VC_countValid_4 VC_countValid_3 VC_countValid_2 VC_countValid_1
 simp only [cln,Nat.reduceEqDiff,Nat.reduceLeDiff,Nat.reduceAdd,GCmd.eta]
 have hl:=hp.1.1.len
 have hg:∀ i,i < l.length->BdC (l.getD i (Ty.zero .cmd))/\ndC (l.getD i (Ty.zero .cmd))<=ndL l/\BdL (l.getD i (Ty.zero .cmd)).body/\BdL (l.getD i (Ty.zero .cmd)).els :=
  fun i hi=>⟨hp.1.1.get hi,ndL_get hi,(hp.1.1.get hi).b,(hp.1.1.get hi).e⟩
 have hn:∀ i,ndC (l.getD i (Ty.zero .cmd))=1+ndL (l.getD i (Ty.zero .cmd)).body+ndL (l.getD i (Ty.zero .cmd)).els:=fun i=>ndC_eq _
 have hs:=fun (i:Nat) (hi:i < l.length) (h1:1<=5 - d)=>shL_step (d:=5 - d) (z:=Ty.zero .cmd) h1 hi
 have hc:=fun (i:Nat)=>shC_eq (5 - d) (l.getD i (Ty.zero .cmd))

 have hm:=fun (i:Nat) (hi:i < l.length)=>ndL_step (d:=Ty.zero .cmd) hi
 have hu:=fun (i:Nat)=>ndL_take_le l i
 have hv:=fun (i:Nat)=>len_ndL (l.take i)
 have hlen:=len_ndL l
 have hd:5 - d - 1=4 - d:=by omega
 have hd2:5 - (d+1)=4 - d:=by omega
 simp only [hd] at hc
 have hfail:=fun (i j:Nat) (x:Int) (hi:i < l.length) (hj:(j:Int) < 2) hx h=>cv_fail (l:=l) (i:=i) (j:=j) (d:=d) (r:=r) (x:=x) (z:=Ty.zero .cmd) hi (by omega) hx h
 have hbad:=fun (i:Nat) (hi:i < l.length) h=>cv_bad (l:=l) (i:=i) (d:=d) (r:=r) (z:=Ty.zero .cmd) hi h
 have hroom:=fun (i:Nat) (hi:i < l.length)=>cv_room (l:=l) (i:=i) (z:=Ty.zero .cmd) hi
 have hz0:=ndL_nil
 have hz1:sumN []=0:=rfl
 have hq:=fun (i j:Nat) (hi:i < l.length) (hj:(j:Int) < 2)=>v2_le (bo:=(l.getD i (Ty.zero .cmd)).body) (el:=(l.getD i (Ty.zero .cmd)).els) (j:=j) (by omega)
 have hj1:=fun (i j:Nat) (_:i < l.length) (hj:(j:Int) < 2)=>v2_sum (bo:=(l.getD i (Ty.zero .cmd)).body) (el:=(l.getD i (Ty.zero .cmd)).els) (j:=j) (by omega)
 have hj2:=fun (i j:Nat) (_:i < l.length) (hj:¬ (j:Int) < 2)=>v2_full (bo:=(l.getD i (Ty.zero .cmd)).body) (el:=(l.getD i (Ty.zero .cmd)).els) (j:=j) (by omega)
 have hdone:=fun (h1:shL (5 - d) l=true) (h2:(ndL l:Int)<=r)=>cv_done h1 h2
 have hP:=fun (i j:Nat) (_:i < l.length) (hj:(j:Int) < 2) (p:List GCmd->Prop)=>v2_P (bo:=(l.getD i (Ty.zero .cmd)).body) (el:=(l.getD i (Ty.zero .cmd)).els) (j:=j) p (by omega)
 have hA:=fun (i j:Nat) (_:i < l.length) (hj:(j:Int) < 2)=>v2_all (bo:=(l.getD i (Ty.zero .cmd)).body) (el:=(l.getD i (Ty.zero .cmd)).els) (j:=j) (shL (4 - d)) (by omega)
 have hend:=fun (i:Nat) (h0:i<=l.length) (hi:¬ i < l.length) (h1:shL (5 - d) (l.take i)=true) (h2:(l.length:Int)+ndL (l.take i) - i<=r)=>by
  have e:l.take i=l:=List.take_of_length_le (by omega)
  rw [e] at h1 h2
  have hi2:i=l.length:=by omega
  exact (show cvB d r l=true/\(l.length:Int)+ndL (l.take i) - i=cvN d r l by rw [e];have:=hdone h1 (by omega);exact ⟨this.1,by rw [this.2];omega⟩)
 all_goals (try simp only [vcIf_iff,decide_eq_true_eq,decide_eq_false_iff_not,bne_iff_ne,ne_eq,beq_iff_eq,beq_eq_false_iff_ne,bne_eq_false_iff_eq,Bool.not_eq_true',Bool.not_eq_false',Int.ofNat_lt,Int.natCast_inj])
 all_goals (repeat' (first | apply And.intro | intro _))
 all_goals (repeat (cases ‹_/\_›))
 all_goals (first | omega | with_reducible assumption | with_reducible rfl | skip)
 all_goals (first
  | (rw [cv_long (by omega)];done) | (rw [cvN_false (cv_long (by omega))];done)
  | (rw [cv_deep (by omega) (by omega)];done) | (rw [cvN_false (cv_deep (by omega) (by omega))];done)
  | with_reducible exact shL_nil _
  | exact List.all_nil
  | with_reducible exact (hg _ ‹_›).1
  | with_reducible exact (hbad _ ‹_› ‹_›).symm | with_reducible exact (cvN_false (hbad _ ‹_› ‹_›)).symm
  | with_reducible exact (hfail _ _ _ ‹_› ‹_› rfl ‹_›).symm | with_reducible exact (cvN_false (hfail _ _ _ ‹_› ‹_› rfl ‹_›)).symm
  | exact hP _ _ ‹_› ‹_› BdL (hg _ ‹_›).2.2.1 (hg _ ‹_›).2.2.2
  | with_reducible exact (hend _ ‹_› ‹_› ‹_› ‹_›).2 | with_reducible exact (hend _ ‹_› ‹_› ‹_› ‹_›).1.symm
  | (have h1:=hq _ _ ‹_ < l.length› ‹_ < (2:Int)›;have h2:=(hg _ ‹_ < l.length›).2.1;rw [hn] at h2;omega)
  | (obtain ⟨q1,q2,q3⟩:=cv_get ‹cvB (d+1) _ _=true›;have h1:=hj1 _ _ ‹_ < l.length› ‹_ < (2:Int)›;have h2:=hv;omega)
  | (obtain ⟨q1,q2,q3⟩:=cv_get ‹cvB (d+1) _ _=true›;rw [hd2] at q2;rw [hA _ _ ‹_ < l.length› ‹_ < (2:Int)›,q2,Bool.and_true];assumption)
  | skip)
 all_goals (first | (rw [hj2 _ _ ‹_ < l.length› ‹¬ _ < (2:Int)›,sumN_two] at *) | rw [hj2 _ _ ‹_ < l.length› ‹¬ _ < (2:Int)›] at * | skip)
 all_goals (first
  | (have h1:=hm _ ‹_ < l.length›;rw [hn] at h1;omega)
  | (rw [hs _ ‹_ < l.length› (by omega),hc];simp_all;done)
  | skip)
theorem ok_countValid:FnOk Try.prog E 49 c_countValid :=
 fn_rec (mu:=mu_countValid) (fun m ih=>fn_okQ (con:=c_countValid.lim mu_countValid (m+1)) (fn:=Try.f49) (l:=L_countValid m) (lp:=P_countValid) (hp:=fun _=>false) (gcs:=fun _=>none) (perm:=fun _=>[]) tabOk mix ⟨ih,ok_fieldsValid,trivial⟩ trivial Try.func49 rfl (by kernel_rfl) (show c_countValid.aks.length<=Try.f49.ntmps by decide) (by kernel_rfl) (anns:=fun x _=>an_countValid x.1 x.2.1 x.2.2.1) (fun ⟨l,d,r,_⟩ k hp _=>Eq.mp (by kernel_rfl) (vcn_countValid l d r m k hp)) tot_fn) ⟨_,_,Try.func49,by kernel_rfl,rfl⟩ tot_fn
abbrev c_iCountCmds:Con:=⟨[.sl .cmd],[.int],fun (l,_)=>BdL l,.inl fun (l,_)=>((if prV l then (ndL l:Int) else 0),()),fun _=>0⟩
abbrev L_iCountCmds:List (FuncId × Con):=[(49,c_countValid)]
abbrev P_iCountCmds:List (FuncId × PT):=[]
def VC_iCountCmds (l:List GCmd) (k:Nat):Prop:=True/\True/\((BdL l/\1<=(1:Int)/\(1:Int)<=5/\0<=(16:Int)/\(16:Int)<=16)/\True/\True)/\True/\True/\True/\True/\True/\True/\True/\((((cvN (1:Int) (16:Int) l),()):Int × Unit)=((if prV l then (ndL l:Int) else 0),()))/\True/\True/\True/\True/\TF
theorem vcn_iCountCmds (l:List GCmd) (k:Nat) (hp:BdL l):VC_iCountCmds l k:=by
 unfold VC_iCountCmds
 simp only [cln,Nat.reduceEqDiff,Nat.reduceLeDiff,Nat.reduceAdd]
 all_goals (try simp only [vcIf_iff,decide_eq_true_eq,decide_eq_false_iff_not,bne_iff_ne,ne_eq,beq_iff_eq,beq_eq_false_iff_ne,bne_eq_false_iff_eq,Bool.not_eq_true',Bool.not_eq_false',Int.ofNat_lt,Int.natCast_inj])
 all_goals (repeat' (first | apply And.intro | intro _))
 all_goals (repeat (cases ‹_/\_›))
 all_goals (first | omega | (simp_all;done) | grind [prV,cvB,cvN,cnL_sh] | skip)
theorem ok_iCountCmds:FnOk Try.prog E 26 c_iCountCmds :=
 fn_okQ (l:=L_iCountCmds) (lp:=P_iCountCmds) (hp:=fun _=>false) (gcs:=fun _=>none) (perm:=fun _=>[]) tabOk mix ⟨ok_countValid,trivial⟩ trivial Try.func26 rfl (by kernel_rfl) (by decide) (by kernel_rfl) (anns:=fun x _=>fun _ _=>none) (fun ⟨l,_⟩ k hp _=>Eq.mp (by kernel_rfl) (vcn_iCountCmds l k hp)) tot_fn
abbrev c_FnExactCountCmds:Con:=⟨[.sl .cmd],[.bool],fun (l,_)=>BdL l,.inl fun (l,_)=>(true,()),fun _=>0⟩
abbrev L_FnExactCountCmds:List (FuncId × Con):=[(15,c_szCmdS),(16,c_toCmdS),(17,c_eqCmdS),(25,c_sCountCmds),(26,c_iCountCmds)]
abbrev P_FnExactCountCmds:List (FuncId × PT):=[]
def VC_FnExactCountCmds_1 :Prop:=True/\(((true,()):Bool × Unit)=(true,()))/\True/\True/\True/\True/\TF
def VC_FnExactCountCmds_2 :Prop:=True/\(((false,()):Bool × Unit)=(true,()))/\True/\True/\True/\True/\TF
def VC_FnExactCountCmds (l:List GCmd) (k:Nat):Prop:=True/\True/\True/\True/\((BdL l/\0<=(1048576:Int)/\(1048576:Int)<=1048576)/\True/\True)/\True/\True/\True/\(vcIf (decide ((sz1 (1048576:Int) (l.length+wcL l)) < (0:Int))) VC_FnExactCountCmds_1 (True/\((l.length+wcL l<=1048576)/\True/\True/\TN/\True)/\((BdL l/\ndL l<=1048576)/\True/\True)/\True/\True/\((l.length+wcL l<=1048576)/\True/\True/\TN/\True)/\True/\True/\((BdL l)/\True/\True)/\True/\True/\True/\True/\(vcIf ((if prV l then (ndL l:Int) else 0) != (if prV l then (ndL l:Int) else 0)) VC_FnExactCountCmds_2 (True/\True/\((l.length+wcL l<=1048576)/\True/\True/\TN/\True)/\((BdL l/\BdL l)/\True/\True)/\True/\(vcIf (!(decide (l=l))) VC_FnExactCountCmds_2 VC_FnExactCountCmds_1)))))
theorem vcn_FnExactCountCmds (l:List GCmd) (k:Nat) (hp:BdL l):VC_FnExactCountCmds l k:=by
 unfold VC_FnExactCountCmds VC_FnExactCountCmds_2 VC_FnExactCountCmds_1
 simp only [cln,Nat.reduceEqDiff,Nat.reduceLeDiff,Nat.reduceAdd,bne_self_eq_false,beq_self_eq_true,decide_true,eq_self,Bool.not_true,Bool.not_false,vcIf_true,vcIf_false,Bool.false_and,Bool.true_and,Bool.or_false,Bool.or_true]
 have hn:=ndL_wt l
 have hb:=fun h=>small_bdL (l:=l) h
 all_goals (try simp only [vcIf_iff,decide_eq_true_eq,decide_eq_false_iff_not,bne_iff_ne,ne_eq,beq_iff_eq,beq_eq_false_iff_ne,bne_eq_false_iff_eq,Bool.not_eq_true',Bool.not_eq_false',Int.ofNat_lt,Int.natCast_inj])
 all_goals (repeat' (first | apply And.intro | intro _))
 all_goals (repeat (cases ‹_/\_›))
 all_goals (first | omega | (simp_all;done) | grind [sz1] | skip)
theorem ok_FnExactCountCmds:FnOk Try.prog E 7 c_FnExactCountCmds :=
 fn_okQ (l:=L_FnExactCountCmds) (lp:=P_FnExactCountCmds) (hp:=fun _=>false) (gcs:=fun _=>none) (perm:=fun _=>[]) tabOk mix ⟨ok_szCmdS,ok_toCmdS,ok_eqCmdS,ok_sCountCmds,ok_iCountCmds,trivial⟩ trivial Try.func7 rfl (by kernel_rfl) (by decide) (by kernel_rfl) (anns:=fun x _=>fun _ _=>none) (fun ⟨l,_⟩ k hp _=>Eq.mp (by kernel_rfl) (vcn_FnExactCountCmds l k hp)) tot_fn
end Go.Proofs.Ytkafaeeianofnaa
