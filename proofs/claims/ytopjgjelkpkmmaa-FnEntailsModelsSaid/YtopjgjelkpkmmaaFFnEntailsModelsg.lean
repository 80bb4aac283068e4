/-
  Contracts of single functions of the program, each shown by the engine: what a call returns for arguments within the contract's bounds.
-/
import Derived.Test.YtopjgjelkpkmmaaFFnEntailsModelsa
import Derived.Test.YtopjgjelkpkmmaaFFnEntailsModelsd
import Derived.Test.YtopjgjelkpkmmaaFFnEntailsModelsf
import Derived.Test.YtopjgjelkpkmmaaEd
import Derived.Test.YtopjgjelkpkmmaaEe
import Derived.Test.YtopjgjelkpkmmaaEf
import Derived.Test.YtopjgjelkpkmmaaFFnEntailsModelsb
set_option linter.unusedSimpArgs false
set_option linter.unusedVariables false
set_option linter.unusedSectionVars false

namespace Go.Proofs.Ytopjgjelkpkmmaa
open Go.SE Go.RowKit
set_option linter.unusedSimpArgs false
set_option linter.unusedVariables false
set_option maxHeartbeats 1000000
set_option maxRecDepth 100000
abbrev c_iCounterModel:Con:=⟨[.asn,.asn],[.state,.bool],fun (a,b,_)=>a.facts.length<=281474976710656/\a.atoms.length<=281474976710656/\b.facts.length<=281474976710656/\b.atoms.length<=281474976710656,.inl fun (a,b,_)=>(cmL a b,cmB a b,()),fun _=>0⟩
abbrev L_iCounterModel:List (FuncId × Con):=[(19,c_iHolds),(37,c_iAssertionValid),(53,c_failingCase),(54,c_variantState)]
abbrev P_iCounterModel:List (FuncId × PT):=[]
def an_iCounterModel (a:GAsn) (b:GAsn):Nat->St->Option Ann
 | 7,se=>some { α:=Nat,ok:=fun i=>i<=64/\fkB a b=true/\∀ j:Nat,j < 2 * i->cmP a b (fkL a b) j=false,mu:=fun i=>64 - i,i0:=fun _=>0,nx:=fun a _=>(fun i=>i+1) a,live:=[2,3,4,6],sets:=fun i=>[(8,sv (.int .i64 i))],mids:=[47,63,64,65,79,111],blks:=fun i=>[],owns:=fun i=>[],rd:=fun r _=>r,base:=100000 }
 | 10,se=>some { α:=Nat,ok:=fun k=>k<=2/\0<=intAt se 8/\intAt se 8 < 64/\fkB a b=true/\∀ j:Nat,j < 2 * (intAt se 8).toNat+k->cmP a b (fkL a b) j=false,mu:=fun k=>2 - k,i0:=fun _=>0,nx:=fun a _=>(fun k=>k+1) a,live:=[2,3,4,6,8,35],sets:=fun k=>[(36,sv (.int .i64 k))],mids:=[47,63,64,65,79,111],blks:=fun k=>[],owns:=fun k=>[],rd:=fun r _=>r,base:=200000 }
 | _,_=>none
def VC_iCounterModel_1 (a:GAsn) (b:GAsn):Prop:=(((⟨([]:List Int),([]:List Int)⟩:GState),false,()):GState × Bool × Unit)=(cmL a b,cmB a b,())
def VC_iCounterModel_2 (a:GAsn) (b:GAsn):Prop:=(TN/\TN/\True)/\(TF/\TF)/\True/\(VC_iCounterModel_1 a b)/\((((336:Nat) ≠ 337)/\True)/\True/\True)/\((TF/\TF)/\(TF/\TF)/\True)/\True/\(True/\True/\True)/\TF
def VC_iCounterModel_3 (a:GAsn) (b:GAsn):Prop:=(RM [some (.blk [.d (.arr .fact a.facts),.d (.arr .atom a.atoms)]),some (.blk [.d (.arr .fact b.facts),.d (.arr .atom b.atoms)]),some (.sl 64 .int ([]:List Int)),some (.sl 65 .int ([]:List Int)),some (.blk [.own 64,.own 65]),some (.vec .int ((FC a b).headD (List.replicate 9 0)))])/\(RM [])/\True/\TT
def VC_iCounterModel_4 (a:GAsn) (b:GAsn):Prop:=(([.s (.c (.d (.val (.int .i64 (0:Int)))))]:List S)=[.s (.c (.d (.val (.int .i64 ((0:Nat):Int)))))])/\(VC_iCounterModel_3 a b)
def VC_iCounterModel_5 (i1:Nat):Prop:=RL [.s (.c (.ptr 47 0)),.s (.c (.ptr 63 0)),.s (.c (.ptr 79 0)),.s (.c (.ptr 111 0)),.s (.c (.d (.val (.int .i64 ((i1:Nat):Int))))),.s (.vec .bool ([true,false]:List Bool))]
def VC_iCounterModel_6 (k2:Nat) (a:GAsn) (b:GAsn):Prop:=(([.s (.c (.d (.val (.int .i64 (((k2:Nat):Int)+(1:Int))))))]:List S)=[.s (.c (.d (.val (.int .i64 (((k2+1):Nat):Int)))))])/\(VC_iCounterModel_3 a b)
def VC_iCounterModel_7 (k2:Nat) (i1:Nat) (a:GAsn) (b:GAsn):Prop:=(inK .i64 (((k2:Nat):Int)+(1:Int)))/\True/\((k2+1)<=2/\0<=((i1:Nat):Int)/\((i1:Nat):Int) < 64/\fkB a b=true/\∀ j:Nat,j < 2 * (((i1:Nat):Int)).toNat+(k2+1)->cmP a b (fkL a b) j=false)/\(2 - (k2+1) < 2 - k2)/\TT/\(VC_iCounterModel_5 i1)/\(VC_iCounterModel_6 k2 a b)
def VC_iCounterModel_8 (k2:Nat) (i1:Nat) (a:GAsn) (b:GAsn):Prop:=True/\(VC_iCounterModel_7 k2 i1 a b)
def VC_iCounterModel_9 (i1:Nat) (a:GAsn) (b:GAsn):Prop:=(True/\(vcIf (decide (((i1:Nat):Int) < (64:Int))) (True/\True/\((0<=2/\0<=((i1:Nat):Int)/\((i1:Nat):Int) < 64/\fkB a b=true/\∀ j:Nat,j < 2 * (((i1:Nat):Int)).toNat+0->cmP a b (fkL a b) j=false)/\TT/\(VC_iCounterModel_5 i1)/\(VC_iCounterModel_4 a b))/\(∀ k2:Nat,(k2<=2/\0<=((i1:Nat):Int)/\((i1:Nat):Int) < 64/\fkB a b=true/\∀ j:Nat,j < 2 * (((i1:Nat):Int)).toNat+k2->cmP a b (fkL a b) j=false)->True/\(vcIf (decide (((k2:Nat):Int) < (2:Int))) ((0<=((k2:Nat):Int)/\((k2:Nat):Int) < ((2:Nat):Int)/\([true,false]:List Bool).length=2)/\True/\True/\(9=((FC a b).headD (List.replicate 9 0)).length * 1)/\True/\True/\((asV a=true/\CaseOk a ((FC a b).headD (List.replicate 9 0))/\0<=((i1:Nat):Int)/\((i1:Nat):Int) < 64)/\True/\TN/\TN/\True)/\True/\True/\True/\(TN/\TN/\TN/\True)/\(TF/\TF)/\True/\True/\True/\(vcIf (grB a ((FC a b).headD (List.replicate 9 0)) ((i1:Nat):Int) (([true,false]:List Bool).getD k2 false)) (True/\True/\(((vrL a ((FC a b).headD (List.replicate 9 0)) ((i1:Nat):Int) (([true,false]:List Bool).getD k2 false)).vals.length<=281474976710656/\(vrL a ((FC a b).headD (List.replicate 9 0)) ((i1:Nat):Int) (([true,false]:List Bool).getD k2 false)).heap.length<=281474976710656/\a.facts.length<=281474976710656/\a.atoms.length<=281474976710656)/\True/\True)/\True/\True/\(vcIf (HOL (vrL a ((FC a b).headD (List.replicate 9 0)) ((i1:Nat):Int) (([true,false]:List Bool).getD k2 false)) a) (True/\True/\(((vrL a ((FC a b).headD (List.replicate 9 0)) ((i1:Nat):Int) (([true,false]:List Bool).getD k2 false)).vals.length<=281474976710656/\(vrL a ((FC a b).headD (List.replicate 9 0)) ((i1:Nat):Int) (([true,false]:List Bool).getD k2 false)).heap.length<=281474976710656/\b.facts.length<=281474976710656/\b.atoms.length<=281474976710656)/\True/\True)/\True/\True/\(vcIf (!(HOL (vrL a ((FC a b).headD (List.replicate 9 0)) ((i1:Nat):Int) (([true,false]:List Bool).getD k2 false)) b)) (True/\(TF/\TF)/\True/\((((vrL a ((FC a b).headD (List.replicate 9 0)) ((i1:Nat):Int) (([true,false]:List Bool).getD k2 false)),true,()):GState × Bool × Unit)=(cmL a b,cmB a b,()))/\((((200704:Nat) ≠ 200705)/\True)/\True/\True)/\((TF/\TF)/\(TF/\TF)/\True)/\True/\(True/\True/\True)/\TF) (VC_iCounterModel_7 k2 i1 a b))) (VC_iCounterModel_8 k2 i1 a b))) (True/\True/\(VC_iCounterModel_8 k2 i1 a b)))) (True/\(inK .i64 (((i1:Nat):Int)+(1:Int)))/\True/\((i1+1)<=64/\fkB a b=true/\∀ j:Nat,j < 2 * (i1+1)->cmP a b (fkL a b) j=false)/\(64 - (i1+1) < 64 - i1)/\TT/\(RL [.s (.c (.ptr 47 0)),.s (.c (.ptr 63 0)),.s (.c (.ptr 79 0)),.s (.c (.ptr 111 0))])/\(VC_iCounterModel_6 i1 a b))))) ((TN/\TN/\True)/\(TF/\TF)/\True/\(VC_iCounterModel_1 a b)/\((((100976:Nat) ≠ 100977)/\True)/\True/\True)/\((TF/\TF)/\(TF/\TF)/\True)/\True/\(True/\True/\True)/\TF)))
def VC_iCounterModel (a:GAsn) (b:GAsn) (k:Nat):Prop:=TN/\TN/\(TN/\TN/\TN/\True)/\True/\True/\((a.facts.length<=281474976710656/\a.atoms.length<=281474976710656)/\True/\True)/\True/\True/\(vcIf (!(asV a)) (True/\(VC_iCounterModel_2 a b)) (True/\((b.facts.length<=281474976710656/\b.atoms.length<=281474976710656)/\True/\True)/\True/\True/\(vcIf (!(asV b)) (VC_iCounterModel_2 a b) (True/\True/\((asV a=true/\asV b=true)/\True/\True)/\True/\True/\True/\(TN/\True)/\((((FC a b).headD (List.replicate 9 0)).length=(List.replicate 9 (0:Int)).length)/\TF/\TF)/\True/\True/\True/\(vcIf (!(!(FC a b).isEmpty)) ((TN/\TN/\True)/\(TF/\TF)/\True/\(VC_iCounterModel_1 a b)/\((((480:Nat) ≠ 481)/\True)/\True/\True)/\((TF/\TF)/\(TF/\TF)/\True)/\True/\(True/\True/\True)/\TF) (True/\((0<=64/\fkB a b=true/\∀ j:Nat,j < 2 * 0->cmP a b (fkL a b) j=false)/\TT/\(RL [.s (.c (.ptr 47 0)),.s (.c (.ptr 63 0)),.s (.c (.ptr 79 0)),.s (.c (.ptr 111 0))])/\(VC_iCounterModel_4 a b))/\(∀ i1:Nat,(i1<=64/\fkB a b=true/\∀ j:Nat,j < 2 * i1->cmP a b (fkL a b) j=false)->True/\(VC_iCounterModel_9 i1 a b))))))))
theorem vcn_iCounterModel (a:GAsn) (b:GAsn) (k:Nat) (hp:a.facts.length<=281474976710656/\a.atoms.length<=281474976710656/\b.facts.length<=281474976710656/\b.atoms.length<=281474976710656):VC_iCounterModel a b k:=by
 unfold VC_iCounterModel VC_iCounterModel_9 VC_iCounterModel_8 VC_iCounterModel_7 VC_iCounterModel_6 VC_iCounterModel_5 VC_iCounterModel_4 VC_iCounterModel_3 VC_iCounterModel_2 VC_iCounterModel_1
 simp only [cln,Nat.reduceEqDiff,Nat.reduceLeDiff,Nat.reduceAdd]
 all_goals (try simp only [opn])
 all_goals (repeat' (first | apply And.intro | intro _))
 all_goals (repeat (cases ‹_/\_›))
 all_goals (first | with_reducible exact True.intro | (exfalso;contradiction) | omega | with_reducible assumption | with_reducible rfl | skip)
 all_goals (try (have e:=(fk_hd ‹asV a=true› ‹asV b=true› ‹(FC a b).isEmpty=false›).1;simp only [e] at *;clear e))
 all_goals (try (have e:=cm_ar ‹((_:Nat):Int) < 2›;simp only [e] at *;clear e))
 all_goals (try (have e:=cm_vr (by assumption:grB a (fkL a b) _ _=true);simp only [e] at *;clear e))
 all_goals (first
  | with_reducible exact fc_hlen ‹_›
  | with_reducible exact (cm_n1 ‹_›).1 | with_reducible exact (cm_n1 ‹_›).2 | with_reducible exact (cm_n2 ‹_›).1 | with_reducible exact (cm_n2 ‹_›).2
  | with_reducible exact (cm_n3 ‹_› ‹_› ‹_›).1 | with_reducible exact (cm_n3 ‹_› ‹_› ‹_›).2
  | with_reducible exact (cm_no ‹_›).1 | with_reducible exact (cm_no ‹_›).2
  | with_reducible exact (fk_hd ‹_› ‹_› ‹_›).2
  | with_reducible exact fk_ok ‹_› | with_reducible exact fk_ok (fk_hd ‹_› ‹_› ‹_›).2
  | with_reducible exact fk_va ‹_› | with_reducible exact fk_vb ‹_› | with_reducible exact grL_stV
  | (have h9:=(fk_ok ‹fkB a b=true›).len;omega) | (have h9:=(fk_ok (fk_hd ‹asV a=true› ‹asV b=true› ‹(FC a b).isEmpty=false›).2).len;rw [(fk_hd ‹asV a=true› ‹asV b=true› ‹(FC a b).isEmpty=false›).1];rw [List.length_replicate];exact h9)
  | (with_reducible refine Nat.le_trans (m:=200) ?_ (by decide);first | with_reducible exact gr200V | with_reducible exact gr200H)
  | with_reducible exact (cm_hit ‹_› ‹_› ‹_› ‹_› ‹_› ‹_› ‹_›).1
  | with_reducible exact (cm_hit ‹_› ‹_› ‹_› ‹_› ‹_› ‹_› ‹_›).2
  | with_reducible exact cm_st1 ‹_› ‹_› ‹_› ‹_› | with_reducible exact cm_st2 ‹_› ‹_› ‹_› ‹_› | with_reducible exact cm_st3 ‹_› ‹_› ‹_› ‹_›
  | with_reducible exact cm_nx ‹_› ‹_› ‹_› ‹_›
  | with_reducible exact (cm_end ‹_› ‹_› ‹_›).1 | with_reducible exact (cm_end ‹_› ‹_› ‹_›).2
  | with_reducible exact (cm_end ((by assumption:fkB a b=true->_) ‹_›) ‹_› ‹_›).1 | with_reducible exact (cm_end ((by assumption:fkB a b=true->_) ‹_›) ‹_› ‹_›).2
  | exact ‹∀ j:Nat,j < 2 * _->cmP a b (fkL a b) j=false› _ (by omega) | exact ‹fkB a b=true->∀ j:Nat,j < 2 * _->cmP a b (fkL a b) j=false› ‹_› _ (by omega)
  | skip)
theorem ok_iCounterModel:FnOk Try.prog E 16 c_iCounterModel :=
 fn_okQ (l:=L_iCounterModel) (lp:=P_iCounterModel) (hp:=fun _=>false) (gcs:=fun _=>none) (perm:=fun _=>[]) tabOk mix ⟨ok_iHolds,ok_iAssertionValid,ok_failingCase,ok_variantState,trivial⟩ trivial Try.func16 rfl (by kernel_rfl) (by decide) (by kernel_rfl) (anns:=fun x _=>an_iCounterModel x.1 x.2.1) (fun ⟨a,b,_⟩ k hp _=>Eq.mp (by kernel_rfl) (vcn_iCounterModel a b k hp)) tot_fn
abbrev c_FailingCase:Con:=⟨[.asn,.asn],[.sl .int,.bool],fun (a,b,_)=>a.facts.length<=281474976710656/\a.atoms.length<=281474976710656/\b.facts.length<=281474976710656/\b.atoms.length<=281474976710656,.inl fun (a,b,_)=>(fkL a b,fkB a b,()),fun _=>0⟩
abbrev L_FailingCase:List (FuncId × Con):=[(74,c_sAssertionValid),(105,c_l6Fails)]
abbrev P_FailingCase:List (FuncId × PT):=[]
def VC_FailingCase_1 (a:GAsn) (b:GAsn):Prop:=(TN/\True)/\True/\True/\(((([]:List Int),false,()):(List Int) × Bool × Unit)=(fkL a b,fkB a b,()))/\(True/\True)/\((TF/\TF)/\True)/\True/\(True/\True)/\TF
def VC_FailingCase (a:GAsn) (b:GAsn) (k:Nat):Prop:=TN/\TN/\TN/\True/\True/\((a.facts.length<=281474976710656/\a.atoms.length<=281474976710656)/\True/\True)/\True/\True/\(vcIf (!(asV a)) (True/\(VC_FailingCase_1 a b)) (True/\((b.facts.length<=281474976710656/\b.atoms.length<=281474976710656)/\True/\True)/\True/\True/\(vcIf (!(asV b)) (VC_FailingCase_1 a b) (True/\True/\((asV a=true/\asV b=true)/\True/\TN/\True)/\True/\True/\True/\True/\(((((FC a b).headD []),(!(FC a b).isEmpty),()):(List Int) × Bool × Unit)=(fkL a b,fkB a b,()))/\(True/\True)/\((TF/\TF)/\True)/\True/\(True/\True)/\TF))))
theorem vcn_FailingCase (a:GAsn) (b:GAsn) (k:Nat) (hp:a.facts.length<=281474976710656/\a.atoms.length<=281474976710656/\b.facts.length<=281474976710656/\b.atoms.length<=281474976710656):VC_FailingCase a b k:=by
 unfold VC_FailingCase VC_FailingCase_1
 simp only [cln,Nat.reduceEqDiff,Nat.reduceLeDiff,Nat.reduceAdd]
 all_goals (try simp only [opn])
 all_goals (repeat' (first | apply And.intro | intro _))
 all_goals (repeat (cases ‹_/\_›))
 all_goals (first | with_reducible exact True.intro | (exfalso;contradiction) | omega | with_reducible assumption | with_reducible rfl | skip)
 all_goals (first
  | with_reducible exact (fk_1 ‹_›).1 | with_reducible exact (fk_1 ‹_›).2 | with_reducible exact (fk_2 ‹_›).1 | with_reducible exact (fk_2 ‹_›).2
  | with_reducible exact (fk_3 ‹_› ‹_›).1 | with_reducible exact (fk_3 ‹_› ‹_›).2
  | skip)
theorem ok_FailingCase:FnOk Try.prog E 55 c_FailingCase :=
 fn_okQ (l:=L_FailingCase) (lp:=P_FailingCase) (hp:=fun _=>false) (gcs:=fun _=>none) (perm:=fun _=>[]) tabOk mix ⟨ok_sAssertionValid,ok_l6Fails,trivial⟩ trivial Try.func55 rfl (by kernel_rfl) (by decide) (by kernel_rfl) (anns:=fun x _=>fun _ _=>none) (fun ⟨a,b,_⟩ k hp _=>Eq.mp (by kernel_rfl) (vcn_FailingCase a b k hp)) tot_fn
abbrev c_l1Value:Con:=⟨[.sl .int,.int],[.int],fun (l,t,_)=>l.length=8/\isT t=true,.inl fun (l,t,_)=>(tv l t,()),fun _=>0⟩
abbrev L_l1Value:List (FuncId × Con):=[]
abbrev P_l1Value:List (FuncId × PT):=[]
def VC_l1Value (l:List Int) (t:Int) (k:Nat):Prop:=True/\True/\True/\(vcIf (t == (0:Int)) (True/\((((0:Int),()):Int × Unit)=(tv l t,()))/\True/\True/\True/\True/\TF) (True/\True/\(inK .i64 (t - (1:Int)))/\(0<=(t - (1:Int))/\(t - (1:Int)) < ((l.length:Nat):Int))/\True/\True/\((((l.getD (t - (1:Int)).toNat (0:Int)),()):Int × Unit)=(tv l t,()))/\True/\True/\True/\True/\TF))
theorem vcn_l1Value (l:List Int) (t:Int) (k:Nat) (hp:l.length=8/\isT t=true):VC_l1Value l t k:=by
 unfold VC_l1Value
 simp only [cln,Nat.reduceEqDiff,Nat.reduceLeDiff,Nat.reduceAdd]
 have h:=isT_iff.1 hp.2
 by_cases h0:t=0 <;> simp [vcIf,tv,h0,inK_i64] <;> omega
theorem ok_l1Value:FnOk Try.prog E 109 c_l1Value :=
 fn_okQ (l:=L_l1Value) (lp:=P_l1Value) (hp:=fun _=>false) (gcs:=fun _=>none) (perm:=fun _=>[]) tabOk mix trivial trivial Try.func109 rfl (by kernel_rfl) (by decide) (by kernel_rfl) (anns:=fun x _=>fun _ _=>none) (fun ⟨l,t,_⟩ k hp _=>Eq.mp (by kernel_rfl) (vcn_l1Value l t k hp)) tot_fn
abbrev c_l2Blank:Con:=⟨[],[.state],fun _=>True,.inl fun _=>(⟨List.replicate 8 0,List.replicate 8 (-1)⟩,()),fun _=>0⟩
abbrev L_l2Blank:List (FuncId × Con):=[]
def an_l2Blank :Nat->Option Ann
 | 3=>some { α:=Nat,ok:=fun i=>i<=8,mu:=fun i=>8 - i,i0:=fun _=>0,nx:=fun a _=>(fun i=>i+1) a,live:=[0,1],sets:=fun i=>[(2,sv (.int .i64 i))],mids:=[15,0,1],blks:=fun i=>[(31,.blk [.own 7,.own 8])],owns:=fun i=>[⟨7,.cell 31 0,.int,List.replicate i 0⟩,⟨8,.cell 31 1,.int,[]⟩],rd:=fun r _=>r,base:=100000 }
 | 7=>some { α:=Nat,ok:=fun i=>i<=8,mu:=fun i=>8 - i,i0:=fun _=>0,nx:=fun a _=>(fun i=>i+1) a,live:=[0,1],sets:=fun i=>[(3,sv (.int .i64 i))],mids:=[15,0,1],blks:=fun i=>[(31,.blk [.own 7,.own 8])],owns:=fun i=>[⟨7,.cell 31 0,.int,List.replicate 8 0⟩,⟨8,.cell 31 1,.int,List.replicate i (-1)⟩],rd:=fun r _=>r,base:=200000 }
 | _=>none
theorem vc_l2Blank  (k:Nat):vc tab (lookF L_l2Blank) (an_l2Blank ) (fun _=>[]) (bodyOf Try.f142) (entry (encs c_l2Blank.aks ()) (rdOf false k)) (retOk tab c_l2Blank Try.f142.results.toList () k):=by
 dsimp only [bodyOf,Try.f142,rdOf]
 simp (maxSteps:=10000000) only [c_l2Blank,L_l2Blank,an_l2Blank,SE.lookF,tab2,tab3,tab4,tab5,tab7,tab9,tab12,tab13,tab21,tab22,tab23,tab24,tab25,tab26,tab29,tab30,tab31,tab38,tab39,tab40,tab41,tab65,tab66,tab67,tab68,tab71,tab77,tab78,tab93,tab94,tab104,tab105,tab110,tab111,tab112,tab119,tab121,tab130,tab139,tab141,tab149,tab151,tab156,tab157,tab158,SE.entry,SE.envOf,SE.rdOf,Option.get_some,SE.vc,SE.vcReg,SE.vcLoop,SE.condK,SE.seqK,SE.blockK,SE.vcOps,SE.vcStep,SE.vcOp,SE.vcTr,SE.vcDet_some,SE.vcDet_none,SE.vcIf_true,SE.vcIf_false,SE.vcEach,SE.pickOps,SE.gslot,SE.trOp,SE.moveId,SE.trMove,SE.trPick,SE.trAlloc,SE.trBox,SE.trBuild,SE.trBuildSlice,SE.trLoad,SE.trStore,SE.trNilCheck,SE.trBin,SE.trUn,SE.trConvert,SE.trFieldAddr,SE.trField,SE.trIndexAddr,SE.trIndex,SE.trSlice,SE.trMakeSlice,SE.trExtract,SE.trLen,SE.trAppend,SE.trCopy,SE.trFn,SE.trCall,SE.argsS,SE.ev,SE.constS,SE.junk,SE.sv,SE.upd_app,SE.adds,SE.sets,SE.nid,SE.St.app,SE.St.put,SE.free,SE.freeL,SE.allFree,SE.rids,SE.AK.rids,SE.castL,SE.rdl,SE.AK.dec,SE.decs,SE.AK.enc,SE.encs,SE.AK.res,SE.ress,SE.pack1,SE.zcells,SE.zeroOf,SE.partCells,SE.putc,SE.fills,SE.datas,SE.elemOf,SE.elemsOf,SE.notSpent,SE.cellsAt,SE.weak,SE.dcellsAt,SE.slAt,SE.rdPlus,SE.intAt,SE.updElem,SE.kill,SE.noJunk,SE.inK,SE.binI,SE.shf,SE.isShift,SE.eqCells,SE.aggS,SE.intOp,SE.nested,SE.hasRdr,SE.refsC,SE.refsCs,SE.ownsC,SE.refsAr,SE.rdFits,SE.costIf,SE.Con.post,SE.Con.det,SE.Ty.cells,SE.Ty.sz,SE.Ty.zero,SE.Ty.flat,SE.Ty.dec,SE.retOk,SE.loadsS,SE.loadS,SE.decRs,SE.decR,SE.outC,SE.rdC,SE.allDiff,SE.notIn,SE.notFrozen,SE.apartL,SE.rdEnd,SE.firstReg,SE.headC,SE.fitsC,SE.idsC,SE.keepE,SE.keepM,SE.keepB,SE.inL,SE.puts,SE.ownRes,SE.ownEnv,SE.renL,SE.srcId,SE.lookR,SE.envSame,SE.envSets,SE.memSame,SE.memBlks,SE.memOwns,SE.famsOf,SE.allIn,SE.closedE,SE.closedV,SE.closedM,SE.closedR,SE.rdLe,SE.S.refs,SE.S0.refs,SE.CV.refs,SE.refsL,SE.refsT,SE.S.ren,SE.S0.ren,SE.CV.ren,SE.Res.refs,SE.Res.ren,min_i64,max_i64,min_u16,max_u16,min_u8,max_u8,min_u64,max_u64,S.s.injEq,S0.c.injEq,CV.d.injEq,DC.val.injEq,Value.int.injEq,Value.bool.injEq,Value.string.injEq,eta_fact,eta_atom,eta_asn,eta_state,List.mem_cons,List.mem_nil_iff,or_false,false_or,or_true,true_or,Option.map_some,Option.map_none,Option.bind_some,Option.getD_some,Option.getD_none,Nat.reduceEqDiff,Nat.reduceAdd,Nat.reduceMul,Nat.reduceLeDiff,↓reduceIte,reduceCtorEq,true_and,and_true,and_self,forall_const,implies_true,true_implies,List.getElem?_toArray,List.getElem?_cons_succ,List.getElem?_cons_zero,List.append_nil,List.nil_append,List.cons_append,List.length_cons,List.length_nil,List.take_succ_cons,List.take_zero,List.drop_succ_cons,List.drop_zero,List.set_cons_zero,List.set_cons_succ,List.map_cons,List.map_nil,Nat.add_zero,Nat.zero_add,forall_eq,Prod.forall,Bool.not_true,Bool.not_false,Nat.lt_irrefl,Nat.zero_lt_succ,List.singleton_append,Prod.mk.injEq,Nat.zero_mul,Nat.one_mul,Nat.reducePow,Option.some.injEq,not_false_eq_true,Int.toNat_natCast,Nat.sub_zero,Nat.le_refl,Bool.or_false,Bool.false_or,Bool.or_true,Bool.true_or,Bool.and_true,Bool.true_and,Bool.and_false,Bool.false_and,Bool.or_self,Bool.and_self,List.append_eq,and_false,false_and]
 all_goals (try simp only [vcIf_iff,decide_eq_true_eq,decide_eq_false_iff_not,bne_iff_ne,ne_eq,beq_iff_eq,beq_eq_false_iff_ne,bne_eq_false_iff_eq,Bool.not_eq_true',Bool.not_eq_false',Int.ofNat_lt,Int.natCast_inj])
 all_goals (repeat' (first | apply And.intro | intro _))
 all_goals (first | omega | (simp_all;done) | grind [List.replicate_succ'])
theorem ok_l2Blank:FnOk Try.prog E 142 c_l2Blank :=
 fn_ok (l:=L_l2Blank) (perm:=fun _=>[]) tabOk mix trivial Try.func142 rfl (by kernel_rfl) (by decide) (by kernel_rfl) (anns:=fun x _=>an_l2Blank ) (fun _ k _ _=>vc_l2Blank  k) tot_fn
abbrev c_l5Model:Con:=⟨[.asn,.sl .int],[.state],fun (a,c,_)=>asV a=true/\CaseOk a c,.inl fun (a,c,_)=>(md a c,()),fun _=>0⟩
abbrev L_l5Model:List (FuncId × Con):=[(107,c_l5Filled),(109,c_l1Value),(142,c_l2Blank)]
abbrev P_l5Model:List (FuncId × PT):=[]
def an_l5Model (a:GAsn) (c:List Int):Nat->St->Option Ann
 | 4,se=>some { α:=Nat,ok:=fun i=>i<=8,mu:=fun i=>8 - i,i0:=fun _=>0,nx:=fun a _=>(fun i=>i+1) a,live:=[1,2,4,5],sets:=fun i=>[(7,sv (.int .i64 ((i:Int)+1))),(6,sv (.int .i64 (mdV c i).2))],mids:=[47,64,65,79],blks:=fun i=>[(95,.blk [.own 7,.own 8])],owns:=fun i=>[⟨7,.cell 95 0,.int,(mdV c i).1⟩,⟨8,.cell 95 1,.int,List.replicate 8 (-1)⟩],rd:=fun r _=>r,base:=100000 }
 | 14,se=>some { α:=Nat,ok:=fun i=>i<=(fL c a.atoms).length,mu:=fun i=>(fL c a.atoms).length - i,i0:=fun _=>0,nx:=fun a _=>(fun i=>i+1) a,live:=[4,5,9],sets:=fun i=>[(10,sv (.int .i64 i))],mids:=[64,65,79,100832],blks:=fun i=>[(95,.blk [.own 7,.own 8])],owns:=fun i=>[⟨7,.cell 95 0,.int,(mdV c 8).1⟩,⟨8,.cell 95 1,.int,mdH (mdV c 8).1 ((fL c a.atoms).take i)⟩],rd:=fun r _=>r,base:=200000 }
 | _,_=>none
def VC_l5Model_1 (c:List Int):Prop:=RL [.s (.c (.d (.arr .int c))),.s (.c (.ptr 47 0)),.s (.c (.ptr 79 0)),.s (.c (.ptr 95 0))]
def VC_l5Model_2 (a:GAsn):Prop:=RM [some (.blk [.d (.arr .fact a.facts),.d (.arr .atom a.atoms)]),some (.sl 64 .int ([]:List Int)),some (.sl 65 .int ([]:List Int)),some (.blk [.own 64,.own 65])]
def VC_l5Model_3 :Prop:=((some (List.replicate 8 (-1)):Option (List Int))=some (List.replicate 8 (-1)))/\True
def VC_l5Model_4 (i1:Nat) (c:List Int):Prop:=0<=(((i1:Int)+1:Int) - (1:Int))/\(((i1:Int)+1:Int) - (1:Int)) < ((((mdV c i1).1).length:Nat):Int)
def VC_l5Model_5 (i1:Nat) (c:List Int):Prop:=([.s (.c (.d (.val (.int .i64 (((i1:Int)+1:Int)+(1:Int)))))),.s (.c (.d (.val (.int .i64 (((mdV c i1).2:Int)+(1:Int))))))]:List S)=[.s (.c (.d (.val (.int .i64 (((i1+1):Int)+1:Int))))),.s (.c (.d (.val (.int .i64 ((mdV c (i1+1)).2:Int)))))]
def VC_l5Model_6 (i1:Nat) (c:List Int) (a:GAsn):Prop:=True/\(inK .i64 (((i1:Int)+1:Int)+(1:Int)))/\True/\((i1+1)<=8)/\(8 - (i1+1) < 8 - i1)/\TT/\(VC_l5Model_1 c)/\(VC_l5Model_5 i1 c)/\(VC_l5Model_2 a)/\(RM [some (.blk [.own 7,.own 8])])/\(((some (((mdV c i1).1).set (((i1:Int)+1:Int) - (1:Int)).toNat (((mdV c i1).2:Int)+(1:Int))):Option (List Int))=some ((mdV c (i1+1)).1))/\VC_l5Model_3)/\TT
def VC_l5Model_7 (i1:Nat) (c:List Int):Prop:=([.s (.c (.d (.val (.int .i64 (((i1:Int)+1:Int)+(1:Int)))))),.s (.c (.d (.val (.int .i64 ((mdV c i1).2:Int)))))]:List S)=[.s (.c (.d (.val (.int .i64 (((i1+1):Int)+1:Int))))),.s (.c (.d (.val (.int .i64 ((mdV c (i1+1)).2:Int)))))]
def VC_l5Model_8 (i1:Nat) (c:List Int) (a:GAsn):Prop:=True/\(inK .i64 (((i1:Int)+1:Int)+(1:Int)))/\True/\((i1+1)<=8)/\(8 - (i1+1) < 8 - i1)/\TT/\(VC_l5Model_1 c)/\(VC_l5Model_7 i1 c)/\(VC_l5Model_2 a)/\(RM [some (.blk [.own 7,.own 8])])/\(((some ((mdV c i1).1):Option (List Int))=some ((mdV c (i1+1)).1))/\VC_l5Model_3)/\TT
def VC_l5Model_9 (c:List Int) (i1:Nat) (a:GAsn):Prop:=(True/\(vcIf ((c.getD ((i1:Int)+1:Int).toNat (0:Int)) == ((i1:Int)+1:Int)) (True/\(inK .i64 (((mdV c i1).2:Int)+(1:Int)))/\True/\True/\True/\True/\(inK .i64 (((i1:Int)+1:Int) - (1:Int)))/\True/\(VC_l5Model_4 i1 c)/\(TF/\TF/\True/\((7:Nat) ∉ ([]:List Nat)))/\True/\True/\True/\(vcIf (decide ((0:Int) < (c.getD ((i1:Int)+1:Int).toNat (0:Int)))) (True/\True/\True/\True/\(vcIf (decide ((c.getD ((i1:Int)+1:Int).toNat (0:Int)) < ((i1:Int)+1:Int))) (True/\True/\True/\(inK .i64 (((i1:Int)+1:Int) - (1:Int)))/\True/\True/\True/\(inK .i64 ((c.getD ((i1:Int)+1:Int).toNat (0:Int)) - (1:Int)))/\(0<=((c.getD ((i1:Int)+1:Int).toNat (0:Int)) - (1:Int))/\((c.getD ((i1:Int)+1:Int).toNat (0:Int)) - (1:Int)) < (((((mdV c i1).1).set (((i1:Int)+1:Int) - (1:Int)).toNat (((mdV c i1).2:Int)+(1:Int))).length:Nat):Int))/\True/\(0<=(((i1:Int)+1:Int) - (1:Int))/\(((i1:Int)+1:Int) - (1:Int)) < (((((mdV c i1).1).set (((i1:Int)+1:Int) - (1:Int)).toNat (((mdV c i1).2:Int)+(1:Int))).length:Nat):Int))/\(TF/\TF/\True/\((7:Nat) ∉ ([]:List Nat)))/\True/\(inK .i64 (((i1:Int)+1:Int)+(1:Int)))/\True/\((i1+1)<=8)/\(8 - (i1+1) < 8 - i1)/\TT/\(VC_l5Model_1 c)/\(VC_l5Model_5 i1 c)/\(VC_l5Model_2 a)/\(RM [some (.blk [.own 7,.own 8])])/\(((some ((((mdV c i1).1).set (((i1:Int)+1:Int) - (1:Int)).toNat (((mdV c i1).2:Int)+(1:Int))).set (((i1:Int)+1:Int) - (1:Int)).toNat ((((mdV c i1).1).set (((i1:Int)+1:Int) - (1:Int)).toNat (((mdV c i1).2:Int)+(1:Int))).getD ((c.getD ((i1:Int)+1:Int).toNat (0:Int)) - (1:Int)).toNat (0:Int))):Option (List Int))=some ((mdV c (i1+1)).1))/\VC_l5Model_3)/\TT) (VC_l5Model_6 i1 c a))) (True/\(VC_l5Model_6 i1 c a)))) (True/\True/\True/\(vcIf (decide ((0:Int) < (c.getD ((i1:Int)+1:Int).toNat (0:Int)))) (True/\True/\True/\True/\(vcIf (decide ((c.getD ((i1:Int)+1:Int).toNat (0:Int)) < ((i1:Int)+1:Int))) (True/\True/\True/\(inK .i64 (((i1:Int)+1:Int) - (1:Int)))/\True/\True/\True/\(inK .i64 ((c.getD ((i1:Int)+1:Int).toNat (0:Int)) - (1:Int)))/\(0<=((c.getD ((i1:Int)+1:Int).toNat (0:Int)) - (1:Int))/\((c.getD ((i1:Int)+1:Int).toNat (0:Int)) - (1:Int)) < ((((mdV c i1).1).length:Nat):Int))/\True/\(VC_l5Model_4 i1 c)/\(TF/\TF/\True/\((7:Nat) ∉ ([]:List Nat)))/\True/\(inK .i64 (((i1:Int)+1:Int)+(1:Int)))/\True/\((i1+1)<=8)/\(8 - (i1+1) < 8 - i1)/\TT/\(VC_l5Model_1 c)/\(VC_l5Model_7 i1 c)/\(VC_l5Model_2 a)/\(RM [some (.blk [.own 7,.own 8])])/\(((some (((mdV c i1).1).set (((i1:Int)+1:Int) - (1:Int)).toNat (((mdV c i1).1).getD ((c.getD ((i1:Int)+1:Int).toNat (0:Int)) - (1:Int)).toNat (0:Int))):Option (List Int))=some ((mdV c (i1+1)).1))/\VC_l5Model_3)/\TT) (VC_l5Model_8 i1 c a))) (True/\(VC_l5Model_8 i1 c a))))))
def VC_l5Model_10 (c:List Int) (a:GAsn):Prop:=RM [some (.sl 64 .int ([]:List Int)),some (.sl 65 .int ([]:List Int)),some (.blk [.own 64,.own 65]),some (.sl 100832 .atom (fL c a.atoms))]
def VC_l5Model_11 (c:List Int) (a:GAsn):Prop:=(((0<=8)/\TT/\(VC_l5Model_1 c)/\(([.s (.c (.d (.val (.int .i64 (1:Int))))),.s (.c (.d (.val (.int .i64 (0:Int)))))]:List S)=[.s (.c (.d (.val (.int .i64 ((0:Int)+1:Int))))),.s (.c (.d (.val (.int .i64 ((mdV c 0).2:Int)))))])/\(VC_l5Model_2 a)/\(RM [some (.blk [.own 176,.own 177])])/\(((some (List.replicate 8 0):Option (List Int))=some ((mdV c 0).1))/\VC_l5Model_3)/\TT)/\(∀ i1:Nat,(i1<=8)->True/\True/\(vcIf (decide (((i1:Int)+1:Int)<=(8:Int))) (True/\True/\(0<=((i1:Int)+1:Int)/\((i1:Int)+1:Int) < ((c.length:Nat):Int))/\True/\True/\True/\True/\(VC_l5Model_9 c i1 a)) (True/\True/\True/\((a.atoms.length<=1048576/\a.atoms.all atV=true/\c.length=9)/\True/\TN/\True)/\True/\True/\((0<=(fL c a.atoms).length)/\TT/\(RL [.s (.c (.ptr 79 0)),.s (.c (.ptr 95 0)),.s (.c (.own 100832))])/\(([.s (.c (.d (.val (.int .i64 (0:Int)))))]:List S)=[.s (.c (.d (.val (.int .i64 ((0:Nat):Int)))))])/\(VC_l5Model_10 c a)/\(RM [some (.blk [.own 7,.own 8])])/\(((some ((mdV c i1).1):Option (List Int))=some ((mdV c 8).1))/\((some (List.replicate 8 (-1)):Option (List Int))=some (mdH (mdV c 8).1 ((fL c a.atoms).take 0)))/\True)/\TT)/\(∀ i2:Nat,(i2<=(fL c a.atoms).length)->True/\True/\True/\True/\(vcIf (decide (((i2:Nat):Int) < (((fL c a.atoms).length:Nat):Int))) (True/\True/\True/\True/\True/\True/\(0<=((i2:Nat):Int)/\((i2:Nat):Int) < (((fL c a.atoms).length:Nat):Int))/\True/\True/\((((mdV c 8).1).length=8/\isT (((fL c a.atoms).getD i2 (⟨0,0,0⟩:GAtom)).a)=true)/\True/\True)/\(inK .i64 ((tv ((mdV c 8).1) (((fL c a.atoms).getD i2 (⟨0,0,0⟩:GAtom)).a)) - (1:Int)))/\True/\True/\True/\True/\(0<=((i2:Nat):Int)/\((i2:Nat):Int) < (((fL c a.atoms).length:Nat):Int))/\True/\True/\((((mdV c 8).1).length=8/\isT (((fL c a.atoms).getD i2 (⟨0,0,0⟩:GAtom)).b)=true)/\True/\True)/\(0<=((tv ((mdV c 8).1) (((fL c a.atoms).getD i2 (⟨0,0,0⟩:GAtom)).a)) - (1:Int))/\((tv ((mdV c 8).1) (((fL c a.atoms).getD i2 (⟨0,0,0⟩:GAtom)).a)) - (1:Int)) < (((mdH (mdV c 8).1 ((fL c a.atoms).take i2)).length:Nat):Int))/\(TF/\TF/\True/\((8:Nat) ∉ ([]:List Nat)))/\True/\(inK .i64 (((i2:Nat):Int)+(1:Int)))/\True/\((i2+1)<=(fL c a.atoms).length)/\((fL c a.atoms).length - (i2+1) < (fL c a.atoms).length - i2)/\TT/\(RL [.s (.c (.ptr 79 0)),.s (.c (.ptr 95 0)),.s (.c (.own 100832))])/\(([.s (.c (.d (.val (.int .i64 (((i2:Nat):Int)+(1:Int))))))]:List S)=[.s (.c (.d (.val (.int .i64 (((i2+1):Nat):Int)))))])/\(VC_l5Model_10 c a)/\(RM [some (.blk [.own 7,.own 8])])/\(((some ((mdV c 8).1):Option (List Int))=some ((mdV c 8).1))/\((some ((mdH (mdV c 8).1 ((fL c a.atoms).take i2)).set ((tv ((mdV c 8).1) (((fL c a.atoms).getD i2 (⟨0,0,0⟩:GAtom)).a)) - (1:Int)).toNat (tv ((mdV c 8).1) (((fL c a.atoms).getD i2 (⟨0,0,0⟩:GAtom)).b))):Option (List Int))=some (mdH (mdV c 8).1 ((fL c a.atoms).take (i2+1))))/\True)/\TT) (True/\(TF/\TF)/\((((⟨(mdV c 8).1,mdH (mdV c 8).1 ((fL c a.atoms).take i2)⟩:GState),()):GState × Unit)=(md a c,()))/\((((7:Nat) ≠ 8)/\True)/\True/\True)/\((TF/\TF)/\(TF/\TF)/\True)/\True/\(True/\True/\True)/\TF)))))))
def VC_l5Model (a:GAsn) (c:List Int) (k:Nat):Prop:=TN/\(TN/\TN/\TN/\True)/\(True/\True/\TN/\TN/\True)/\(TN/\TN/\TN/\True)/\(TF/\TF)/\True/\True/\(VC_l5Model_11 c a)
theorem vcn_l5Model (a:GAsn) (c:List Int) (k:Nat) (hp:asV a=true/\CaseOk a c):VC_l5Model a c k:=by
 unfold VC_l5Model VC_l5Model_11 VC_l5Model_10 VC_l5Model_9 VC_l5Model_8 VC_l5Model_7 VC_l5Model_6 VC_l5Model_5 VC_l5Model_4 VC_l5Model_3 VC_l5Model_2 VC_l5Model_1
 simp only [cln,Nat.reduceEqDiff,Nat.reduceLeDiff,Nat.reduceAdd]
 have hC:=hp.2
 have hn:=mdV_n c
 have hl:=hC.len
 have hF:=Nat.le_trans (fL_len c a.atoms) (asV_facts hp.1).2.2.2
 all_goals (try simp only [vcIf_iff,tn1,tn2,len8,mdH_len,List.length_replicate,List.length_set,decide_eq_true_eq,decide_eq_false_iff_not,bne_iff_ne,ne_eq,beq_iff_eq,beq_eq_false_iff_ne,bne_eq_false_iff_eq,Bool.not_eq_true',Bool.not_eq_false',Int.ofNat_lt,Int.natCast_inj])
 all_goals (repeat' (first | apply And.intro | intro _))
 all_goals (repeat (cases ‹_/\_›))
 all_goals (first | omega | rfl | assumption | (simp_all;done) | skip)
 all_goals (try simp only [tn1,tn2,len8,mdH_len,List.length_replicate,List.length_set] at *)
 all_goals (first
  | omega | exact rep_set (by omega) | exact rep_end ‹_› ‹_›
  | exact (md_n1 ‹_›).1 | exact (md_n1 ‹_›).2.1 | exact (md_n1 ‹_›).2.2.1 | exact (md_n1 ‹_›).2.2.2
  | exact (md_le hC ‹_›).1 | exact (md_le hC ‹_›).2 | exact md_end ‹_› ‹_›
  | exact (md_a hC ‹_›).1.1 | exact (md_a hC ‹_›).1.2 | exact (md_a hC ‹_›).2.1.1 | exact (md_a hC ‹_›).2.1.2 | exact (md_a hC ‹_›).2.2.1 | exact (md_a hC ‹_›).2.2.2
  | exact (md_gt hC ‹_› ‹_› ‹_›).elim
  | exact (mdH_step ‹_›).symm | (rw [take_full (l:=fL c a.atoms) ‹_›];rfl)
  | (rw [mdV_eq ‹_›];done) | (rw [mdV_lt ‹_› ‹_›];done) | (rw [mdV_no ‹_› ‹_›];done)
  | (have h1:=le_get hC (t:=_+1) (by omega);omega)
  | (have h1:=asV_facts (by assumption:asV a=true);omega)
  | exact (asV_facts (by assumption:asV a=true)).2.2.1
  | skip)
theorem ok_l5Model:FnOk Try.prog E 106 c_l5Model :=
 fn_okQ (l:=L_l5Model) (lp:=P_l5Model) (hp:=fun _=>false) (gcs:=fun _=>none) (perm:=fun _=>[]) tabOk mix ⟨ok_l5Filled,ok_l1Value,ok_l2Blank,trivial⟩ trivial Try.func106 rfl (by kernel_rfl) (by decide) (by kernel_rfl) (anns:=fun x _=>an_l5Model x.1 x.2.1) (fun ⟨a,c,_⟩ k hp _=>Eq.mp (by kernel_rfl) (vcn_l5Model a c k hp)) tot_fn
abbrev c_l2Has:Con:=⟨[.state,.int],[.bool],fun (s,n,_)=>stV s=true,.inl fun (s,n,_)=>(al s n,()),fun _=>0⟩
abbrev L_l2Has:List (FuncId × Con):=[]
abbrev P_l2Has:List (FuncId × PT):=[]
def VC_l2Has_1 (s:GState) (n:Int):Prop:=True/\True/\(((false,()):Bool × Unit)=(al s n,()))/\True/\True/\True/\True/\TF
def VC_l2Has (s:GState) (n:Int) (k:Nat):Prop:=TN/\True/\True/\True/\True/\(vcIf (decide ((1:Int)<=n)) (True/\True/\True/\True/\(vcIf (decide (n<=(8:Int))) (True/\True/\True/\(inK .i64 (n - (1:Int)))/\(0<=(n - (1:Int))/\(n - (1:Int)) < ((s.heap.length:Nat):Int))/\True/\True/\True/\True/\(((decide ((0:Int)<=(s.heap.getD (n - (1:Int)).toNat (0:Int))),()):Bool × Unit)=(al s n,()))/\True/\True/\True/\True/\TF) (VC_l2Has_1 s n))) (True/\True/\(VC_l2Has_1 s n)))
theorem vcn_l2Has (s:GState) (n:Int) (k:Nat) (hp:stV s=true):VC_l2Has s n k:=by
 unfold VC_l2Has VC_l2Has_1
 simp only [cln,Nat.reduceEqDiff,Nat.reduceLeDiff,Nat.reduceAdd]
 all_goals (try simp only [opn])
 all_goals (repeat' (first | apply And.intro | intro _))
 all_goals (repeat (cases ‹_/\_›))
 all_goals (first | omega | rfl | assumption | (simp_all;done) | skip)
 all_goals (try have h2:=stV_all hp)
 all_goals (first | omega | exact al_yes ‹_› ‹_› | exact al_no (by omega) | skip)
theorem ok_l2Has:FnOk Try.prog E 143 c_l2Has :=
 fn_okQ (l:=L_l2Has) (lp:=P_l2Has) (hp:=fun _=>false) (gcs:=fun _=>none) (perm:=fun _=>[]) tabOk mix trivial trivial Try.func143 rfl (by kernel_rfl) (by decide) (by kernel_rfl) (anns:=fun x _=>fun _ _=>none) (fun ⟨s,n,_⟩ k hp _=>Eq.mp (by kernel_rfl) (vcn_l2Has s n k hp)) tot_fn
abbrev c_l6Room:Con:=⟨[.state,.int,.bool],[.int],fun (s,n,b,_)=>stV s=true,.inl fun (s,n,b,_)=>(room s n b,()),fun _=>0⟩
abbrev L_l6Room:List (FuncId × Con):=[(143,c_l2Has)]
abbrev P_l6Room:List (FuncId × PT):=[]
def an_l6Room (s:GState) (n:Int) (b:Bool):Nat->St->Option Ann
 | 3,se=>some { α:=Nat,ok:=fun i=>i<=8,mu:=fun i=>8 - i,i0:=fun _=>0,nx:=fun a _=>(fun i=>i+1) a,live:=[1,2,3,6],sets:=fun i=>[(8,sv (.int .i64 ((i:Int)+1))),(7,sv (.int .i64 (rm (frP s n) b i)))],mids:=[63],blks:=fun i=>[],owns:=fun i=>[],rd:=fun r _=>r,base:=100000 }
 | _,_=>none
def VC_l6Room_1 (n:Int) (b:Bool):Prop:=RL [.s (.c (.d (.val (.int .i64 n)))),.s (.c (.d (.val (.bool b)))),.s (.c (.ptr 63 0)),.s (.c (.d (.val (.int .i64 (0:Int)))))]
def VC_l6Room_2 (i1:Nat) (n:Int) (b:Bool) (s:GState):Prop:=True/\True/\True/\(inK .i64 (((i1:Int)+1:Int)+(1:Int)))/\True/\((i1+1)<=8)/\(8 - (i1+1) < 8 - i1)/\TT/\(VC_l6Room_1 n b)/\(([.s (.c (.d (.val (.int .i64 (((i1:Int)+1:Int)+(1:Int)))))),.s (.c (.d (.val (.int .i64 ((i1:Int)+1:Int)))))]:List S)=[.s (.c (.d (.val (.int .i64 (((i1+1):Int)+1:Int))))),.s (.c (.d (.val (.int .i64 (rm (frP s n) b (i1+1):Int)))))])/\(RM [some (.blk [.d (.arr .int s.vals),.d (.arr .int s.heap)])])/\(RM [])/\True/\TT
def VC_l6Room_3 (i1:Nat) (n:Int) (b:Bool) (s:GState):Prop:=True/\(inK .i64 (((i1:Int)+1:Int)+(1:Int)))/\True/\((i1+1)<=8)/\(8 - (i1+1) < 8 - i1)/\TT/\(VC_l6Room_1 n b)/\(([.s (.c (.d (.val (.int .i64 (((i1:Int)+1:Int)+(1:Int)))))),.s (.c (.d (.val (.int .i64 (rm (frP s n) b i1:Int)))))]:List S)=[.s (.c (.d (.val (.int .i64 (((i1+1):Int)+1:Int))))),.s (.c (.d (.val (.int .i64 (rm (frP s n) b (i1+1):Int)))))])/\(RM [some (.blk [.d (.arr .int s.vals),.d (.arr .int s.heap)])])/\(RM [])/\True/\TT
def VC_l6Room_4 (i1:Nat) (n:Int) (b:Bool) (s:GState):Prop:=True/\(VC_l6Room_3 i1 n b s)
def VC_l6Room (s:GState) (n:Int) (b:Bool) (k:Nat):Prop:=TN/\True/\True/\True/\((0<=8)/\TT/\(VC_l6Room_1 n b)/\(([.s (.c (.d (.val (.int .i64 (1:Int))))),.s (.c (.d (.val (.int .i64 (0:Int)))))]:List S)=[.s (.c (.d (.val (.int .i64 ((0:Int)+1:Int))))),.s (.c (.d (.val (.int .i64 (rm (frP s n) b 0:Int)))))])/\(RM [some (.blk [.d (.arr .int s.vals),.d (.arr .int s.heap)])])/\(RM [])/\True/\TT)/\(∀ i1:Nat,(i1<=8)->True/\True/\(vcIf (decide (((i1:Int)+1:Int)<=(8:Int))) (True/\True/\((stV s=true)/\True/\True)/\True/\True/\(vcIf (!(al s ((i1:Int)+1:Int))) (True/\True/\True/\True/\True/\(vcIf (((i1:Int)+1:Int) != n) (True/\True/\True/\(vcIf ((rm (frP s n) b i1:Int) == (0:Int)) (True/\True/\(VC_l6Room_2 i1 n b s)) (True/\True/\True/\(vcIf b (VC_l6Room_2 i1 n b s) (VC_l6Room_3 i1 n b s))))) (VC_l6Room_4 i1 n b s))) (True/\True/\(VC_l6Room_4 i1 n b s)))) (True/\True/\((((rm (frP s n) b i1:Int),()):Int × Unit)=(room s n b,()))/\True/\True/\True/\True/\TF)))
theorem vcn_l6Room (s:GState) (n:Int) (b:Bool) (k:Nat) (hp:stV s=true):VC_l6Room s n b k:=by
 unfold VC_l6Room VC_l6Room_4 VC_l6Room_3 VC_l6Room_2 VC_l6Room_1
 simp only [cln,Nat.reduceEqDiff,Nat.reduceLeDiff,Nat.reduceAdd]
 all_goals (try simp only [opn])
 all_goals (repeat' (first | apply And.intro | intro _))
 all_goals (repeat (cases ‹_/\_›))
 all_goals (first | with_reducible exact True.intro | (exfalso;contradiction) | omega | with_reducible assumption | with_reducible rfl | skip)
 all_goals (first
  | with_reducible exact rfl | with_reducible exact rmE ‹_› ‹_›
  | with_reducible exact (rmY ‹_› ‹_› (.inl ‹_›)).symm | with_reducible exact (rmY ‹_› ‹_› (.inr ‹_›)).symm
  | with_reducible exact (rmN1 ‹_›).symm | with_reducible exact (rmN2 ‹_›).symm | with_reducible exact (rmN3 ‹_› ‹_›).symm
  | rfl | skip)
theorem ok_l6Room:FnOk Try.prog E 108 c_l6Room :=
 fn_okQ (l:=L_l6Room) (lp:=P_l6Room) (hp:=fun _=>false) (gcs:=fun _=>none) (perm:=fun _=>[]) tabOk mix ⟨ok_l2Has,trivial⟩ trivial Try.func108 rfl (by kernel_rfl) (by decide) (by kernel_rfl) (anns:=fun x _=>an_l6Room x.1 x.2.1 x.2.2.1) (fun ⟨s,n,b,_⟩ k hp _=>Eq.mp (by kernel_rfl) (vcn_l6Room s n b k hp)) tot_fn
abbrev c_l6Grow:Con:=⟨[.asn,.sl .int,.int,.bool],[.state,.bool],fun (a,c,m,b,_)=>asV a=true/\CaseOk a c/\0<=m/\m < 64,.inl fun (a,c,m,b,_)=>(grL a c m b,grB a c m b,()),fun _=>0⟩
abbrev L_l6Grow:List (FuncId × Con):=[(106,c_l5Model),(107,c_l5Filled),(108,c_l6Room),(109,c_l1Value)]
abbrev P_l6Grow:List (FuncId × PT):=[]
def an_l6Grow (a:GAsn) (c:List Int) (m:Int) (b:Bool):Nat->St->Option Ann
 | 5,se=>some { α:=Nat,ok:=fun i=>i<=(fL c a.atoms).length/\(gr a c m b ((fL c a.atoms).take i)).2.2=true,mu:=fun i=>(fL c a.atoms).length - i,i0:=fun _=>0,nx:=fun a _=>(fun i=>i+1) a,live:=[2,3,8,10,11],sets:=fun i=>[(13,sv (.int .i64 i)),(12,sv (.int .i64 (grJ a c m b i)))],mids:=[128,129,143,352],blks:=fun i=>[(175,.blk [.own 7,.own 8])],owns:=fun i=>[⟨7,.cell 175 0,.int,(mdV c 8).1⟩,⟨8,.cell 175 1,.int,(gr a c m b ((fL c a.atoms).take i)).1⟩],rd:=fun r _=>r,base:=100000 }
 | _,_=>none
def VC_l6Grow_1 (m:Int) (b:Bool):Prop:=RL [.s (.c (.d (.val (.int .i64 m)))),.s (.c (.d (.val (.bool b)))),.s (.c (.ptr 143 0)),.s (.c (.ptr 175 0)),.s (.c (.own 352))]
def VC_l6Grow_2 (c:List Int) (a:GAsn):Prop:=RM [some (.sl 128 .int ([]:List Int)),some (.sl 129 .int ([]:List Int)),some (.blk [.own 128,.own 129]),some (.sl 352 .atom (fL c a.atoms))]
def VC_l6Grow_3 (c:List Int) (a:GAsn) (m:Int) (b:Bool) (i1:Nat):Prop:=(VC_l6Grow_2 c a)/\(RM [some (.blk [.own 7,.own 8])])/\(((some ((mdV c 8).1):Option (List Int))=some ((mdV c 8).1))/\((some ((gr a c m b ((fL c a.atoms).take i1)).1):Option (List Int))=some ((gr a c m b ((fL c a.atoms).take (i1+1))).1))/\True)/\TT
def VC_l6Grow_4 (i1:Nat) (a:GAsn) (c:List Int) (m:Int) (b:Bool):Prop:=([.s (.c (.d (.val (.int .i64 (((i1:Nat):Int)+(1:Int)))))),.s (.c (.d (.val (.int .i64 ((grJ a c m b i1:Int)+(1:Int))))))]:List S)=[.s (.c (.d (.val (.int .i64 (((i1+1):Nat):Int))))),.s (.c (.d (.val (.int .i64 (grJ a c m b (i1+1):Int)))))]
def VC_l6Grow_5 (c:List Int) (a:GAsn) (i1:Nat):Prop:=(((mdV c 8).1).length=8/\isT (((fL c a.atoms).getD i1 (⟨0,0,0⟩:GAtom)).b)=true)/\True/\True
def VC_l6Grow_6 :Prop:=((((7:Nat) ≠ 8)/\True)/\True/\True)/\((TF/\TF)/\(TF/\TF)/\True)/\True/\(True/\True/\True)/\TF
def VC_l6Grow_7 (c:List Int) (a:GAsn) (m:Int) (b:Bool) (i1:Nat):Prop:=(True/\(vcIf ((room (⟨(mdV c 8).1,(gr a c m b ((fL c a.atoms).take i1)).1⟩:GState) (tv ((mdV c 8).1) (((fL c a.atoms).getD i1 (⟨0,0,0⟩:GAtom)).b)) b) == (0:Int)) (True/\(TF/\TF)/\True/\((((⟨(mdV c 8).1,(gr a c m b ((fL c a.atoms).take i1)).1⟩:GState),false,()):GState × Bool × Unit)=(grL a c m b,grB a c m b,()))/\VC_l6Grow_6) (True/\True/\True/\(inK .i64 ((room (⟨(mdV c 8).1,(gr a c m b ((fL c a.atoms).take i1)).1⟩:GState) (tv ((mdV c 8).1) (((fL c a.atoms).getD i1 (⟨0,0,0⟩:GAtom)).b)) b) - (1:Int)))/\True/\True/\True/\True/\(0<=((i1:Nat):Int)/\((i1:Nat):Int) < (((fL c a.atoms).length:Nat):Int))/\True/\True/\(VC_l6Grow_5 c a i1)/\(0<=((room (⟨(mdV c 8).1,(gr a c m b ((fL c a.atoms).take i1)).1⟩:GState) (tv ((mdV c 8).1) (((fL c a.atoms).getD i1 (⟨0,0,0⟩:GAtom)).b)) b) - (1:Int))/\((room (⟨(mdV c 8).1,(gr a c m b ((fL c a.atoms).take i1)).1⟩:GState) (tv ((mdV c 8).1) (((fL c a.atoms).getD i1 (⟨0,0,0⟩:GAtom)).b)) b) - (1:Int)) < ((((gr a c m b ((fL c a.atoms).take i1)).1).length:Nat):Int))/\(TF/\TF/\True/\((8:Nat) ∉ ([]:List Nat)))/\True/\True/\True/\True/\True/\True/\(0<=((i1:Nat):Int)/\((i1:Nat):Int) < (((fL c a.atoms).length:Nat):Int))/\True/\True/\((((mdV c 8).1).length=8/\isT (((fL c a.atoms).getD i1 (⟨0,0,0⟩:GAtom)).a)=true)/\True/\True)/\(inK .i64 ((tv ((mdV c 8).1) (((fL c a.atoms).getD i1 (⟨0,0,0⟩:GAtom)).a)) - (1:Int)))/\True/\(0<=((tv ((mdV c 8).1) (((fL c a.atoms).getD i1 (⟨0,0,0⟩:GAtom)).a)) - (1:Int))/\((tv ((mdV c 8).1) (((fL c a.atoms).getD i1 (⟨0,0,0⟩:GAtom)).a)) - (1:Int)) < (((((gr a c m b ((fL c a.atoms).take i1)).1).set ((room (⟨(mdV c 8).1,(gr a c m b ((fL c a.atoms).take i1)).1⟩:GState) (tv ((mdV c 8).1) (((fL c a.atoms).getD i1 (⟨0,0,0⟩:GAtom)).b)) b) - (1:Int)).toNat (tv ((mdV c 8).1) (((fL c a.atoms).getD i1 (⟨0,0,0⟩:GAtom)).b))).length:Nat):Int))/\(TF/\TF/\True/\((8:Nat) ∉ ([]:List Nat)))/\True/\(inK .i64 (((i1:Nat):Int)+(1:Int)))/\True/\((i1+1)<=(fL c a.atoms).length/\(gr a c m b ((fL c a.atoms).take (i1+1))).2.2=true)/\((fL c a.atoms).length - (i1+1) < (fL c a.atoms).length - i1)/\TT/\(VC_l6Grow_1 m b)/\(VC_l6Grow_4 i1 a c m b)/\(VC_l6Grow_2 c a)/\(RM [some (.blk [.own 7,.own 8])])/\(((some ((mdV c 8).1):Option (List Int))=some ((mdV c 8).1))/\((some ((((gr a c m b ((fL c a.atoms).take i1)).1).set ((room (⟨(mdV c 8).1,(gr a c m b ((fL c a.atoms).take i1)).1⟩:GState) (tv ((mdV c 8).1) (((fL c a.atoms).getD i1 (⟨0,0,0⟩:GAtom)).b)) b) - (1:Int)).toNat (tv ((mdV c 8).1) (((fL c a.atoms).getD i1 (⟨0,0,0⟩:GAtom)).b))).set ((tv ((mdV c 8).1) (((fL c a.atoms).getD i1 (⟨0,0,0⟩:GAtom)).a)) - (1:Int)).toNat (room (⟨(mdV c 8).1,(gr a c m b ((fL c a.atoms).take i1)).1⟩:GState) (tv ((mdV c 8).1) (((fL c a.atoms).getD i1 (⟨0,0,0⟩:GAtom)).b)) b)):Option (List Int))=some ((gr a c m b ((fL c a.atoms).take (i1+1))).1))/\True)/\TT)))
def VC_l6Grow (a:GAsn) (c:List Int) (m:Int) (b:Bool) (k:Nat):Prop:=TN/\(TN/\TN/\TN/\True)/\True/\True/\True/\((asV a=true/\CaseOk a c)/\True/\TN/\TN/\True)/\(TN/\TN/\TN/\True)/\(TF/\TF)/\True/\True/\True/\((a.atoms.length<=1048576/\a.atoms.all atV=true/\c.length=9)/\True/\TN/\True)/\True/\True/\True/\((0<=(fL c a.atoms).length/\(gr a c m b ((fL c a.atoms).take 0)).2.2=true)/\TT/\(VC_l6Grow_1 m b)/\(([.s (.c (.d (.val (.int .i64 (0:Int))))),.s (.c (.d (.val (.int .i64 (0:Int)))))]:List S)=[.s (.c (.d (.val (.int .i64 ((0:Nat):Int))))),.s (.c (.d (.val (.int .i64 (grJ a c m b 0:Int)))))])/\(VC_l6Grow_2 c a)/\(RM [some (.blk [.own 288,.own 289])])/\(((some ((md a c).vals):Option (List Int))=some ((mdV c 8).1))/\((some ((md a c).heap):Option (List Int))=some ((gr a c m b ((fL c a.atoms).take 0)).1))/\True)/\TT)/\(∀ i1:Nat,(i1<=(fL c a.atoms).length/\(gr a c m b ((fL c a.atoms).take i1)).2.2=true)->True/\True/\True/\True/\(vcIf (decide (((i1:Nat):Int) < (((fL c a.atoms).length:Nat):Int))) (True/\True/\(0<=((i1:Nat):Int)/\((i1:Nat):Int) < (((fL c a.atoms).length:Nat):Int))/\True/\True/\True/\(vcIf ((((fL c a.atoms).getD i1 (⟨0,0,0⟩:GAtom)).kind) != (2:Int)) (True/\(inK .i64 (((i1:Nat):Int)+(1:Int)))/\True/\((i1+1)<=(fL c a.atoms).length/\(gr a c m b ((fL c a.atoms).take (i1+1))).2.2=true)/\((fL c a.atoms).length - (i1+1) < (fL c a.atoms).length - i1)/\TT/\(VC_l6Grow_1 m b)/\(([.s (.c (.d (.val (.int .i64 (((i1:Nat):Int)+(1:Int)))))),.s (.c (.d (.val (.int .i64 (grJ a c m b i1:Int)))))]:List S)=[.s (.c (.d (.val (.int .i64 (((i1+1):Nat):Int))))),.s (.c (.d (.val (.int .i64 (grJ a c m b (i1+1):Int)))))])/\(VC_l6Grow_3 c a m b i1)) (True/\True/\(0<=(grJ a c m b i1:Int))/\True/\True/\True/\True/\(inK .i64 ((grJ a c m b i1:Int)+(1:Int)))/\True/\True/\True/\(vcIf (!((bits .and .i64 (Int.fdiv m (2 ^ (min (grJ a c m b i1:Int).toNat (IntKind.bits .i64)))) (1:Int)) == (1:Int))) (True/\(inK .i64 (((i1:Nat):Int)+(1:Int)))/\True/\((i1+1)<=(fL c a.atoms).length/\(gr a c m b ((fL c a.atoms).take (i1+1))).2.2=true)/\((fL c a.atoms).length - (i1+1) < (fL c a.atoms).length - i1)/\TT/\(VC_l6Grow_1 m b)/\(VC_l6Grow_4 i1 a c m b)/\(VC_l6Grow_3 c a m b i1)) (True/\True/\True/\True/\True/\(0<=((i1:Nat):Int)/\((i1:Nat):Int) < (((fL c a.atoms).length:Nat):Int))/\True/\True/\(VC_l6Grow_5 c a i1)/\True/\((stV (⟨(mdV c 8).1,(gr a c m b ((fL c a.atoms).take i1)).1⟩:GState)=true)/\True/\True)/\True/\True/\(VC_l6Grow_7 c a m b i1)))))) (True/\(TF/\TF)/\True/\((((⟨(mdV c 8).1,(gr a c m b ((fL c a.atoms).take i1)).1⟩:GState),true,()):GState × Bool × Unit)=(grL a c m b,grB a c m b,()))/\VC_l6Grow_6)))
theorem vcn_l6Grow (a:GAsn) (c:List Int) (m:Int) (b:Bool) (k:Nat) (hp:asV a=true/\CaseOk a c/\0<=m/\m < 64):VC_l6Grow a c m b k:=by
 unfold VC_l6Grow VC_l6Grow_7 VC_l6Grow_6 VC_l6Grow_5 VC_l6Grow_4 VC_l6Grow_3 VC_l6Grow_2 VC_l6Grow_1
 simp only [cln,Nat.reduceEqDiff,Nat.reduceLeDiff,Nat.reduceAdd]
 have hC:=hp.2.1
 have h6:=fl6 (c:=c) hp.1
 have hl:=hC.len
 all_goals (try simp only [opn])
 all_goals (repeat' (first | apply And.intro | intro _))
 all_goals (repeat (cases ‹_/\_›))
 all_goals (first | with_reducible exact True.intro | (exfalso;contradiction) | omega | with_reducible assumption | with_reducible rfl | skip)
 all_goals (first
  | with_reducible exact (asV_facts ‹_›).2.2.1
  | (have h9:=(asV_facts ‹asV a=true›).2.2.2;omega)
  | rfl
  | with_reducible exact (vg_j ‹_› ‹_›).1 | (have h9:=vg_j (m:=m) (b:=b) ‹asV a=true› ‹_<=(fL c a.atoms).length›;omega)
  | with_reducible exact vgk1 ‹_› ‹_› ‹_› | with_reducible exact vgk2 ‹_› ‹_› | with_reducible exact vgk3 ‹_› ‹_›
  | with_reducible exact vgb1 ‹_› ‹_› ‹_› ‹_› | with_reducible exact vgb2 ‹_› ‹_› ‹_› ‹_› | with_reducible exact vgb3 ‹_› ‹_› ‹_› ‹_›
  | with_reducible exact vgp1 ‹_› ‹_› ‹_› ‹_› ‹_› | with_reducible exact vgp2 ‹_› ‹_› ‹_› ‹_› ‹_› | with_reducible exact vgp3 ‹_› ‹_› ‹_› ‹_› ‹_› | with_reducible exact vgp4 ‹_› ‹_› ‹_› ‹_› ‹_› ‹_›
  | with_reducible exact (vg_z ‹_› ‹_› ‹_› ‹_› ‹_›).1 | with_reducible exact (vg_z ‹_› ‹_› ‹_› ‹_› ‹_›).2.1 | with_reducible exact (vg_z ‹_› ‹_› ‹_› ‹_› ‹_›).2.2
  | with_reducible exact (vg_end ‹_› ‹_› ‹_›).1 | with_reducible exact (vg_end ‹_› ‹_› ‹_›).2.1 | with_reducible exact (vg_end ‹_› ‹_› ‹_›).2.2
  | with_reducible exact vg_st | with_reducible exact mdV_len c 8 | with_reducible exact vg_rb.1 | with_reducible exact vg_rb.2
  | with_reducible exact (md_a hC ‹_›).1.1 | with_reducible exact (md_a hC ‹_›).1.2 | with_reducible exact (md_a hC ‹_›).2.1.1 | with_reducible exact (md_a hC ‹_›).2.1.2
  | with_reducible exact (md_a hC ‹_›).2.2.1 | (simp only [List.length_set];with_reducible exact (vg_ri ‹_›).2) | (simp only [List.length_set];with_reducible exact (vg_ai hC ‹_›).2)
  | with_reducible exact (vg_ri ‹_›).1 | with_reducible exact (vg_ri ‹_›).2 | with_reducible exact (vg_ai hC ‹_›).1 | with_reducible exact (vg_ai hC ‹_›).2
  | skip)
theorem ok_l6Grow:FnOk Try.prog E 56 c_l6Grow :=
 fn_okQ (l:=L_l6Grow) (lp:=P_l6Grow) (hp:=fun _=>false) (gcs:=fun _=>none) (perm:=fun _=>[]) tabOk mix ⟨ok_l5Model,ok_l5Filled,ok_l6Room,ok_l1Value,trivial⟩ trivial Try.func56 rfl (by kernel_rfl) (by decide) (by kernel_rfl) (anns:=fun x _=>an_l6Grow x.1 x.2.1 x.2.2.1 x.2.2.2.1) (fun ⟨a,c,m,b,_⟩ k hp _=>Eq.mp (by kernel_rfl) (vcn_l6Grow a c m b k hp)) tot_fn
abbrev c_l1Hold:Con:=⟨[.sl .fact,.sl .int],[.bool],fun (l,v,_)=>l.length<=1048576/\v.length=8/\l.all fV=true,.inl fun (l,v,_)=>(l.all (holdF v),()),fun _=>0⟩
abbrev L_l1Hold:List (FuncId × Con):=[(109,c_l1Value)]
abbrev P_l1Hold:List (FuncId × PT):=[]
def an_l1Hold (l:List GFact) (v:List Int):Nat->St->Option Ann
 | 2,se=>some { α:=Nat,ok:=fun i=>i<=l.length/\(l.take i).all (holdF v)=true,mu:=fun i=>l.length - i,i0:=fun _=>0,nx:=fun a _=>(fun i=>i+1) a,live:=[0,1],sets:=fun i=>[(5,sv (.int .i64 i))],mids:=[],blks:=fun i=>[],owns:=fun i=>[],rd:=fun r _=>r,base:=100000 }
 | _,_=>none
def VC_l1Hold (l:List GFact) (v:List Int) (k:Nat):Prop:=True/\True/\((0<=l.length/\(l.take 0).all (holdF v)=true)/\TT/\(RL [.s (.c (.d (.arr .fact l))),.s (.c (.d (.arr .int v)))])/\(([.s (.c (.d (.val (.int .i64 (0:Int)))))]:List S)=[.s (.c (.d (.val (.int .i64 ((0:Nat):Int)))))])/\(RM [])/\(RM [])/\True/\TT)/\(∀ i1:Nat,(i1<=l.length/\(l.take i1).all (holdF v)=true)->True/\True/\True/\True/\(vcIf (decide (((i1:Nat):Int) < ((l.length:Nat):Int))) (True/\True/\True/\(0<=((i1:Nat):Int)/\((i1:Nat):Int) < ((l.length:Nat):Int))/\True/\True/\((v.length=8/\isT ((l.getD i1 (⟨false,0,0⟩:GFact)).a)=true)/\True/\True)/\True/\True/\True/\(0<=((i1:Nat):Int)/\((i1:Nat):Int) < ((l.length:Nat):Int))/\True/\True/\((v.length=8/\isT ((l.getD i1 (⟨false,0,0⟩:GFact)).b)=true)/\True/\True)/\True/\True/\True/\(0<=((i1:Nat):Int)/\((i1:Nat):Int) < ((l.length:Nat):Int))/\True/\True/\True/\(vcIf (((tv v ((l.getD i1 (⟨false,0,0⟩:GFact)).a)) == (tv v ((l.getD i1 (⟨false,0,0⟩:GFact)).b))) != ((l.getD i1 (⟨false,0,0⟩:GFact)).eq)) (True/\(((false,()):Bool × Unit)=(l.all (holdF v),()))/\True/\True/\True/\True/\TF) (True/\(inK .i64 (((i1:Nat):Int)+(1:Int)))/\True/\((i1+1)<=l.length/\(l.take (i1+1)).all (holdF v)=true)/\(l.length - (i1+1) < l.length - i1)/\TT/\(RL [.s (.c (.d (.arr .fact l))),.s (.c (.d (.arr .int v)))])/\(([.s (.c (.d (.val (.int .i64 (((i1:Nat):Int)+(1:Int))))))]:List S)=[.s (.c (.d (.val (.int .i64 (((i1+1):Nat):Int)))))])/\(RM [])/\(RM [])/\True/\TT))) (True/\(((true,()):Bool × Unit)=(l.all (holdF v),()))/\True/\True/\True/\True/\TF)))
theorem vcn_l1Hold (l:List GFact) (v:List Int) (k:Nat) (hp:l.length<=1048576/\v.length=8/\l.all fV=true):VC_l1Hold l v k:=by
 unfold VC_l1Hold
 simp only [cln,Nat.reduceEqDiff,Nat.reduceLeDiff,Nat.reduceAdd]
 have hf:=fun i (h:i < l.length)=>all_get (d:=Ty.fact.zero) hp.2.2 h
 all_goals (try simp only [opn])
 all_goals (repeat' (first | apply And.intro | intro _))
 all_goals (first | omega | (simp_all;done) | grind [holdF,fV,take_all,all_take,take_full,Ty.zero])
theorem ok_l1Hold:FnOk Try.prog E 144 c_l1Hold :=
 fn_okQ (l:=L_l1Hold) (lp:=P_l1Hold) (hp:=fun _=>false) (gcs:=fun _=>none) (perm:=fun _=>[]) tabOk mix ⟨ok_l1Value,trivial⟩ trivial Try.func144 rfl (by kernel_rfl) (by decide) (by kernel_rfl) (anns:=fun x _=>an_l1Hold x.1 x.2.1) (fun ⟨l,v,_⟩ k hp _=>Eq.mp (by kernel_rfl) (vcn_l1Hold l v k hp)) tot_fn
abbrev c_l2Walk:Con:=⟨[.state,.int,.int],[.sl .int,.bool],fun (s,x,y,_)=>stV s=true/\isT x=true/\isT y=true,.inl fun (s,x,y,_)=>(wkL s x y,wkB s x y,()),fun _=>0⟩
abbrev L_l2Walk:List (FuncId × Con):=[(143,c_l2Has)]
abbrev P_l2Walk:List (FuncId × PT):=[]
def an_l2Walk (s:GState) (x:Int) (y:Int):Nat->St->Option Ann
 | 2,se=>some { α:=List Int × Int,ok:=fun p=>wkI s x y p.1 p.2,mu:=fun p=>9 - p.1.length,i0:=fun st=>(slAt .int st (.slot 8),intAt st 1),nx:=fun p st=>(slAt .int st (.slot 8),intAt st 1),live:=[2,3],sets:=fun p=>[(1,sv (.int .i64 p.2))],mids:=[63],blks:=fun p=>[],owns:=fun p=>[⟨7,.slot 8,.int,p.1⟩],rd:=fun r _=>r,base:=100000 }
 | _,_=>none
def VC_l2Walk_1 (s:GState) (x:Int) (y:Int):Prop:=(TN/\True)/\True/\True/\(((([]:List Int),false,()):(List Int) × Bool × Unit)=(wkL s x y,wkB s x y,()))/\(True/\True)/\((TF/\TF)/\True)/\True/\(True/\True)/\TF
def VC_l2Walk (s:GState) (x:Int) (y:Int) (k:Nat):Prop:=TN/\TN/\True/\(TN/\True)/\True/\((wkI s x y (([]:List Int),x).1 (([]:List Int),x).2)/\TT/\(RL [.s (.c (.d (.val (.int .i64 y)))),.s (.c (.ptr 63 0))])/\(([.s (.c (.d (.val (.int .i64 x))))]:List S)=[.s (.c (.d (.val (.int .i64 ((([]:List Int),x).2:Int)))))])/\(RM [some (.blk [.d (.arr .int s.vals),.d (.arr .int s.heap)])])/\(RM [])/\(((some ([]:List Int):Option (List Int))=some ((([]:List Int),x).1))/\True)/\TT)/\(∀ p1:List Int × Int,(wkI s x y p1.1 p1.2)->True/\True/\True/\(vcIf ((p1.2:Int) != y) (True/\True/\((stV s=true)/\True/\True)/\True/\True/\(vcIf (!(al s (p1.2:Int))) (True/\(VC_l2Walk_1 s x y)) (True/\True/\True/\True/\(vcIf (decide ((8:Int)<=((p1.1.length:Nat):Int))) (VC_l2Walk_1 s x y) (True/\True/\(TN/\True)/\(TN/\TF/\TF/\(p1.1.length+([(p1.2:Int)]:List Int).length<=4294967296))/\True/\True/\True/\True/\(inK .i64 ((p1.2:Int) - (1:Int)))/\(0<=((p1.2:Int) - (1:Int))/\((p1.2:Int) - (1:Int)) < ((s.heap.length:Nat):Int))/\True/\True/\(wkI s x y ((p1.1 ++ ([(p1.2:Int)]:List Int)),(s.heap.getD ((p1.2:Int) - (1:Int)).toNat (0:Int))).1 ((p1.1 ++ ([(p1.2:Int)]:List Int)),(s.heap.getD ((p1.2:Int) - (1:Int)).toNat (0:Int))).2)/\(9 - ((p1.1 ++ ([(p1.2:Int)]:List Int)),(s.heap.getD ((p1.2:Int) - (1:Int)).toNat (0:Int))).1.length < 9 - p1.1.length)/\TT/\(RL [.s (.c (.d (.val (.int .i64 y)))),.s (.c (.ptr 63 0))])/\(([.s (.c (.d (.val (.int .i64 (s.heap.getD ((p1.2:Int) - (1:Int)).toNat (0:Int))))))]:List S)=[.s (.c (.d (.val (.int .i64 (((p1.1 ++ ([(p1.2:Int)]:List Int)),(s.heap.getD ((p1.2:Int) - (1:Int)).toNat (0:Int))).2:Int)))))])/\(RM [some (.blk [.d (.arr .int s.vals),.d (.arr .int s.heap)])])/\(RM [])/\(((some (p1.1 ++ ([(p1.2:Int)]:List Int)):Option (List Int))=some (((p1.1 ++ ([(p1.2:Int)]:List Int)),(s.heap.getD ((p1.2:Int) - (1:Int)).toNat (0:Int))).1))/\True)/\TT))))) (True/\True/\True/\(((p1.1,true,()):(List Int) × Bool × Unit)=(wkL s x y,wkB s x y,()))/\(True/\True)/\((TF/\TF)/\True)/\True/\(True/\True)/\TF)))
theorem vcn_l2Walk (s:GState) (x:Int) (y:Int) (k:Nat) (hp:stV s=true/\isT x=true/\isT y=true):VC_l2Walk s x y k:=by
 unfold VC_l2Walk VC_l2Walk_1
 simp only [cln,Nat.reduceEqDiff,Nat.reduceLeDiff,Nat.reduceAdd]
 all_goals (try simp only [opn])
 all_goals (repeat' (first | apply And.intro | intro _))
 all_goals (repeat (cases ‹_/\_›))
 all_goals (try have h7:=‹wkI _ _ _ _ _›)
 all_goals (try have h8:=h7.le)
 all_goals (try have h9:=al_dom ‹_› ‹al _ _=true›)
 all_goals (first | omega | rfl | assumption | (simp_all;done) | skip)
 all_goals (first
  | exact wkI_zero ‹_›
  | exact (wk_none (wk_no h7 ‹_› ‹_›) ‹_› ‹_› ‹_›).1.symm
  | exact (wk_none (wk_no h7 ‹_› ‹_›) ‹_› ‹_› ‹_›).2.symm
  | exact (wk_none (wk_full h7 ‹_› (by omega)) ‹_› ‹_› ‹_›).1.symm
  | exact (wk_none (wk_full h7 ‹_› (by omega)) ‹_› ‹_› ‹_›).2.symm
  | exact (wk_some (wk_end h7 ‹_›) ‹_› ‹_› ‹_›).1.symm
  | exact (wk_some (wk_end h7 ‹_›) ‹_› ‹_› ‹_›).2.symm
  | exact wk_go2 ‹_› h7 ‹_› ‹_› (by omega)
  | (rw [List.length_append,List.length_singleton];omega)
  | skip)
theorem ok_l2Walk:FnOk Try.prog E 163 c_l2Walk :=
 fn_okQ (l:=L_l2Walk) (lp:=P_l2Walk) (hp:=fun _=>false) (gcs:=fun _=>none) (perm:=fun _=>[]) tabOk mix ⟨ok_l2Has,trivial⟩ trivial Try.func163 rfl (by kernel_rfl) (by decide) (by kernel_rfl) (anns:=fun x _=>an_l2Walk x.1 x.2.1 x.2.2.1) (fun ⟨s,x,y,_⟩ k hp _=>Eq.mp (by kernel_rfl) (vcn_l2Walk s x y k hp)) tot_fn
abbrev c_l4Cells:Con:=⟨[.state,.atom],[.sl .int,.bool],fun (s,x,_)=>stV s=true/\atV x=true,.inl fun (s,x,_)=>(acL s x,acB s x,()),fun _=>0⟩
abbrev L_l4Cells:List (FuncId × Con):=[(109,c_l1Value),(143,c_l2Has),(163,c_l2Walk)]
abbrev P_l4Cells:List (FuncId × PT):=[]
def VC_l4Cells_1 (s:GState) (x:GAtom):Prop:=(TN/\True)/\True/\True/\(((([]:List Int),false,()):(List Int) × Bool × Unit)=(acL s x,acB s x,()))/\(True/\True)/\((TF/\TF)/\True)/\True/\(True/\True)/\TF
def VC_l4Cells (s:GState) (x:GAtom) (k:Nat):Prop:=TN/\TN/\TN/\True/\True/\True/\True/\True/\((s.vals.length=8/\isT x.a=true)/\True/\True)/\True/\True/\True/\True/\True/\((s.vals.length=8/\isT x.b=true)/\True/\True)/\True/\True/\True/\True/\(vcIf (x.kind == (2:Int)) (True/\True/\True/\((stV s=true/\isT (tv s.vals x.a)=true/\isT (tv s.vals x.b)=true)/\True/\TN/\True)/\True/\True/\True/\True/\((((wkL s (tv s.vals x.a) (tv s.vals x.b)),(wkB s (tv s.vals x.a) (tv s.vals x.b)),()):(List Int) × Bool × Unit)=(acL s x,acB s x,()))/\(True/\True)/\((TF/\TF)/\True)/\True/\(True/\True)/\TF) (True/\True/\((stV s=true)/\True/\True)/\True/\True/\(vcIf (!(al s (tv s.vals x.a))) (True/\(VC_l4Cells_1 s x)) (True/\True/\True/\(inK .i64 ((tv s.vals x.a) - (1:Int)))/\(0<=((tv s.vals x.a) - (1:Int))/\((tv s.vals x.a) - (1:Int)) < ((s.heap.length:Nat):Int))/\True/\True/\True/\True/\(vcIf ((s.heap.getD ((tv s.vals x.a) - (1:Int)).toNat (0:Int)) != (tv s.vals x.b)) (VC_l4Cells_1 s x) (True/\(TN/\True)/\True/\True/\(((([(tv s.vals x.a)]:List Int),true,()):(List Int) × Bool × Unit)=(acL s x,acB s x,()))/\(True/\True)/\((TF/\TF)/\True)/\True/\(True/\True)/\TF))))))
theorem vcn_l4Cells (s:GState) (x:GAtom) (k:Nat) (hp:stV s=true/\atV x=true):VC_l4Cells s x k:=by
 unfold VC_l4Cells VC_l4Cells_1
 simp only [cln,Nat.reduceEqDiff,Nat.reduceLeDiff,Nat.reduceAdd]
 all_goals (try simp only [opn])
 all_goals (repeat' (first | apply And.intro | intro _))
 all_goals (repeat (cases ‹_/\_›))
 all_goals (try have h9:=al_dom ‹_› ‹al _ _=true›)
 all_goals (first | omega | rfl | assumption | (simp_all;done) | skip)
 all_goals (first
  | exact (stV_all ‹_›).1
  | exact (atV_isT ‹_›).1
  | exact (atV_isT ‹_›).2
  | exact (ac_tv ‹_› ‹_›).1
  | exact (ac_tv ‹_› ‹_›).2
  | exact (ac_list ‹_› ‹_› ‹_›).1.symm
  | exact (ac_list ‹_› ‹_› ‹_›).2.symm
  | exact (ac_no2 ‹_› ‹_› ‹_› ‹_›).1.symm
  | exact (ac_no2 ‹_› ‹_› ‹_› ‹_›).2.symm
  | exact (ac_no3 ‹_› ‹_› ‹_› ‹_› ‹_›).1.symm
  | exact (ac_no3 ‹_› ‹_› ‹_› ‹_› ‹_›).2.symm
  | exact (ac_yes2 ‹_› ‹_› ‹_› ‹_› ‹_›).1.symm
  | exact (ac_yes2 ‹_› ‹_› ‹_› ‹_› ‹_›).2.symm
  | skip)
theorem ok_l4Cells:FnOk Try.prog E 145 c_l4Cells :=
 fn_okQ (l:=L_l4Cells) (lp:=P_l4Cells) (hp:=fun _=>false) (gcs:=fun _=>none) (perm:=fun _=>[]) tabOk mix ⟨ok_l1Value,ok_l2Has,ok_l2Walk,trivial⟩ trivial Try.func145 rfl (by kernel_rfl) (by decide) (by kernel_rfl) (anns:=fun x _=>fun _ _=>none) (fun ⟨s,x,_⟩ k hp _=>Eq.mp (by kernel_rfl) (vcn_l4Cells s x k hp)) tot_fn
end Go.Proofs.Ytopjgjelkpkmmaa
