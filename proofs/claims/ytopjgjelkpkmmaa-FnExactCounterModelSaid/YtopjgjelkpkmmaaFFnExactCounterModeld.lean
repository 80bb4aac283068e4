/-
  Contracts of single functions of the program, each shown by the engine: what a call returns for arguments within the contract's bounds.
-/
import Derived.Test.YtopjgjelkpkmmaaFFnExactCounterModela
import Derived.Test.YtopjgjelkpkmmaaFFnExactCounterModelc
import Derived.Test.YtopjgjelkpkmmaaFFnExactCounterModelb
import Derived.Test.YtopjgjelkpkmmaaEd
import Derived.Test.YtopjgjelkpkmmaaEe
set_option linter.unusedSimpArgs false
set_option linter.unusedVariables false
set_option linter.unusedSectionVars false

namespace Go.Proofs.Ytopjgjelkpkmmaa
open Go.SE Go.RowKit
set_option linter.unusedSimpArgs false
set_option linter.unusedVariables false
set_option maxHeartbeats 1000000
set_option maxRecDepth 100000
abbrev c_variantState:Con:=⟨[.asn,.kase,.int,.bool],[.state,.bool],fun (a,c,m,b,_)=>asV a=true/\CaseOk a c/\0<=m/\m < 64,.inl fun (a,c,m,b,_)=>(vrL a c m b,grB a c m b,()),fun _=>0⟩
abbrev L_variantState:List (FuncId × Con):=[(101,c_caseState),(102,c_iFilled),(103,c_termValue),(104,c_freeAddress)]
abbrev P_variantState:List (FuncId × PT):=[]
def an_variantState (a:GAsn) (c:List Int) (m:Int) (b:Bool):Nat->St->Option Ann
 | 4,se=>some { α:=Nat,ok:=fun i=>i<=(fL c a.atoms).length/\(gr a c m b ((fL c a.atoms).take i)).2.2=true,mu:=fun i=>(fL c a.atoms).length - i,i0:=fun _=>0,nx:=fun a _=>(fun i=>i+1) a,live:=[2,3,8,10,24,25],sets:=fun i=>[(26,sv (.int .i64 i)),(11,sv (.int .i64 (grJ a c m b i)))],mids:=[128,129,143,384],blks:=fun i=>[(175,.blk [.own 7,.own 8])],owns:=fun i=>[⟨7,.cell 175 0,.int,(mdV c 8).1⟩,⟨8,.cell 175 1,.int,(gr a c m b ((fL c a.atoms).take i)).1⟩],rd:=fun r _=>r,base:=100000 }
 | _,_=>none
def VC_variantState_1 (m:Int) (b:Bool) (c:List Int) (a:GAsn):Prop:=RL [.s (.c (.d (.val (.int .i64 m)))),.s (.c (.d (.val (.bool b)))),.s (.c (.ptr 143 0)),.s (.c (.ptr 175 0)),.s (.c (.own 384)),.s (.c (.d (.val (.int .i64 (((fL c a.atoms).length:Nat):Int)))))]
def VC_variantState_2 (c:List Int) (a:GAsn):Prop:=RM [some (.sl 128 .int ([]:List Int)),some (.sl 129 .int ([]:List Int)),some (.blk [.own 128,.own 129]),some (.sl 384 .atom (fL c a.atoms))]
def VC_variantState_3 (c:List Int) (a:GAsn) (m:Int) (b:Bool) (i1:Nat):Prop:=(VC_variantState_2 c a)/\(RM [some (.blk [.own 7,.own 8])])/\(((some ((mdV c 8).1):Option (List Int))=some ((mdV c 8).1))/\((some ((gr a c m b ((fL c a.atoms).take i1)).1):Option (List Int))=some ((gr a c m b ((fL c a.atoms).take (i1+1))).1))/\True)/\TT
def VC_variantState_4 (i1:Nat) (a:GAsn) (c:List Int) (m:Int) (b:Bool):Prop:=([.s (.c (.d (.val (.int .i64 (((i1:Nat):Int)+(1:Int)))))),.s (.c (.d (.val (.int .i64 ((grJ a c m b i1:Int)+(1:Int))))))]:List S)=[.s (.c (.d (.val (.int .i64 (((i1+1):Nat):Int))))),.s (.c (.d (.val (.int .i64 (grJ a c m b (i1+1):Int)))))]
def VC_variantState_5 (c:List Int) (a:GAsn) (i1:Nat) (m:Int) (b:Bool):Prop:=(((((mdV c 8).1).length=8/\isT (((fL c a.atoms).getD i1 (⟨0,0,0⟩:GAtom)).b)=true)/\True/\True)/\True/\True/\True/\True/\True/\((stV (⟨(mdV c 8).1,(gr a c m b ((fL c a.atoms).take i1)).1⟩:GState)=true)/\True/\True)/\True/\True/\True/\True/\True/\True/\True/\(vcIf (!(!(room (⟨(mdV c 8).1,(gr a c m b ((fL c a.atoms).take i1)).1⟩:GState) (tv ((mdV c 8).1) (((fL c a.atoms).getD i1 (⟨0,0,0⟩:GAtom)).b)) b == 0))) ((TN/\TN/\True)/\(TF/\TF)/\True/\((((⟨([]:List Int),([]:List Int)⟩:GState),false,()):GState × Bool × Unit)=(vrL a c m b,grB a c m b,()))/\((((100976:Nat) ≠ 100977)/\True)/\True/\True)/\((TF/\TF)/\(TF/\TF)/\True)/\True/\(True/\True/\True)/\TF) (True/\True/\True/\(inK .i64 ((tv ((mdV c 8).1) (((fL c a.atoms).getD i1 (⟨0,0,0⟩:GAtom)).a)) - (1:Int)))/\True/\(0<=((tv ((mdV c 8).1) (((fL c a.atoms).getD i1 (⟨0,0,0⟩:GAtom)).a)) - (1:Int))/\((tv ((mdV c 8).1) (((fL c a.atoms).getD i1 (⟨0,0,0⟩:GAtom)).a)) - (1:Int)) < ((((gr a c m b ((fL c a.atoms).take i1)).1).length:Nat):Int))/\(TF/\TF/\True/\((8:Nat) ∉ ([]:List Nat)))/\True/\True/\True/\(inK .i64 ((room (⟨(mdV c 8).1,(gr a c m b ((fL c a.atoms).take i1)).1⟩:GState) (tv ((mdV c 8).1) (((fL c a.atoms).getD i1 (⟨0,0,0⟩:GAtom)).b)) b) - (1:Int)))/\True/\(0<=((room (⟨(mdV c 8).1,(gr a c m b ((fL c a.atoms).take i1)).1⟩:GState) (tv ((mdV c 8).1) (((fL c a.atoms).getD i1 (⟨0,0,0⟩:GAtom)).b)) b) - (1:Int))/\((room (⟨(mdV c 8).1,(gr a c m b ((fL c a.atoms).take i1)).1⟩:GState) (tv ((mdV c 8).1) (((fL c a.atoms).getD i1 (⟨0,0,0⟩:GAtom)).b)) b) - (1:Int)) < (((((gr a c m b ((fL c a.atoms).take i1)).1).set ((tv ((mdV c 8).1) (((fL c a.atoms).getD i1 (⟨0,0,0⟩:GAtom)).a)) - (1:Int)).toNat (room (⟨(mdV c 8).1,(gr a c m b ((fL c a.atoms).take i1)).1⟩:GState) (tv ((mdV c 8).1) (((fL c a.atoms).getD i1 (⟨0,0,0⟩:GAtom)).b)) b)).length:Nat):Int))/\(TF/\TF/\True/\((8:Nat) ∉ ([]:List Nat)))/\(inK .i64 (((i1:Nat):Int)+(1:Int)))/\True/\((i1+1)<=(fL c a.atoms).length/\(gr a c m b ((fL c a.atoms).take (i1+1))).2.2=true)/\((fL c a.atoms).length - (i1+1) < (fL c a.atoms).length - i1)/\TT/\(VC_variantState_1 m b c a)/\(VC_variantState_4 i1 a c m b)/\(VC_variantState_2 c a)/\(RM [some (.blk [.own 7,.own 8])])/\(((some ((mdV c 8).1):Option (List Int))=some ((mdV c 8).1))/\((some ((((gr a c m b ((fL c a.atoms).take i1)).1).set ((tv ((mdV c 8).1) (((fL c a.atoms).getD i1 (⟨0,0,0⟩:GAtom)).a)) - (1:Int)).toNat (room (⟨(mdV c 8).1,(gr a c m b ((fL c a.atoms).take i1)).1⟩:GState) (tv ((mdV c 8).1) (((fL c a.atoms).getD i1 (⟨0,0,0⟩:GAtom)).b)) b)).set ((room (⟨(mdV c 8).1,(gr a c m b ((fL c a.atoms).take i1)).1⟩:GState) (tv ((mdV c 8).1) (((fL c a.atoms).getD i1 (⟨0,0,0⟩:GAtom)).b)) b) - (1:Int)).toNat (tv ((mdV c 8).1) (((fL c a.atoms).getD i1 (⟨0,0,0⟩:GAtom)).b))):Option (List Int))=some ((gr a c m b ((fL c a.atoms).take (i1+1))).1))/\True)/\TT)))
def VC_variantState (a:GAsn) (c:List Int) (m:Int) (b:Bool) (k:Nat):Prop:=TN/\TN/\(TN/\TN/\TN/\True)/\True/\True/\(9=c.length * 1)/\((asV a=true/\CaseOk a c)/\True/\TN/\TN/\True)/\(TN/\TN/\TN/\True)/\(TF/\TF)/\True/\True/\True/\((a.atoms.length<=1048576/\a.atoms.all atV=true/\c.length=9)/\True/\TN/\True)/\True/\True/\((0<=(fL c a.atoms).length/\(gr a c m b ((fL c a.atoms).take 0)).2.2=true)/\TT/\(VC_variantState_1 m b c a)/\(([.s (.c (.d (.val (.int .i64 (0:Int))))),.s (.c (.d (.val (.int .i64 (0:Int)))))]:List S)=[.s (.c (.d (.val (.int .i64 ((0:Nat):Int))))),.s (.c (.d (.val (.int .i64 (grJ a c m b 0:Int)))))])/\(VC_variantState_2 c a)/\(RM [some (.blk [.own 336,.own 337])])/\(((some ((md a c).vals):Option (List Int))=some ((mdV c 8).1))/\((some ((md a c).heap):Option (List Int))=some ((gr a c m b ((fL c a.atoms).take 0)).1))/\True)/\TT)/\(∀ i1:Nat,(i1<=(fL c a.atoms).length/\(gr a c m b ((fL c a.atoms).take i1)).2.2=true)->True/\(vcIf (decide (((i1:Nat):Int) < (((fL c a.atoms).length:Nat):Int))) ((0<=((i1:Nat):Int)/\((i1:Nat):Int) < (((fL c a.atoms).length:Nat):Int))/\True/\(TN/\True)/\(TF/\TF)/\True/\True/\True/\(vcIf ((((fL c a.atoms).getD i1 (⟨0,0,0⟩:GAtom)).kind) != (2:Int)) ((inK .i64 (((i1:Nat):Int)+(1:Int)))/\True/\((i1+1)<=(fL c a.atoms).length/\(gr a c m b ((fL c a.atoms).take (i1+1))).2.2=true)/\((fL c a.atoms).length - (i1+1) < (fL c a.atoms).length - i1)/\TT/\(VC_variantState_1 m b c a)/\(([.s (.c (.d (.val (.int .i64 (((i1:Nat):Int)+(1:Int)))))),.s (.c (.d (.val (.int .i64 (grJ a c m b i1:Int)))))]:List S)=[.s (.c (.d (.val (.int .i64 (((i1+1):Nat):Int))))),.s (.c (.d (.val (.int .i64 (grJ a c m b (i1+1):Int)))))])/\(VC_variantState_3 c a m b i1)) (True/\True/\(0<=(grJ a c m b i1:Int))/\True/\True/\True/\True/\(inK .i64 ((grJ a c m b i1:Int)+(1:Int)))/\True/\True/\True/\(vcIf (!((bits .and .i64 (Int.fdiv m (2 ^ (min (grJ a c m b i1:Int).toNat (IntKind.bits .i64)))) (1:Int)) == (1:Int))) ((inK .i64 (((i1:Nat):Int)+(1:Int)))/\True/\((i1+1)<=(fL c a.atoms).length/\(gr a c m b ((fL c a.atoms).take (i1+1))).2.2=true)/\((fL c a.atoms).length - (i1+1) < (fL c a.atoms).length - i1)/\TT/\(VC_variantState_1 m b c a)/\(VC_variantState_4 i1 a c m b)/\(VC_variantState_3 c a m b i1)) (True/\True/\True/\True/\((((mdV c 8).1).length=8/\isT (((fL c a.atoms).getD i1 (⟨0,0,0⟩:GAtom)).a)=true)/\True/\True)/\True/\True/\True/\True/\(VC_variantState_5 c a i1 m b)))))) (True/\(TF/\TF)/\True/\((((⟨(mdV c 8).1,(gr a c m b ((fL c a.atoms).take i1)).1⟩:GState),true,()):GState × Bool × Unit)=(vrL a c m b,grB a c m b,()))/\((((7:Nat) ≠ 8)/\True)/\True/\True)/\((TF/\TF)/\(TF/\TF)/\True)/\True/\(True/\True/\True)/\TF)))
theorem vcn_variantState (a:GAsn) (c:List Int) (m:Int) (b:Bool) (k:Nat) (hp:asV a=true/\CaseOk a c/\0<=m/\m < 64):VC_variantState a c m b k:=by
 unfold VC_variantState VC_variantState_5 VC_variantState_4 VC_variantState_3 VC_variantState_2 VC_variantState_1
 simp only [cln,Nat.reduceEqDiff,Nat.reduceLeDiff,Nat.reduceAdd]
 have hC:=hp.2.1
 have h6:=fl6 (c:=c) hp.1
 have hl:=hC.len
 all_goals (try simp only [opn])
 all_goals (repeat' (first | apply And.intro | intro _))
 all_goals (repeat (cases ‹_/\_›))
 all_goals (first | with_reducible exact True.intro | (exfalso;contradiction) | omega | with_reducible assumption | with_reducible rfl | skip)
 all_goals (first
  | with_reducible exact (asV_facts ‹_›).2.2.1
  | (have h9:=(asV_facts ‹asV a=true›).2.2.2;omega)
  | rfl
  | with_reducible exact (vg_j ‹_› ‹_›).1 | (have h9:=vg_j (m:=m) (b:=b) ‹asV a=true› ‹_<=(fL c a.atoms).length›;omega)
  | with_reducible exact vgk1 ‹_› ‹_› ‹_› | with_reducible exact vgk2 ‹_› ‹_› | with_reducible exact vgk3 ‹_› ‹_›
  | with_reducible exact vgb1 ‹_› ‹_› ‹_› ‹_› | with_reducible exact vgb2 ‹_› ‹_› ‹_› ‹_› | with_reducible exact vgb3 ‹_› ‹_› ‹_› ‹_›
  | with_reducible exact vgp1 ‹_› ‹_› ‹_› ‹_› ‹_› | with_reducible exact vgp2 ‹_› ‹_› ‹_› ‹_› ‹_› | with_reducible exact vgp3 ‹_› ‹_› ‹_› ‹_› ‹_› | with_reducible exact vgp4 ‹_› ‹_› ‹_› ‹_› ‹_› ‹_›
  | with_reducible exact (vg_z ‹_› ‹_› ‹_› ‹_› ‹_›).1 | with_reducible exact (vg_z ‹_› ‹_› ‹_› ‹_› ‹_›).2.1 | with_reducible exact (vg_z ‹_› ‹_› ‹_› ‹_› ‹_›).2.2
  | with_reducible exact (vg_end ‹_› ‹_› ‹_›).1 | with_reducible exact (vg_end ‹_› ‹_› ‹_›).2.1 | with_reducible exact (vg_end ‹_› ‹_› ‹_›).2.2
  | with_reducible exact vg_st | with_reducible exact mdV_len c 8 | with_reducible exact vg_rb.1 | with_reducible exact vg_rb.2
  | with_reducible exact (md_a hC ‹_›).1.1 | with_reducible exact (md_a hC ‹_›).1.2 | with_reducible exact (md_a hC ‹_›).2.1.1 | with_reducible exact (md_a hC ‹_›).2.1.2
  | with_reducible exact (md_a hC ‹_›).2.2.1 | (simp only [List.length_set];with_reducible exact (vg_ri ‹_›).2) | (simp only [List.length_set];with_reducible exact (vg_ai hC ‹_›).2)
  | with_reducible exact (vg_ri ‹_›).1 | with_reducible exact (vg_ri ‹_›).2 | with_reducible exact (vg_ai hC ‹_›).1 | with_reducible exact (vg_ai hC ‹_›).2
  | skip)
theorem ok_variantState:FnOk Try.prog E 54 c_variantState :=
 fn_okQ (l:=L_variantState) (lp:=P_variantState) (hp:=fun _=>false) (gcs:=fun _=>none) (perm:=fun _=>[]) tabOk mix ⟨ok_caseState,ok_iFilled,ok_termValue,ok_freeAddress,trivial⟩ trivial Try.func54 rfl (by kernel_rfl) (by decide) (by kernel_rfl) (anns:=fun x _=>an_variantState x.1 x.2.1 x.2.2.1 x.2.2.2.1) (fun ⟨a,c,m,b,_⟩ k hp _=>Eq.mp (by kernel_rfl) (vcn_variantState a c m b k hp)) tot_fn
abbrev c_iCounterModel:Con:=⟨[.asn,.asn],[.state,.bool],fun (a,b,_)=>a.facts.length<=281474976710656/\a.atoms.length<=281474976710656/\b.facts.length<=281474976710656/\b.atoms.length<=281474976710656,.inl fun (a,b,_)=>(cmL a b,cmB a b,()),fun _=>0⟩
abbrev L_iCounterModel:List (FuncId × Con):=[(19,c_iHolds),(37,c_iAssertionValid),(53,c_failingCase),(54,c_variantState)]
abbrev P_iCounterModel:List (FuncId × PT):=[]
def an_iCounterModel (a:GAsn) (b:GAsn):Nat->St->Option Ann
 | 7,se=>some { α:=Nat,ok:=fun i=>i<=64/\fkB a b=true/\∀ j:Nat,j < 2 * i->cmP a b (fkL a b) j=false,mu:=fun i=>64 - i,i0:=fun _=>0,nx:=fun a _=>(fun i=>i+1) a,live:=[2,3,4,6],sets:=fun i=>[(8,sv (.int .i64 i))],mids:=[47,63,64,65,79,111],blks:=fun i=>[],owns:=fun i=>[],rd:=fun r _=>r,base:=100000 }
 | 10,se=>some { α:=Nat,ok:=fun k=>k<=2/\0<=intAt se 8/\intAt se 8 < 64/\fkB a b=true/\∀ j:Nat,j < 2 * (intAt se 8).toNat+k->cmP a b (fkL a b) j=false,mu:=fun k=>2 - k,i0:=fun _=>0,nx:=fun a _=>(fun k=>k+1) a,live:=[2,3,4,6,8,35],sets:=fun k=>[(36,sv (.int .i64 k))],mids:=[47,63,64,65,79,111],blks:=fun k=>[],owns:=fun k=>[],rd:=fun r _=>r,base:=200000 }
 | _,_=>none
def VC_iCounterModel_1 (a:GAsn) (b:GAsn):Prop:=(((⟨([]:List Int),([]:List Int)⟩:GState),false,()):GState × Bool × Unit)=(cmL a b,cmB a b,())
def VC_iCounterModel_2 (a:GAsn) (b:GAsn):Prop:=(TN/\TN/\True)/\(TF/\TF)/\True/\(VC_iCounterModel_1 a b)/\((((336:Nat) ≠ 337)/\True)/\True/\True)/\((TF/\TF)/\(TF/\TF)/\True)/\True/\(True/\True/\True)/\TF
def VC_iCounterModel_3 (a:GAsn) (b:GAsn):Prop:=(RM [some (.blk [.d (.arr .fact a.facts),.d (.arr .atom a.atoms)]),some (.blk [.d (.arr .fact b.facts),.d (.arr .atom b.atoms)]),some (.sl 64 .int ([]:List Int)),some (.sl 65 .int ([]:List Int)),some (.blk [.own 64,.own 65]),some (.vec .int ((FC a b).headD (List.replicate 9 0)))])/\(RM [])/\True/\TT
def VC_iCounterModel_4 (a:GAsn) (b:GAsn):Prop:=(([.s (.c (.d (.val (.int .i64 (0:Int)))))]:List S)=[.s (.c (.d (.val (.int .i64 ((0:Nat):Int)))))])/\(VC_iCounterModel_3 a b)
def VC_iCounterModel_5 (i1:Nat):Prop:=RL [.s (.c (.ptr 47 0)),.s (.c (.ptr 63 0)),.s (.c (.ptr 79 0)),.s (.c (.ptr 111 0)),.s (.c (.d (.val (.int .i64 ((i1:Nat):Int))))),.s (.vec .bool ([true,false]:List Bool))]
def VC_iCounterModel_6 (k2:Nat) (a:GAsn) (b:GAsn):Prop:=(([.s (.c (.d (.val (.int .i64 (((k2:Nat):Int)+(1:Int))))))]:List S)=[.s (.c (.d (.val (.int .i64 (((k2+1):Nat):Int)))))])/\(VC_iCounterModel_3 a b)
def VC_iCounterModel_7 (k2:Nat) (i1:Nat) (a:GAsn) (b:GAsn):Prop:=(inK .i64 (((k2:Nat):Int)+(1:Int)))/\True/\((k2+1)<=2/\0<=((i1:Nat):Int)/\((i1:Nat):Int) < 64/\fkB a b=true/\∀ j:Nat,j < 2 * (((i1:Nat):Int)).toNat+(k2+1)->cmP a b (fkL a b) j=false)/\(2 - (k2+1) < 2 - k2)/\TT/\(VC_iCounterModel_5 i1)/\(VC_iCounterModel_6 k2 a b)
def VC_iCounterModel_8 (k2:Nat) (i1:Nat) (a:GAsn) (b:GAsn):Prop:=True/\(VC_iCounterModel_7 k2 i1 a b)
def VC_iCounterModel_9 (i1:Nat) (a:GAsn) (b:GAsn):Prop:=(True/\(vcIf (decide (((i1:Nat):Int) < (64:Int))) (True/\True/\((0<=2/\0<=((i1:Nat):Int)/\((i1:Nat):Int) < 64/\fkB a b=true/\∀ j:Nat,j < 2 * (((i1:Nat):Int)).toNat+0->cmP a b (fkL a b) j=false)/\TT/\(VC_iCounterModel_5 i1)/\(VC_iCounterModel_4 a b))/\(∀ k2:Nat,(k2<=2/\0<=((i1:Nat):Int)/\((i1:Nat):Int) < 64/\fkB a b=true/\∀ j:Nat,j < 2 * (((i1:Nat):Int)).toNat+k2->cmP a b (fkL a b) j=false)->True/\(vcIf (decide (((k2:Nat):Int) < (2:Int))) ((0<=((k2:Nat):Int)/\((k2:Nat):Int) < ((2:Nat):Int)/\([true,false]:List Bool).length=2)/\True/\True/\(9=((FC a b).headD (List.replicate 9 0)).length * 1)/\True/\True/\((asV a=true/\CaseOk a ((FC a b).headD (List.replicate 9 0))/\0<=((i1:Nat):Int)/\((i1:Nat):Int) < 64)/\True/\TN/\TN/\True)/\True/\True/\True/\(TN/\TN/\TN/\True)/\(TF/\TF)/\True/\True/\True/\(vcIf (grB a ((FC a b).headD (List.replicate 9 0)) ((i1:Nat):Int) (([true,false]:List Bool).getD k2 false)) (True/\True/\(((vrL a ((FC a b).headD (List.replicate 9 0)) ((i1:Nat):Int) (([true,false]:List Bool).getD k2 false)).vals.length<=281474976710656/\(vrL a ((FC a b).headD (List.replicate 9 0)) ((i1:Nat):Int) (([true,false]:List Bool).getD k2 false)).heap.length<=281474976710656/\a.facts.length<=281474976710656/\a.atoms.length<=281474976710656)/\True/\True)/\True/\True/\(vcIf (HOL (vrL a ((FC a b).headD (List.replicate 9 0)) ((i1:Nat):Int) (([true,false]:List Bool).getD k2 false)) a) (True/\True/\(((vrL a ((FC a b).headD (List.replicate 9 0)) ((i1:Nat):Int) (([true,false]:List Bool).getD k2 false)).vals.length<=281474976710656/\(vrL a ((FC a b).headD (List.replicate 9 0)) ((i1:Nat):Int) (([true,false]:List Bool).getD k2 false)).heap.length<=281474976710656/\b.facts.length<=281474976710656/\b.atoms.length<=281474976710656)/\True/\True)/\True/\True/\(vcIf (!(HOL (vrL a ((FC a b).headD (List.replicate 9 0)) ((i1:Nat):Int) (([true,false]:List Bool).getD k2 false)) b)) (True/\(TF/\TF)/\True/\((((vrL a ((FC a b).headD (List.replicate 9 0)) ((i1:Nat):Int) (([true,false]:List Bool).getD k2 false)),true,()):GState × Bool × Unit)=(cmL a b,cmB a b,()))/\((((200704:Nat) ≠ 200705)/\True)/\True/\True)/\((TF/\TF)/\(TF/\TF)/\True)/\True/\(True/\True/\True)/\TF) (VC_iCounterModel_7 k2 i1 a b))) (VC_iCounterModel_8 k2 i1 a b))) (True/\True/\(VC_iCounterModel_8 k2 i1 a b)))) (True/\(inK .i64 (((i1:Nat):Int)+(1:Int)))/\True/\((i1+1)<=64/\fkB a b=true/\∀ j:Nat,j < 2 * (i1+1)->cmP a b (fkL a b) j=false)/\(64 - (i1+1) < 64 - i1)/\TT/\(RL [.s (.c (.ptr 47 0)),.s (.c (.ptr 63 0)),.s (.c (.ptr 79 0)),.s (.c (.ptr 111 0))])/\(VC_iCounterModel_6 i1 a b))))) ((TN/\TN/\True)/\(TF/\TF)/\True/\(VC_iCounterModel_1 a b)/\((((100976:Nat) ≠ 100977)/\True)/\True/\True)/\((TF/\TF)/\(TF/\TF)/\True)/\True/\(True/\True/\True)/\TF)))
def VC_iCounterModel (a:GAsn) (b:GAsn) (k:Nat):Prop:=TN/\TN/\(TN/\TN/\TN/\True)/\True/\True/\((a.facts.length<=281474976710656/\a.atoms.length<=281474976710656)/\True/\True)/\True/\True/\(vcIf (!(asV a)) (True/\(VC_iCounterModel_2 a b)) (True/\((b.facts.length<=281474976710656/\b.atoms.length<=281474976710656)/\True/\True)/\True/\True/\(vcIf (!(asV b)) (VC_iCounterModel_2 a b) (True/\True/\((asV a=true/\asV b=true)/\True/\True)/\True/\True/\True/\(TN/\True)/\((((FC a b).headD (List.replicate 9 0)).length=(List.replicate 9 (0:Int)).length)/\TF/\TF)/\True/\True/\True/\(vcIf (!(!(FC a b).isEmpty)) ((TN/\TN/\True)/\(TF/\TF)/\True/\(VC_iCounterModel_1 a b)/\((((480:Nat) ≠ 481)/\True)/\True/\True)/\((TF/\TF)/\(TF/\TF)/\True)/\True/\(True/\True/\True)/\TF) (True/\((0<=64/\fkB a b=true/\∀ j:Nat,j < 2 * 0->cmP a b (fkL a b) j=false)/\TT/\(RL [.s (.c (.ptr 47 0)),.s (.c (.ptr 63 0)),.s (.c (.ptr 79 0)),.s (.c (.ptr 111 0))])/\(VC_iCounterModel_4 a b))/\(∀ i1:Nat,(i1<=64/\fkB a b=true/\∀ j:Nat,j < 2 * i1->cmP a b (fkL a b) j=false)->True/\(VC_iCounterModel_9 i1 a b))))))))
theorem vcn_iCounterModel (a:GAsn) (b:GAsn) (k:Nat) (hp:a.facts.length<=281474976710656/\a.atoms.length<=281474976710656/\b.facts.length<=281474976710656/\b.atoms.length<=281474976710656):VC_iCounterModel a b k:=by
 unfold VC_iCounterModel VC_iCounterModel_9 VC_iCounterModel_8 VC_iCounterModel_7 VC_iCounterModel_6 VC_iCounterModel_5 VC_iCounterModel_4 VC_iCounterModel_3 VC_iCounterModel_2 VC_iCounterModel_1
 simp only [cln,Nat.reduceEqDiff,Nat.reduceLeDiff,Nat.reduceAdd]
 all_goals (try simp only [opn])
 all_goals (repeat' (first | apply And.intro | intro _))
 all_goals (repeat (cases ‹_/\_›))
 all_goals (first | with_reducible exact True.intro | (exfalso;contradiction) | omega | with_reducible assumption | with_reducible rfl | skip)
 all_goals (try (have e:=(fk_hd ‹asV a=true› ‹asV b=true› ‹(FC a b).isEmpty=false›).1;simp only [e] at *;clear e))
 all_goals (try (have e:=cm_ar ‹((_:Nat):Int) < 2›;simp only [e] at *;clear e))
 all_goals (try (have e:=cm_vr (by assumption:grB a (fkL a b) _ _=true);simp only [e] at *;clear e))
 all_goals (first
  | with_reducible exact fc_hlen ‹_›
  | with_reducible exact (cm_n1 ‹_›).1 | with_reducible exact (cm_n1 ‹_›).2 | with_reducible exact (cm_n2 ‹_›).1 | with_reducible exact (cm_n2 ‹_›).2
  | with_reducible exact (cm_n3 ‹_› ‹_› ‹_›).1 | with_reducible exact (cm_n3 ‹_› ‹_› ‹_›).2
  | with_reducible exact (cm_no ‹_›).1 | with_reducible exact (cm_no ‹_›).2
  | with_reducible exact (fk_hd ‹_› ‹_› ‹_›).2
  | with_reducible exact fk_ok ‹_› | with_reducible exact fk_ok (fk_hd ‹_› ‹_› ‹_›).2
  | with_reducible exact fk_va ‹_› | with_reducible exact fk_vb ‹_› | with_reducible exact grL_stV
  | (have h9:=(fk_ok ‹fkB a b=true›).len;omega) | (have h9:=(fk_ok (fk_hd ‹asV a=true› ‹asV b=true› ‹(FC a b).isEmpty=false›).2).len;rw [(fk_hd ‹asV a=true› ‹asV b=true› ‹(FC a b).isEmpty=false›).1];rw [List.length_replicate];exact h9)
  | (with_reducible refine Nat.le_trans (m:=200) ?_ (by decide);first | with_reducible exact gr200V | with_reducible exact gr200H)
  | with_reducible exact (cm_hit ‹_› ‹_› ‹_› ‹_› ‹_› ‹_› ‹_›).1
  | with_reducible exact (cm_hit ‹_› ‹_› ‹_› ‹_› ‹_› ‹_› ‹_›).2
  | with_reducible exact cm_st1 ‹_› ‹_› ‹_› ‹_› | with_reducible exact cm_st2 ‹_› ‹_› ‹_› ‹_› | with_reducible exact cm_st3 ‹_› ‹_› ‹_› ‹_›
  | with_reducible exact cm_nx ‹_› ‹_› ‹_› ‹_›
  | with_reducible exact (cm_end ‹_› ‹_› ‹_›).1 | with_reducible exact (cm_end ‹_› ‹_› ‹_›).2
  | with_reducible exact (cm_end ((by assumption:fkB a b=true->_) ‹_›) ‹_› ‹_›).1 | with_reducible exact (cm_end ((by assumption:fkB a b=true->_) ‹_›) ‹_› ‹_›).2
  | exact ‹∀ j:Nat,j < 2 * _->cmP a b (fkL a b) j=false› _ (by omega) | exact ‹fkB a b=true->∀ j:Nat,j < 2 * _->cmP a b (fkL a b) j=false› ‹_› _ (by omega)
  | skip)
theorem ok_iCounterModel:FnOk Try.prog E 16 c_iCounterModel :=
 fn_okQ (l:=L_iCounterModel) (lp:=P_iCounterModel) (hp:=fun _=>false) (gcs:=fun _=>none) (perm:=fun _=>[]) tabOk mix ⟨ok_iHolds,ok_iAssertionValid,ok_failingCase,ok_variantState,trivial⟩ trivial Try.func16 rfl (by kernel_rfl) (by decide) (by kernel_rfl) (anns:=fun x _=>an_iCounterModel x.1 x.2.1) (fun ⟨a,b,_⟩ k hp _=>Eq.mp (by kernel_rfl) (vcn_iCounterModel a b k hp)) tot_fn
abbrev c_l1Is:Con:=⟨[.int],[.bool],fun _=>True,.inl fun (t,_)=>(isT t,()),fun _=>0⟩
abbrev L_l1Is:List (FuncId × Con):=[]
abbrev P_l1Is:List (FuncId × PT):=[]
def VC_l1Is (t:Int) (k:Nat):Prop:=True/\True/\True/\True/\(vcIf (decide ((0:Int)<=t)) (True/\True/\True/\True/\(((decide (t<=(8:Int)),()):Bool × Unit)=(isT t,()))/\True/\True/\True/\True/\TF) (True/\True/\(((false,()):Bool × Unit)=(isT t,()))/\True/\True/\True/\True/\TF))
theorem vcn_l1Is (t:Int) (k:Nat):VC_l1Is t k:=by
 unfold VC_l1Is
 simp only [cln,Nat.reduceEqDiff,Nat.reduceLeDiff,Nat.reduceAdd]
 cases h:decide (0<=t) <;> simp [vcIf,isT,h]
theorem ok_l1Is:FnOk Try.prog E 151 c_l1Is :=
 fn_okQ (l:=L_l1Is) (lp:=P_l1Is) (hp:=fun _=>false) (gcs:=fun _=>none) (perm:=fun _=>[]) tabOk mix trivial trivial Try.func151 rfl (by kernel_rfl) (by decide) (by kernel_rfl) (anns:=fun x _=>fun _ _=>none) (fun ⟨t,_⟩ k _ _=>Eq.mp (by kernel_rfl) (vcn_l1Is t k)) tot_fn
abbrev c_l3Atom:Con:=⟨[.atom],[.bool],fun _=>True,.inl fun (x,_)=>(atV x,()),fun _=>0⟩
abbrev L_l3Atom:List (FuncId × Con):=[(151,c_l1Is)]
abbrev P_l3Atom:List (FuncId × PT):=[]
def VC_l3Atom_1 (x:GAtom):Prop:=True/\True/\(((false,()):Bool × Unit)=(atV x,()))/\True/\True/\True/\True/\TF
def VC_l3Atom_2 (x:GAtom):Prop:=True/\True/\(True/\True/\True)/\True/\True/\(vcIf (isT x.a) (True/\True/\(True/\True/\True)/\True/\True/\((((isT x.b),()):Bool × Unit)=(atV x,()))/\True/\True/\True/\True/\TF) (VC_l3Atom_1 x))
def VC_l3Atom (x:GAtom) (k:Nat):Prop:=TN/\True/\True/\True/\True/\True/\(vcIf (x.kind == (1:Int)) (True/\True/\(VC_l3Atom_2 x)) (True/\True/\True/\True/\True/\(vcIf (x.kind == (2:Int)) (VC_l3Atom_2 x) (True/\True/\(VC_l3Atom_1 x)))))
theorem vcn_l3Atom (x:GAtom) (k:Nat):VC_l3Atom x k:=by
 unfold VC_l3Atom VC_l3Atom_2 VC_l3Atom_1
 simp only [cln,Nat.reduceEqDiff,Nat.reduceLeDiff,Nat.reduceAdd]
 all_goals (try simp only [opn])
 all_goals (repeat' (first | apply And.intro | intro _))
 all_goals (first | omega | (simp_all;done) | grind [atV])
theorem ok_l3Atom:FnOk Try.prog E 122 c_l3Atom :=
 fn_okQ (l:=L_l3Atom) (lp:=P_l3Atom) (hp:=fun _=>false) (gcs:=fun _=>none) (perm:=fun _=>[]) tabOk mix ⟨ok_l1Is,trivial⟩ trivial Try.func122 rfl (by kernel_rfl) (by decide) (by kernel_rfl) (anns:=fun x _=>fun _ _=>none) (fun ⟨x,_⟩ k _ _=>Eq.mp (by kernel_rfl) (vcn_l3Atom x k)) tot_fn
abbrev c_sFactValid:Con:=⟨[.fact],[.bool],fun _=>True,.inl fun (f,_)=>(fV f,()),fun _=>0⟩
abbrev L_sFactValid:List (FuncId × Con):=[(151,c_l1Is)]
abbrev P_sFactValid:List (FuncId × PT):=[]
def VC_sFactValid (f:GFact) (k:Nat):Prop:=TN/\True/\True/\True/\(True/\True/\True)/\True/\(vcIf (isT f.a) (True/\True/\(True/\True/\True)/\True/\True/\((((isT f.b),()):Bool × Unit)=(fV f,()))/\True/\True/\True/\True/\TF) (True/\True/\(((false,()):Bool × Unit)=(fV f,()))/\True/\True/\True/\True/\TF))
theorem vcn_sFactValid (f:GFact) (k:Nat):VC_sFactValid f k:=by
 unfold VC_sFactValid
 simp only [cln,Nat.reduceEqDiff,Nat.reduceLeDiff,Nat.reduceAdd]
 cases h:isT f.a <;> simp [vcIf,fV,h]
theorem ok_sFactValid:FnOk Try.prog E 152 c_sFactValid :=
 fn_okQ (l:=L_sFactValid) (lp:=P_sFactValid) (hp:=fun _=>false) (gcs:=fun _=>none) (perm:=fun _=>[]) tabOk mix ⟨ok_l1Is,trivial⟩ trivial Try.func152 rfl (by kernel_rfl) (by decide) (by kernel_rfl) (anns:=fun x _=>fun _ _=>none) (fun ⟨f,_⟩ k _ _=>Eq.mp (by kernel_rfl) (vcn_sFactValid f k)) tot_fn
abbrev c_sFactsValid:Con:=⟨[.sl .fact],[.bool],fun (l,_)=>l.length<=281474976710656,.inl fun (l,_)=>(fsV l,()),fun _=>0⟩
abbrev L_sFactsValid:List (FuncId × Con):=[(152,c_sFactValid)]
abbrev P_sFactsValid:List (FuncId × PT):=[]
def an_sFactsValid (l:List GFact):Nat->St->Option Ann
 | 2,se=>some { α:=Nat,ok:=fun i=>i<=l.length/\(l.take i).all fV=true,mu:=fun i=>l.length - i,i0:=fun _=>0,nx:=fun a _=>(fun i=>i+1) a,live:=[0],sets:=fun i=>[(3,sv (.int .i64 i))],mids:=[],blks:=fun i=>[],owns:=fun i=>[],rd:=fun r _=>r,base:=100000 }
 | _,_=>none
def VC_sFactsValid (l:List GFact) (k:Nat):Prop:=True/\True/\((0<=l.length/\(l.take 0).all fV=true)/\TT/\(RL [.s (.c (.d (.arr .fact l)))])/\(([.s (.c (.d (.val (.int .i64 (0:Int)))))]:List S)=[.s (.c (.d (.val (.int .i64 ((0:Nat):Int)))))])/\(RM [])/\(RM [])/\True/\TT)/\(∀ i1:Nat,(i1<=l.length/\(l.take i1).all fV=true)->True/\True/\True/\True/\(vcIf (decide (((i1:Nat):Int) < ((l.length:Nat):Int))) (True/\True/\(0<=((i1:Nat):Int)/\((i1:Nat):Int) < ((l.length:Nat):Int))/\True/\(True/\True/\True)/\True/\(vcIf (!(fV (l.getD i1 (⟨false,0,0⟩:GFact)))) (True/\(((false,()):Bool × Unit)=(fsV l,()))/\True/\True/\True/\True/\TF) (True/\(inK .i64 (((i1:Nat):Int)+(1:Int)))/\True/\((i1+1)<=l.length/\(l.take (i1+1)).all fV=true)/\(l.length - (i1+1) < l.length - i1)/\TT/\(RL [.s (.c (.d (.arr .fact l)))])/\(([.s (.c (.d (.val (.int .i64 (((i1:Nat):Int)+(1:Int))))))]:List S)=[.s (.c (.d (.val (.int .i64 (((i1+1):Nat):Int)))))])/\(RM [])/\(RM [])/\True/\TT))) (True/\True/\True/\True/\(((decide (((l.length:Nat):Int)<=(12:Int)),()):Bool × Unit)=(fsV l,()))/\True/\True/\True/\True/\TF)))
theorem vcn_sFactsValid (l:List GFact) (k:Nat) (hp:l.length<=281474976710656):VC_sFactsValid l k:=by
 unfold VC_sFactsValid
 simp only [cln,Nat.reduceEqDiff,Nat.reduceLeDiff,Nat.reduceAdd]
 all_goals (try simp only [opn])
 all_goals (repeat' (first | apply And.intro | intro _))
 all_goals (first | omega | (simp_all;done) | grind [fsV,take_all,all_take,take_full,Ty.zero])
theorem ok_sFactsValid:FnOk Try.prog E 123 c_sFactsValid :=
 fn_okQ (l:=L_sFactsValid) (lp:=P_sFactsValid) (hp:=fun _=>false) (gcs:=fun _=>none) (perm:=fun _=>[]) tabOk mix ⟨ok_sFactValid,trivial⟩ trivial Try.func123 rfl (by kernel_rfl) (by decide) (by kernel_rfl) (anns:=fun x _=>an_sFactsValid x.1) (fun ⟨l,_⟩ k hp _=>Eq.mp (by kernel_rfl) (vcn_sFactsValid l k hp)) tot_fn
abbrev c_sAssertionValid:Con:=⟨[.asn],[.bool],fun (a,_)=>a.facts.length<=281474976710656/\a.atoms.length<=281474976710656,.inl fun (a,_)=>(asV a,()),fun _=>0⟩
abbrev L_sAssertionValid:List (FuncId × Con):=[(122,c_l3Atom),(123,c_sFactsValid)]
abbrev P_sAssertionValid:List (FuncId × PT):=[]
def an_sAssertionValid (a:GAsn):Nat->St->Option Ann
 | 2,se=>some { α:=Nat,ok:=fun i=>i<=a.atoms.length/\(a.atoms.take i).all atV=true,mu:=fun i=>a.atoms.length - i,i0:=fun _=>0,nx:=fun a _=>(fun i=>i+1) a,live:=[1],sets:=fun i=>[(3,sv (.int .i64 i))],mids:=[31],blks:=fun i=>[],owns:=fun i=>[],rd:=fun r _=>r,base:=100000 }
 | _,_=>none
def VC_sAssertionValid_1 (a:GAsn):Prop:=(RM [some (.blk [.d (.arr .fact a.facts),.d (.arr .atom a.atoms)])])/\(RM [])/\True/\TT
def VC_sAssertionValid_2 (a:GAsn):Prop:=True/\(((false,()):Bool × Unit)=(asV a,()))/\True/\True/\True/\True/\TF
def VC_sAssertionValid (a:GAsn) (k:Nat):Prop:=TN/\True/\True/\((0<=a.atoms.length/\(a.atoms.take 0).all atV=true)/\TT/\(RL [.s (.c (.ptr 31 0))])/\(([.s (.c (.d (.val (.int .i64 (0:Int)))))]:List S)=[.s (.c (.d (.val (.int .i64 ((0:Nat):Int)))))])/\(VC_sAssertionValid_1 a))/\(∀ i1:Nat,(i1<=a.atoms.length/\(a.atoms.take i1).all atV=true)->True/\True/\True/\True/\True/\(vcIf (decide (((i1:Nat):Int) < ((a.atoms.length:Nat):Int))) (True/\True/\True/\(0<=((i1:Nat):Int)/\((i1:Nat):Int) < ((a.atoms.length:Nat):Int))/\True/\(True/\True/\True)/\True/\(vcIf (!(atV (a.atoms.getD i1 (⟨0,0,0⟩:GAtom)))) (VC_sAssertionValid_2 a) (True/\(inK .i64 (((i1:Nat):Int)+(1:Int)))/\True/\((i1+1)<=a.atoms.length/\(a.atoms.take (i1+1)).all atV=true)/\(a.atoms.length - (i1+1) < a.atoms.length - i1)/\TT/\(RL [.s (.c (.ptr 31 0))])/\(([.s (.c (.d (.val (.int .i64 (((i1:Nat):Int)+(1:Int))))))]:List S)=[.s (.c (.d (.val (.int .i64 (((i1+1):Nat):Int)))))])/\(VC_sAssertionValid_1 a)))) (True/\True/\((a.facts.length<=281474976710656)/\True/\True)/\True/\(vcIf (fsV a.facts) (True/\True/\True/\True/\True/\True/\(((decide (((a.atoms.length:Nat):Int)<=(6:Int)),()):Bool × Unit)=(asV a,()))/\True/\True/\True/\True/\TF) (True/\(VC_sAssertionValid_2 a))))))
theorem vcn_sAssertionValid (a:GAsn) (k:Nat) (hp:a.facts.length<=281474976710656/\a.atoms.length<=281474976710656):VC_sAssertionValid a k:=by
 unfold VC_sAssertionValid VC_sAssertionValid_2 VC_sAssertionValid_1
 simp only [cln,Nat.reduceEqDiff,Nat.reduceLeDiff,Nat.reduceAdd]
 all_goals (try simp only [opn])
 all_goals (repeat' (first | apply And.intro | intro _))
 all_goals (first | omega | (simp_all;done) | grind [asV,take_all,all_take,take_full,Ty.zero])
theorem ok_sAssertionValid:FnOk Try.prog E 74 c_sAssertionValid :=
 fn_okQ (l:=L_sAssertionValid) (lp:=P_sAssertionValid) (hp:=fun _=>false) (gcs:=fun _=>none) (perm:=fun _=>[]) tabOk mix ⟨ok_l3Atom,ok_sFactsValid,trivial⟩ trivial Try.func74 rfl (by kernel_rfl) (by decide) (by kernel_rfl) (anns:=fun x _=>an_sAssertionValid x.1) (fun ⟨a,_⟩ k hp _=>Eq.mp (by kernel_rfl) (vcn_sAssertionValid a k hp)) tot_fn
abbrev c_l5Open:Con:=⟨[],[.sl .int],fun _=>True,.inl fun _=>(opens,()),fun _=>0⟩
abbrev L_l5Open:List (FuncId × Con):=[]
abbrev P_l5Open:List (FuncId × PT):=[]
def an_l5Open :Nat->St->Option Ann
 | 2,se=>some { α:=Nat,ok:=fun i=>i<=8,mu:=fun i=>8 - i,i0:=fun _=>0,nx:=fun a _=>(fun i=>i+1) a,live:=[0],sets:=fun i=>[],mids:=[0],blks:=fun i=>[],owns:=fun i=>[⟨7,.slot 1,.int,0 :: List.replicate i (-1)⟩],rd:=fun r _=>r,base:=100000 }
 | _,_=>none
def VC_l5Open (k:Nat):Prop:=TN/\(TN/\True)/\True/\((0<=8)/\TT/\(RL [.s (.c (.own 0))])/\(RL [])/\(RM [some (.sl 0 .int ([]:List Int))])/\(RM [])/\(((some ([(0:Int)]:List Int):Option (List Int))=some (0 :: List.replicate 0 (-1)))/\True)/\TT)/\(∀ i1:Nat,(i1<=8)->True/\True/\True/\(vcIf (decide ((((0 :: List.replicate i1 (-1)).length:Nat):Int)<=(8:Int))) (True/\(TN/\True)/\(TN/\TF/\TF/\((0 :: List.replicate i1 (-1)).length+([(-1:Int)]:List Int).length<=4294967296))/\True/\((i1+1)<=8)/\(8 - (i1+1) < 8 - i1)/\TT/\(RL [.s (.c (.own 0))])/\(RL [])/\(RM [some (.sl 0 .int ([]:List Int))])/\(RM [])/\(((some ((0 :: List.replicate i1 (-1)) ++ ([(-1:Int)]:List Int)):Option (List Int))=some (0 :: List.replicate (i1+1) (-1)))/\True)/\TT) (True/\True/\(((0 :: List.replicate i1 (-1),()):(List Int) × Unit)=(opens,()))/\(True/\True)/\((TF/\TF)/\True)/\True/\(True/\True)/\TF)))
theorem vcn_l5Open  (k:Nat):VC_l5Open  k:=by
 unfold VC_l5Open
 simp only [cln,Nat.reduceEqDiff,Nat.reduceLeDiff,Nat.reduceAdd]
 all_goals (try simp only [opn])
 all_goals (repeat' (first | apply And.intro | intro _))
 all_goals (repeat (cases ‹_/\_›))
 all_goals (first | omega | rfl | assumption | (simp_all;done) | skip)
 all_goals (first
  | exact open_lt ‹_› | (have h1:=open_lt ‹_›;omega) | (rw [List.replicate_succ'];rfl) | exact open_end ‹_› ‹_› | skip)
theorem ok_l5Open:FnOk Try.prog E 129 c_l5Open :=
 fn_okQ (l:=L_l5Open) (lp:=P_l5Open) (hp:=fun _=>false) (gcs:=fun _=>none) (perm:=fun _=>[]) tabOk mix trivial trivial Try.func129 rfl (by kernel_rfl) (by decide) (by kernel_rfl) (anns:=fun x _=>an_l5Open ) (fun _ k _ _=>Eq.mp (by kernel_rfl) (vcn_l5Open  k)) tot_fn
abbrev c_l5Filled:Con:=⟨[.sl .atom,.sl .int],[.sl .atom],fun (l,c,_)=>l.length<=1048576/\l.all atV=true/\c.length=9,.inl fun (l,c,_)=>(fL c l,()),fun _=>0⟩
abbrev L_l5Filled:List (FuncId × Con):=[]
abbrev P_l5Filled:List (FuncId × PT):=[]
def an_l5Filled (l:List GAtom) (c:List Int):Nat->St->Option Ann
 | 3,se=>some { α:=Nat,ok:=fun i=>i<=l.length,mu:=fun i=>l.length - i,i0:=fun _=>0,nx:=fun a _=>(fun i=>i+1) a,live:=[0,1,4],sets:=fun i=>[(6,sv (.int .i64 i))],mids:=[64],blks:=fun i=>[],owns:=fun i=>[⟨7,.slot 5,.atom,fL c (l.take i)⟩],rd:=fun r _=>r,base:=100000 }
 | _,_=>none
def VC_l5Filled_1 (i1:Nat):Prop:=([.s (.c (.d (.val (.int .i64 (((i1:Nat):Int)+(1:Int))))))]:List S)=[.s (.c (.d (.val (.int .i64 (((i1+1):Nat):Int)))))]
def VC_l5Filled_2 (c:List Int) (l:List GAtom) (i1:Nat):Prop:=True/\True/\(TN/\True)/\(TN/\TF/\TF/\((fL c (l.take i1)).length+([(⟨(l.getD i1 (⟨0,0,0⟩:GAtom)).kind,(c.getD ((l.getD i1 (⟨0,0,0⟩:GAtom)).a).toNat (0:Int)),(c.getD ((l.getD i1 (⟨0,0,0⟩:GAtom)).b).toNat (0:Int))⟩:GAtom)]:List GAtom).length<=4294967296))/\True/\True/\(inK .i64 (((i1:Nat):Int)+(1:Int)))/\True/\((i1+1)<=l.length)/\(l.length - (i1+1) < l.length - i1)/\TT/\(RL [.s (.c (.d (.arr .atom l))),.s (.c (.d (.arr .int c))),.s (.c (.own 64))])/\(VC_l5Filled_1 i1)/\(RM [some (.sl 64 .atom ([]:List GAtom))])/\(RM [])/\(((some ((fL c (l.take i1)) ++ ([(⟨(l.getD i1 (⟨0,0,0⟩:GAtom)).kind,(c.getD ((l.getD i1 (⟨0,0,0⟩:GAtom)).a).toNat (0:Int)),(c.getD ((l.getD i1 (⟨0,0,0⟩:GAtom)).b).toNat (0:Int))⟩:GAtom)]:List GAtom)):Option (List GAtom))=some (fL c (l.take (i1+1))))/\True)/\TT
def VC_l5Filled (l:List GAtom) (c:List Int) (k:Nat):Prop:=TN/\(TN/\True)/\True/\True/\((0<=l.length)/\TT/\(RL [.s (.c (.d (.arr .atom l))),.s (.c (.d (.arr .int c))),.s (.c (.own 64))])/\(([.s (.c (.d (.val (.int .i64 (0:Int)))))]:List S)=[.s (.c (.d (.val (.int .i64 ((0:Nat):Int)))))])/\(RM [some (.sl 64 .atom ([]:List GAtom))])/\(RM [])/\(((some ([]:List GAtom):Option (List GAtom))=some (fL c (l.take 0)))/\True)/\TT)/\(∀ i1:Nat,(i1<=l.length)->True/\True/\True/\True/\(vcIf (decide (((i1:Nat):Int) < ((l.length:Nat):Int))) (True/\True/\(0<=((i1:Nat):Int)/\((i1:Nat):Int) < ((l.length:Nat):Int))/\True/\True/\True/\True/\True/\(0<=((i1:Nat):Int)/\((i1:Nat):Int) < ((l.length:Nat):Int))/\True/\True/\(0<=((l.getD i1 (⟨0,0,0⟩:GAtom)).a)/\((l.getD i1 (⟨0,0,0⟩:GAtom)).a) < ((c.length:Nat):Int))/\True/\True/\True/\True/\(0<=((i1:Nat):Int)/\((i1:Nat):Int) < ((l.length:Nat):Int))/\True/\True/\(0<=((l.getD i1 (⟨0,0,0⟩:GAtom)).b)/\((l.getD i1 (⟨0,0,0⟩:GAtom)).b) < ((c.length:Nat):Int))/\True/\True/\(TN/\True)/\(TF/\TF)/\True/\True/\True/\True/\(vcIf (((l.getD i1 (⟨0,0,0⟩:GAtom)).kind) == (1:Int)) (True/\(VC_l5Filled_2 c l i1)) (True/\True/\True/\True/\True/\True/\(vcIf ((c.getD ((l.getD i1 (⟨0,0,0⟩:GAtom)).a).toNat (0:Int)) != (c.getD ((l.getD i1 (⟨0,0,0⟩:GAtom)).b).toNat (0:Int))) (VC_l5Filled_2 c l i1) (True/\(inK .i64 (((i1:Nat):Int)+(1:Int)))/\True/\((i1+1)<=l.length)/\(l.length - (i1+1) < l.length - i1)/\TT/\(RL [.s (.c (.d (.arr .atom l))),.s (.c (.d (.arr .int c))),.s (.c (.own 64))])/\(VC_l5Filled_1 i1)/\(RM [some (.sl 64 .atom ([]:List GAtom))])/\(RM [])/\(((some (fL c (l.take i1)):Option (List GAtom))=some (fL c (l.take (i1+1))))/\True)/\TT))))) (True/\True/\(((fL c (l.take i1),()):(List GAtom) × Unit)=(fL c l,()))/\(True/\True)/\((TF/\TF)/\True)/\True/\(True/\True)/\TF)))
theorem vcn_l5Filled (l:List GAtom) (c:List Int) (k:Nat) (hp:l.length<=1048576/\l.all atV=true/\c.length=9):VC_l5Filled l c k:=by
 unfold VC_l5Filled VC_l5Filled_2 VC_l5Filled_1
 simp only [cln,Nat.reduceEqDiff,Nat.reduceLeDiff,Nat.reduceAdd]
 have hV:=hp.2.1
 have hL:∀ i,(fL c (l.take i)).length<=1048576:=fun i=>Nat.le_trans (fL_len _ _) (by simp;omega)
 all_goals (try simp only [opn])
 all_goals (repeat' (first | apply And.intro | intro _))
 all_goals (repeat (cases ‹_/\_›))
 all_goals (first | omega | rfl | assumption | (simp_all;done) | skip)
 all_goals (first
  | (have h1:=atom_idx (l:=l) hV ‹_›;omega)
  | exact Nat.le_trans (hL _) (by decide)
  | (rw [fL_step (d:=⟨0,0,0⟩) ‹_›];unfold filB cl;simp_all;done)
  | (rw [fL_step (d:=⟨0,0,0⟩) ‹_›];unfold filB cl;rw [beq_eq_false_iff_ne.2 (by assumption:¬ (_:GAtom).kind=1),beq_eq_false_iff_ne.2 ‹_›];rfl)
  | (rw [fL_step (d:=⟨0,0,0⟩) ‹_›];unfold filB cl;rw [beq_eq_false_iff_ne.2 (by assumption:¬ (_:GAtom).kind=1),beq_iff_eq.2 ‹_›];rfl)
  | (rw [take_full (l:=l) ‹_›];done) | skip)
theorem ok_l5Filled:FnOk Try.prog E 107 c_l5Filled :=
 fn_okQ (l:=L_l5Filled) (lp:=P_l5Filled) (hp:=fun _=>false) (gcs:=fun _=>none) (perm:=fun _=>[]) tabOk mix trivial trivial Try.func107 rfl (by kernel_rfl) (by decide) (by kernel_rfl) (anns:=fun x _=>an_l5Filled x.1 x.2.1) (fun ⟨l,c,_⟩ k hp _=>Eq.mp (by kernel_rfl) (vcn_l5Filled l c k hp)) tot_fn
abbrev c_l5Fits:Con:=⟨[.sl .fact,.sl .int],[.bool],fun (l,c,_)=>l.length<=1048576/\l.all fV=true/\c.length=9,.inl fun (l,c,_)=>(sFit l c,()),fun _=>0⟩
abbrev L_l5Fits:List (FuncId × Con):=[]
abbrev P_l5Fits:List (FuncId × PT):=[]
def an_l5Fits (l:List GFact) (c:List Int):Nat->St->Option Ann
 | 2,se=>some { α:=Nat,ok:=fun i=>i<=l.length/\sFit (l.take i) c=true,mu:=fun i=>l.length - i,i0:=fun _=>0,nx:=fun a _=>(fun i=>i+1) a,live:=[0,1],sets:=fun i=>[(5,sv (.int .i64 i))],mids:=[],blks:=fun i=>[],owns:=fun i=>[],rd:=fun r _=>r,base:=100000 }
 | _,_=>none
def VC_l5Fits_1 (i1:Nat) (l:List GFact) (c:List Int):Prop:=True/\(inK .i64 (((i1:Nat):Int)+(1:Int)))/\True/\((i1+1)<=l.length/\sFit (l.take (i1+1)) c=true)/\(l.length - (i1+1) < l.length - i1)/\TT/\(RL [.s (.c (.d (.arr .fact l))),.s (.c (.d (.arr .int c)))])/\(([.s (.c (.d (.val (.int .i64 (((i1:Nat):Int)+(1:Int))))))]:List S)=[.s (.c (.d (.val (.int .i64 (((i1+1):Nat):Int)))))])/\(RM [])/\(RM [])/\True/\TT
def VC_l5Fits_2 (i1:Nat) (l:List GFact) (c:List Int):Prop:=True/\(VC_l5Fits_1 i1 l c)
def VC_l5Fits (l:List GFact) (c:List Int) (k:Nat):Prop:=True/\True/\((0<=l.length/\sFit (l.take 0) c=true)/\TT/\(RL [.s (.c (.d (.arr .fact l))),.s (.c (.d (.arr .int c)))])/\(([.s (.c (.d (.val (.int .i64 (0:Int)))))]:List S)=[.s (.c (.d (.val (.int .i64 ((0:Nat):Int)))))])/\(RM [])/\(RM [])/\True/\TT)/\(∀ i1:Nat,(i1<=l.length/\sFit (l.take i1) c=true)->True/\True/\True/\True/\(vcIf (decide (((i1:Nat):Int) < ((l.length:Nat):Int))) (True/\True/\True/\(0<=((i1:Nat):Int)/\((i1:Nat):Int) < ((l.length:Nat):Int))/\True/\True/\(0<=((l.getD i1 (⟨false,0,0⟩:GFact)).a)/\((l.getD i1 (⟨false,0,0⟩:GFact)).a) < ((c.length:Nat):Int))/\True/\True/\True/\True/\True/\(0<=((i1:Nat):Int)/\((i1:Nat):Int) < ((l.length:Nat):Int))/\True/\True/\(0<=((l.getD i1 (⟨false,0,0⟩:GFact)).b)/\((l.getD i1 (⟨false,0,0⟩:GFact)).b) < ((c.length:Nat):Int))/\True/\True/\True/\True/\True/\(vcIf (decide ((0:Int)<=(c.getD ((l.getD i1 (⟨false,0,0⟩:GFact)).a).toNat (0:Int)))) (True/\True/\True/\True/\(vcIf (decide ((0:Int)<=(c.getD ((l.getD i1 (⟨false,0,0⟩:GFact)).b).toNat (0:Int)))) (True/\True/\True/\True/\True/\(0<=((i1:Nat):Int)/\((i1:Nat):Int) < ((l.length:Nat):Int))/\True/\True/\True/\True/\(vcIf (((c.getD ((l.getD i1 (⟨false,0,0⟩:GFact)).a).toNat (0:Int)) == (c.getD ((l.getD i1 (⟨false,0,0⟩:GFact)).b).toNat (0:Int))) != ((l.getD i1 (⟨false,0,0⟩:GFact)).eq)) (True/\(((false,()):Bool × Unit)=(sFit l c,()))/\True/\True/\True/\True/\TF) (VC_l5Fits_1 i1 l c))) (VC_l5Fits_2 i1 l c))) (True/\True/\(VC_l5Fits_2 i1 l c)))) (True/\(((true,()):Bool × Unit)=(sFit l c,()))/\True/\True/\True/\True/\TF)))
theorem vcn_l5Fits (l:List GFact) (c:List Int) (k:Nat) (hp:l.length<=1048576/\l.all fV=true/\c.length=9):VC_l5Fits l c k:=by
 unfold VC_l5Fits VC_l5Fits_2 VC_l5Fits_1
 simp only [cln,Nat.reduceEqDiff,Nat.reduceLeDiff,Nat.reduceAdd]
 have hV:=hp.2.1
 all_goals (try simp only [opn])
 all_goals (repeat' (first | apply And.intro | intro _))
 all_goals (repeat (cases ‹_/\_›))
 all_goals (first | omega | rfl | assumption | (simp_all;done) | skip)
 all_goals (first
  | (have h1:=fact_idx (l:=l) hV ‹_›;omega)
  | (symm;exact sFit_no ‹_› ‹_› ‹_› (by unfold fh cl;rw [beq_eq_false_iff_ne];assumption))
  | (rw [sFit_step (d:=⟨false,0,0⟩) ‹_›];unfold fh cl;simp_all;done)
  | (rw [take_full (l:=l) ‹_›] at *;simp_all;done) | skip)
theorem ok_l5Fits:FnOk Try.prog E 153 c_l5Fits :=
 fn_okQ (l:=L_l5Fits) (lp:=P_l5Fits) (hp:=fun _=>false) (gcs:=fun _=>none) (perm:=fun _=>[]) tabOk mix trivial trivial Try.func153 rfl (by kernel_rfl) (by decide) (by kernel_rfl) (anns:=fun x _=>an_l5Fits x.1 x.2.1) (fun ⟨l,c,_⟩ k hp _=>Eq.mp (by kernel_rfl) (vcn_l5Fits l c k hp)) tot_fn
abbrev c_l5Early:Con:=⟨[.sl .atom,.sl .int],[.bool],fun (l,c,_)=>l.length<=1048576/\l.all atV=true/\c.length=9/\le8 c=true,.inl fun (l,c,_)=>(sEarly l c,()),fun _=>0⟩
abbrev L_l5Early:List (FuncId × Con):=[]
abbrev P_l5Early:List (FuncId × PT):=[]
def an_l5Early (l:List GAtom) (c:List Int):Nat->St->Option Ann
 | 3,se=>some { α:=Nat,ok:=fun i=>i<=l.length/\okS [] (est c (l.take i))=true,mu:=fun i=>l.length - i,i0:=fun _=>0,nx:=fun a _=>(fun i=>i+1) a,live:=[0,1],sets:=fun i=>[(6,sv (.int .i64 i))],mids:=[],blks:=fun i=>[],owns:=fun i=>[⟨7,.slot 5,.bool,fl9 (fun t=>(est c (l.take i)).contains t)⟩],rd:=fun r _=>r,base:=100000 }
 | _,_=>none
def VC_l5Early_1 (i1:Nat):Prop:=([.s (.c (.d (.val (.int .i64 (((i1:Nat):Int)+(1:Int))))))]:List S)=[.s (.c (.d (.val (.int .i64 (((i1+1):Nat):Int)))))]
def VC_l5Early_2 (i1:Nat) (l:List GAtom) (c:List Int):Prop:=True/\(inK .i64 (((i1:Nat):Int)+(1:Int)))/\True/\((i1+1)<=l.length/\okS [] (est c (l.take (i1+1)))=true)/\(l.length - (i1+1) < l.length - i1)/\TT/\(RL [.s (.c (.d (.arr .atom l))),.s (.c (.d (.arr .int c)))])/\(VC_l5Early_1 i1)/\(RM [])/\(RM [])/\(((some (fl9 (fun t=>(est c (l.take i1)).contains t)):Option (List Bool))=some (fl9 (fun t=>(est c (l.take (i1+1))).contains t)))/\True)/\TT
def VC_l5Early_3 (l:List GAtom) (c:List Int):Prop:=True/\(((false,()):Bool × Unit)=(sEarly l c,()))/\True/\True/\True/\True/\TF
def VC_l5Early_4 (c:List Int) (l:List GAtom) (i1:Nat):Prop:=0<=(c.getD ((l.getD i1 (⟨0,0,0⟩:GAtom)).a).toNat (0:Int))/\(c.getD ((l.getD i1 (⟨0,0,0⟩:GAtom)).a).toNat (0:Int)) < (((fl9 (fun t=>(est c (l.take i1)).contains t)).length:Nat):Int)
def VC_l5Early (l:List GAtom) (c:List Int) (k:Nat):Prop:=True/\(TN/\(0<=(9:Int)/\(9:Int)<=(9:Int)/\(9:Int)<=4294967296))/\True/\True/\((0<=l.length/\okS [] (est c (l.take 0))=true)/\TT/\(RL [.s (.c (.d (.arr .atom l))),.s (.c (.d (.arr .int c)))])/\(([.s (.c (.d (.val (.int .i64 (0:Int)))))]:List S)=[.s (.c (.d (.val (.int .i64 ((0:Nat):Int)))))])/\(RM [])/\(RM [])/\(((some (List.replicate 9 false):Option (List Bool))=some (fl9 (fun t=>(est c (l.take 0)).contains t)))/\True)/\TT)/\(∀ i1:Nat,(i1<=l.length/\okS [] (est c (l.take i1))=true)->True/\True/\True/\True/\(vcIf (decide (((i1:Nat):Int) < ((l.length:Nat):Int))) (True/\True/\True/\(0<=((i1:Nat):Int)/\((i1:Nat):Int) < ((l.length:Nat):Int))/\True/\True/\(0<=((l.getD i1 (⟨0,0,0⟩:GAtom)).a)/\((l.getD i1 (⟨0,0,0⟩:GAtom)).a) < ((c.length:Nat):Int))/\True/\True/\True/\True/\(0<=((i1:Nat):Int)/\((i1:Nat):Int) < ((l.length:Nat):Int))/\True/\True/\True/\True/\(vcIf (((l.getD i1 (⟨0,0,0⟩:GAtom)).kind) != (1:Int)) (True/\(VC_l5Early_2 i1 l c)) (True/\True/\True/\(vcIf (decide ((c.getD ((l.getD i1 (⟨0,0,0⟩:GAtom)).a).toNat (0:Int)) < (0:Int))) (VC_l5Early_2 i1 l c) (True/\True/\True/\(vcIf ((c.getD ((l.getD i1 (⟨0,0,0⟩:GAtom)).a).toNat (0:Int)) == (0:Int)) (True/\(VC_l5Early_3 l c)) (True/\True/\(VC_l5Early_4 c l i1)/\True/\True/\(vcIf ((fl9 (fun t=>(est c (l.take i1)).contains t)).getD (c.getD ((l.getD i1 (⟨0,0,0⟩:GAtom)).a).toNat (0:Int)).toNat false) (VC_l5Early_3 l c) (True/\True/\(VC_l5Early_4 c l i1)/\(TF/\TF/\True/\((7:Nat) ∉ ([]:List Nat)))/\True/\(inK .i64 (((i1:Nat):Int)+(1:Int)))/\True/\((i1+1)<=l.length/\okS [] (est c (l.take (i1+1)))=true)/\(l.length - (i1+1) < l.length - i1)/\TT/\(RL [.s (.c (.d (.arr .atom l))),.s (.c (.d (.arr .int c)))])/\(VC_l5Early_1 i1)/\(RM [])/\(RM [])/\(((some ((fl9 (fun t=>(est c (l.take i1)).contains t)).set (c.getD ((l.getD i1 (⟨0,0,0⟩:GAtom)).a).toNat (0:Int)).toNat true):Option (List Bool))=some (fl9 (fun t=>(est c (l.take (i1+1))).contains t)))/\True)/\TT))))))))) (True/\(((true,()):Bool × Unit)=(sEarly l c,()))/\True/\True/\True/\True/\TF)))
theorem vcn_l5Early (l:List GAtom) (c:List Int) (k:Nat) (hp:l.length<=1048576/\l.all atV=true/\c.length=9/\le8 c=true):VC_l5Early l c k:=by
 unfold VC_l5Early VC_l5Early_4 VC_l5Early_3 VC_l5Early_2 VC_l5Early_1
 simp only [cln,Nat.reduceEqDiff,Nat.reduceLeDiff,Nat.reduceAdd]
 have h8:=le8_get hp.2.2.2
 have hV:=hp.2.1
 all_goals (try simp only [opn])
 all_goals (repeat' (first | apply And.intro | intro _))
 all_goals (repeat (cases ‹_/\_›))
 all_goals (first | omega | rfl | assumption | (simp_all;done) | skip)
 all_goals (first
  | (have h1:=atom_idx (l:=l) hV ‹_›;omega)
  | (rw [early_skip (d:=⟨0,0,0⟩) ‹_› (.inl ‹_›)];done)
  | (rw [early_skip (d:=⟨0,0,0⟩) ‹_› (.inl ‹_›)];assumption)
  | (rw [early_skip (d:=⟨0,0,0⟩) ‹_› (.inr ‹_›)];done)
  | (rw [early_skip (d:=⟨0,0,0⟩) ‹_› (.inr ‹_›)];assumption)
  | exact early_no (d:=⟨0,0,0⟩) ‹_› ‹_› ‹_› ‹_› (.inl ‹_›)
  | exact early_no (d:=⟨0,0,0⟩) ‹_› ‹_› ‹_› ‹_› (.inr ‹_›)
  | exact (early_go (d:=⟨0,0,0⟩) ‹_› ‹_› ‹_› ‹_› ‹_› ‹_› ‹_›).1
  | exact (early_go (d:=⟨0,0,0⟩) ‹_› ‹_› ‹_› ‹_› ‹_› ‹_› ‹_›).2
  | (rw [fl9_len];exact Int.lt_of_le_of_lt (h8 _) (by decide))
  | (unfold sEarly;rw [take_full (l:=l) ‹_›] at *;simp_all;done) | skip)
theorem ok_l5Early:FnOk Try.prog E 154 c_l5Early :=
 fn_okQ (l:=L_l5Early) (lp:=P_l5Early) (hp:=fun _=>false) (gcs:=fun _=>none) (perm:=fun _=>[]) tabOk mix trivial trivial Try.func154 rfl (by kernel_rfl) (by decide) (by kernel_rfl) (anns:=fun x _=>an_l5Early x.1 x.2.1) (fun ⟨l,c,_⟩ k hp _=>Eq.mp (by kernel_rfl) (vcn_l5Early l c k hp)) tot_fn
abbrev c_l5Apart:Con:=⟨[.sl .atom],[.bool],fun (l,_)=>l.length<=1048576,.inl fun (l,_)=>(sApart l,()),fun _=>0⟩
abbrev L_l5Apart:List (FuncId × Con):=[]
abbrev P_l5Apart:List (FuncId × PT):=[]
def an_l5Apart (l:List GAtom):Nat->St->Option Ann
 | 2,se=>some { α:=Nat,ok:=fun i=>i<=l.length/\sApart (l.take i)=true,mu:=fun i=>l.length - i,i0:=fun _=>0,nx:=fun a _=>(fun i=>i+1) a,live:=[0],sets:=fun i=>[(3,sv (.int .i64 i))],mids:=[],blks:=fun i=>[],owns:=fun i=>[],rd:=fun r _=>r,base:=100000 }
 | 7,se=>some { α:=Nat,ok:=fun j=>(j:Int)<=intAt se 3/\((l.take j).all fun x=>!(x.a == (l.getD (intAt se 3).toNat ⟨0,0,0⟩).a))=true,mu:=fun j=>(intAt se 3).toNat - j,i0:=fun _=>0,nx:=fun a _=>(fun j=>j+1) a,live:=[0,3],sets:=fun j=>[(4,sv (.int .i64 j))],mids:=[],blks:=fun j=>[],owns:=fun j=>[],rd:=fun r _=>r,base:=200000 }
 | _,_=>none
def VC_l5Apart_1 :Prop:=(([.s (.c (.d (.val (.int .i64 (0:Int)))))]:List S)=[.s (.c (.d (.val (.int .i64 ((0:Nat):Int)))))])/\(RM [])/\(RM [])/\True/\TT
def VC_l5Apart_2 (l:List GAtom):Prop:=True/\(((false,()):Bool × Unit)=(sApart l,()))/\True/\True/\True/\True/\TF
def VC_l5Apart_3 (j2:Nat):Prop:=(([.s (.c (.d (.val (.int .i64 (((j2:Nat):Int)+(1:Int))))))]:List S)=[.s (.c (.d (.val (.int .i64 (((j2+1):Nat):Int)))))])/\(RM [])/\(RM [])/\True/\TT
def VC_l5Apart (l:List GAtom) (k:Nat):Prop:=True/\True/\((0<=l.length/\sApart (l.take 0)=true)/\TT/\(RL [.s (.c (.d (.arr .atom l)))])/\VC_l5Apart_1)/\(∀ i1:Nat,(i1<=l.length/\sApart (l.take i1)=true)->True/\True/\True/\True/\(vcIf (decide (((i1:Nat):Int) < ((l.length:Nat):Int))) (True/\True/\(0<=((i1:Nat):Int)/\((i1:Nat):Int) < ((l.length:Nat):Int))/\True/\True/\True/\(vcIf (((l.getD i1 (⟨0,0,0⟩:GAtom)).a) == (0:Int)) (VC_l5Apart_2 l) (True/\(((0:Int)<=((i1:Nat):Int)/\((l.take 0).all fun x=>!(x.a == (l.getD (((i1:Nat):Int)).toNat ⟨0,0,0⟩).a))=true)/\TT/\(RL [.s (.c (.d (.arr .atom l))),.s (.c (.d (.val (.int .i64 ((i1:Nat):Int)))))])/\VC_l5Apart_1)/\(∀ j2:Nat,((j2:Int)<=((i1:Nat):Int)/\((l.take j2).all fun x=>!(x.a == (l.getD (((i1:Nat):Int)).toNat ⟨0,0,0⟩).a))=true)->True/\True/\True/\(vcIf (decide (((j2:Nat):Int) < ((i1:Nat):Int))) (True/\True/\(0<=((j2:Nat):Int)/\((j2:Nat):Int) < ((l.length:Nat):Int))/\True/\True/\True/\True/\(0<=((i1:Nat):Int)/\((i1:Nat):Int) < ((l.length:Nat):Int))/\True/\True/\True/\(vcIf (((l.getD j2 (⟨0,0,0⟩:GAtom)).a) == ((l.getD i1 (⟨0,0,0⟩:GAtom)).a)) (VC_l5Apart_2 l) (True/\(inK .i64 (((j2:Nat):Int)+(1:Int)))/\True/\(((j2+1):Int)<=((i1:Nat):Int)/\((l.take (j2+1)).all fun x=>!(x.a == (l.getD (((i1:Nat):Int)).toNat ⟨0,0,0⟩).a))=true)/\((((i1:Nat):Int)).toNat - (j2+1) < (((i1:Nat):Int)).toNat - j2)/\TT/\(RL [.s (.c (.d (.arr .atom l))),.s (.c (.d (.val (.int .i64 ((i1:Nat):Int)))))])/\(VC_l5Apart_3 j2)))) (True/\(inK .i64 (((i1:Nat):Int)+(1:Int)))/\True/\((i1+1)<=l.length/\sApart (l.take (i1+1))=true)/\(l.length - (i1+1) < l.length - i1)/\TT/\(RL [.s (.c (.d (.arr .atom l)))])/\(VC_l5Apart_3 i1))))))) (True/\(((true,()):Bool × Unit)=(sApart l,()))/\True/\True/\True/\True/\TF)))
theorem vcn_l5Apart (l:List GAtom) (k:Nat) (hp:l.length<=1048576):VC_l5Apart l k:=by
 unfold VC_l5Apart VC_l5Apart_3 VC_l5Apart_2 VC_l5Apart_1
 simp only [cln,Nat.reduceEqDiff,Nat.reduceLeDiff,Nat.reduceAdd]
 all_goals (try simp only [opn])
 all_goals (repeat' (first | apply And.intro | intro _))
 all_goals (repeat (cases ‹_/\_›))
 all_goals (first | omega | rfl | assumption | (simp_all;done) | skip)
 all_goals (first
  | (symm;exact sApart_zero (d:=⟨0,0,0⟩) ‹_› ‹_›)
  | (symm;exact sApart_two (d:=⟨0,0,0⟩) (h:=by assumption) (hj:=by assumption) (h0:=by assumption))
  | exact apart_in (by omega) ‹_› ‹_›
  | exact apart_fin ‹_› ‹_› ‹_› ‹_› ‹_› ‹_›
  | (rw [take_full (l:=l) ‹_›] at *;simp_all;done) | skip)
theorem ok_l5Apart:FnOk Try.prog E 155 c_l5Apart :=
 fn_okQ (l:=L_l5Apart) (lp:=P_l5Apart) (hp:=fun _=>false) (gcs:=fun _=>none) (perm:=fun _=>[]) tabOk mix trivial trivial Try.func155 rfl (by kernel_rfl) (by decide) (by kernel_rfl) (anns:=fun x _=>an_l5Apart x.1) (fun ⟨l,_⟩ k hp _=>Eq.mp (by kernel_rfl) (vcn_l5Apart l k hp)) tot_fn
abbrev c_l6Find:Con:=⟨[.sl .atom,.sl .bool,.int],[.int],fun (l,u,q,_)=>l.length<=1048576/\u.length=l.length,.inl fun (l,u,q,_)=>(fdI l u q,()),fun _=>0⟩
abbrev L_l6Find:List (FuncId × Con):=[]
abbrev P_l6Find:List (FuncId × PT):=[]
def an_l6Find (l:List GAtom) (u:List Bool) (q:Int):Nat->St->Option Ann
 | 2,se=>some { α:=Nat,ok:=fun i=>i<=l.length/\uaN l u q i=true,mu:=fun i=>l.length - i,i0:=fun _=>0,nx:=fun a _=>(fun i=>i+1) a,live:=[0,1,2],sets:=fun i=>[(7,sv (.int .i64 i))],mids:=[],blks:=fun i=>[],owns:=fun i=>[],rd:=fun r _=>r,base:=100000 }
 | _,_=>none
def VC_l6Find_1 (l:List GAtom) (u:List Bool) (q:Int):Prop:=RL [.s (.c (.d (.arr .atom l))),.s (.c (.d (.arr .bool u))),.s (.c (.d (.val (.int .i64 q))))]
def VC_l6Find_2 (i1:Nat) (l:List GAtom) (u:List Bool) (q:Int):Prop:=True/\(inK .i64 (((i1:Nat):Int)+(1:Int)))/\True/\((i1+1)<=l.length/\uaN l u q (i1+1)=true)/\(l.length - (i1+1) < l.length - i1)/\TT/\(VC_l6Find_1 l u q)/\(([.s (.c (.d (.val (.int .i64 (((i1:Nat):Int)+(1:Int))))))]:List S)=[.s (.c (.d (.val (.int .i64 (((i1+1):Nat):Int)))))])/\(RM [])/\(RM [])/\True/\TT
def VC_l6Find (l:List GAtom) (u:List Bool) (q:Int) (k:Nat):Prop:=True/\True/\((0<=l.length/\uaN l u q 0=true)/\TT/\(VC_l6Find_1 l u q)/\(([.s (.c (.d (.val (.int .i64 (0:Int)))))]:List S)=[.s (.c (.d (.val (.int .i64 ((0:Nat):Int)))))])/\(RM [])/\(RM [])/\True/\TT)/\(∀ i1:Nat,(i1<=l.length/\uaN l u q i1=true)->True/\True/\True/\True/\(vcIf (decide (((i1:Nat):Int) < ((l.length:Nat):Int))) (True/\True/\(0<=((i1:Nat):Int)/\((i1:Nat):Int) < ((u.length:Nat):Int))/\True/\True/\True/\(vcIf (!(u.getD i1 false)) (True/\True/\(0<=((i1:Nat):Int)/\((i1:Nat):Int) < ((l.length:Nat):Int))/\True/\True/\True/\True/\True/\(vcIf (((l.getD i1 (⟨0,0,0⟩:GAtom)).a) == q) (True/\True/\(((((i1:Nat):Int),()):Int × Unit)=(fdI l u q,()))/\True/\True/\True/\True/\TF) (VC_l6Find_2 i1 l u q))) (True/\(VC_l6Find_2 i1 l u q)))) (True/\((((-1:Int),()):Int × Unit)=(fdI l u q,()))/\True/\True/\True/\True/\TF)))
theorem vcn_l6Find (l:List GAtom) (u:List Bool) (q:Int) (k:Nat) (hp:l.length<=1048576/\u.length=l.length):VC_l6Find l u q k:=by
 unfold VC_l6Find VC_l6Find_2 VC_l6Find_1
 simp only [cln,Nat.reduceEqDiff,Nat.reduceLeDiff,Nat.reduceAdd]
 all_goals (try simp only [opn])
 all_goals (repeat' (first | apply And.intro | intro _))
 all_goals (repeat (cases ‹_/\_›))
 all_goals (first | omega | rfl | assumption | (simp_all;done) | skip)
 all_goals (first
  | exact fd_hit ‹_› ‹_› ‹_› ‹_›
  | exact fd_miss ‹_› ‹_› ‹_›
  | exact uaN_s1 ‹_› ‹_›
  | exact uaN_s3 ‹_› ‹_›
  | skip)
theorem ok_l6Find:FnOk Try.prog E 167 c_l6Find :=
 fn_okQ (l:=L_l6Find) (lp:=P_l6Find) (hp:=fun _=>false) (gcs:=fun _=>none) (perm:=fun _=>[]) tabOk mix trivial trivial Try.func167 rfl (by kernel_rfl) (by decide) (by kernel_rfl) (anns:=fun x _=>an_l6Find x.1 x.2.1 x.2.2.1) (fun ⟨l,u,q,_⟩ k hp _=>Eq.mp (by kernel_rfl) (vcn_l6Find l u q k hp)) tot_fn
abbrev c_l5Begins:Con:=⟨[.sl .atom,.int],[.bool],fun (l,c,_)=>l.length<=1048576,.inl fun (l,c,_)=>(bgn l c,()),fun _=>0⟩
abbrev L_l5Begins:List (FuncId × Con):=[]
abbrev P_l5Begins:List (FuncId × PT):=[]
def an_l5Begins (l:List GAtom) (c:Int):Nat->St->Option Ann
 | 2,se=>some { α:=Nat,ok:=fun i=>i<=l.length/\bgn (l.take i) c=false,mu:=fun i=>l.length - i,i0:=fun _=>0,nx:=fun a _=>(fun i=>i+1) a,live:=[0,1],sets:=fun i=>[(5,sv (.int .i64 i))],mids:=[],blks:=fun i=>[],owns:=fun i=>[],rd:=fun r _=>r,base:=100000 }
 | _,_=>none
def VC_l5Begins (l:List GAtom) (c:Int) (k:Nat):Prop:=True/\True/\((0<=l.length/\bgn (l.take 0) c=false)/\TT/\(RL [.s (.c (.d (.arr .atom l))),.s (.c (.d (.val (.int .i64 c))))])/\(([.s (.c (.d (.val (.int .i64 (0:Int)))))]:List S)=[.s (.c (.d (.val (.int .i64 ((0:Nat):Int)))))])/\(RM [])/\(RM [])/\True/\TT)/\(∀ i1:Nat,(i1<=l.length/\bgn (l.take i1) c=false)->True/\True/\True/\True/\(vcIf (decide (((i1:Nat):Int) < ((l.length:Nat):Int))) (True/\True/\(0<=((i1:Nat):Int)/\((i1:Nat):Int) < ((l.length:Nat):Int))/\True/\True/\True/\True/\(vcIf (((l.getD i1 (⟨0,0,0⟩:GAtom)).a) == c) (True/\(((true,()):Bool × Unit)=(bgn l c,()))/\True/\True/\True/\True/\TF) (True/\(inK .i64 (((i1:Nat):Int)+(1:Int)))/\True/\((i1+1)<=l.length/\bgn (l.take (i1+1)) c=false)/\(l.length - (i1+1) < l.length - i1)/\TT/\(RL [.s (.c (.d (.arr .atom l))),.s (.c (.d (.val (.int .i64 c))))])/\(([.s (.c (.d (.val (.int .i64 (((i1:Nat):Int)+(1:Int))))))]:List S)=[.s (.c (.d (.val (.int .i64 (((i1+1):Nat):Int)))))])/\(RM [])/\(RM [])/\True/\TT))) (True/\(((false,()):Bool × Unit)=(bgn l c,()))/\True/\True/\True/\True/\TF)))
theorem vcn_l5Begins (l:List GAtom) (c:Int) (k:Nat) (hp:l.length<=1048576):VC_l5Begins l c k:=by
 unfold VC_l5Begins
 simp only [cln,Nat.reduceEqDiff,Nat.reduceLeDiff,Nat.reduceAdd]
 all_goals (try simp only [opn])
 all_goals (repeat' (first | apply And.intro | intro _))
 all_goals (repeat (cases ‹_/\_›))
 all_goals (first | omega | rfl | assumption | (simp_all;done) | skip)
 all_goals (first
  | exact (bgn_yes ‹_› ‹_›).symm
  | exact bgn_step ‹_› ‹_› ‹_›
  | exact (bgn_end ‹_› ‹_›).symm
  | skip)
theorem ok_l5Begins:FnOk Try.prog E 168 c_l5Begins :=
 fn_okQ (l:=L_l5Begins) (lp:=P_l5Begins) (hp:=fun _=>false) (gcs:=fun _=>none) (perm:=fun _=>[]) tabOk mix trivial trivial Try.func168 rfl (by kernel_rfl) (by decide) (by kernel_rfl) (anns:=fun x _=>an_l5Begins x.1 x.2.1) (fun ⟨l,c,_⟩ k hp _=>Eq.mp (by kernel_rfl) (vcn_l5Begins l c k hp)) tot_fn
end Go.Proofs.Ytopjgjelkpkmmaa
