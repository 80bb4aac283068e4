/-
  Contracts of single functions of the program, each shown by the engine: what a call returns for arguments within the contract's bounds.
-/
import Derived.Test.YtopjgjelkpkmmaaFFnMissingAlla
import Derived.Test.YtopjgjelkpkmmaaFFnMissingAlle
import Derived.Test.YtopjgjelkpkmmaaEd
import Derived.Test.YtopjgjelkpkmmaaEe
set_option linter.unusedSimpArgs false
set_option linter.unusedVariables false
set_option linter.unusedSectionVars false

namespace Go.Proofs.Ytopjgjelkpkmmaa
open Go.SE Go.RowKit
set_option linter.unusedSimpArgs false
set_option linter.unusedVariables false
set_option maxHeartbeats 1000000
set_option maxRecDepth 100000
abbrev c_l6Match:Con:=⟨[.sl .atom,.sl .atom],[.bool],fun (l,g,_)=>l.length<=6/\g.length<=6,.inl fun (l,g,_)=>(rmM l g,()),fun _=>0⟩
abbrev L_l6Match:List (FuncId × Con):=[(167,c_l6Find)]
abbrev P_l6Match:List (FuncId × PT):=[(166,pt_l6Chain)]
def hp_l6Match:Nat->Bool
 | 6=>true
 | _=>false
def VC_l6Match_1 (l:List GAtom) (g:List GAtom):Prop:=TT/\True/\((none:Option Nat)=none)/\(((false,()):Bool × Unit)=(rmM l g,()))/\True/\True/\True/\True/\TF
def VC_l6Match_2 (g:List GAtom) (p1:Nat × List Bool) (l:List GAtom):Prop:=(True/\(vcIf (((g.getD (p1.1:Int).toNat (⟨0,0,0⟩:GAtom)).kind) == (2:Int)) (TT/\True/\True/\True/\True/\(0<=(p1.1:Int)/\(p1.1:Int) < ((g.length:Nat):Int))/\True/\True/\True/\True/\(0<=(p1.1:Int)/\(p1.1:Int) < ((g.length:Nat):Int))/\True/\True/\TF/\TF/\True/\True/\(l.length<=6/\p1.2.length=l.length)/\True/\(vcIf (!(rchB l p1.2 ((g.getD (p1.1:Int).toNat (⟨0,0,0⟩:GAtom)).a) ((g.getD (p1.1:Int).toNat (⟨0,0,0⟩:GAtom)).b))) (VC_l6Match_1 l g) (TT/\True/\(inK .i64 ((p1.1:Int)+(1:Int)))/\True/\((p1.1+1,(rchU l p1.2 ((g.getD (p1.1:Int).toNat (⟨0,0,0⟩:GAtom)).a) ((g.getD (p1.1:Int).toNat (⟨0,0,0⟩:GAtom)).b))).1<=g.length/\rmI l g (p1.1+1,(rchU l p1.2 ((g.getD (p1.1:Int).toNat (⟨0,0,0⟩:GAtom)).a) ((g.getD (p1.1:Int).toNat (⟨0,0,0⟩:GAtom)).b))).1 (p1.1+1,(rchU l p1.2 ((g.getD (p1.1:Int).toNat (⟨0,0,0⟩:GAtom)).a) ((g.getD (p1.1:Int).toNat (⟨0,0,0⟩:GAtom)).b))).2)/\((false:Bool)=false)/\(g.length - (p1.1+1,(rchU l p1.2 ((g.getD (p1.1:Int).toNat (⟨0,0,0⟩:GAtom)).a) ((g.getD (p1.1:Int).toNat (⟨0,0,0⟩:GAtom)).b))).1 < g.length - p1.1)/\TT/\(RL [.s (.c (.d (.arr .atom l))),.s (.c (.d (.arr .atom g)))])/\(([.s (.c (.d (.val (.int .i64 ((p1.1:Int)+(1:Int))))))]:List S)=[.s (.c (.d (.val (.int .i64 ((p1.1+1,(rchU l p1.2 ((g.getD (p1.1:Int).toNat (⟨0,0,0⟩:GAtom)).a) ((g.getD (p1.1:Int).toNat (⟨0,0,0⟩:GAtom)).b))).1:Int)))))])/\(RM [])/\(RM [])/\(((some (rchU l p1.2 ((g.getD (p1.1:Int).toNat (⟨0,0,0⟩:GAtom)).a) ((g.getD (p1.1:Int).toNat (⟨0,0,0⟩:GAtom)).b)):Option (List Bool))=some ((p1.1+1,(rchU l p1.2 ((g.getD (p1.1:Int).toNat (⟨0,0,0⟩:GAtom)).a) ((g.getD (p1.1:Int).toNat (⟨0,0,0⟩:GAtom)).b))).2))/\True)/\TT))) (TT/\True/\True/\True/\True/\(0<=(p1.1:Int)/\(p1.1:Int) < ((g.length:Nat):Int))/\True/\True/\((l.length<=1048576/\p1.2.length=l.length)/\True/\True)/\True/\TT/\True/\True/\True/\(vcIf (decide ((fdI l p1.2 ((g.getD (p1.1:Int).toNat (⟨0,0,0⟩:GAtom)).a)) < (0:Int))) (True/\(VC_l6Match_1 l g)) (True/\True/\(0<=(fdI l p1.2 ((g.getD (p1.1:Int).toNat (⟨0,0,0⟩:GAtom)).a))/\(fdI l p1.2 ((g.getD (p1.1:Int).toNat (⟨0,0,0⟩:GAtom)).a)) < ((l.length:Nat):Int))/\True/\True/\True/\(0<=(p1.1:Int)/\(p1.1:Int) < ((g.length:Nat):Int))/\True/\True/\True/\(vcIf (!((((l.getD (fdI l p1.2 ((g.getD (p1.1:Int).toNat (⟨0,0,0⟩:GAtom)).a)).toNat (⟨0,0,0⟩:GAtom)).kind) == ((g.getD (p1.1:Int).toNat (⟨0,0,0⟩:GAtom)).kind)) && ((((l.getD (fdI l p1.2 ((g.getD (p1.1:Int).toNat (⟨0,0,0⟩:GAtom)).a)).toNat (⟨0,0,0⟩:GAtom)).a) == ((g.getD (p1.1:Int).toNat (⟨0,0,0⟩:GAtom)).a)) && ((((l.getD (fdI l p1.2 ((g.getD (p1.1:Int).toNat (⟨0,0,0⟩:GAtom)).a)).toNat (⟨0,0,0⟩:GAtom)).b) == ((g.getD (p1.1:Int).toNat (⟨0,0,0⟩:GAtom)).b)) && true)))) (VC_l6Match_1 l g) (TT/\True/\True/\(0<=(fdI l p1.2 ((g.getD (p1.1:Int).toNat (⟨0,0,0⟩:GAtom)).a))/\(fdI l p1.2 ((g.getD (p1.1:Int).toNat (⟨0,0,0⟩:GAtom)).a)) < ((p1.2.length:Nat):Int))/\(TF/\TF/\True/\((7:Nat) ∉ ([]:List Nat)))/\TT/\True/\(inK .i64 ((p1.1:Int)+(1:Int)))/\True/\((p1.1+1,(p1.2.set (fdI l p1.2 ((g.getD (p1.1:Int).toNat (⟨0,0,0⟩:GAtom)).a)).toNat true)).1<=g.length/\rmI l g (p1.1+1,(p1.2.set (fdI l p1.2 ((g.getD (p1.1:Int).toNat (⟨0,0,0⟩:GAtom)).a)).toNat true)).1 (p1.1+1,(p1.2.set (fdI l p1.2 ((g.getD (p1.1:Int).toNat (⟨0,0,0⟩:GAtom)).a)).toNat true)).2)/\((false:Bool)=false)/\(g.length - (p1.1+1,(p1.2.set (fdI l p1.2 ((g.getD (p1.1:Int).toNat (⟨0,0,0⟩:GAtom)).a)).toNat true)).1 < g.length - p1.1)/\TT/\(RL [.s (.c (.d (.arr .atom l))),.s (.c (.d (.arr .atom g)))])/\(([.s (.c (.d (.val (.int .i64 ((p1.1:Int)+(1:Int))))))]:List S)=[.s (.c (.d (.val (.int .i64 ((p1.1+1,(p1.2.set (fdI l p1.2 ((g.getD (p1.1:Int).toNat (⟨0,0,0⟩:GAtom)).a)).toNat true)).1:Int)))))])/\(RM [])/\(RM [])/\(((some (p1.2.set (fdI l p1.2 ((g.getD (p1.1:Int).toNat (⟨0,0,0⟩:GAtom)).a)).toNat true):Option (List Bool))=some ((p1.1+1,(p1.2.set (fdI l p1.2 ((g.getD (p1.1:Int).toNat (⟨0,0,0⟩:GAtom)).a)).toNat true)).2))/\True)/\TT)))))))
def VC_l6Match (l:List GAtom) (g:List GAtom) (k:Nat):Prop:=TT/\True/\TT/\True/\True/\(TN/\(0<=((l.length:Nat):Int)/\((l.length:Nat):Int)<=((l.length:Nat):Int)/\((l.length:Nat):Int)<=4294967296))/\True/\TT/\True/\(((0,(List.replicate l.length false)).1<=g.length/\rmI l g (0,(List.replicate l.length false)).1 (0,(List.replicate l.length false)).2)/\((false:Bool)=false)/\TT/\(RL [.s (.c (.d (.arr .atom l))),.s (.c (.d (.arr .atom g)))])/\(([.s (.c (.d (.val (.int .i64 (0:Int)))))]:List S)=[.s (.c (.d (.val (.int .i64 ((0,(List.replicate l.length false)).1:Int)))))])/\(RM [])/\(RM [])/\(((some (List.replicate l.length false):Option (List Bool))=some ((0,(List.replicate l.length false)).2))/\True)/\TT)/\(∀ p1:Nat × List Bool,(p1.1<=g.length/\rmI l g p1.1 p1.2)->TT/\True/\True/\True/\True/\(vcIf (decide ((p1.1:Int) < ((g.length:Nat):Int))) (TT/\True/\True/\(0<=(p1.1:Int)/\(p1.1:Int) < ((g.length:Nat):Int))/\True/\True/\(VC_l6Match_2 g p1 l)) (TT/\True/\((0<=(p1.2).length/\(List.take 0 (p1.2)).all id=true)/\((false:Bool)=false)/\TT/\(RL [.s (.c (.own 7))])/\(([.s (.c (.d (.val (.int .i64 (0:Int)))))]:List S)=[.s (.c (.d (.val (.int .i64 ((0:Nat):Int)))))])/\(RM [some (.sl 7 .bool p1.2)])/\(RM [])/\True/\TT)/\(∀ j2:Nat,(j2<=(p1.2).length/\(List.take j2 (p1.2)).all id=true)->TT/\True/\True/\True/\True/\(vcIf (decide (((j2:Nat):Int) < ((p1.2.length:Nat):Int))) (TT/\True/\True/\(0<=((j2:Nat):Int)/\((j2:Nat):Int) < ((p1.2.length:Nat):Int))/\True/\True/\(vcIf (!(p1.2.getD j2 false)) (VC_l6Match_1 l g) (TT/\True/\(inK .i64 (((j2:Nat):Int)+(1:Int)))/\True/\((j2+1)<=(p1.2).length/\(List.take (j2+1) (p1.2)).all id=true)/\((false:Bool)=false)/\((p1.2).length - (j2+1) < (p1.2).length - j2)/\TT/\(RL [.s (.c (.own 7))])/\(([.s (.c (.d (.val (.int .i64 (((j2:Nat):Int)+(1:Int))))))]:List S)=[.s (.c (.d (.val (.int .i64 (((j2+1):Nat):Int)))))])/\(RM [some (.sl 7 .bool p1.2)])/\(RM [])/\True/\TT))) (TT/\True/\((none:Option Nat)=none)/\(((true,()):Bool × Unit)=(rmM l g,()))/\True/\True/\True/\True/\TF))))))
theorem vcn_l6Match (l:List GAtom) (g:List GAtom) (k:Nat) (hp:l.length<=6/\g.length<=6):VC_l6Match l g k:=by
 unfold VC_l6Match VC_l6Match_2 VC_l6Match_1
 simp only [cln,Nat.reduceEqDiff,Nat.reduceLeDiff,Nat.reduceAdd]
 have hl:=hp.1
 simp only [atom_beq]
 all_goals (try simp only [opn])
 all_goals (repeat' (first | apply And.intro | intro _))
 all_goals (repeat (cases ‹_/\_›))
 all_goals (try (have h7:=‹rmI _ _ _ _›))
 all_goals (first | omega | rfl | assumption | exact rmI_zero | exact h7.len | (simp_all;done) | skip)
 all_goals (first
  | exact rm_bad1 h7 ‹_› ‹_› ‹_›
  | exact rm_go1 h7 ‹_› ‹_› ‹_›
  | exact rm_bad2 h7 ‹_› ‹_› ‹_›
  | exact rm_bad3 h7 ‹_› ‹_› ‹_› ‹_›
  | exact rm_go2 h7 ‹_› ‹_› ‹_› ‹_›
  | (have h9:=fd_bd ‹¬ fdI _ _ _ < 0›;have h10:=h7.len;omega)
  | exact rm_all h7 ‹_› ‹_› ‹_›
  | exact rm_yes h7 ‹_› ‹_› ‹_›
  | (have h10:=h7.len;omega)
  | exact id_step ‹_› ‹_› ‹_›
  | skip)
def an_l6Match (l:List GAtom) (g:List GAtom):Nat->St->Bool->Option (AnnY Bool)
 | 3,se,_=>some ⟨{ α:=Nat × List Bool,ok:=fun p=>p.1<=g.length/\rmI l g p.1 p.2,mu:=fun p=>g.length - p.1,i0:=fun st=>(0,slAt .bool st (.slot 5)),nx:=fun p st=>(p.1+1,slAt .bool st (.slot 5)),live:=[0,1],sets:=fun p=>[(6,sv (.int .i64 p.1))],mids:=[],blks:=fun p=>[],owns:=fun p=>[⟨7,.slot 5,.bool,p.2⟩],rd:=fun r _=>r,base:=100000 },fun _=>false⟩
 | 13,se,_=>some ⟨{ α:=Nat,ok:=fun j=>j<=(slAt .bool se (.slot 5)).length/\(List.take j (slAt .bool se (.slot 5))).all id=true,mu:=fun j=>(slAt .bool se (.slot 5)).length - j,i0:=fun _=>0,nx:=fun a _=>(fun j=>j+1) a,live:=[5],sets:=fun j=>[(8,sv (.int .i64 j))],mids:=[7],blks:=fun j=>[],owns:=fun j=>[],rd:=fun r _=>r,base:=200000 },fun _=>false⟩
 | _,_,_=>none
abbrev spc_l6Match (l:List GAtom) (g:List GAtom):SpCode Bool:=(fun _ _ _ _ _ _=>none)
theorem spcok_l6Match (l:List GAtom) (g:List GAtom) (wE:World) (ro0:Nat->Option (Array Value)) (ρ:Nat):SpcOk Fence.wide 0 Try.prog E (AC wE ro0 ρ) Try.f165.ntmps (spc_l6Match l g) :=
 fun _ _ _ _ _ _ _ h=>by cases h
theorem vcr_l6Match:∀ x:Args c_l6Match.aks,c_l6Match.pre x->vcY tab (lookF L_l6Match) (lookP P_l6Match) noSpB (spc_l6Match x.1 x.2.1) (fun b=>!b) hp_l6Match (fun _=>none) (an_l6Match x.1 x.2.1) (fun _=>[]) (bodyOf Try.f165) (entry (encs c_l6Match.aks x) none) false (retR tab c_l6Match Try.f165.results.toList x) :=
 fun ⟨l,g,_⟩ hp=>Eq.mp (by kernel_rfl) (vcn_l6Match l g 0 hp)
theorem ok_l6Match:FnOk Try.prog E 165 c_l6Match :=
 fnR_ok (con:=c_l6Match) (fn:=Try.f165) (l:=L_l6Match) (lp:=P_l6Match) (hp:=hp_l6Match) (gcs:=fun _=>none) (perm:=fun _=>[]) (spc:=fun x=>spc_l6Match x.1 x.2.1) (anns:=fun x=>(an_l6Match x.1 x.2.1)) tabOk mix ⟨ok_l6Find,trivial⟩ ⟨ptok_l6Chain,trivial⟩ rfl Try.func165 rfl (by kernel_rfl) (by decide) (by kernel_rfl) (fun x _=>spcok_l6Match x.1 x.2.1) vcr_l6Match tot_fn
abbrev c_l6Case:Con:=⟨[.asn,.asn,.sl .int],[.bool],fun (a,b,c,_)=>asV a=true/\asV b=true/\c.length=9,.inl fun (a,b,c,_)=>(EC a b c,()),fun _=>0⟩
abbrev L_l6Case:List (FuncId × Con):=[(107,c_l5Filled),(153,c_l5Fits),(165,c_l6Match)]
abbrev P_l6Case:List (FuncId × PT):=[]
def VC_l6Case (a:GAsn) (b:GAsn) (c:List Int) (k:Nat):Prop:=TN/\TN/\True/\True/\True/\True/\((b.facts.length<=1048576/\b.facts.all fV=true/\c.length=9)/\True/\True)/\True/\(vcIf (sFit b.facts c) (True/\True/\True/\((a.atoms.length<=1048576/\a.atoms.all atV=true/\c.length=9)/\True/\TN/\True)/\True/\True/\True/\((b.atoms.length<=1048576/\b.atoms.all atV=true/\c.length=9)/\True/\TN/\True)/\(((fL c a.atoms).length<=6/\(fL c b.atoms).length<=6)/\True/\True)/\True/\True/\((((rmM (fL c a.atoms) (fL c b.atoms)),()):Bool × Unit)=(EC a b c,()))/\True/\True/\True/\True/\TF) (True/\True/\(((false,()):Bool × Unit)=(EC a b c,()))/\True/\True/\True/\True/\TF))
theorem vcn_l6Case (a:GAsn) (b:GAsn) (c:List Int) (k:Nat) (hp:asV a=true/\asV b=true/\c.length=9):VC_l6Case a b c k:=by
 unfold VC_l6Case
 simp only [cln,Nat.reduceEqDiff,Nat.reduceLeDiff,Nat.reduceAdd]
 have hA:=asV_facts hp.1
 have hB:=asV_facts hp.2.1
 have hLa:=Nat.le_trans (fL_len c a.atoms) hA.2.2.2
 have hLb:=Nat.le_trans (fL_len c b.atoms) hB.2.2.2
 all_goals (try simp only [opn])
 all_goals (repeat' (first | apply And.intro | intro _))
 all_goals (first | omega | rfl | assumption | exact hA.2.2.1 | exact hB.2.2.1 | exact hB.1 | exact hp.2.2 | (unfold EC;simp_all;done) | skip)
theorem ok_l6Case:FnOk Try.prog E 162 c_l6Case :=
 fn_okQ (l:=L_l6Case) (lp:=P_l6Case) (hp:=fun _=>false) (gcs:=fun _=>none) (perm:=fun _=>[]) tabOk mix ⟨ok_l5Filled,ok_l5Fits,ok_l6Match,trivial⟩ trivial Try.func162 rfl (by kernel_rfl) (by decide) (by kernel_rfl) (anns:=fun x _=>fun _ _=>none) (fun ⟨a,b,c,_⟩ k hp _=>Eq.mp (by kernel_rfl) (vcn_l6Case a b c k hp)) tot_fn
abbrev c_l6Seek:Con:=⟨[.asn,.asn,.sl .bool,.sl .int,.int],[.sl .int,.bool],fun (a,b,tm,c,t,_)=>asV a=true/\asV b=true/\tm.length=9/\c.length=9/\le8 c=true/\1<=t/\t<=9,.inl fun (a,b,tm,c,t,_)=>((sQ (sFn a b) a tm c t).headD [],!(sQ (sFn a b) a tm c t).isEmpty,()),fun _=>0⟩
abbrev mu_l6Seek:Args c_l6Seek.aks->Nat:=fun (a,b,tm,c,t,_)=>(9 - t).toNat
abbrev L_l6Seek (m:Nat):List (FuncId × Con):=[(107,c_l5Filled),(140,c_l6Seek.lim mu_l6Seek m),(153,c_l5Fits),(154,c_l5Early),(155,c_l5Apart),(162,c_l6Case)]
abbrev P_l6Seek:List (FuncId × PT):=[]
def an_l6Seek (a:GAsn) (b:GAsn) (tm:List Bool) (c:List Int) (t:Int):Nat->St->Option Ann
 | 10,se=>some { α:=Nat,ok:=fun i=>(i:Int)<=t+1/\∀ j,j < i->brE (sFn a b) a tm c t j=[],mu:=fun i=>(t+1).toNat - i,i0:=fun _=>0,nx:=fun a _=>(fun i=>i+1) a,live:=[2,3,4,5,6],sets:=fun i=>[(12,sv (.int .i64 i))],mids:=[95,111],blks:=fun i=>[],owns:=fun i=>[],rd:=fun r _=>r,base:=100000 }
 | _,_=>none
def VC_l6Seek_1 (a:GAsn) (b:GAsn) (tm:List Bool) (c:List Int) (t:Int):Prop:=(TN/\True)/\True/\True/\(((([]:List Int),false,()):(List Int) × Bool × Unit)=((sQ (sFn a b) a tm c t).headD [],!(sQ (sFn a b) a tm c t).isEmpty,()))/\(True/\True)/\((TF/\TF)/\True)/\True/\(True/\True)/\TF
def VC_l6Seek_2 (a:GAsn) (b:GAsn) (tm:List Bool) (c:List Int) (t:Int):Prop:=True/\(VC_l6Seek_1 a b tm c t)
def VC_l6Seek_3 (tm:List Bool) (c:List Int) (t:Int):Prop:=RL [.s (.c (.d (.arr .bool tm))),.s (.c (.d (.arr .int c))),.s (.c (.d (.val (.int .i64 t)))),.s (.c (.ptr 95 0)),.s (.c (.ptr 111 0))]
def VC_l6Seek_4 (a:GAsn) (b:GAsn):Prop:=(RM [some (.blk [.d (.arr .fact a.facts),.d (.arr .atom a.atoms)]),some (.blk [.d (.arr .fact b.facts),.d (.arr .atom b.atoms)])])/\(RM [])/\True/\TT
def VC_l6Seek_5 (i1:Nat) (t:Int) (a:GAsn) (b:GAsn) (tm:List Bool) (c:List Int):Prop:=True/\(inK .i64 (((i1:Nat):Int)+(1:Int)))/\True/\(((i1+1):Int)<=t+1/\∀ j,j < (i1+1)->brE (sFn a b) a tm c t j=[])/\((t+1).toNat - (i1+1) < (t+1).toNat - i1)/\TT/\(VC_l6Seek_3 tm c t)/\(([.s (.c (.d (.val (.int .i64 (((i1:Nat):Int)+(1:Int))))))]:List S)=[.s (.c (.d (.val (.int .i64 (((i1+1):Nat):Int)))))])/\(VC_l6Seek_4 a b)
def VC_l6Seek_6 (c:List Int) (t:Int) (a:GAsn) (b:GAsn) (tm:List Bool) (i1:Nat) (m:Nat):Prop:=(TN/\True)/\True/\(TN/\TF/\TF/\(([]:List Int).length+c.length<=4294967296))/\True/\True/\True/\True/\(0<=t/\t < (((([]:List Int) ++ c).length:Nat):Int))/\(TF/\TF/\True/\((101264:Nat) ∉ ([]:List Nat)))/\True/\True/\True/\True/\True/\(inK .i64 (t+(1:Int)))/\(((asV a=true/\asV b=true/\tm.length=9/\((([]:List Int) ++ c).set t.toNat ((i1:Nat):Int)).length=9/\le8 ((([]:List Int) ++ c).set t.toNat ((i1:Nat):Int))=true/\1<=(t+(1:Int))/\(t+(1:Int))<=9)/\(9 - (t+(1:Int))).toNat < m)/\True/\TN/\True)/\True/\True/\True/\True/\True/\True/\(vcIf (!(sQ (sFn a b) a tm ((([]:List Int) ++ c).set t.toNat ((i1:Nat):Int)) (t+(1:Int))).isEmpty) (True/\True/\True/\(((((sQ (sFn a b) a tm ((([]:List Int) ++ c).set t.toNat ((i1:Nat):Int)) (t+(1:Int))).headD []),true,()):(List Int) × Bool × Unit)=((sQ (sFn a b) a tm c t).headD [],!(sQ (sFn a b) a tm c t).isEmpty,()))/\(True/\True)/\((TF/\TF)/\True)/\True/\(True/\True)/\TF) (VC_l6Seek_5 i1 t a b tm c))
def VC_l6Seek (a:GAsn) (b:GAsn) (tm:List Bool) (c:List Int) (t:Int) (m:Nat) (k:Nat):Prop:=TN/\TN/\TN/\True/\True/\True/\True/\((a.facts.length<=1048576/\a.facts.all fV=true/\c.length=9)/\True/\True)/\True/\True/\(vcIf (!(sFit a.facts c)) (VC_l6Seek_2 a b tm c t) (True/\True/\True/\((a.atoms.length<=1048576/\a.atoms.all atV=true/\c.length=9/\le8 c=true)/\True/\True)/\True/\True/\(vcIf (!(sEarly a.atoms c)) (VC_l6Seek_1 a b tm c t) (True/\True/\(vcIf (decide ((8:Int) < t)) (True/\True/\True/\((a.atoms.length<=1048576/\a.atoms.all atV=true/\c.length=9)/\True/\TN/\True)/\(((fL c a.atoms).length<=1048576)/\True/\True)/\True/\(vcIf (sApart (fL c a.atoms)) (True/\True/\True/\((asV a=true/\asV b=true/\c.length=9)/\True/\True)/\True/\True/\(vcIf (!(EC a b c)) ((TN/\True)/\True/\(TN/\TF/\TF/\(([]:List Int).length+c.length<=4294967296))/\True/\True/\(((([]:List Int) ++ c,true,()):(List Int) × Bool × Unit)=((sQ (sFn a b) a tm c t).headD [],!(sQ (sFn a b) a tm c t).isEmpty,()))/\(True/\True)/\((TF/\TF)/\True)/\True/\(True/\True)/\TF) (VC_l6Seek_1 a b tm c t))) (VC_l6Seek_2 a b tm c t))) (True/\True/\(0<=t/\t < ((tm.length:Nat):Int))/\True/\True/\(vcIf (!(tm.getD t.toNat false)) (True/\True/\True/\True/\True/\(inK .i64 (t+(1:Int)))/\(((asV a=true/\asV b=true/\tm.length=9/\c.length=9/\le8 c=true/\1<=(t+(1:Int))/\(t+(1:Int))<=9)/\(9 - (t+(1:Int))).toNat < m)/\True/\TN/\True)/\True/\True/\True/\True/\(((((sQ (sFn a b) a tm c (t+(1:Int))).headD []),(!(sQ (sFn a b) a tm c (t+(1:Int))).isEmpty),()):(List Int) × Bool × Unit)=((sQ (sFn a b) a tm c t).headD [],!(sQ (sFn a b) a tm c t).isEmpty,()))/\(True/\True)/\((TF/\TF)/\True)/\True/\(True/\True)/\TF) (True/\(((0:Int)<=t+1/\∀ j,j < 0->brE (sFn a b) a tm c t j=[])/\TT/\(VC_l6Seek_3 tm c t)/\(([.s (.c (.d (.val (.int .i64 (0:Int)))))]:List S)=[.s (.c (.d (.val (.int .i64 ((0:Nat):Int)))))])/\(VC_l6Seek_4 a b))/\(∀ i1:Nat,((i1:Int)<=t+1/\∀ j,j < i1->brE (sFn a b) a tm c t j=[])->True/\True/\True/\(vcIf (decide (((i1:Nat):Int)<=t)) (True/\True/\True/\True/\(vcIf (decide (((i1:Nat):Int) < t)) (True/\True/\(0<=((i1:Nat):Int)/\((i1:Nat):Int) < ((c.length:Nat):Int))/\True/\True/\True/\True/\(vcIf ((c.getD i1 (0:Int)) != ((i1:Nat):Int)) (VC_l6Seek_5 i1 t a b tm c) (VC_l6Seek_6 c t a b tm i1 m))) (True/\(VC_l6Seek_6 c t a b tm i1 m)))) (VC_l6Seek_1 a b tm c t)))))))))))
theorem vcn_l6Seek (a:GAsn) (b:GAsn) (tm:List Bool) (c:List Int) (t:Int) (m:Nat) (k:Nat) (hp:(asV a=true/\asV b=true/\tm.length=9/\c.length=9/\le8 c=true/\1<=t/\t<=9)/\(9 - t).toNat < m+1):VC_l6Seek a b tm c t m k:=by
 unfold VC_l6Seek VC_l6Seek_6 VC_l6Seek_5 VC_l6Seek_4 VC_l6Seek_3 VC_l6Seek_2 VC_l6Seek_1
 simp only [cln,Nat.reduceEqDiff,Nat.reduceLeDiff,Nat.reduceAdd]
 have hV:=vA_iff.1 (vA_of hp.1.1)
 have hA:(fL c a.atoms).length<=1048576:=Nat.le_trans (fL_len _ _) (Nat.le_trans hV.2.2.2 (by decide))
 all_goals (try simp only [opn])
 all_goals (repeat' (first | apply And.intro | intro _))
 all_goals (repeat (cases ‹_/\_›))
 all_goals (first | omega | rfl | assumption | (simp_all;done) | skip)
 all_goals (first
  | exact hV.1 | exact hV.2.1 | exact Nat.le_trans hV.2.2.1 (by decide) | exact Nat.le_trans hV.2.2.2 (by decide) | exact Nat.le_trans (fL_len _ _) (Nat.le_trans hV.2.2.2 (by decide))
  | (rw [fits_no1 ‹_›];rfl) | (rw [fits_no2 ‹_›];rfl)
  | (rw [sk_last ‹_› ‹_› ‹_› ‹_› ‹_›];rfl) | (rw [sk_no1 ‹_› ‹_› ‹_› ‹_›];rfl) | (rw [sk_no2 ‹_› ‹_› ‹_› ‹_›];rfl)
  | (rw [sQ_skip (t:=t) ‹_› (by omega) (fits_yes ‹_› ‹_›) ‹_›];done)
  | exact brE_skip ‹_› ‹_› ‹_› _ ‹_›
  | exact brE_none ‹_› ‹_› _ ‹_›
  | exact le8_set ‹_› (by omega)
  | exact (sQ_hit ‹_› (by omega) (fits_yes ‹_› ‹_›) ‹_› ‹_› ‹_› (.inr ‹_›) ‹_›).1.symm
  | exact (sQ_hit ‹_› (by omega) (fits_yes ‹_› ‹_›) ‹_› ‹_› ‹_› (.inl (by omega)) ‹_›).1.symm
  | (rw [(sQ_hit ‹_› (by omega) (fits_yes ‹_› ‹_›) ‹_› ‹_› ‹_› (.inr ‹_›) ‹_›).2];rfl)
  | (rw [(sQ_hit ‹_› (by omega) (fits_yes ‹_› ‹_›) ‹_› ‹_› ‹_› (.inl (by omega)) ‹_›).2];rfl)
  | (rw [sQ_none ‹_› (by omega) (fits_yes ‹_› ‹_›) ‹_› ‹_› ‹_›];rfl)
  | skip)
theorem ok_l6Seek:FnOk Try.prog E 140 c_l6Seek :=
 fn_rec (mu:=mu_l6Seek) (fun m ih=>fn_okQ (con:=c_l6Seek.lim mu_l6Seek (m+1)) (fn:=Try.f140) (l:=L_l6Seek m) (lp:=P_l6Seek) (hp:=fun _=>false) (gcs:=fun _=>none) (perm:=fun _=>[]) tabOk mix ⟨ok_l5Filled,ih,ok_l5Fits,ok_l5Early,ok_l5Apart,ok_l6Case,trivial⟩ trivial Try.func140 rfl (by kernel_rfl) (show c_l6Seek.aks.length<=Try.f140.ntmps by decide) (by kernel_rfl) (anns:=fun x _=>an_l6Seek x.1 x.2.1 x.2.2.1 x.2.2.2.1 x.2.2.2.2.1) (fun ⟨a,b,tm,c,t,_⟩ k hp _=>Eq.mp (by kernel_rfl) (vcn_l6Seek a b tm c t m k hp)) tot_fn) ⟨_,_,Try.func140,by kernel_rfl,rfl⟩ tot_fn
abbrev c_l3Terms:Con:=⟨[.asn],[.sl .bool],fun (a,_)=>asV a=true ∨ vA a=true,.inl fun (a,_)=>(fl9 (occ a),()),fun _=>0⟩
abbrev L_l3Terms:List (FuncId × Con):=[]
abbrev P_l3Terms:List (FuncId × PT):=[]
def an_l3Terms (a:GAsn):Nat->St->Option Ann
 | 3,se=>some { α:=Nat,ok:=fun i=>i<=a.facts.length,mu:=fun i=>a.facts.length - i,i0:=fun _=>0,nx:=fun a _=>(fun i=>i+1) a,live:=[1,2],sets:=fun i=>[(4,sv (.int .i64 i))],mids:=[31,32],blks:=fun i=>[],owns:=fun i=>[⟨7,.slot 3,.bool,fl9 (occF (a.facts.take i))⟩],rd:=fun r _=>r,base:=100000 }
 | 8,se=>some { α:=Nat,ok:=fun i=>i<=a.atoms.length,mu:=fun i=>a.atoms.length - i,i0:=fun _=>0,nx:=fun a _=>(fun i=>i+1) a,live:=[1,2],sets:=fun i=>[(5,sv (.int .i64 i))],mids:=[31,32],blks:=fun i=>[],owns:=fun i=>[⟨7,.slot 3,.bool,fl9 (fun t=>occF a.facts t || occG (a.atoms.take i) t)⟩],rd:=fun r _=>r,base:=200000 }
 | _,_=>none
def VC_l3Terms_1 :Prop:=([.s (.c (.d (.val (.int .i64 (0:Int)))))]:List S)=[.s (.c (.d (.val (.int .i64 ((0:Nat):Int)))))]
def VC_l3Terms_2 (a:GAsn):Prop:=RM [some (.blk [.d (.arr .fact a.facts),.d (.arr .atom a.atoms)]),some (.sl 32 .bool ([]:List Bool))]
def VC_l3Terms_3 (i1:Nat):Prop:=([.s (.c (.d (.val (.int .i64 (((i1:Nat):Int)+(1:Int))))))]:List S)=[.s (.c (.d (.val (.int .i64 (((i1+1):Nat):Int)))))]
def VC_l3Terms_4 (i1:Nat) (a:GAsn):Prop:=(True/\(vcIf (decide (((i1:Nat):Int) < ((a.facts.length:Nat):Int))) (True/\True/\True/\True/\(0<=((i1:Nat):Int)/\((i1:Nat):Int) < ((a.facts.length:Nat):Int))/\True/\True/\(0<=((a.facts.getD i1 (⟨false,0,0⟩:GFact)).a)/\((a.facts.getD i1 (⟨false,0,0⟩:GFact)).a) < (((fl9 (occF (a.facts.take i1))).length:Nat):Int))/\(TF/\TF/\True/\((7:Nat) ∉ ([]:List Nat)))/\True/\True/\True/\True/\(0<=((i1:Nat):Int)/\((i1:Nat):Int) < ((a.facts.length:Nat):Int))/\True/\True/\(0<=((a.facts.getD i1 (⟨false,0,0⟩:GFact)).b)/\((a.facts.getD i1 (⟨false,0,0⟩:GFact)).b) < ((((fl9 (occF (a.facts.take i1))).set ((a.facts.getD i1 (⟨false,0,0⟩:GFact)).a).toNat true).length:Nat):Int))/\(TF/\TF/\True/\((7:Nat) ∉ ([]:List Nat)))/\True/\(inK .i64 (((i1:Nat):Int)+(1:Int)))/\True/\((i1+1)<=a.facts.length)/\(a.facts.length - (i1+1) < a.facts.length - i1)/\TT/\(RL [.s (.c (.ptr 31 0)),.s (.c (.own 32))])/\(VC_l3Terms_3 i1)/\(VC_l3Terms_2 a)/\(RM [])/\(((some (((fl9 (occF (a.facts.take i1))).set ((a.facts.getD i1 (⟨false,0,0⟩:GFact)).a).toNat true).set ((a.facts.getD i1 (⟨false,0,0⟩:GFact)).b).toNat true):Option (List Bool))=some (fl9 (occF (a.facts.take (i1+1)))))/\True)/\TT) (True/\((0<=a.atoms.length)/\TT/\(RL [.s (.c (.ptr 31 0)),.s (.c (.own 32))])/\VC_l3Terms_1/\(VC_l3Terms_2 a)/\(RM [])/\(((some (fl9 (occF (a.facts.take i1))):Option (List Bool))=some (fl9 (fun t=>occF a.facts t || occG (a.atoms.take 0) t)))/\True)/\TT)/\(∀ i2:Nat,(i2<=a.atoms.length)->True/\True/\True/\True/\True/\(vcIf (decide (((i2:Nat):Int) < ((a.atoms.length:Nat):Int))) (True/\True/\True/\True/\(0<=((i2:Nat):Int)/\((i2:Nat):Int) < ((a.atoms.length:Nat):Int))/\True/\True/\(0<=((a.atoms.getD i2 (⟨0,0,0⟩:GAtom)).a)/\((a.atoms.getD i2 (⟨0,0,0⟩:GAtom)).a) < (((fl9 (fun t=>occF a.facts t || occG (a.atoms.take i2) t)).length:Nat):Int))/\(TF/\TF/\True/\((7:Nat) ∉ ([]:List Nat)))/\True/\True/\True/\True/\(0<=((i2:Nat):Int)/\((i2:Nat):Int) < ((a.atoms.length:Nat):Int))/\True/\True/\(0<=((a.atoms.getD i2 (⟨0,0,0⟩:GAtom)).b)/\((a.atoms.getD i2 (⟨0,0,0⟩:GAtom)).b) < ((((fl9 (fun t=>occF a.facts t || occG (a.atoms.take i2) t)).set ((a.atoms.getD i2 (⟨0,0,0⟩:GAtom)).a).toNat true).length:Nat):Int))/\(TF/\TF/\True/\((7:Nat) ∉ ([]:List Nat)))/\True/\(inK .i64 (((i2:Nat):Int)+(1:Int)))/\True/\((i2+1)<=a.atoms.length)/\(a.atoms.length - (i2+1) < a.atoms.length - i2)/\TT/\(RL [.s (.c (.ptr 31 0)),.s (.c (.own 32))])/\(VC_l3Terms_3 i2)/\(VC_l3Terms_2 a)/\(RM [])/\(((some (((fl9 (fun t=>occF a.facts t || occG (a.atoms.take i2) t)).set ((a.atoms.getD i2 (⟨0,0,0⟩:GAtom)).a).toNat true).set ((a.atoms.getD i2 (⟨0,0,0⟩:GAtom)).b).toNat true):Option (List Bool))=some (fl9 (fun t=>occF a.facts t || occG (a.atoms.take (i2+1)) t)))/\True)/\TT) (True/\True/\(((fl9 (fun t=>occF a.facts t || occG (a.atoms.take i2) t),()):(List Bool) × Unit)=(fl9 (occ a),()))/\(True/\True)/\((TF/\TF)/\True)/\True/\(True/\True)/\TF))))))
def VC_l3Terms (a:GAsn) (k:Nat):Prop:=TN/\TN/\(TN/\(0<=(9:Int)/\(9:Int)<=(9:Int)/\(9:Int)<=4294967296))/\True/\True/\((0<=a.facts.length)/\TT/\(RL [.s (.c (.ptr 31 0)),.s (.c (.own 32))])/\VC_l3Terms_1/\(VC_l3Terms_2 a)/\(RM [])/\(((some (List.replicate 9 false):Option (List Bool))=some (fl9 (occF (a.facts.take 0))))/\True)/\TT)/\(∀ i1:Nat,(i1<=a.facts.length)->True/\True/\True/\True/\(VC_l3Terms_4 i1 a))
theorem vcn_l3Terms (a:GAsn) (k:Nat) (hp:asV a=true ∨ vA a=true):VC_l3Terms a k:=by
 unfold VC_l3Terms VC_l3Terms_4 VC_l3Terms_3 VC_l3Terms_2 VC_l3Terms_1
 simp only [cln,Nat.reduceEqDiff,Nat.reduceLeDiff,Nat.reduceAdd]
 have hl:=vA_iff.1 (hp.elim vA_of id)
 have hF:=fun i (h:i < a.facts.length)=>fV_isT (all_get (d:=(⟨false,0,0⟩:GFact)) hl.1 h)
 have hG:=fun i (h:i < a.atoms.length)=>atV_isT (all_get (d:=(⟨0,0,0⟩:GAtom)) hl.2.1 h)
 have hi:∀ t,isT t=true->0<=t/\t<=8:=fun t h=>isT_iff.1 h
 have hL:=fl9_len
 all_goals (try simp only [opn])
 all_goals (repeat' (first | apply And.intro | intro _))
 all_goals (first | omega | rfl | (simp_all;done) | (exact flF_step ‹_› (hF _ ‹_›).1 (hF _ ‹_›).2) | (exact flG_step ‹_› (hG _ ‹_›).1 (hG _ ‹_›).2) | skip)
 all_goals (first | (have h1:=hF _ ‹_›;have h2:=hi _ h1.1;have h3:=hi _ h1.2;simp only [List.length_set,hL];omega) | (have h1:=hG _ ‹_›;have h2:=hi _ h1.1;have h3:=hi _ h1.2;simp only [List.length_set,hL];omega) | (rw [take_full ‹_›];done) | (rw [take_full ‹_›];apply fl9_congr;intro t;simp [occF,occG,occ];done) | (rw [take_full ‹_›];rfl) | grind)
theorem ok_l3Terms:FnOk Try.prog E 128 c_l3Terms :=
 fn_okQ (l:=L_l3Terms) (lp:=P_l3Terms) (hp:=fun _=>false) (gcs:=fun _=>none) (perm:=fun _=>[]) tabOk mix trivial trivial Try.func128 rfl (by kernel_rfl) (by decide) (by kernel_rfl) (anns:=fun x _=>an_l3Terms x.1) (fun ⟨a,_⟩ k hp _=>Eq.mp (by kernel_rfl) (vcn_l3Terms a k hp)) tot_fn
abbrev c_l6Both:Con:=⟨[.asn,.asn],[.sl .bool],fun (a,b,_)=>asV a=true/\asV b=true,.inl fun (a,b,_)=>(fl9 (fun t=>occ a t || occ b t),()),fun _=>0⟩
abbrev L_l6Both:List (FuncId × Con):=[(128,c_l3Terms)]
abbrev P_l6Both:List (FuncId × PT):=[]
def VC_l6Both (a:GAsn) (b:GAsn) (k:Nat):Prop:=TN/\TN/\TN/\(TN/\True)/\True/\True/\(TN/\TF/\TF/\(([]:List GFact).length+a.facts.length<=4294967296))/\True/\True/\(TN/\TF/\TF/\((([]:List GFact) ++ a.facts).length+b.facts.length<=4294967296))/\(TN/\True)/\True/\True/\(TN/\TF/\TF/\(([]:List GAtom).length+a.atoms.length<=4294967296))/\True/\True/\(TN/\TF/\TF/\((([]:List GAtom) ++ a.atoms).length+b.atoms.length<=4294967296))/\(TN/\TN/\True)/\((asV (⟨(([]:List GFact) ++ a.facts) ++ b.facts,(([]:List GAtom) ++ a.atoms) ++ b.atoms⟩:GAsn)=true ∨ vA (⟨(([]:List GFact) ++ a.facts) ++ b.facts,(([]:List GAtom) ++ a.atoms) ++ b.atoms⟩:GAsn)=true)/\True/\TN/\True)/\True/\((((fl9 (occ (⟨(([]:List GFact) ++ a.facts) ++ b.facts,(([]:List GAtom) ++ a.atoms) ++ b.atoms⟩:GAsn))),()):(List Bool) × Unit)=(fl9 (fun t=>occ a t || occ b t),()))/\(True/\True)/\((TF/\TF)/\True)/\True/\(True/\True)/\TF
theorem vcn_l6Both (a:GAsn) (b:GAsn) (k:Nat) (hp:asV a=true/\asV b=true):VC_l6Both a b k:=by
 unfold VC_l6Both
 simp only [cln,Nat.reduceEqDiff,Nat.reduceLeDiff,Nat.reduceAdd]
 have hA:=asV_facts hp.1
 have hB:=asV_facts hp.2
 have hV:=both_vA hp.1 hp.2
 all_goals (try simp only [opn,List.length_append])
 all_goals (repeat' (first | apply And.intro | intro _))
 all_goals (first | omega | rfl | assumption | exact .inr hV | exact both_fl | skip)
theorem ok_l6Both:FnOk Try.prog E 141 c_l6Both :=
 fn_okQ (l:=L_l6Both) (lp:=P_l6Both) (hp:=fun _=>false) (gcs:=fun _=>none) (perm:=fun _=>[]) tabOk mix ⟨ok_l3Terms,trivial⟩ trivial Try.func141 rfl (by kernel_rfl) (by decide) (by kernel_rfl) (anns:=fun x _=>fun _ _=>none) (fun ⟨a,b,_⟩ k hp _=>Eq.mp (by kernel_rfl) (vcn_l6Both a b k hp)) tot_fn
abbrev c_l6Fails:Con:=⟨[.asn,.asn],[.sl .int,.bool],fun (a,b,_)=>asV a=true/\asV b=true,.inl fun (a,b,_)=>((FC a b).headD [],!(FC a b).isEmpty,()),fun _=>0⟩
abbrev L_l6Fails:List (FuncId × Con):=[(129,c_l5Open),(140,c_l6Seek),(141,c_l6Both)]
abbrev P_l6Fails:List (FuncId × PT):=[]
def VC_l6Fails (a:GAsn) (b:GAsn) (k:Nat):Prop:=TN/\TN/\TN/\True/\True/\True/\True/\True/\((asV a=true/\asV b=true)/\True/\TN/\True)/\(True/\True/\TN/\True)/\((asV a=true/\asV b=true/\(fl9 (fun t=>occ a t || occ b t)).length=9/\opens.length=9/\le8 opens=true/\1<=(1:Int)/\(1:Int)<=9)/\True/\TN/\True)/\True/\True/\True/\True/\(((((sQ (sFn a b) a (fl9 (fun t=>occ a t || occ b t)) opens (1:Int)).headD []),(!(sQ (sFn a b) a (fl9 (fun t=>occ a t || occ b t)) opens (1:Int)).isEmpty),()):(List Int) × Bool × Unit)=((FC a b).headD [],!(FC a b).isEmpty,()))/\(True/\True)/\((TF/\TF)/\True)/\True/\(True/\True)/\TF
theorem vcn_l6Fails (a:GAsn) (b:GAsn) (k:Nat) (hp:asV a=true/\asV b=true):VC_l6Fails a b k:=by
 unfold VC_l6Fails
 simp only [cln,Nat.reduceEqDiff,Nat.reduceLeDiff,Nat.reduceAdd]
 have hA:=asV_facts hp.1
 have hB:=asV_facts hp.2
 all_goals (try rw [sFC hp.1 hp.2])
 all_goals (try simp only [opn])
 all_goals (repeat' (first | apply And.intro | intro _))
 all_goals (first | omega | rfl | assumption | exact hp.1 | exact hp.2 | exact fl9_len _ | trivial | skip)
theorem ok_l6Fails:FnOk Try.prog E 105 c_l6Fails :=
 fn_okQ (l:=L_l6Fails) (lp:=P_l6Fails) (hp:=fun _=>false) (gcs:=fun _=>none) (perm:=fun _=>[]) tabOk mix ⟨ok_l5Open,ok_l6Seek,ok_l6Both,trivial⟩ trivial Try.func105 rfl (by kernel_rfl) (by decide) (by kernel_rfl) (anns:=fun x _=>fun _ _=>none) (fun ⟨a,b,_⟩ k hp _=>Eq.mp (by kernel_rfl) (vcn_l6Fails a b k hp)) tot_fn
abbrev c_sEntails:Con:=⟨[.asn,.asn],[.bool],fun (a,b,_)=>a.facts.length<=281474976710656/\a.atoms.length<=281474976710656/\b.facts.length<=281474976710656/\b.atoms.length<=281474976710656,.inl fun (a,b,_)=>(ENT a b,()),fun _=>0⟩
abbrev L_sEntails:List (FuncId × Con):=[(74,c_sAssertionValid),(105,c_l6Fails)]
abbrev P_sEntails:List (FuncId × PT):=[]
def VC_sEntails_1 (a:GAsn) (b:GAsn):Prop:=True/\(((false,()):Bool × Unit)=(ENT a b,()))/\True/\True/\True/\True/\TF
def VC_sEntails (a:GAsn) (b:GAsn) (k:Nat):Prop:=TN/\TN/\True/\True/\((a.facts.length<=281474976710656/\a.atoms.length<=281474976710656)/\True/\True)/\True/\True/\(vcIf (!(asV a)) (True/\(VC_sEntails_1 a b)) (True/\((b.facts.length<=281474976710656/\b.atoms.length<=281474976710656)/\True/\True)/\True/\True/\(vcIf (!(asV b)) (VC_sEntails_1 a b) (True/\True/\((asV a=true/\asV b=true)/\True/\TN/\True)/\True/\True/\True/\True/\True/\True/\True/\True/\(((!(!(FC a b).isEmpty),()):Bool × Unit)=(ENT a b,()))/\True/\True/\True/\True/\TF))))
theorem vcn_sEntails (a:GAsn) (b:GAsn) (k:Nat) (hp:a.facts.length<=281474976710656/\a.atoms.length<=281474976710656/\b.facts.length<=281474976710656/\b.atoms.length<=281474976710656):VC_sEntails a b k:=by
 unfold VC_sEntails VC_sEntails_1
 simp only [cln,Nat.reduceEqDiff,Nat.reduceLeDiff,Nat.reduceAdd]
 all_goals (try simp only [opn])
 all_goals (repeat' (first | apply And.intro | intro _))
 all_goals (repeat (cases ‹_/\_›))
 all_goals (first | omega | rfl | assumption | exact (ent_no1 ‹_›).symm | exact (ent_no2 ‹_›).symm | (rw [ENT_FC ‹_› ‹_›,Bool.not_not];done) | exact fc_len ‹_› ‹_› | skip)
theorem ok_sEntails:FnOk Try.prog E 124 c_sEntails :=
 fn_okQ (l:=L_sEntails) (lp:=P_sEntails) (hp:=fun _=>false) (gcs:=fun _=>none) (perm:=fun _=>[]) tabOk mix ⟨ok_sAssertionValid,ok_l6Fails,trivial⟩ trivial Try.func124 rfl (by kernel_rfl) (by decide) (by kernel_rfl) (anns:=fun x _=>fun _ _=>none) (fun ⟨a,b,_⟩ k hp _=>Eq.mp (by kernel_rfl) (vcn_sEntails a b k hp)) tot_fn
abbrev c_l7Frame:Con:=⟨[.asn,.asn],[.asn,.bool],fun (a,b,_)=>asV a=true/\asV b=true,.inl fun (a,b,_)=>(frmL a b,frmB a b,()),fun _=>0⟩
abbrev L_l7Frame:List (FuncId × Con):=[(74,c_sAssertionValid),(75,c_l7Pick),(87,c_l3Star),(124,c_sEntails)]
abbrev P_l7Frame:List (FuncId × PT):=[]
def an_l7Frame (a:GAsn) (b:GAsn):Nat->St->Option Ann
 | 2,se=>some { α:=Nat,ok:=fun i=>(i:Int)<=pkTop a/\frN a b i=true,mu:=fun i=>(pkTop a).toNat - i,i0:=fun _=>0,nx:=fun a _=>(fun i=>i+1) a,live:=[2,3,4],sets:=fun i=>[(6,sv (.int .i64 i))],mids:=[47,63,64,65,79],blks:=fun i=>[],owns:=fun i=>[],rd:=fun r _=>r,base:=100000 }
 | _,_=>none
def VC_l7Frame_1 (a:GAsn) (b:GAsn):Prop:=(RM [some (.blk [.d (.arr .fact a.facts),.d (.arr .atom a.atoms)]),some (.blk [.d (.arr .fact b.facts),.d (.arr .atom b.atoms)]),some (.sl 64 .fact ([]:List GFact)),some (.sl 65 .atom ([]:List GAtom)),some (.blk [.own 64,.own 65])])/\(RM [])/\True/\TT
def VC_l7Frame_2 (i1:Nat) (a:GAsn) (b:GAsn):Prop:=True/\(inK .i64 (((i1:Nat):Int)+(1:Int)))/\True/\(((i1+1):Int)<=pkTop a/\frN a b (i1+1)=true)/\((pkTop a).toNat - (i1+1) < (pkTop a).toNat - i1)/\TT/\(RL [.s (.c (.ptr 47 0)),.s (.c (.ptr 63 0)),.s (.c (.ptr 79 0))])/\(([.s (.c (.d (.val (.int .i64 (((i1:Nat):Int)+(1:Int))))))]:List S)=[.s (.c (.d (.val (.int .i64 (((i1+1):Nat):Int)))))])/\(VC_l7Frame_1 a b)
def VC_l7Frame (a:GAsn) (b:GAsn) (k:Nat):Prop:=TN/\TN/\(TN/\TN/\TN/\True)/\True/\True/\(((0:Int)<=pkTop a/\frN a b 0=true)/\TT/\(RL [.s (.c (.ptr 47 0)),.s (.c (.ptr 63 0)),.s (.c (.ptr 79 0))])/\(([.s (.c (.d (.val (.int .i64 (0:Int)))))]:List S)=[.s (.c (.d (.val (.int .i64 ((0:Nat):Int)))))])/\(VC_l7Frame_1 a b))/\(∀ i1:Nat,((i1:Int)<=pkTop a/\frN a b i1=true)->True/\True/\True/\True/\(0<=((a.atoms.length:Nat):Int))/\True/\(vcIf (decide (((i1:Nat):Int) < (IntKind.wrap .i64 ((1:Int) * 2 ^ (min a.atoms.length (IntKind.bits .i64)))))) (True/\True/\((a.facts.length<=1048576/\a.atoms.length<=1048576)/\True/\TN/\TN/\True)/\(TN/\TN/\TN/\True)/\(TF/\TF)/\True/\True/\((b.facts.length<=1048576/\b.atoms.length<=1048576/\(⟨[],(pkA ((i1:Nat):Int) a.atoms)⟩:GAsn).facts.length<=1048576/\(⟨[],(pkA ((i1:Nat):Int) a.atoms)⟩:GAsn).atoms.length<=1048576)/\True/\TN/\TN/\True)/\(TN/\TN/\TN/\True)/\(TF/\TF)/\True/\(((⟨(b.facts ++ (⟨[],(pkA ((i1:Nat):Int) a.atoms)⟩:GAsn).facts),(b.atoms ++ (⟨[],(pkA ((i1:Nat):Int) a.atoms)⟩:GAsn).atoms)⟩:GAsn).facts.length<=281474976710656/\(⟨(b.facts ++ (⟨[],(pkA ((i1:Nat):Int) a.atoms)⟩:GAsn).facts),(b.atoms ++ (⟨[],(pkA ((i1:Nat):Int) a.atoms)⟩:GAsn).atoms)⟩:GAsn).atoms.length<=281474976710656)/\True/\True)/\True/\(vcIf (asV (⟨(b.facts ++ (⟨[],(pkA ((i1:Nat):Int) a.atoms)⟩:GAsn).facts),(b.atoms ++ (⟨[],(pkA ((i1:Nat):Int) a.atoms)⟩:GAsn).atoms)⟩:GAsn)) (True/\True/\((a.facts.length<=281474976710656/\a.atoms.length<=281474976710656/\(⟨(b.facts ++ (⟨[],(pkA ((i1:Nat):Int) a.atoms)⟩:GAsn).facts),(b.atoms ++ (⟨[],(pkA ((i1:Nat):Int) a.atoms)⟩:GAsn).atoms)⟩:GAsn).facts.length<=281474976710656/\(⟨(b.facts ++ (⟨[],(pkA ((i1:Nat):Int) a.atoms)⟩:GAsn).facts),(b.atoms ++ (⟨[],(pkA ((i1:Nat):Int) a.atoms)⟩:GAsn).atoms)⟩:GAsn).atoms.length<=281474976710656)/\True/\True)/\True/\(vcIf (ENT a (⟨(b.facts ++ (⟨[],(pkA ((i1:Nat):Int) a.atoms)⟩:GAsn).facts),(b.atoms ++ (⟨[],(pkA ((i1:Nat):Int) a.atoms)⟩:GAsn).atoms)⟩:GAsn)) (True/\(TF/\TF)/\True/\((((⟨[],(pkA ((i1:Nat):Int) a.atoms)⟩:GAsn),true,()):GAsn × Bool × Unit)=(frmL a b,frmB a b,()))/\((((100304:Nat) ≠ 100305)/\True)/\True/\True)/\((TF/\TF)/\(TF/\TF)/\True)/\True/\(True/\True/\True)/\TF) (VC_l7Frame_2 i1 a b))) (True/\(VC_l7Frame_2 i1 a b)))) ((TN/\TN/\True)/\(TF/\TF)/\True/\((((⟨([]:List GFact),([]:List GAtom)⟩:GAsn),false,()):GAsn × Bool × Unit)=(frmL a b,frmB a b,()))/\((((100496:Nat) ≠ 100497)/\True)/\True/\True)/\((TF/\TF)/\(TF/\TF)/\True)/\True/\(True/\True/\True)/\TF)))
theorem vcn_l7Frame (a:GAsn) (b:GAsn) (k:Nat) (hp:asV a=true/\asV b=true):VC_l7Frame a b k:=by
 unfold VC_l7Frame VC_l7Frame_2 VC_l7Frame_1
 simp only [cln,Nat.reduceEqDiff,Nat.reduceLeDiff,Nat.reduceAdd]
 have hT:=pkTop_eq hp.1
 have hA:=fo_len6 hp.1
 have hB:=fo_len6 hp.2
 all_goals (try simp only [opn])
 all_goals (try simp only [pkTop_w])
 all_goals (try simp only [decide_eq_true_eq,decide_eq_false_iff_not])
 all_goals (repeat' (first | apply And.intro | intro _))
 all_goals (repeat (cases ‹_/\_›))
 all_goals (first | with_reducible exact True.intro | (exfalso;contradiction) | omega | with_reducible assumption | with_reducible rfl | skip)
 all_goals (first
  | with_reducible exact frN_zero | with_reducible exact pk200 (by omega)
  | (with_reducible refine Nat.le_trans (m:=200) ?_ (by decide);with_reducible exact app_pk (by omega) (by omega))
  | with_reducible exact fra_a ‹_› ‹_› ‹_› ‹_› | with_reducible exact fra_b ‹_› ‹_› ‹_› ‹_›
  | with_reducible exact (frm_f ‹_› ‹_› ‹_› ‹_› ‹_› ‹_›).1 | with_reducible exact (frm_f ‹_› ‹_› ‹_› ‹_› ‹_› ‹_›).2
  | with_reducible exact (frm_none ‹_› ‹_› ‹_› ‹_›).1 | with_reducible exact (frm_none ‹_› ‹_› ‹_› ‹_›).2
  | skip)
theorem ok_l7Frame:FnOk Try.prog E 83 c_l7Frame :=
 fn_okQ (l:=L_l7Frame) (lp:=P_l7Frame) (hp:=fun _=>false) (gcs:=fun _=>none) (perm:=fun _=>[]) tabOk mix ⟨ok_sAssertionValid,ok_l7Pick,ok_l3Star,ok_sEntails,trivial⟩ trivial Try.func83 rfl (by kernel_rfl) (by decide) (by kernel_rfl) (anns:=fun x _=>an_l7Frame x.1 x.2.1) (fun ⟨a,b,_⟩ k hp _=>Eq.mp (by kernel_rfl) (vcn_l7Frame a b k hp)) tot_fn
abbrev c_l5First:Con:=⟨[.asn,.sl .bool,.sl .int,.int],[.sl .int,.bool],fun (a,tm,c,t,_)=>vA a=true/\tm.length=9/\c.length=9/\le8 c=true/\1<=t/\t<=9,.inl fun (a,tm,c,t,_)=>((sQ (sFin a) a tm c t).headD [],!(sQ (sFin a) a tm c t).isEmpty,()),fun _=>0⟩
abbrev mu_l5First:Args c_l5First.aks->Nat:=fun (a,tm,c,t,_)=>(9 - t).toNat
abbrev L_l5First (m:Nat):List (FuncId × Con):=[(107,c_l5Filled),(127,c_l5First.lim mu_l5First m),(153,c_l5Fits),(154,c_l5Early),(155,c_l5Apart)]
abbrev P_l5First:List (FuncId × PT):=[]
def an_l5First (a:GAsn) (tm:List Bool) (c:List Int) (t:Int):Nat->St->Option Ann
 | 10,se=>some { α:=Nat,ok:=fun i=>(i:Int)<=t+1/\∀ j,j < i->brE (sFin a) a tm c t j=[],mu:=fun i=>(t+1).toNat - i,i0:=fun _=>0,nx:=fun a _=>(fun i=>i+1) a,live:=[1,2,3,4],sets:=fun i=>[(10,sv (.int .i64 i))],mids:=[79],blks:=fun i=>[],owns:=fun i=>[],rd:=fun r _=>r,base:=100000 }
 | _,_=>none
def VC_l5First_1 (a:GAsn) (tm:List Bool) (c:List Int) (t:Int):Prop:=(TN/\True)/\True/\True/\(((([]:List Int),false,()):(List Int) × Bool × Unit)=((sQ (sFin a) a tm c t).headD [],!(sQ (sFin a) a tm c t).isEmpty,()))/\(True/\True)/\((TF/\TF)/\True)/\True/\(True/\True)/\TF
def VC_l5First_2 (tm:List Bool) (c:List Int) (t:Int):Prop:=RL [.s (.c (.d (.arr .bool tm))),.s (.c (.d (.arr .int c))),.s (.c (.d (.val (.int .i64 t)))),.s (.c (.ptr 79 0))]
def VC_l5First_3 (a:GAsn):Prop:=(RM [some (.blk [.d (.arr .fact a.facts),.d (.arr .atom a.atoms)])])/\(RM [])/\True/\TT
def VC_l5First_4 (i1:Nat) (t:Int) (a:GAsn) (tm:List Bool) (c:List Int):Prop:=True/\(inK .i64 (((i1:Nat):Int)+(1:Int)))/\True/\(((i1+1):Int)<=t+1/\∀ j,j < (i1+1)->brE (sFin a) a tm c t j=[])/\((t+1).toNat - (i1+1) < (t+1).toNat - i1)/\TT/\(VC_l5First_2 tm c t)/\(([.s (.c (.d (.val (.int .i64 (((i1:Nat):Int)+(1:Int))))))]:List S)=[.s (.c (.d (.val (.int .i64 (((i1+1):Nat):Int)))))])/\(VC_l5First_3 a)
def VC_l5First_5 (c:List Int) (t:Int) (a:GAsn) (tm:List Bool) (i1:Nat) (m:Nat):Prop:=(TN/\True)/\True/\(TN/\TF/\TF/\(([]:List Int).length+c.length<=4294967296))/\True/\True/\True/\True/\(0<=t/\t < (((([]:List Int) ++ c).length:Nat):Int))/\(TF/\TF/\True/\((101104:Nat) ∉ ([]:List Nat)))/\True/\True/\True/\True/\(inK .i64 (t+(1:Int)))/\(((vA a=true/\tm.length=9/\((([]:List Int) ++ c).set t.toNat ((i1:Nat):Int)).length=9/\le8 ((([]:List Int) ++ c).set t.toNat ((i1:Nat):Int))=true/\1<=(t+(1:Int))/\(t+(1:Int))<=9)/\(9 - (t+(1:Int))).toNat < m)/\True/\TN/\True)/\True/\True/\True/\True/\True/\True/\(vcIf (!(sQ (sFin a) a tm ((([]:List Int) ++ c).set t.toNat ((i1:Nat):Int)) (t+(1:Int))).isEmpty) (True/\True/\True/\(((((sQ (sFin a) a tm ((([]:List Int) ++ c).set t.toNat ((i1:Nat):Int)) (t+(1:Int))).headD []),true,()):(List Int) × Bool × Unit)=((sQ (sFin a) a tm c t).headD [],!(sQ (sFin a) a tm c t).isEmpty,()))/\(True/\True)/\((TF/\TF)/\True)/\True/\(True/\True)/\TF) (VC_l5First_4 i1 t a tm c))
def VC_l5First (a:GAsn) (tm:List Bool) (c:List Int) (t:Int) (m:Nat) (k:Nat):Prop:=TN/\TN/\True/\True/\True/\True/\((a.facts.length<=1048576/\a.facts.all fV=true/\c.length=9)/\True/\True)/\True/\True/\(vcIf (!(sFit a.facts c)) (True/\(VC_l5First_1 a tm c t)) (True/\True/\True/\((a.atoms.length<=1048576/\a.atoms.all atV=true/\c.length=9/\le8 c=true)/\True/\True)/\True/\True/\(vcIf (!(sEarly a.atoms c)) (VC_l5First_1 a tm c t) (True/\True/\(vcIf (decide ((8:Int) < t)) (True/\True/\True/\((a.atoms.length<=1048576/\a.atoms.all atV=true/\c.length=9)/\True/\TN/\True)/\(((fL c a.atoms).length<=1048576)/\True/\True)/\(vcIf (sApart (fL c a.atoms)) ((TN/\True)/\True/\(TN/\TF/\TF/\(([]:List Int).length+c.length<=4294967296))/\True/\True/\(((([]:List Int) ++ c,true,()):(List Int) × Bool × Unit)=((sQ (sFin a) a tm c t).headD [],!(sQ (sFin a) a tm c t).isEmpty,()))/\(True/\True)/\((TF/\TF)/\True)/\True/\(True/\True)/\TF) (VC_l5First_1 a tm c t))) (True/\True/\(0<=t/\t < ((tm.length:Nat):Int))/\True/\True/\(vcIf (!(tm.getD t.toNat false)) (True/\True/\True/\True/\(inK .i64 (t+(1:Int)))/\(((vA a=true/\tm.length=9/\c.length=9/\le8 c=true/\1<=(t+(1:Int))/\(t+(1:Int))<=9)/\(9 - (t+(1:Int))).toNat < m)/\True/\TN/\True)/\True/\True/\True/\True/\(((((sQ (sFin a) a tm c (t+(1:Int))).headD []),(!(sQ (sFin a) a tm c (t+(1:Int))).isEmpty),()):(List Int) × Bool × Unit)=((sQ (sFin a) a tm c t).headD [],!(sQ (sFin a) a tm c t).isEmpty,()))/\(True/\True)/\((TF/\TF)/\True)/\True/\(True/\True)/\TF) (True/\(((0:Int)<=t+1/\∀ j,j < 0->brE (sFin a) a tm c t j=[])/\TT/\(VC_l5First_2 tm c t)/\(([.s (.c (.d (.val (.int .i64 (0:Int)))))]:List S)=[.s (.c (.d (.val (.int .i64 ((0:Nat):Int)))))])/\(VC_l5First_3 a))/\(∀ i1:Nat,((i1:Int)<=t+1/\∀ j,j < i1->brE (sFin a) a tm c t j=[])->True/\True/\True/\(vcIf (decide (((i1:Nat):Int)<=t)) (True/\True/\True/\True/\(vcIf (decide (((i1:Nat):Int) < t)) (True/\True/\(0<=((i1:Nat):Int)/\((i1:Nat):Int) < ((c.length:Nat):Int))/\True/\True/\True/\True/\(vcIf ((c.getD i1 (0:Int)) != ((i1:Nat):Int)) (VC_l5First_4 i1 t a tm c) (VC_l5First_5 c t a tm i1 m))) (True/\(VC_l5First_5 c t a tm i1 m)))) (VC_l5First_1 a tm c t)))))))))))
theorem vcn_l5First (a:GAsn) (tm:List Bool) (c:List Int) (t:Int) (m:Nat) (k:Nat) (hp:(vA a=true/\tm.length=9/\c.length=9/\le8 c=true/\1<=t/\t<=9)/\(9 - t).toNat < m+1):VC_l5First a tm c t m k:=by
 unfold VC_l5First VC_l5First_5 VC_l5First_4 VC_l5First_3 VC_l5First_2 VC_l5First_1
 simp only [cln,Nat.reduceEqDiff,Nat.reduceLeDiff,Nat.reduceAdd]
 have hV:=vA_iff.1 hp.1.1
 have hA:(fL c a.atoms).length<=1048576:=Nat.le_trans (fL_len _ _) (Nat.le_trans hV.2.2.2 (by decide))
 all_goals (try simp only [opn])
 all_goals (repeat' (first | apply And.intro | intro _))
 all_goals (repeat (cases ‹_/\_›))
 all_goals (first | omega | rfl | assumption | (simp_all;done) | skip)
 all_goals (first
  | exact hV.1 | exact hV.2.1 | exact Nat.le_trans hV.2.2.1 (by decide) | exact Nat.le_trans hV.2.2.2 (by decide) | exact Nat.le_trans (fL_len _ _) (Nat.le_trans hV.2.2.2 (by decide))
  | (rw [fits_no1 ‹_›];rfl) | (rw [fits_no2 ‹_›];rfl)
  | (rw [last_yes ‹_› ‹_› ‹_› ‹_›];rfl) | (rw [last_no ‹_› ‹_› ‹_› ‹_›];rfl)
  | (rw [sQ_skip (t:=t) ‹_› (by omega) (fits_yes ‹_› ‹_›) ‹_›];done)
  | exact brE_skip ‹_› ‹_› ‹_› _ ‹_›
  | exact brE_none ‹_› ‹_› _ ‹_›
  | exact le8_set ‹_› (by omega)
  | exact (sQ_hit ‹_› (by omega) (fits_yes ‹_› ‹_›) ‹_› ‹_› ‹_› (.inr ‹_›) ‹_›).1.symm
  | exact (sQ_hit ‹_› (by omega) (fits_yes ‹_› ‹_›) ‹_› ‹_› ‹_› (.inl (by omega)) ‹_›).1.symm
  | (rw [(sQ_hit ‹_› (by omega) (fits_yes ‹_› ‹_›) ‹_› ‹_› ‹_› (.inr ‹_›) ‹_›).2];rfl)
  | (rw [(sQ_hit ‹_› (by omega) (fits_yes ‹_› ‹_›) ‹_› ‹_› ‹_› (.inl (by omega)) ‹_›).2];rfl)
  | (rw [sQ_none ‹_› (by omega) (fits_yes ‹_› ‹_›) ‹_› ‹_› ‹_›];rfl)
  | skip)
theorem ok_l5First:FnOk Try.prog E 127 c_l5First :=
 fn_rec (mu:=mu_l5First) (fun m ih=>fn_okQ (con:=c_l5First.lim mu_l5First (m+1)) (fn:=Try.f127) (l:=L_l5First m) (lp:=P_l5First) (hp:=fun _=>false) (gcs:=fun _=>none) (perm:=fun _=>[]) tabOk mix ⟨ok_l5Filled,ih,ok_l5Fits,ok_l5Early,ok_l5Apart,trivial⟩ trivial Try.func127 rfl (by kernel_rfl) (show c_l5First.aks.length<=Try.f127.ntmps by decide) (by kernel_rfl) (anns:=fun x _=>an_l5First x.1 x.2.1 x.2.2.1 x.2.2.2.1) (fun ⟨a,tm,c,t,_⟩ k hp _=>Eq.mp (by kernel_rfl) (vcn_l5First a tm c t m k hp)) tot_fn) ⟨_,_,Try.func127,by kernel_rfl,rfl⟩ tot_fn
abbrev c_sConsistent:Con:=⟨[.asn],[.bool],fun (a,_)=>a.facts.length<=281474976710656/\a.atoms.length<=281474976710656,.inl fun (a,_)=>(asV a && !(casesF a).isEmpty,()),fun _=>0⟩
abbrev L_sConsistent:List (FuncId × Con):=[(74,c_sAssertionValid),(127,c_l5First),(128,c_l3Terms),(129,c_l5Open)]
abbrev P_sConsistent:List (FuncId × PT):=[]
def VC_sConsistent (a:GAsn) (k:Nat):Prop:=TN/\True/\True/\((a.facts.length<=281474976710656/\a.atoms.length<=281474976710656)/\True/\True)/\True/\(vcIf (!(asV a)) (True/\(((false,()):Bool × Unit)=(asV a && !(casesF a).isEmpty,()))/\True/\True/\True/\True/\TF) (True/\True/\((asV a=true ∨ vA a=true)/\True/\TN/\True)/\(True/\True/\TN/\True)/\((vA a=true/\(fl9 (occ a)).length=9/\opens.length=9/\le8 opens=true/\1<=(1:Int)/\(1:Int)<=9)/\True/\TN/\True)/\True/\True/\True/\True/\True/\True/\True/\((((!(sQ (sFin a) a (fl9 (occ a)) opens (1:Int)).isEmpty),()):Bool × Unit)=(asV a && !(casesF a).isEmpty,()))/\True/\True/\True/\True/\TF))
theorem vcn_sConsistent (a:GAsn) (k:Nat) (hp:a.facts.length<=281474976710656/\a.atoms.length<=281474976710656):VC_sConsistent a k:=by
 unfold VC_sConsistent
 simp only [cln,Nat.reduceEqDiff,Nat.reduceLeDiff,Nat.reduceAdd]
 all_goals (try simp only [opn])
 all_goals (repeat' (first | apply And.intro | intro _))
 all_goals (repeat (cases ‹_/\_›))
 all_goals (first | omega | rfl | assumption | (simp_all;done) | skip)
 all_goals (have ha:=(by assumption:asV a=true))
 all_goals (first | exact vA_of ha | (rw [sCases ha,ha];rfl) | skip)
theorem ok_sConsistent:FnOk Try.prog E 90 c_sConsistent :=
 fn_okQ (l:=L_sConsistent) (lp:=P_sConsistent) (hp:=fun _=>false) (gcs:=fun _=>none) (perm:=fun _=>[]) tabOk mix ⟨ok_sAssertionValid,ok_l5First,ok_l3Terms,ok_l5Open,trivial⟩ trivial Try.func90 rfl (by kernel_rfl) (by decide) (by kernel_rfl) (anns:=fun x _=>fun _ _=>none) (fun ⟨a,_⟩ k hp _=>Eq.mp (by kernel_rfl) (vcn_sConsistent a k hp)) tot_fn
abbrev c_sMissingOf:Con:=⟨[.asn,.asn],[.asn,.asn,.bool],fun (a,b,_)=>a.facts.length<=281474976710656/\a.atoms.length<=281474976710656/\b.facts.length<=281474976710656/\b.atoms.length<=281474976710656,.inl fun (a,b,_)=>(miL a b,miF a b,miB a b,()),fun _=>0⟩
abbrev L_sMissingOf:List (FuncId × Con):=[(74,c_sAssertionValid),(75,c_l7Pick),(83,c_l7Frame),(87,c_l3Star),(90,c_sConsistent)]
abbrev P_sMissingOf:List (FuncId × PT):=[]
def an_sMissingOf (a:GAsn) (b:GAsn):Nat->St->Option Ann
 | 4,se=>some { α:=Nat,ok:=fun i=>(i:Int)<=pkTop b/\miN a b i=true,mu:=fun i=>(pkTop b).toNat - i,i0:=fun _=>0,nx:=fun a _=>(fun i=>i+1) a,live:=[2,3,4,5],sets:=fun i=>[(7,sv (.int .i64 i))],mids:=[47,63,64,65,79,80,81,95],blks:=fun i=>[],owns:=fun i=>[],rd:=fun r _=>r,base:=100000 }
 | _,_=>none
def perm_sMissingOf:Nat->List (List Nat)
 | 11=>[[0,1,2,3,4],[1,0,2,3,4],[0,2,1,3,4]]
 | _=>[]
def VC_sMissingOf_1 (a:GAsn) (b:GAsn):Prop:=(((⟨([]:List GFact),([]:List GAtom)⟩:GAsn),(⟨([]:List GFact),([]:List GAtom)⟩:GAsn),false,()):GAsn × GAsn × Bool × Unit)=(miL a b,miF a b,miB a b,())
def VC_sMissingOf_2 :Prop:=((TF/\TF)/\(TF/\TF)/\(TF/\TF)/\(TF/\TF)/\True)/\True/\(True/\True/\True/\True/\True)/\TF
def VC_sMissingOf_3 (a:GAsn) (b:GAsn):Prop:=(TN/\TN/\True)/\(TN/\TN/\True)/\(TF/\TF)/\(TF/\TF)/\True/\(VC_sMissingOf_1 a b)/\((((320:Nat) ≠ 321)/\((320:Nat) ≠ 336)/\((320:Nat) ≠ 337)/\True)/\(((321:Nat) ≠ 336)/\((321:Nat) ≠ 337)/\True)/\(((336:Nat) ≠ 337)/\True)/\True/\True)/\VC_sMissingOf_2
def VC_sMissingOf_4 (a:GAsn) (b:GAsn):Prop:=(RM [some (.blk [.d (.arr .fact a.facts),.d (.arr .atom a.atoms)]),some (.blk [.d (.arr .fact b.facts),.d (.arr .atom b.atoms)]),some (.sl 64 .fact ([]:List GFact)),some (.sl 65 .atom ([]:List GAtom)),some (.blk [.own 64,.own 65]),some (.sl 80 .fact ([]:List GFact)),some (.sl 81 .atom ([]:List GAtom)),some (.blk [.own 80,.own 81])])/\(RM [])/\True/\TT
def VC_sMissingOf_5 (a:GAsn) (i1:Nat) (b:GAsn):Prop:=((⟨(a.facts ++ (⟨[],(pkA ((i1:Nat):Int) b.atoms)⟩:GAsn).facts),(a.atoms ++ (⟨[],(pkA ((i1:Nat):Int) b.atoms)⟩:GAsn).atoms)⟩:GAsn).facts.length<=281474976710656/\(⟨(a.facts ++ (⟨[],(pkA ((i1:Nat):Int) b.atoms)⟩:GAsn).facts),(a.atoms ++ (⟨[],(pkA ((i1:Nat):Int) b.atoms)⟩:GAsn).atoms)⟩:GAsn).atoms.length<=281474976710656)/\True/\True
def VC_sMissingOf_6 (i1:Nat) (b:GAsn) (a:GAsn):Prop:=True/\(inK .i64 (((i1:Nat):Int)+(1:Int)))/\True/\(((i1+1):Int)<=pkTop b/\miN a b (i1+1)=true)/\((pkTop b).toNat - (i1+1) < (pkTop b).toNat - i1)/\TT/\(RL [.s (.c (.ptr 47 0)),.s (.c (.ptr 63 0)),.s (.c (.ptr 79 0)),.s (.c (.ptr 95 0))])/\(([.s (.c (.d (.val (.int .i64 (((i1:Nat):Int)+(1:Int))))))]:List S)=[.s (.c (.d (.val (.int .i64 (((i1+1):Nat):Int)))))])/\(VC_sMissingOf_4 a b)
def VC_sMissingOf_7 (i1:Nat) (b:GAsn) (a:GAsn):Prop:=(TF/\TF)/\True/\((((⟨[],(pkA ((i1:Nat):Int) b.atoms)⟩:GAsn),(frmL (⟨(a.facts ++ (⟨[],(pkA ((i1:Nat):Int) b.atoms)⟩:GAsn).facts),(a.atoms ++ (⟨[],(pkA ((i1:Nat):Int) b.atoms)⟩:GAsn).atoms)⟩:GAsn) b),true,()):GAsn × GAsn × Bool × Unit)=(miL a b,miF a b,miB a b,()))/\((((100512:Nat) ≠ 100513)/\((100512:Nat) ≠ 100752)/\((100512:Nat) ≠ 100753)/\True)/\(((100513:Nat) ≠ 100752)/\((100513:Nat) ≠ 100753)/\True)/\(((100752:Nat) ≠ 100753)/\True)/\True/\True)/\VC_sMissingOf_2
def VC_sMissingOf_8 (i1:Nat) (b:GAsn) (a:GAsn):Prop:=True/\True/\(TF/\TF)/\(VC_sMissingOf_7 i1 b a)
def VC_sMissingOf (a:GAsn) (b:GAsn) (k:Nat):Prop:=TN/\TN/\(TN/\TN/\TN/\True)/\(TN/\TN/\TN/\True)/\True/\True/\((a.facts.length<=281474976710656/\a.atoms.length<=281474976710656)/\True/\True)/\True/\True/\(vcIf (!(asV a)) (True/\(VC_sMissingOf_3 a b)) (True/\((b.facts.length<=281474976710656/\b.atoms.length<=281474976710656)/\True/\True)/\True/\True/\(vcIf (!(asV b)) (VC_sMissingOf_3 a b) (True/\(((0:Int)<=pkTop b/\miN a b 0=true)/\TT/\(RL [.s (.c (.ptr 47 0)),.s (.c (.ptr 63 0)),.s (.c (.ptr 79 0)),.s (.c (.ptr 95 0))])/\(([.s (.c (.d (.val (.int .i64 (0:Int)))))]:List S)=[.s (.c (.d (.val (.int .i64 ((0:Nat):Int)))))])/\(VC_sMissingOf_4 a b))/\(∀ i1:Nat,((i1:Int)<=pkTop b/\miN a b i1=true)->True/\True/\True/\True/\(0<=((b.atoms.length:Nat):Int))/\True/\(vcIf (decide (((i1:Nat):Int) < (IntKind.wrap .i64 ((1:Int) * 2 ^ (min b.atoms.length (IntKind.bits .i64)))))) (True/\True/\((b.facts.length<=1048576/\b.atoms.length<=1048576)/\True/\TN/\TN/\True)/\(TN/\TN/\TN/\True)/\(TF/\TF)/\True/\True/\((a.facts.length<=1048576/\a.atoms.length<=1048576/\(⟨[],(pkA ((i1:Nat):Int) b.atoms)⟩:GAsn).facts.length<=1048576/\(⟨[],(pkA ((i1:Nat):Int) b.atoms)⟩:GAsn).atoms.length<=1048576)/\True/\TN/\TN/\True)/\(TN/\TN/\TN/\True)/\(TF/\TF)/\True/\(VC_sMissingOf_5 a i1 b)/\True/\True/\(vcIf (!(asV (⟨(a.facts ++ (⟨[],(pkA ((i1:Nat):Int) b.atoms)⟩:GAsn).facts),(a.atoms ++ (⟨[],(pkA ((i1:Nat):Int) b.atoms)⟩:GAsn).atoms)⟩:GAsn))) (True/\(VC_sMissingOf_6 i1 b a)) (True/\(VC_sMissingOf_5 a i1 b)/\True/\True/\(vcIf (!(asV (⟨(a.facts ++ (⟨[],(pkA ((i1:Nat):Int) b.atoms)⟩:GAsn).facts),(a.atoms ++ (⟨[],(pkA ((i1:Nat):Int) b.atoms)⟩:GAsn).atoms)⟩:GAsn) && !(casesF (⟨(a.facts ++ (⟨[],(pkA ((i1:Nat):Int) b.atoms)⟩:GAsn).facts),(a.atoms ++ (⟨[],(pkA ((i1:Nat):Int) b.atoms)⟩:GAsn).atoms)⟩:GAsn)).isEmpty)) (VC_sMissingOf_6 i1 b a) (True/\True/\((asV (⟨(a.facts ++ (⟨[],(pkA ((i1:Nat):Int) b.atoms)⟩:GAsn).facts),(a.atoms ++ (⟨[],(pkA ((i1:Nat):Int) b.atoms)⟩:GAsn).atoms)⟩:GAsn)=true/\asV b=true)/\True/\TN/\TN/\True)/\True/\True/\True/\(TN/\TN/\TN/\True)/\(TF/\TF)/\True/\True/\(vcIf (frmB (⟨(a.facts ++ (⟨[],(pkA ((i1:Nat):Int) b.atoms)⟩:GAsn).facts),(a.atoms ++ (⟨[],(pkA ((i1:Nat):Int) b.atoms)⟩:GAsn).atoms)⟩:GAsn) b) ((VC_sMissingOf_8 i1 b a)/\(VC_sMissingOf_8 i1 b a)/\(True/\(TF/\TF)/\True/\(VC_sMissingOf_7 i1 b a))/\True) (VC_sMissingOf_6 i1 b a))))))) ((TN/\TN/\True)/\(TN/\TN/\True)/\(TF/\TF)/\(TF/\TF)/\True/\(VC_sMissingOf_1 a b)/\((((100848:Nat) ≠ 100849)/\((100848:Nat) ≠ 100864)/\((100848:Nat) ≠ 100865)/\True)/\(((100849:Nat) ≠ 100864)/\((100849:Nat) ≠ 100865)/\True)/\(((100864:Nat) ≠ 100865)/\True)/\True/\True)/\VC_sMissingOf_2)))))))
theorem vcn_sMissingOf (a:GAsn) (b:GAsn) (k:Nat) (hp:a.facts.length<=281474976710656/\a.atoms.length<=281474976710656/\b.facts.length<=281474976710656/\b.atoms.length<=281474976710656):VC_sMissingOf a b k:=by
 unfold VC_sMissingOf VC_sMissingOf_8 VC_sMissingOf_7 VC_sMissingOf_6 VC_sMissingOf_5 VC_sMissingOf_4 VC_sMissingOf_3 VC_sMissingOf_2 VC_sMissingOf_1
 simp only [cln,Nat.reduceEqDiff,Nat.reduceLeDiff,Nat.reduceAdd]
 all_goals (try simp only [opn])
 all_goals (try simp only [pkTop_w])
 all_goals (repeat' (first | apply And.intro | intro _))
 all_goals (repeat (cases ‹_/\_›))
 all_goals (first | with_reducible exact True.intro | (exfalso;contradiction) | omega | with_reducible assumption | with_reducible rfl | skip)
 all_goals (first | with_reducible exact (mi_n1 ‹_›).1 | with_reducible exact (mi_n1 ‹_›).2.1 | with_reducible exact (mi_n1 ‹_›).2.2 | with_reducible exact (mi_n2 ‹_›).1 | with_reducible exact (mi_n2 ‹_›).2.1 | with_reducible exact (mi_n2 ‹_›).2.2 | skip)
 all_goals (have hA:=fo_len6 ‹asV a=true›;have hB:=fo_len6 ‹asV b=true›;have hT:=pkTop_eq ‹asV b=true›)
 all_goals (try (have e:=popc_eq ‹asV b=true› ‹((_:Nat):Int) < pkTop b›;simp only [e] at *;clear e))
 all_goals (first
  | omega | rfl
  | (with_reducible refine Nat.le_trans (m:=200) ?_ (by decide);first | with_reducible exact mxs200F (by omega) | with_reducible exact mxa200 (by omega) (by omega) | with_reducible exact mxs200A (by omega) (by omega) | with_reducible exact pk200 (by omega))
  | with_reducible exact miN_step ‹_› (mxN1 ‹_› ‹_› ‹_›) | with_reducible exact miN_step ‹_› (mxN2 ‹_› ‹_›) | with_reducible exact miN_step ‹_› (mxN3 ‹_› ‹_›)
  | with_reducible exact miN_step ‹_› (mxM1 ‹_›) | with_reducible exact miN_step ‹_› (mxM2 ‹_›) | with_reducible exact miN_step ‹_› (mxM3 ‹_›)
  | with_reducible exact (mi_none ‹_› ‹_› ‹_› ‹_›).1 | with_reducible exact (mi_none ‹_› ‹_› ‹_› ‹_›).2.1 | with_reducible exact (mi_none ‹_› ‹_› ‹_› ‹_›).2.2
  | with_reducible exact (mi_sf ‹_› ‹_› ‹_› ‹_› ‹_› ‹_›).1 | with_reducible exact (mi_sf ‹_› ‹_› ‹_› ‹_› ‹_› ‹_›).2.1 | with_reducible exact (mi_sf ‹_› ‹_› ‹_› ‹_› ‹_› ‹_›).2.2
  | with_reducible exact (mi_if ‹_› ‹_› ‹_› ‹_› ‹_› ‹_› ‹_›).1 | with_reducible exact (mi_if ‹_› ‹_› ‹_› ‹_› ‹_› ‹_› ‹_›).2.1 | with_reducible exact (mi_if ‹_› ‹_› ‹_› ‹_› ‹_› ‹_› ‹_›).2.2
  | skip)
theorem ok_sMissingOf:FnOk Try.prog E 43 c_sMissingOf :=
 fn_okQ (l:=L_sMissingOf) (lp:=P_sMissingOf) (hp:=fun _=>false) (gcs:=fun _=>none) (perm:=perm_sMissingOf) tabOk mix ⟨ok_sAssertionValid,ok_l7Pick,ok_l7Frame,ok_l3Star,ok_sConsistent,trivial⟩ trivial Try.func43 rfl (by kernel_rfl) (by decide) (by kernel_rfl) (anns:=fun x _=>an_sMissingOf x.1 x.2.1) (fun ⟨a,b,_⟩ k hp _=>Eq.mp (by kernel_rfl) (vcn_sMissingOf a b k hp)) tot_fn
end Go.Proofs.Ytopjgjelkpkmmaa
