/-
  Contracts of single functions of the program, each shown by the engine: what a call returns for arguments within the contract's bounds.
-/
import Derived.Test.YtopjgjelkpkmmaaFFnExactCounterModela
import Derived.Test.YtopjgjelkpkmmaaFFnExactCounterModeld
import Derived.Test.YtopjgjelkpkmmaaEd
import Derived.Test.YtopjgjelkpkmmaaEe
set_option linter.unusedSimpArgs false
set_option linter.unusedVariables false
set_option linter.unusedSectionVars false

namespace Go.Proofs.Ytopjgjelkpkmmaa
open Go.SE Go.RowKit
set_option linter.unusedSimpArgs false
set_option linter.unusedVariables false
set_option maxHeartbeats 1000000
set_option maxRecDepth 100000
abbrev m_l6Chain:MCon:=⟨[.sl .atom],.bool,[.int,.int],fun (l,_) u (q,y,_)=>l.length<=6/\u.length=l.length,fun (l,_) u (q,y,_)=>.bool (rchB l u q y),fun (l,_) u (q,y,_)=>rchU l u q y⟩
abbrev pt_l6Chain:PT:=ptM m_l6Chain
abbrev L_l6Chain:List (FuncId × Con):=[(167,c_l6Find),(168,c_l5Begins)]
abbrev P_l6Chain:List (FuncId × PT):=[]
def an_l6Chain (l:List GAtom) (u:List Bool) (q:Int) (y:Int):Nat->St->Option Ann
 | 1,se=>some { α:=Nat × List Bool × Int,ok:=fun p=>rcI l u q y p.1 p.2.1 p.2.2,mu:=fun p=>7 - p.1,i0:=fun st=>(0,slAt .bool st (.slot 1),intAt st 2),nx:=fun p st=>(p.1+1,slAt .bool st (.slot 1),intAt st 2),live:=[0,3],sets:=fun p=>[(2,sv (.int .i64 p.2.2))],mids:=[],blks:=fun p=>[],owns:=fun p=>[⟨7,.slot 1,.bool,p.2.1⟩],rd:=fun r _=>r,base:=100000 }
 | _,_=>none
def VC_l6Chain_1 (l:List GAtom) (u:List Bool) (q:Int) (y:Int) (p1:Nat × List Bool × Int):Prop:=True/\((some [.c (.d (.val (.bool false)))]:Option (List S0))=some [.c (.d (.val (.bool (rchB l u q y))))])/\((some p1.2.1:Option (List Bool))=some (rchU l u q y))
def VC_l6Chain_2 (l:List GAtom) (p1:Nat × List Bool × Int):Prop:=0<=(fdI l p1.2.1 (p1.2.2:Int))/\(fdI l p1.2.1 (p1.2.2:Int)) < ((l.length:Nat):Int)
def VC_l6Chain_3 (l:List GAtom) (p1:Nat × List Bool × Int) (u:List Bool) (q:Int) (y:Int):Prop:=True/\True/\(0<=(fdI l p1.2.1 (p1.2.2:Int))/\(fdI l p1.2.1 (p1.2.2:Int)) < ((p1.2.1.length:Nat):Int))/\(TF/\TF/\True/\((7:Nat) ∉ ([]:List Nat)))/\True/\True/\(VC_l6Chain_2 l p1)/\True/\True/\True/\(rcI l u q y (p1.1+1,(p1.2.1.set (fdI l p1.2.1 (p1.2.2:Int)).toNat true),((l.getD (fdI l p1.2.1 (p1.2.2:Int)).toNat (⟨0,0,0⟩:GAtom)).b)).1 (p1.1+1,(p1.2.1.set (fdI l p1.2.1 (p1.2.2:Int)).toNat true),((l.getD (fdI l p1.2.1 (p1.2.2:Int)).toNat (⟨0,0,0⟩:GAtom)).b)).2.1 (p1.1+1,(p1.2.1.set (fdI l p1.2.1 (p1.2.2:Int)).toNat true),((l.getD (fdI l p1.2.1 (p1.2.2:Int)).toNat (⟨0,0,0⟩:GAtom)).b)).2.2)/\(7 - (p1.1+1,(p1.2.1.set (fdI l p1.2.1 (p1.2.2:Int)).toNat true),((l.getD (fdI l p1.2.1 (p1.2.2:Int)).toNat (⟨0,0,0⟩:GAtom)).b)).1 < 7 - p1.1)/\TT/\(RL [.s (.c (.d (.arr .atom l))),.s (.c (.d (.val (.int .i64 y))))])/\(([.s (.c (.d (.val (.int .i64 ((l.getD (fdI l p1.2.1 (p1.2.2:Int)).toNat (⟨0,0,0⟩:GAtom)).b)))))]:List S)=[.s (.c (.d (.val (.int .i64 ((p1.1+1,(p1.2.1.set (fdI l p1.2.1 (p1.2.2:Int)).toNat true),((l.getD (fdI l p1.2.1 (p1.2.2:Int)).toNat (⟨0,0,0⟩:GAtom)).b)).2.2:Int)))))])/\(RM [])/\(RM [])/\(((some (p1.2.1.set (fdI l p1.2.1 (p1.2.2:Int)).toNat true):Option (List Bool))=some ((p1.1+1,(p1.2.1.set (fdI l p1.2.1 (p1.2.2:Int)).toNat true),((l.getD (fdI l p1.2.1 (p1.2.2:Int)).toNat (⟨0,0,0⟩:GAtom)).b)).2.1))/\True)/\TT
def VC_l6Chain_4 (l:List GAtom) (p1:Nat × List Bool × Int) (u:List Bool) (q:Int) (y:Int):Prop:=True/\(VC_l6Chain_3 l p1 u q y)
def VC_l6Chain_5 (l:List GAtom) (p1:Nat × List Bool × Int) (u:List Bool) (q:Int) (y:Int):Prop:=True/\True/\(VC_l6Chain_4 l p1 u q y)
def VC_l6Chain (l:List GAtom) (u:List Bool) (q:Int) (y:Int) (k:Nat):Prop:=True/\((rcI l u q y (0,u,q).1 (0,u,q).2.1 (0,u,q).2.2)/\TT/\(RL [.s (.c (.d (.arr .atom l))),.s (.c (.d (.val (.int .i64 y))))])/\(([.s (.c (.d (.val (.int .i64 q))))]:List S)=[.s (.c (.d (.val (.int .i64 ((0,u,q).2.2:Int)))))])/\(RM [])/\(RM [])/\(((some u:Option (List Bool))=some ((0,u,q).2.1))/\True)/\TT)/\(∀ p1:Nat × List Bool × Int,(rcI l u q y p1.1 p1.2.1 p1.2.2)->True/\True/\True/\(vcIf ((p1.2.2:Int) != y) (True/\True/\True/\((l.length<=1048576/\p1.2.1.length=l.length)/\True/\True)/\True/\True/\True/\(vcIf (decide ((fdI l p1.2.1 (p1.2.2:Int)) < (0:Int))) (VC_l6Chain_1 l u q y p1) (True/\True/\(VC_l6Chain_2 l p1)/\True/\True/\True/\True/\(vcIf (((l.getD (fdI l p1.2.1 (p1.2.2:Int)).toNat (⟨0,0,0⟩:GAtom)).kind) == (2:Int)) (True/\True/\(VC_l6Chain_2 l p1)/\True/\True/\True/\True/\True/\True/\(vcIf (((l.getD (fdI l p1.2.1 (p1.2.2:Int)).toNat (⟨0,0,0⟩:GAtom)).b) != y) (True/\True/\True/\True/\(vcIf (y != (0:Int)) (True/\True/\((l.length<=1048576)/\True/\True)/\True/\True/\(vcIf (!(bgn l y)) (VC_l6Chain_1 l u q y p1) (VC_l6Chain_3 l p1 u q y))) (VC_l6Chain_4 l p1 u q y))) (VC_l6Chain_5 l p1 u q y))) (True/\True/\(VC_l6Chain_5 l p1 u q y)))))) (True/\((some [.c (.d (.val (.bool true)))]:Option (List S0))=some [.c (.d (.val (.bool (rchB l u q y))))])/\((some p1.2.1:Option (List Bool))=some (rchU l u q y)))))
theorem vcn_l6Chain (l:List GAtom) (u:List Bool) (q:Int) (y:Int) (k:Nat) (hp:l.length<=6/\u.length=l.length):VC_l6Chain l u q y k:=by
 unfold VC_l6Chain VC_l6Chain_5 VC_l6Chain_4 VC_l6Chain_3 VC_l6Chain_2 VC_l6Chain_1
 simp only [cln,Nat.reduceEqDiff,Nat.reduceLeDiff,Nat.reduceAdd]
 have hl:=hp.1
 all_goals (try simp only [opn])
 all_goals (repeat' (first | apply And.intro | intro _))
 all_goals (try (have h7:=‹rcI _ _ _ _ _ _ _›))
 all_goals (first | omega | rfl | assumption | exact rcI_zero hp.2 | exact h7.len | (simp_all;done) | skip)
 all_goals (first
  | exact (rc_end h7 hl ‹_›).1.symm | exact (rc_end h7 hl ‹_›).2.symm
  | exact (rc_no h7 hl ‹_› ‹_›).1.symm | exact (rc_no h7 hl ‹_› ‹_›).2.symm
  | exact (rc_open h7 hl ‹_› ‹_› ‹_› ‹_› (cl3 ‹_› ‹_›)).1.symm
  | exact (rc_open h7 hl ‹_› ‹_› ‹_› ‹_› (cl3 ‹_› ‹_›)).2.symm
  | exact (rc_go h7 hl ‹_› ‹_› (.inr (.inl ‹_›))).1
  | exact (rc_go h7 hl ‹_› ‹_› (.inl ‹_›)).1
  | exact (rc_go h7 hl ‹_› ‹_› (.inr (.inr (cl1 ‹_›)))).1
  | exact (rc_go h7 hl ‹_› ‹_› (.inr (.inr (cl2 ‹_›)))).1
  | (have h:=(rc_go h7 hl ‹_› ‹_› (.inr (.inl ‹_›))).2;omega)
  | (have h:=(rc_go h7 hl ‹_› ‹_› (.inl ‹_›)).2;omega)
  | (have h:=(rc_go h7 hl ‹_› ‹_› (.inr (.inr (cl1 ‹_›)))).2;omega)
  | (have h:=(rc_go h7 hl ‹_› ‹_› (.inr (.inr (cl2 ‹_›)))).2;omega)
  | (have h9:=fd_bd ‹¬ fdI _ _ _ < 0›;have h10:=h7.len;omega)
  | skip)
theorem ptok_l6Chain:PTOk Try.prog E 166 pt_l6Chain :=
 mut_ok (l:=L_l6Chain) (lp:=P_l6Chain) (hp:=fun _=>false) (perm:=fun _=>[]) tabOk mix ⟨ok_l6Find,ok_l5Begins,trivial⟩ trivial Try.func166 rfl (by kernel_rfl) rfl (by decide) (by kernel_rfl) (anns:=fun x l y=>an_l6Chain x.1 l y.1 y.2.1) (fun ⟨l,_⟩ u ⟨q,y,_⟩ hp=>Eq.mp (by kernel_rfl) (vcn_l6Chain l u q y 0 hp))
abbrev c_l6Match:Con:=⟨[.sl .atom,.sl .atom],[.bool],fun (l,g,_)=>l.length<=6/\g.length<=6,.inl fun (l,g,_)=>(rmM l g,()),fun _=>0⟩
abbrev L_l6Match:List (FuncId × Con):=[(167,c_l6Find)]
abbrev P_l6Match:List (FuncId × PT):=[(166,pt_l6Chain)]
def hp_l6Match:Nat->Bool
 | 6=>true
 | _=>false
def VC_l6Match_1 (l:List GAtom) (g:List GAtom):Prop:=TT/\True/\((none:Option Nat)=none)/\(((false,()):Bool × Unit)=(rmM l g,()))/\True/\True/\True/\True/\TF
def VC_l6Match_2 (g:List GAtom) (p1:Nat × List Bool) (l:List GAtom):Prop:=(True/\(vcIf (((g.getD (p1.1:Int).toNat (⟨0,0,0⟩:GAtom)).kind) == (2:Int)) (TT/\True/\True/\True/\True/\(0<=(p1.1:Int)/\(p1.1:Int) < ((g.length:Nat):Int))/\True/\True/\True/\True/\(0<=(p1.1:Int)/\(p1.1:Int) < ((g.length:Nat):Int))/\True/\True/\TF/\TF/\True/\True/\(l.length<=6/\p1.2.length=l.length)/\True/\(vcIf (!(rchB l p1.2 ((g.getD (p1.1:Int).toNat (⟨0,0,0⟩:GAtom)).a) ((g.getD (p1.1:Int).toNat (⟨0,0,0⟩:GAtom)).b))) (VC_l6Match_1 l g) (TT/\True/\(inK .i64 ((p1.1:Int)+(1:Int)))/\True/\((p1.1+1,(rchU l p1.2 ((g.getD (p1.1:Int).toNat (⟨0,0,0⟩:GAtom)).a) ((g.getD (p1.1:Int).toNat (⟨0,0,0⟩:GAtom)).b))).1<=g.length/\rmI l g (p1.1+1,(rchU l p1.2 ((g.getD (p1.1:Int).toNat (⟨0,0,0⟩:GAtom)).a) ((g.getD (p1.1:Int).toNat (⟨0,0,0⟩:GAtom)).b))).1 (p1.1+1,(rchU l p1.2 ((g.getD (p1.1:Int).toNat (⟨0,0,0⟩:GAtom)).a) ((g.getD (p1.1:Int).toNat (⟨0,0,0⟩:GAtom)).b))).2)/\((false:Bool)=false)/\(g.length - (p1.1+1,(rchU l p1.2 ((g.getD (p1.1:Int).toNat (⟨0,0,0⟩:GAtom)).a) ((g.getD (p1.1:Int).toNat (⟨0,0,0⟩:GAtom)).b))).1 < g.length - p1.1)/\TT/\(RL [.s (.c (.d (.arr .atom l))),.s (.c (.d (.arr .atom g)))])/\(([.s (.c (.d (.val (.int .i64 ((p1.1:Int)+(1:Int))))))]:List S)=[.s (.c (.d (.val (.int .i64 ((p1.1+1,(rchU l p1.2 ((g.getD (p1.1:Int).toNat (⟨0,0,0⟩:GAtom)).a) ((g.getD (p1.1:Int).toNat (⟨0,0,0⟩:GAtom)).b))).1:Int)))))])/\(RM [])/\(RM [])/\(((some (rchU l p1.2 ((g.getD (p1.1:Int).toNat (⟨0,0,0⟩:GAtom)).a) ((g.getD (p1.1:Int).toNat (⟨0,0,0⟩:GAtom)).b)):Option (List Bool))=some ((p1.1+1,(rchU l p1.2 ((g.getD (p1.1:Int).toNat (⟨0,0,0⟩:GAtom)).a) ((g.getD (p1.1:Int).toNat (⟨0,0,0⟩:GAtom)).b))).2))/\True)/\TT))) (TT/\True/\True/\True/\True/\(0<=(p1.1:Int)/\(p1.1:Int) < ((g.length:Nat):Int))/\True/\True/\((l.length<=1048576/\p1.2.length=l.length)/\True/\True)/\True/\TT/\True/\True/\True/\(vcIf (decide ((fdI l p1.2 ((g.getD (p1.1:Int).toNat (⟨0,0,0⟩:GAtom)).a)) < (0:Int))) (True/\(VC_l6Match_1 l g)) (True/\True/\(0<=(fdI l p1.2 ((g.getD (p1.1:Int).toNat (⟨0,0,0⟩:GAtom)).a))/\(fdI l p1.2 ((g.getD (p1.1:Int).toNat (⟨0,0,0⟩:GAtom)).a)) < ((l.length:Nat):Int))/\True/\True/\True/\(0<=(p1.1:Int)/\(p1.1:Int) < ((g.length:Nat):Int))/\True/\True/\True/\(vcIf (!((((l.getD (fdI l p1.2 ((g.getD (p1.1:Int).toNat (⟨0,0,0⟩:GAtom)).a)).toNat (⟨0,0,0⟩:GAtom)).kind) == ((g.getD (p1.1:Int).toNat (⟨0,0,0⟩:GAtom)).kind)) && ((((l.getD (fdI l p1.2 ((g.getD (p1.1:Int).toNat (⟨0,0,0⟩:GAtom)).a)).toNat (⟨0,0,0⟩:GAtom)).a) == ((g.getD (p1.1:Int).toNat (⟨0,0,0⟩:GAtom)).a)) && ((((l.getD (fdI l p1.2 ((g.getD (p1.1:Int).toNat (⟨0,0,0⟩:GAtom)).a)).toNat (⟨0,0,0⟩:GAtom)).b) == ((g.getD (p1.1:Int).toNat (⟨0,0,0⟩:GAtom)).b)) && true)))) (VC_l6Match_1 l g) (TT/\True/\True/\(0<=(fdI l p1.2 ((g.getD (p1.1:Int).toNat (⟨0,0,0⟩:GAtom)).a))/\(fdI l p1.2 ((g.getD (p1.1:Int).toNat (⟨0,0,0⟩:GAtom)).a)) < ((p1.2.length:Nat):Int))/\(TF/\TF/\True/\((7:Nat) ∉ ([]:List Nat)))/\TT/\True/\(inK .i64 ((p1.1:Int)+(1:Int)))/\True/\((p1.1+1,(p1.2.set (fdI l p1.2 ((g.getD (p1.1:Int).toNat (⟨0,0,0⟩:GAtom)).a)).toNat true)).1<=g.length/\rmI l g (p1.1+1,(p1.2.set (fdI l p1.2 ((g.getD (p1.1:Int).toNat (⟨0,0,0⟩:GAtom)).a)).toNat true)).1 (p1.1+1,(p1.2.set (fdI l p1.2 ((g.getD (p1.1:Int).toNat (⟨0,0,0⟩:GAtom)).a)).toNat true)).2)/\((false:Bool)=false)/\(g.length - (p1.1+1,(p1.2.set (fdI l p1.2 ((g.getD (p1.1:Int).toNat (⟨0,0,0⟩:GAtom)).a)).toNat true)).1 < g.length - p1.1)/\TT/\(RL [.s (.c (.d (.arr .atom l))),.s (.c (.d (.arr .atom g)))])/\(([.s (.c (.d (.val (.int .i64 ((p1.1:Int)+(1:Int))))))]:List S)=[.s (.c (.d (.val (.int .i64 ((p1.1+1,(p1.2.set (fdI l p1.2 ((g.getD (p1.1:Int).toNat (⟨0,0,0⟩:GAtom)).a)).toNat true)).1:Int)))))])/\(RM [])/\(RM [])/\(((some (p1.2.set (fdI l p1.2 ((g.getD (p1.1:Int).toNat (⟨0,0,0⟩:GAtom)).a)).toNat true):Option (List Bool))=some ((p1.1+1,(p1.2.set (fdI l p1.2 ((g.getD (p1.1:Int).toNat (⟨0,0,0⟩:GAtom)).a)).toNat true)).2))/\True)/\TT)))))))
def VC_l6Match (l:List GAtom) (g:List GAtom) (k:Nat):Prop:=TT/\True/\TT/\True/\True/\(TN/\(0<=((l.length:Nat):Int)/\((l.length:Nat):Int)<=((l.length:Nat):Int)/\((l.length:Nat):Int)<=4294967296))/\True/\TT/\True/\(((0,(List.replicate l.length false)).1<=g.length/\rmI l g (0,(List.replicate l.length false)).1 (0,(List.replicate l.length false)).2)/\((false:Bool)=false)/\TT/\(RL [.s (.c (.d (.arr .atom l))),.s (.c (.d (.arr .atom g)))])/\(([.s (.c (.d (.val (.int .i64 (0:Int)))))]:List S)=[.s (.c (.d (.val (.int .i64 ((0,(List.replicate l.length false)).1:Int)))))])/\(RM [])/\(RM [])/\(((some (List.replicate l.length false):Option (List Bool))=some ((0,(List.replicate l.length false)).2))/\True)/\TT)/\(∀ p1:Nat × List Bool,(p1.1<=g.length/\rmI l g p1.1 p1.2)->TT/\True/\True/\True/\True/\(vcIf (decide ((p1.1:Int) < ((g.length:Nat):Int))) (TT/\True/\True/\(0<=(p1.1:Int)/\(p1.1:Int) < ((g.length:Nat):Int))/\True/\True/\(VC_l6Match_2 g p1 l)) (TT/\True/\((0<=(p1.2).length/\(List.take 0 (p1.2)).all id=true)/\((false:Bool)=false)/\TT/\(RL [.s (.c (.own 7))])/\(([.s (.c (.d (.val (.int .i64 (0:Int)))))]:List S)=[.s (.c (.d (.val (.int .i64 ((0:Nat):Int)))))])/\(RM [some (.sl 7 .bool p1.2)])/\(RM [])/\True/\TT)/\(∀ j2:Nat,(j2<=(p1.2).length/\(List.take j2 (p1.2)).all id=true)->TT/\True/\True/\True/\True/\(vcIf (decide (((j2:Nat):Int) < ((p1.2.length:Nat):Int))) (TT/\True/\True/\(0<=((j2:Nat):Int)/\((j2:Nat):Int) < ((p1.2.length:Nat):Int))/\True/\True/\(vcIf (!(p1.2.getD j2 false)) (VC_l6Match_1 l g) (TT/\True/\(inK .i64 (((j2:Nat):Int)+(1:Int)))/\True/\((j2+1)<=(p1.2).length/\(List.take (j2+1) (p1.2)).all id=true)/\((false:Bool)=false)/\((p1.2).length - (j2+1) < (p1.2).length - j2)/\TT/\(RL [.s (.c (.own 7))])/\(([.s (.c (.d (.val (.int .i64 (((j2:Nat):Int)+(1:Int))))))]:List S)=[.s (.c (.d (.val (.int .i64 (((j2+1):Nat):Int)))))])/\(RM [some (.sl 7 .bool p1.2)])/\(RM [])/\True/\TT))) (TT/\True/\((none:Option Nat)=none)/\(((true,()):Bool × Unit)=(rmM l g,()))/\True/\True/\True/\True/\TF))))))
theorem vcn_l6Match (l:List GAtom) (g:List GAtom) (k:Nat) (hp:l.length<=6/\g.length<=6):VC_l6Match l g k:=by
 unfold VC_l6Match VC_l6Match_2 VC_l6Match_1
 simp only [cln,Nat.reduceEqDiff,Nat.reduceLeDiff,Nat.reduceAdd]
 have hl:=hp.1
 simp only [atom_beq]
 all_goals (try simp only [opn])
 all_goals (repeat' (first | apply And.intro | intro _))
 all_goals (repeat (cases ‹_/\_›))
 all_goals (try (have h7:=‹rmI _ _ _ _›))
 all_goals (first | omega | rfl | assumption | exact rmI_zero | exact h7.len | (simp_all;done) | skip)
 all_goals (first
  | exact rm_bad1 h7 ‹_› ‹_› ‹_›
  | exact rm_go1 h7 ‹_› ‹_› ‹_›
  | exact rm_bad2 h7 ‹_› ‹_› ‹_›
  | exact rm_bad3 h7 ‹_› ‹_› ‹_› ‹_›
  | exact rm_go2 h7 ‹_› ‹_› ‹_› ‹_›
  | (have h9:=fd_bd ‹¬ fdI _ _ _ < 0›;have h10:=h7.len;omega)
  | exact rm_all h7 ‹_› ‹_› ‹_›
  | exact rm_yes h7 ‹_› ‹_› ‹_›
  | (have h10:=h7.len;omega)
  | exact id_step ‹_› ‹_› ‹_›
  | skip)
def an_l6Match (l:List GAtom) (g:List GAtom):Nat->St->Bool->Option (AnnY Bool)
 | 3,se,_=>some ⟨{ α:=Nat × List Bool,ok:=fun p=>p.1<=g.length/\rmI l g p.1 p.2,mu:=fun p=>g.length - p.1,i0:=fun st=>(0,slAt .bool st (.slot 5)),nx:=fun p st=>(p.1+1,slAt .bool st (.slot 5)),live:=[0,1],sets:=fun p=>[(6,sv (.int .i64 p.1))],mids:=[],blks:=fun p=>[],owns:=fun p=>[⟨7,.slot 5,.bool,p.2⟩],rd:=fun r _=>r,base:=100000 },fun _=>false⟩
 | 13,se,_=>some ⟨{ α:=Nat,ok:=fun j=>j<=(slAt .bool se (.slot 5)).length/\(List.take j (slAt .bool se (.slot 5))).all id=true,mu:=fun j=>(slAt .bool se (.slot 5)).length - j,i0:=fun _=>0,nx:=fun a _=>(fun j=>j+1) a,live:=[5],sets:=fun j=>[(8,sv (.int .i64 j))],mids:=[7],blks:=fun j=>[],owns:=fun j=>[],rd:=fun r _=>r,base:=200000 },fun _=>false⟩
 | _,_,_=>none
abbrev spc_l6Match (l:List GAtom) (g:List GAtom):SpCode Bool:=(fun _ _ _ _ _ _=>none)
theorem spcok_l6Match (l:List GAtom) (g:List GAtom) (wE:World) (ro0:Nat->Option (Array Value)) (ρ:Nat):SpcOk Fence.wide 0 Try.prog E (AC wE ro0 ρ) Try.f165.ntmps (spc_l6Match l g) :=
 fun _ _ _ _ _ _ _ h=>by cases h
theorem vcr_l6Match:∀ x:Args c_l6Match.aks,c_l6Match.pre x->vcY tab (lookF L_l6Match) (lookP P_l6Match) noSpB (spc_l6Match x.1 x.2.1) (fun b=>!b) hp_l6Match (fun _=>none) (an_l6Match x.1 x.2.1) (fun _=>[]) (bodyOf Try.f165) (entry (encs c_l6Match.aks x) none) false (retR tab c_l6Match Try.f165.results.toList x) :=
 fun ⟨l,g,_⟩ hp=>Eq.mp (by kernel_rfl) (vcn_l6Match l g 0 hp)
theorem ok_l6Match:FnOk Try.prog E 165 c_l6Match :=
 fnR_ok (con:=c_l6Match) (fn:=Try.f165) (l:=L_l6Match) (lp:=P_l6Match) (hp:=hp_l6Match) (gcs:=fun _=>none) (perm:=fun _=>[]) (spc:=fun x=>spc_l6Match x.1 x.2.1) (anns:=fun x=>(an_l6Match x.1 x.2.1)) tabOk mix ⟨ok_l6Find,trivial⟩ ⟨ptok_l6Chain,trivial⟩ rfl Try.func165 rfl (by kernel_rfl) (by decide) (by kernel_rfl) (fun x _=>spcok_l6Match x.1 x.2.1) vcr_l6Match tot_fn
abbrev c_l6Case:Con:=⟨[.asn,.asn,.sl .int],[.bool],fun (a,b,c,_)=>asV a=true/\asV b=true/\c.length=9,.inl fun (a,b,c,_)=>(EC a b c,()),fun _=>0⟩
abbrev L_l6Case:List (FuncId × Con):=[(107,c_l5Filled),(153,c_l5Fits),(165,c_l6Match)]
abbrev P_l6Case:List (FuncId × PT):=[]
def VC_l6Case (a:GAsn) (b:GAsn) (c:List Int) (k:Nat):Prop:=TN/\TN/\True/\True/\True/\True/\((b.facts.length<=1048576/\b.facts.all fV=true/\c.length=9)/\True/\True)/\True/\(vcIf (sFit b.facts c) (True/\True/\True/\((a.atoms.length<=1048576/\a.atoms.all atV=true/\c.length=9)/\True/\TN/\True)/\True/\True/\True/\((b.atoms.length<=1048576/\b.atoms.all atV=true/\c.length=9)/\True/\TN/\True)/\(((fL c a.atoms).length<=6/\(fL c b.atoms).length<=6)/\True/\True)/\True/\True/\((((rmM (fL c a.atoms) (fL c b.atoms)),()):Bool × Unit)=(EC a b c,()))/\True/\True/\True/\True/\TF) (True/\True/\(((false,()):Bool × Unit)=(EC a b c,()))/\True/\True/\True/\True/\TF))
theorem vcn_l6Case (a:GAsn) (b:GAsn) (c:List Int) (k:Nat) (hp:asV a=true/\asV b=true/\c.length=9):VC_l6Case a b c k:=by
 unfold VC_l6Case
 simp only [cln,Nat.reduceEqDiff,Nat.reduceLeDiff,Nat.reduceAdd]
 have hA:=asV_facts hp.1
 have hB:=asV_facts hp.2.1
 have hLa:=Nat.le_trans (fL_len c a.atoms) hA.2.2.2
 have hLb:=Nat.le_trans (fL_len c b.atoms) hB.2.2.2
 all_goals (try simp only [opn])
 all_goals (repeat' (first | apply And.intro | intro _))
 all_goals (first | omega | rfl | assumption | exact hA.2.2.1 | exact hB.2.2.1 | exact hB.1 | exact hp.2.2 | (unfold EC;simp_all;done) | skip)
theorem ok_l6Case:FnOk Try.prog E 162 c_l6Case :=
 fn_okQ (l:=L_l6Case) (lp:=P_l6Case) (hp:=fun _=>false) (gcs:=fun _=>none) (perm:=fun _=>[]) tabOk mix ⟨ok_l5Filled,ok_l5Fits,ok_l6Match,trivial⟩ trivial Try.func162 rfl (by kernel_rfl) (by decide) (by kernel_rfl) (anns:=fun x _=>fun _ _=>none) (fun ⟨a,b,c,_⟩ k hp _=>Eq.mp (by kernel_rfl) (vcn_l6Case a b c k hp)) tot_fn
abbrev c_l6Seek:Con:=⟨[.asn,.asn,.sl .bool,.sl .int,.int],[.sl .int,.bool],fun (a,b,tm,c,t,_)=>asV a=true/\asV b=true/\tm.length=9/\c.length=9/\le8 c=true/\1<=t/\t<=9,.inl fun (a,b,tm,c,t,_)=>((sQ (sFn a b) a tm c t).headD [],!(sQ (sFn a b) a tm c t).isEmpty,()),fun _=>0⟩
abbrev mu_l6Seek:Args c_l6Seek.aks->Nat:=fun (a,b,tm,c,t,_)=>(9 - t).toNat
abbrev L_l6Seek (m:Nat):List (FuncId × Con):=[(107,c_l5Filled),(140,c_l6Seek.lim mu_l6Seek m),(153,c_l5Fits),(154,c_l5Early),(155,c_l5Apart),(162,c_l6Case)]
abbrev P_l6Seek:List (FuncId × PT):=[]
def an_l6Seek (a:GAsn) (b:GAsn) (tm:List Bool) (c:List Int) (t:Int):Nat->St->Option Ann
 | 10,se=>some { α:=Nat,ok:=fun i=>(i:Int)<=t+1/\∀ j,j < i->brE (sFn a b) a tm c t j=[],mu:=fun i=>(t+1).toNat - i,i0:=fun _=>0,nx:=fun a _=>(fun i=>i+1) a,live:=[2,3,4,5,6],sets:=fun i=>[(12,sv (.int .i64 i))],mids:=[95,111],blks:=fun i=>[],owns:=fun i=>[],rd:=fun r _=>r,base:=100000 }
 | _,_=>none
def VC_l6Seek_1 (a:GAsn) (b:GAsn) (tm:List Bool) (c:List Int) (t:Int):Prop:=(TN/\True)/\True/\True/\(((([]:List Int),false,()):(List Int) × Bool × Unit)=((sQ (sFn a b) a tm c t).headD [],!(sQ (sFn a b) a tm c t).isEmpty,()))/\(True/\True)/\((TF/\TF)/\True)/\True/\(True/\True)/\TF
def VC_l6Seek_2 (a:GAsn) (b:GAsn) (tm:List Bool) (c:List Int) (t:Int):Prop:=True/\(VC_l6Seek_1 a b tm c t)
def VC_l6Seek_3 (tm:List Bool) (c:List Int) (t:Int):Prop:=RL [.s (.c (.d (.arr .bool tm))),.s (.c (.d (.arr .int c))),.s (.c (.d (.val (.int .i64 t)))),.s (.c (.ptr 95 0)),.s (.c (.ptr 111 0))]
def VC_l6Seek_4 (a:GAsn) (b:GAsn):Prop:=(RM [some (.blk [.d (.arr .fact a.facts),.d (.arr .atom a.atoms)]),some (.blk [.d (.arr .fact b.facts),.d (.arr .atom b.atoms)])])/\(RM [])/\True/\TT
def VC_l6Seek_5 (i1:Nat) (t:Int) (a:GAsn) (b:GAsn) (tm:List Bool) (c:List Int):Prop:=True/\(inK .i64 (((i1:Nat):Int)+(1:Int)))/\True/\(((i1+1):Int)<=t+1/\∀ j,j < (i1+1)->brE (sFn a b) a tm c t j=[])/\((t+1).toNat - (i1+1) < (t+1).toNat - i1)/\TT/\(VC_l6Seek_3 tm c t)/\(([.s (.c (.d (.val (.int .i64 (((i1:Nat):Int)+(1:Int))))))]:List S)=[.s (.c (.d (.val (.int .i64 (((i1+1):Nat):Int)))))])/\(VC_l6Seek_4 a b)
def VC_l6Seek_6 (c:List Int) (t:Int) (a:GAsn) (b:GAsn) (tm:List Bool) (i1:Nat) (m:Nat):Prop:=(TN/\True)/\True/\(TN/\TF/\TF/\(([]:List Int).length+c.length<=4294967296))/\True/\True/\True/\True/\(0<=t/\t < (((([]:List Int) ++ c).length:Nat):Int))/\(TF/\TF/\True/\((101264:Nat) ∉ ([]:List Nat)))/\True/\True/\True/\True/\True/\(inK .i64 (t+(1:Int)))/\(((asV a=true/\asV b=true/\tm.length=9/\((([]:List Int) ++ c).set t.toNat ((i1:Nat):Int)).length=9/\le8 ((([]:List Int) ++ c).set t.toNat ((i1:Nat):Int))=true/\1<=(t+(1:Int))/\(t+(1:Int))<=9)/\(9 - (t+(1:Int))).toNat < m)/\True/\TN/\True)/\True/\True/\True/\True/\True/\True/\(vcIf (!(sQ (sFn a b) a tm ((([]:List Int) ++ c).set t.toNat ((i1:Nat):Int)) (t+(1:Int))).isEmpty) (True/\True/\True/\(((((sQ (sFn a b) a tm ((([]:List Int) ++ c).set t.toNat ((i1:Nat):Int)) (t+(1:Int))).headD []),true,()):(List Int) × Bool × Unit)=((sQ (sFn a b) a tm c t).headD [],!(sQ (sFn a b) a tm c t).isEmpty,()))/\(True/\True)/\((TF/\TF)/\True)/\True/\(True/\True)/\TF) (VC_l6Seek_5 i1 t a b tm c))
def VC_l6Seek (a:GAsn) (b:GAsn) (tm:List Bool) (c:List Int) (t:Int) (m:Nat) (k:Nat):Prop:=TN/\TN/\TN/\True/\True/\True/\True/\((a.facts.length<=1048576/\a.facts.all fV=true/\c.length=9)/\True/\True)/\True/\True/\(vcIf (!(sFit a.facts c)) (VC_l6Seek_2 a b tm c t) (True/\True/\True/\((a.atoms.length<=1048576/\a.atoms.all atV=true/\c.length=9/\le8 c=true)/\True/\True)/\True/\True/\(vcIf (!(sEarly a.atoms c)) (VC_l6Seek_1 a b tm c t) (True/\True/\(vcIf (decide ((8:Int) < t)) (True/\True/\True/\((a.atoms.length<=1048576/\a.atoms.all atV=true/\c.length=9)/\True/\TN/\True)/\(((fL c a.atoms).length<=1048576)/\True/\True)/\True/\(vcIf (sApart (fL c a.atoms)) (True/\True/\True/\((asV a=true/\asV b=true/\c.length=9)/\True/\True)/\True/\True/\(vcIf (!(EC a b c)) ((TN/\True)/\True/\(TN/\TF/\TF/\(([]:List Int).length+c.length<=4294967296))/\True/\True/\(((([]:List Int) ++ c,true,()):(List Int) × Bool × Unit)=((sQ (sFn a b) a tm c t).headD [],!(sQ (sFn a b) a tm c t).isEmpty,()))/\(True/\True)/\((TF/\TF)/\True)/\True/\(True/\True)/\TF) (VC_l6Seek_1 a b tm c t))) (VC_l6Seek_2 a b tm c t))) (True/\True/\(0<=t/\t < ((tm.length:Nat):Int))/\True/\True/\(vcIf (!(tm.getD t.toNat false)) (True/\True/\True/\True/\True/\(inK .i64 (t+(1:Int)))/\(((asV a=true/\asV b=true/\tm.length=9/\c.length=9/\le8 c=true/\1<=(t+(1:Int))/\(t+(1:Int))<=9)/\(9 - (t+(1:Int))).toNat < m)/\True/\TN/\True)/\True/\True/\True/\True/\(((((sQ (sFn a b) a tm c (t+(1:Int))).headD []),(!(sQ (sFn a b) a tm c (t+(1:Int))).isEmpty),()):(List Int) × Bool × Unit)=((sQ (sFn a b) a tm c t).headD [],!(sQ (sFn a b) a tm c t).isEmpty,()))/\(True/\True)/\((TF/\TF)/\True)/\True/\(True/\True)/\TF) (True/\(((0:Int)<=t+1/\∀ j,j < 0->brE (sFn a b) a tm c t j=[])/\TT/\(VC_l6Seek_3 tm c t)/\(([.s (.c (.d (.val (.int .i64 (0:Int)))))]:List S)=[.s (.c (.d (.val (.int .i64 ((0:Nat):Int)))))])/\(VC_l6Seek_4 a b))/\(∀ i1:Nat,((i1:Int)<=t+1/\∀ j,j < i1->brE (sFn a b) a tm c t j=[])->True/\True/\True/\(vcIf (decide (((i1:Nat):Int)<=t)) (True/\True/\True/\True/\(vcIf (decide (((i1:Nat):Int) < t)) (True/\True/\(0<=((i1:Nat):Int)/\((i1:Nat):Int) < ((c.length:Nat):Int))/\True/\True/\True/\True/\(vcIf ((c.getD i1 (0:Int)) != ((i1:Nat):Int)) (VC_l6Seek_5 i1 t a b tm c) (VC_l6Seek_6 c t a b tm i1 m))) (True/\(VC_l6Seek_6 c t a b tm i1 m)))) (VC_l6Seek_1 a b tm c t)))))))))))
theorem vcn_l6Seek (a:GAsn) (b:GAsn) (tm:List Bool) (c:List Int) (t:Int) (m:Nat) (k:Nat) (hp:(asV a=true/\asV b=true/\tm.length=9/\c.length=9/\le8 c=true/\1<=t/\t<=9)/\(9 - t).toNat < m+1):VC_l6Seek a b tm c t m k:=by
 unfold VC_l6Seek VC_l6Seek_6 VC_l6Seek_5 VC_l6Seek_4 VC_l6Seek_3 VC_l6Seek_2 VC_l6Seek_1
 simp only [cln,Nat.reduceEqDiff,Nat.reduceLeDiff,Nat.reduceAdd]
 have hV:=vA_iff.1 (vA_of hp.1.1)
 have hA:(fL c a.atoms).length<=1048576:=Nat.le_trans (fL_len _ _) (Nat.le_trans hV.2.2.2 (by decide))
 all_goals (try simp only [opn])
 all_goals (repeat' (first | apply And.intro | intro _))
 all_goals (repeat (cases ‹_/\_›))
 all_goals (first | omega | rfl | assumption | (simp_all;done) | skip)
 all_goals (first
  | exact hV.1 | exact hV.2.1 | exact Nat.le_trans hV.2.2.1 (by decide) | exact Nat.le_trans hV.2.2.2 (by decide) | exact Nat.le_trans (fL_len _ _) (Nat.le_trans hV.2.2.2 (by decide))
  | (rw [fits_no1 ‹_›];rfl) | (rw [fits_no2 ‹_›];rfl)
  | (rw [sk_last ‹_› ‹_› ‹_› ‹_› ‹_›];rfl) | (rw [sk_no1 ‹_› ‹_› ‹_› ‹_›];rfl) | (rw [sk_no2 ‹_› ‹_› ‹_› ‹_›];rfl)
  | (rw [sQ_skip (t:=t) ‹_› (by omega) (fits_yes ‹_› ‹_›) ‹_›];done)
  | exact brE_skip ‹_› ‹_› ‹_› _ ‹_›
  | exact brE_none ‹_› ‹_› _ ‹_›
  | exact le8_set ‹_› (by omega)
  | exact (sQ_hit ‹_› (by omega) (fits_yes ‹_› ‹_›) ‹_› ‹_› ‹_› (.inr ‹_›) ‹_›).1.symm
  | exact (sQ_hit ‹_› (by omega) (fits_yes ‹_› ‹_›) ‹_› ‹_› ‹_› (.inl (by omega)) ‹_›).1.symm
  | (rw [(sQ_hit ‹_› (by omega) (fits_yes ‹_› ‹_›) ‹_› ‹_› ‹_› (.inr ‹_›) ‹_›).2];rfl)
  | (rw [(sQ_hit ‹_› (by omega) (fits_yes ‹_› ‹_›) ‹_› ‹_› ‹_› (.inl (by omega)) ‹_›).2];rfl)
  | (rw [sQ_none ‹_› (by omega) (fits_yes ‹_› ‹_›) ‹_› ‹_› ‹_›];rfl)
  | skip)
theorem ok_l6Seek:FnOk Try.prog E 140 c_l6Seek :=
 fn_rec (mu:=mu_l6Seek) (fun m ih=>fn_okQ (con:=c_l6Seek.lim mu_l6Seek (m+1)) (fn:=Try.f140) (l:=L_l6Seek m) (lp:=P_l6Seek) (hp:=fun _=>false) (gcs:=fun _=>none) (perm:=fun _=>[]) tabOk mix ⟨ok_l5Filled,ih,ok_l5Fits,ok_l5Early,ok_l5Apart,ok_l6Case,trivial⟩ trivial Try.func140 rfl (by kernel_rfl) (show c_l6Seek.aks.length<=Try.f140.ntmps by decide) (by kernel_rfl) (anns:=fun x _=>an_l6Seek x.1 x.2.1 x.2.2.1 x.2.2.2.1 x.2.2.2.2.1) (fun ⟨a,b,tm,c,t,_⟩ k hp _=>Eq.mp (by kernel_rfl) (vcn_l6Seek a b tm c t m k hp)) tot_fn) ⟨_,_,Try.func140,by kernel_rfl,rfl⟩ tot_fn
abbrev c_l3Terms:Con:=⟨[.asn],[.sl .bool],fun (a,_)=>asV a=true ∨ vA a=true,.inl fun (a,_)=>(fl9 (occ a),()),fun _=>0⟩
abbrev L_l3Terms:List (FuncId × Con):=[]
abbrev P_l3Terms:List (FuncId × PT):=[]
def an_l3Terms (a:GAsn):Nat->St->Option Ann
 | 3,se=>some { α:=Nat,ok:=fun i=>i<=a.facts.length,mu:=fun i=>a.facts.length - i,i0:=fun _=>0,nx:=fun a _=>(fun i=>i+1) a,live:=[1,2],sets:=fun i=>[(4,sv (.int .i64 i))],mids:=[31,32],blks:=fun i=>[],owns:=fun i=>[⟨7,.slot 3,.bool,fl9 (occF (a.facts.take i))⟩],rd:=fun r _=>r,base:=100000 }
 | 8,se=>some { α:=Nat,ok:=fun i=>i<=a.atoms.length,mu:=fun i=>a.atoms.length - i,i0:=fun _=>0,nx:=fun a _=>(fun i=>i+1) a,live:=[1,2],sets:=fun i=>[(5,sv (.int .i64 i))],mids:=[31,32],blks:=fun i=>[],owns:=fun i=>[⟨7,.slot 3,.bool,fl9 (fun t=>occF a.facts t || occG (a.atoms.take i) t)⟩],rd:=fun r _=>r,base:=200000 }
 | _,_=>none
def VC_l3Terms_1 :Prop:=([.s (.c (.d (.val (.int .i64 (0:Int)))))]:List S)=[.s (.c (.d (.val (.int .i64 ((0:Nat):Int)))))]
def VC_l3Terms_2 (a:GAsn):Prop:=RM [some (.blk [.d (.arr .fact a.facts),.d (.arr .atom a.atoms)]),some (.sl 32 .bool ([]:List Bool))]
def VC_l3Terms_3 (i1:Nat):Prop:=([.s (.c (.d (.val (.int .i64 (((i1:Nat):Int)+(1:Int))))))]:List S)=[.s (.c (.d (.val (.int .i64 (((i1+1):Nat):Int)))))]
def VC_l3Terms_4 (i1:Nat) (a:GAsn):Prop:=(True/\(vcIf (decide (((i1:Nat):Int) < ((a.facts.length:Nat):Int))) (True/\True/\True/\True/\(0<=((i1:Nat):Int)/\((i1:Nat):Int) < ((a.facts.length:Nat):Int))/\True/\True/\(0<=((a.facts.getD i1 (⟨false,0,0⟩:GFact)).a)/\((a.facts.getD i1 (⟨false,0,0⟩:GFact)).a) < (((fl9 (occF (a.facts.take i1))).length:Nat):Int))/\(TF/\TF/\True/\((7:Nat) ∉ ([]:List Nat)))/\True/\True/\True/\True/\(0<=((i1:Nat):Int)/\((i1:Nat):Int) < ((a.facts.length:Nat):Int))/\True/\True/\(0<=((a.facts.getD i1 (⟨false,0,0⟩:GFact)).b)/\((a.facts.getD i1 (⟨false,0,0⟩:GFact)).b) < ((((fl9 (occF (a.facts.take i1))).set ((a.facts.getD i1 (⟨false,0,0⟩:GFact)).a).toNat true).length:Nat):Int))/\(TF/\TF/\True/\((7:Nat) ∉ ([]:List Nat)))/\True/\(inK .i64 (((i1:Nat):Int)+(1:Int)))/\True/\((i1+1)<=a.facts.length)/\(a.facts.length - (i1+1) < a.facts.length - i1)/\TT/\(RL [.s (.c (.ptr 31 0)),.s (.c (.own 32))])/\(VC_l3Terms_3 i1)/\(VC_l3Terms_2 a)/\(RM [])/\(((some (((fl9 (occF (a.facts.take i1))).set ((a.facts.getD i1 (⟨false,0,0⟩:GFact)).a).toNat true).set ((a.facts.getD i1 (⟨false,0,0⟩:GFact)).b).toNat true):Option (List Bool))=some (fl9 (occF (a.facts.take (i1+1)))))/\True)/\TT) (True/\((0<=a.atoms.length)/\TT/\(RL [.s (.c (.ptr 31 0)),.s (.c (.own 32))])/\VC_l3Terms_1/\(VC_l3Terms_2 a)/\(RM [])/\(((some (fl9 (occF (a.facts.take i1))):Option (List Bool))=some (fl9 (fun t=>occF a.facts t || occG (a.atoms.take 0) t)))/\True)/\TT)/\(∀ i2:Nat,(i2<=a.atoms.length)->True/\True/\True/\True/\True/\(vcIf (decide (((i2:Nat):Int) < ((a.atoms.length:Nat):Int))) (True/\True/\True/\True/\(0<=((i2:Nat):Int)/\((i2:Nat):Int) < ((a.atoms.length:Nat):Int))/\True/\True/\(0<=((a.atoms.getD i2 (⟨0,0,0⟩:GAtom)).a)/\((a.atoms.getD i2 (⟨0,0,0⟩:GAtom)).a) < (((fl9 (fun t=>occF a.facts t || occG (a.atoms.take i2) t)).length:Nat):Int))/\(TF/\TF/\True/\((7:Nat) ∉ ([]:List Nat)))/\True/\True/\True/\True/\(0<=((i2:Nat):Int)/\((i2:Nat):Int) < ((a.atoms.length:Nat):Int))/\True/\True/\(0<=((a.atoms.getD i2 (⟨0,0,0⟩:GAtom)).b)/\((a.atoms.getD i2 (⟨0,0,0⟩:GAtom)).b) < ((((fl9 (fun t=>occF a.facts t || occG (a.atoms.take i2) t)).set ((a.atoms.getD i2 (⟨0,0,0⟩:GAtom)).a).toNat true).length:Nat):Int))/\(TF/\TF/\True/\((7:Nat) ∉ ([]:List Nat)))/\True/\(inK .i64 (((i2:Nat):Int)+(1:Int)))/\True/\((i2+1)<=a.atoms.length)/\(a.atoms.length - (i2+1) < a.atoms.length - i2)/\TT/\(RL [.s (.c (.ptr 31 0)),.s (.c (.own 32))])/\(VC_l3Terms_3 i2)/\(VC_l3Terms_2 a)/\(RM [])/\(((some (((fl9 (fun t=>occF a.facts t || occG (a.atoms.take i2) t)).set ((a.atoms.getD i2 (⟨0,0,0⟩:GAtom)).a).toNat true).set ((a.atoms.getD i2 (⟨0,0,0⟩:GAtom)).b).toNat true):Option (List Bool))=some (fl9 (fun t=>occF a.facts t || occG (a.atoms.take (i2+1)) t)))/\True)/\TT) (True/\True/\(((fl9 (fun t=>occF a.facts t || occG (a.atoms.take i2) t),()):(List Bool) × Unit)=(fl9 (occ a),()))/\(True/\True)/\((TF/\TF)/\True)/\True/\(True/\True)/\TF))))))
def VC_l3Terms (a:GAsn) (k:Nat):Prop:=TN/\TN/\(TN/\(0<=(9:Int)/\(9:Int)<=(9:Int)/\(9:Int)<=4294967296))/\True/\True/\((0<=a.facts.length)/\TT/\(RL [.s (.c (.ptr 31 0)),.s (.c (.own 32))])/\VC_l3Terms_1/\(VC_l3Terms_2 a)/\(RM [])/\(((some (List.replicate 9 false):Option (List Bool))=some (fl9 (occF (a.facts.take 0))))/\True)/\TT)/\(∀ i1:Nat,(i1<=a.facts.length)->True/\True/\True/\True/\(VC_l3Terms_4 i1 a))
theorem vcn_l3Terms (a:GAsn) (k:Nat) (hp:asV a=true ∨ vA a=true):VC_l3Terms a k:=by
 unfold VC_l3Terms VC_l3Terms_4 VC_l3Terms_3 VC_l3Terms_2 VC_l3Terms_1
 simp only [cln,Nat.reduceEqDiff,Nat.reduceLeDiff,Nat.reduceAdd]
 have hl:=vA_iff.1 (hp.elim vA_of id)
 have hF:=fun i (h:i < a.facts.length)=>fV_isT (all_get (d:=(⟨false,0,0⟩:GFact)) hl.1 h)
 have hG:=fun i (h:i < a.atoms.length)=>atV_isT (all_get (d:=(⟨0,0,0⟩:GAtom)) hl.2.1 h)
 have hi:∀ t,isT t=true->0<=t/\t<=8:=fun t h=>isT_iff.1 h
 have hL:=fl9_len
 all_goals (try simp only [opn])
 all_goals (repeat' (first | apply And.intro | intro _))
 all_goals (first | omega | rfl | (simp_all;done) | (exact flF_step ‹_› (hF _ ‹_›).1 (hF _ ‹_›).2) | (exact flG_step ‹_› (hG _ ‹_›).1 (hG _ ‹_›).2) | skip)
 all_goals (first | (have h1:=hF _ ‹_›;have h2:=hi _ h1.1;have h3:=hi _ h1.2;simp only [List.length_set,hL];omega) | (have h1:=hG _ ‹_›;have h2:=hi _ h1.1;have h3:=hi _ h1.2;simp only [List.length_set,hL];omega) | (rw [take_full ‹_›];done) | (rw [take_full ‹_›];apply fl9_congr;intro t;simp [occF,occG,occ];done) | (rw [take_full ‹_›];rfl) | grind)
theorem ok_l3Terms:FnOk Try.prog E 128 c_l3Terms :=
 fn_okQ (l:=L_l3Terms) (lp:=P_l3Terms) (hp:=fun _=>false) (gcs:=fun _=>none) (perm:=fun _=>[]) tabOk mix trivial trivial Try.func128 rfl (by kernel_rfl) (by decide) (by kernel_rfl) (anns:=fun x _=>an_l3Terms x.1) (fun ⟨a,_⟩ k hp _=>Eq.mp (by kernel_rfl) (vcn_l3Terms a k hp)) tot_fn
abbrev c_l6Both:Con:=⟨[.asn,.asn],[.sl .bool],fun (a,b,_)=>asV a=true/\asV b=true,.inl fun (a,b,_)=>(fl9 (fun t=>occ a t || occ b t),()),fun _=>0⟩
abbrev L_l6Both:List (FuncId × Con):=[(128,c_l3Terms)]
abbrev P_l6Both:List (FuncId × PT):=[]
def VC_l6Both (a:GAsn) (b:GAsn) (k:Nat):Prop:=TN/\TN/\TN/\(TN/\True)/\True/\True/\(TN/\TF/\TF/\(([]:List GFact).length+a.facts.length<=4294967296))/\True/\True/\(TN/\TF/\TF/\((([]:List GFact) ++ a.facts).length+b.facts.length<=4294967296))/\(TN/\True)/\True/\True/\(TN/\TF/\TF/\(([]:List GAtom).length+a.atoms.length<=4294967296))/\True/\True/\(TN/\TF/\TF/\((([]:List GAtom) ++ a.atoms).length+b.atoms.length<=4294967296))/\(TN/\TN/\True)/\((asV (⟨(([]:List GFact) ++ a.facts) ++ b.facts,(([]:List GAtom) ++ a.atoms) ++ b.atoms⟩:GAsn)=true ∨ vA (⟨(([]:List GFact) ++ a.facts) ++ b.facts,(([]:List GAtom) ++ a.atoms) ++ b.atoms⟩:GAsn)=true)/\True/\TN/\True)/\True/\((((fl9 (occ (⟨(([]:List GFact) ++ a.facts) ++ b.facts,(([]:List GAtom) ++ a.atoms) ++ b.atoms⟩:GAsn))),()):(List Bool) × Unit)=(fl9 (fun t=>occ a t || occ b t),()))/\(True/\True)/\((TF/\TF)/\True)/\True/\(True/\True)/\TF
theorem vcn_l6Both (a:GAsn) (b:GAsn) (k:Nat) (hp:asV a=true/\asV b=true):VC_l6Both a b k:=by
 unfold VC_l6Both
 simp only [cln,Nat.reduceEqDiff,Nat.reduceLeDiff,Nat.reduceAdd]
 have hA:=asV_facts hp.1
 have hB:=asV_facts hp.2
 have hV:=both_vA hp.1 hp.2
 all_goals (try simp only [opn,List.length_append])
 all_goals (repeat' (first | apply And.intro | intro _))
 all_goals (first | omega | rfl | assumption | exact .inr hV | exact both_fl | skip)
theorem ok_l6Both:FnOk Try.prog E 141 c_l6Both :=
 fn_okQ (l:=L_l6Both) (lp:=P_l6Both) (hp:=fun _=>false) (gcs:=fun _=>none) (perm:=fun _=>[]) tabOk mix ⟨ok_l3Terms,trivial⟩ trivial Try.func141 rfl (by kernel_rfl) (by decide) (by kernel_rfl) (anns:=fun x _=>fun _ _=>none) (fun ⟨a,b,_⟩ k hp _=>Eq.mp (by kernel_rfl) (vcn_l6Both a b k hp)) tot_fn
abbrev c_l6Fails:Con:=⟨[.asn,.asn],[.sl .int,.bool],fun (a,b,_)=>asV a=true/\asV b=true,.inl fun (a,b,_)=>((FC a b).headD [],!(FC a b).isEmpty,()),fun _=>0⟩
abbrev L_l6Fails:List (FuncId × Con):=[(129,c_l5Open),(140,c_l6Seek),(141,c_l6Both)]
abbrev P_l6Fails:List (FuncId × PT):=[]
def VC_l6Fails (a:GAsn) (b:GAsn) (k:Nat):Prop:=TN/\TN/\TN/\True/\True/\True/\True/\True/\((asV a=true/\asV b=true)/\True/\TN/\True)/\(True/\True/\TN/\True)/\((asV a=true/\asV b=true/\(fl9 (fun t=>occ a t || occ b t)).length=9/\opens.length=9/\le8 opens=true/\1<=(1:Int)/\(1:Int)<=9)/\True/\TN/\True)/\True/\True/\True/\True/\(((((sQ (sFn a b) a (fl9 (fun t=>occ a t || occ b t)) opens (1:Int)).headD []),(!(sQ (sFn a b) a (fl9 (fun t=>occ a t || occ b t)) opens (1:Int)).isEmpty),()):(List Int) × Bool × Unit)=((FC a b).headD [],!(FC a b).isEmpty,()))/\(True/\True)/\((TF/\TF)/\True)/\True/\(True/\True)/\TF
theorem vcn_l6Fails (a:GAsn) (b:GAsn) (k:Nat) (hp:asV a=true/\asV b=true):VC_l6Fails a b k:=by
 unfold VC_l6Fails
 simp only [cln,Nat.reduceEqDiff,Nat.reduceLeDiff,Nat.reduceAdd]
 have hA:=asV_facts hp.1
 have hB:=asV_facts hp.2
 all_goals (try rw [sFC hp.1 hp.2])
 all_goals (try simp only [opn])
 all_goals (repeat' (first | apply And.intro | intro _))
 all_goals (first | omega | rfl | assumption | exact hp.1 | exact hp.2 | exact fl9_len _ | trivial | skip)
theorem ok_l6Fails:FnOk Try.prog E 105 c_l6Fails :=
 fn_okQ (l:=L_l6Fails) (lp:=P_l6Fails) (hp:=fun _=>false) (gcs:=fun _=>none) (perm:=fun _=>[]) tabOk mix ⟨ok_l5Open,ok_l6Seek,ok_l6Both,trivial⟩ trivial Try.func105 rfl (by kernel_rfl) (by decide) (by kernel_rfl) (anns:=fun x _=>fun _ _=>none) (fun ⟨a,b,_⟩ k hp _=>Eq.mp (by kernel_rfl) (vcn_l6Fails a b k hp)) tot_fn
abbrev c_FailingCase:Con:=⟨[.asn,.asn],[.sl .int,.bool],fun (a,b,_)=>a.facts.length<=281474976710656/\a.atoms.length<=281474976710656/\b.facts.length<=281474976710656/\b.atoms.length<=281474976710656,.inl fun (a,b,_)=>(fkL a b,fkB a b,()),fun _=>0⟩
abbrev L_FailingCase:List (FuncId × Con):=[(74,c_sAssertionValid),(105,c_l6Fails)]
abbrev P_FailingCase:List (FuncId × PT):=[]
def VC_FailingCase_1 (a:GAsn) (b:GAsn):Prop:=(TN/\True)/\True/\True/\(((([]:List Int),false,()):(List Int) × Bool × Unit)=(fkL a b,fkB a b,()))/\(True/\True)/\((TF/\TF)/\True)/\True/\(True/\True)/\TF
def VC_FailingCase (a:GAsn) (b:GAsn) (k:Nat):Prop:=TN/\TN/\TN/\True/\True/\((a.facts.length<=281474976710656/\a.atoms.length<=281474976710656)/\True/\True)/\True/\True/\(vcIf (!(asV a)) (True/\(VC_FailingCase_1 a b)) (True/\((b.facts.length<=281474976710656/\b.atoms.length<=281474976710656)/\True/\True)/\True/\True/\(vcIf (!(asV b)) (VC_FailingCase_1 a b) (True/\True/\((asV a=true/\asV b=true)/\True/\TN/\True)/\True/\True/\True/\True/\(((((FC a b).headD []),(!(FC a b).isEmpty),()):(List Int) × Bool × Unit)=(fkL a b,fkB a b,()))/\(True/\True)/\((TF/\TF)/\True)/\True/\(True/\True)/\TF))))
theorem vcn_FailingCase (a:GAsn) (b:GAsn) (k:Nat) (hp:a.facts.length<=281474976710656/\a.atoms.length<=281474976710656/\b.facts.length<=281474976710656/\b.atoms.length<=281474976710656):VC_FailingCase a b k:=by
 unfold VC_FailingCase VC_FailingCase_1
 simp only [cln,Nat.reduceEqDiff,Nat.reduceLeDiff,Nat.reduceAdd]
 all_goals (try simp only [opn])
 all_goals (repeat' (first | apply And.intro | intro _))
 all_goals (repeat (cases ‹_/\_›))
 all_goals (first | with_reducible exact True.intro | (exfalso;contradiction) | omega | with_reducible assumption | with_reducible rfl | skip)
 all_goals (first
  | with_reducible exact (fk_1 ‹_›).1 | with_reducible exact (fk_1 ‹_›).2 | with_reducible exact (fk_2 ‹_›).1 | with_reducible exact (fk_2 ‹_›).2
  | with_reducible exact (fk_3 ‹_› ‹_›).1 | with_reducible exact (fk_3 ‹_› ‹_›).2
  | skip)
theorem ok_FailingCase:FnOk Try.prog E 55 c_FailingCase :=
 fn_okQ (l:=L_FailingCase) (lp:=P_FailingCase) (hp:=fun _=>false) (gcs:=fun _=>none) (perm:=fun _=>[]) tabOk mix ⟨ok_sAssertionValid,ok_l6Fails,trivial⟩ trivial Try.func55 rfl (by kernel_rfl) (by decide) (by kernel_rfl) (anns:=fun x _=>fun _ _=>none) (fun ⟨a,b,_⟩ k hp _=>Eq.mp (by kernel_rfl) (vcn_FailingCase a b k hp)) tot_fn
abbrev c_l1Value:Con:=⟨[.sl .int,.int],[.int],fun (l,t,_)=>l.length=8/\isT t=true,.inl fun (l,t,_)=>(tv l t,()),fun _=>0⟩
abbrev L_l1Value:List (FuncId × Con):=[]
abbrev P_l1Value:List (FuncId × PT):=[]
def VC_l1Value (l:List Int) (t:Int) (k:Nat):Prop:=True/\True/\True/\(vcIf (t == (0:Int)) (True/\((((0:Int),()):Int × Unit)=(tv l t,()))/\True/\True/\True/\True/\TF) (True/\True/\(inK .i64 (t - (1:Int)))/\(0<=(t - (1:Int))/\(t - (1:Int)) < ((l.length:Nat):Int))/\True/\True/\((((l.getD (t - (1:Int)).toNat (0:Int)),()):Int × Unit)=(tv l t,()))/\True/\True/\True/\True/\TF))
theorem vcn_l1Value (l:List Int) (t:Int) (k:Nat) (hp:l.length=8/\isT t=true):VC_l1Value l t k:=by
 unfold VC_l1Value
 simp only [cln,Nat.reduceEqDiff,Nat.reduceLeDiff,Nat.reduceAdd]
 have h:=isT_iff.1 hp.2
 by_cases h0:t=0 <;> simp [vcIf,tv,h0,inK_i64] <;> omega
theorem ok_l1Value:FnOk Try.prog E 109 c_l1Value :=
 fn_okQ (l:=L_l1Value) (lp:=P_l1Value) (hp:=fun _=>false) (gcs:=fun _=>none) (perm:=fun _=>[]) tabOk mix trivial trivial Try.func109 rfl (by kernel_rfl) (by decide) (by kernel_rfl) (anns:=fun x _=>fun _ _=>none) (fun ⟨l,t,_⟩ k hp _=>Eq.mp (by kernel_rfl) (vcn_l1Value l t k hp)) tot_fn
abbrev c_l2Blank:Con:=⟨[],[.state],fun _=>True,.inl fun _=>(⟨List.replicate 8 0,List.replicate 8 (-1)⟩,()),fun _=>0⟩
abbrev L_l2Blank:List (FuncId × Con):=[]
def an_l2Blank :Nat->Option Ann
 | 3=>some { α:=Nat,ok:=fun i=>i<=8,mu:=fun i=>8 - i,i0:=fun _=>0,nx:=fun a _=>(fun i=>i+1) a,live:=[0,1],sets:=fun i=>[(2,sv (.int .i64 i))],mids:=[15,0,1],blks:=fun i=>[(31,.blk [.own 7,.own 8])],owns:=fun i=>[⟨7,.cell 31 0,.int,List.replicate i 0⟩,⟨8,.cell 31 1,.int,[]⟩],rd:=fun r _=>r,base:=100000 }
 | 7=>some { α:=Nat,ok:=fun i=>i<=8,mu:=fun i=>8 - i,i0:=fun _=>0,nx:=fun a _=>(fun i=>i+1) a,live:=[0,1],sets:=fun i=>[(3,sv (.int .i64 i))],mids:=[15,0,1],blks:=fun i=>[(31,.blk [.own 7,.own 8])],owns:=fun i=>[⟨7,.cell 31 0,.int,List.replicate 8 0⟩,⟨8,.cell 31 1,.int,List.replicate i (-1)⟩],rd:=fun r _=>r,base:=200000 }
 | _=>none
theorem vc_l2Blank  (k:Nat):vc tab (lookF L_l2Blank) (an_l2Blank ) (fun _=>[]) (bodyOf Try.f142) (entry (encs c_l2Blank.aks ()) (rdOf false k)) (retOk tab c_l2Blank Try.f142.results.toList () k):=by
 dsimp only [bodyOf,Try.f142,rdOf]
 simp (maxSteps:=10000000) only [c_l2Blank,L_l2Blank,an_l2Blank,SE.lookF,tab2,tab3,tab4,tab5,tab7,tab9,tab12,tab13,tab21,tab22,tab23,tab24,tab25,tab26,tab29,tab30,tab31,tab38,tab39,tab40,tab41,tab65,tab66,tab67,tab68,tab71,tab77,tab78,tab93,tab94,tab104,tab105,tab110,tab111,tab112,tab119,tab121,tab130,tab139,tab141,tab149,tab151,tab156,tab157,tab158,SE.entry,SE.envOf,SE.rdOf,Option.get_some,SE.vc,SE.vcReg,SE.vcLoop,SE.condK,SE.seqK,SE.blockK,SE.vcOps,SE.vcStep,SE.vcOp,SE.vcTr,SE.vcDet_some,SE.vcDet_none,SE.vcIf_true,SE.vcIf_false,SE.vcEach,SE.pickOps,SE.gslot,SE.trOp,SE.moveId,SE.trMove,SE.trPick,SE.trAlloc,SE.trBox,SE.trBuild,SE.trBuildSlice,SE.trLoad,SE.trStore,SE.trNilCheck,SE.trBin,SE.trUn,SE.trConvert,SE.trFieldAddr,SE.trField,SE.trIndexAddr,SE.trIndex,SE.trSlice,SE.trMakeSlice,SE.trExtract,SE.trLen,SE.trAppend,SE.trCopy,SE.trFn,SE.trCall,SE.argsS,SE.ev,SE.constS,SE.junk,SE.sv,SE.upd_app,SE.adds,SE.sets,SE.nid,SE.St.app,SE.St.put,SE.free,SE.freeL,SE.allFree,SE.rids,SE.AK.rids,SE.castL,SE.rdl,SE.AK.dec,SE.decs,SE.AK.enc,SE.encs,SE.AK.res,SE.ress,SE.pack1,SE.zcells,SE.zeroOf,SE.partCells,SE.putc,SE.fills,SE.datas,SE.elemOf,SE.elemsOf,SE.notSpent,SE.cellsAt,SE.weak,SE.dcellsAt,SE.slAt,SE.rdPlus,SE.intAt,SE.updElem,SE.kill,SE.noJunk,SE.inK,SE.binI,SE.shf,SE.isShift,SE.eqCells,SE.aggS,SE.intOp,SE.nested,SE.hasRdr,SE.refsC,SE.refsCs,SE.ownsC,SE.refsAr,SE.rdFits,SE.costIf,SE.Con.post,SE.Con.det,SE.Ty.cells,SE.Ty.sz,SE.Ty.zero,SE.Ty.flat,SE.Ty.dec,SE.retOk,SE.loadsS,SE.loadS,SE.decRs,SE.decR,SE.outC,SE.rdC,SE.allDiff,SE.notIn,SE.notFrozen,SE.apartL,SE.rdEnd,SE.firstReg,SE.headC,SE.fitsC,SE.idsC,SE.keepE,SE.keepM,SE.keepB,SE.inL,SE.puts,SE.ownRes,SE.ownEnv,SE.renL,SE.srcId,SE.lookR,SE.envSame,SE.envSets,SE.memSame,SE.memBlks,SE.memOwns,SE.famsOf,SE.allIn,SE.closedE,SE.closedV,SE.closedM,SE.closedR,SE.rdLe,SE.S.refs,SE.S0.refs,SE.CV.refs,SE.refsL,SE.refsT,SE.S.ren,SE.S0.ren,SE.CV.ren,SE.Res.refs,SE.Res.ren,min_i64,max_i64,min_u16,max_u16,min_u8,max_u8,min_u64,max_u64,S.s.injEq,S0.c.injEq,CV.d.injEq,DC.val.injEq,Value.int.injEq,Value.bool.injEq,Value.string.injEq,eta_fact,eta_atom,eta_asn,eta_state,List.mem_cons,List.mem_nil_iff,or_false,false_or,or_true,true_or,Option.map_some,Option.map_none,Option.bind_some,Option.getD_some,Option.getD_none,Nat.reduceEqDiff,Nat.reduceAdd,Nat.reduceMul,Nat.reduceLeDiff,↓reduceIte,reduceCtorEq,true_and,and_true,and_self,forall_const,implies_true,true_implies,List.getElem?_toArray,List.getElem?_cons_succ,List.getElem?_cons_zero,List.append_nil,List.nil_append,List.cons_append,List.length_cons,List.length_nil,List.take_succ_cons,List.take_zero,List.drop_succ_cons,List.drop_zero,List.set_cons_zero,List.set_cons_succ,List.map_cons,List.map_nil,Nat.add_zero,Nat.zero_add,forall_eq,Prod.forall,Bool.not_true,Bool.not_false,Nat.lt_irrefl,Nat.zero_lt_succ,List.singleton_append,Prod.mk.injEq,Nat.zero_mul,Nat.one_mul,Nat.reducePow,Option.some.injEq,not_false_eq_true,Int.toNat_natCast,Nat.sub_zero,Nat.le_refl,Bool.or_false,Bool.false_or,Bool.or_true,Bool.true_or,Bool.and_true,Bool.true_and,Bool.and_false,Bool.false_and,Bool.or_self,Bool.and_self,List.append_eq,and_false,false_and]
 all_goals (try simp only [vcIf_iff,decide_eq_true_eq,decide_eq_false_iff_not,bne_iff_ne,ne_eq,beq_iff_eq,beq_eq_false_iff_ne,bne_eq_false_iff_eq,Bool.not_eq_true',Bool.not_eq_false',Int.ofNat_lt,Int.natCast_inj])
 all_goals (repeat' (first | apply And.intro | intro _))
 all_goals (first | omega | (simp_all;done) | grind [List.replicate_succ'])
theorem ok_l2Blank:FnOk Try.prog E 142 c_l2Blank :=
 fn_ok (l:=L_l2Blank) (perm:=fun _=>[]) tabOk mix trivial Try.func142 rfl (by kernel_rfl) (by decide) (by kernel_rfl) (anns:=fun x _=>an_l2Blank ) (fun _ k _ _=>vc_l2Blank  k) tot_fn
abbrev c_l5Model:Con:=⟨[.asn,.sl .int],[.state],fun (a,c,_)=>asV a=true/\CaseOk a c,.inl fun (a,c,_)=>(md a c,()),fun _=>0⟩
abbrev L_l5Model:List (FuncId × Con):=[(107,c_l5Filled),(109,c_l1Value),(142,c_l2Blank)]
abbrev P_l5Model:List (FuncId × PT):=[]
def an_l5Model (a:GAsn) (c:List Int):Nat->St->Option Ann
 | 4,se=>some { α:=Nat,ok:=fun i=>i<=8,mu:=fun i=>8 - i,i0:=fun _=>0,nx:=fun a _=>(fun i=>i+1) a,live:=[1,2,4,5],sets:=fun i=>[(7,sv (.int .i64 ((i:Int)+1))),(6,sv (.int .i64 (mdV c i).2))],mids:=[47,64,65,79],blks:=fun i=>[(95,.blk [.own 7,.own 8])],owns:=fun i=>[⟨7,.cell 95 0,.int,(mdV c i).1⟩,⟨8,.cell 95 1,.int,List.replicate 8 (-1)⟩],rd:=fun r _=>r,base:=100000 }
 | 14,se=>some { α:=Nat,ok:=fun i=>i<=(fL c a.atoms).length,mu:=fun i=>(fL c a.atoms).length - i,i0:=fun _=>0,nx:=fun a _=>(fun i=>i+1) a,live:=[4,5,9],sets:=fun i=>[(10,sv (.int .i64 i))],mids:=[64,65,79,100832],blks:=fun i=>[(95,.blk [.own 7,.own 8])],owns:=fun i=>[⟨7,.cell 95 0,.int,(mdV c 8).1⟩,⟨8,.cell 95 1,.int,mdH (mdV c 8).1 ((fL c a.atoms).take i)⟩],rd:=fun r _=>r,base:=200000 }
 | _,_=>none
def VC_l5Model_1 (c:List Int):Prop:=RL [.s (.c (.d (.arr .int c))),.s (.c (.ptr 47 0)),.s (.c (.ptr 79 0)),.s (.c (.ptr 95 0))]
def VC_l5Model_2 (a:GAsn):Prop:=RM [some (.blk [.d (.arr .fact a.facts),.d (.arr .atom a.atoms)]),some (.sl 64 .int ([]:List Int)),some (.sl 65 .int ([]:List Int)),some (.blk [.own 64,.own 65])]
def VC_l5Model_3 :Prop:=((some (List.replicate 8 (-1)):Option (List Int))=some (List.replicate 8 (-1)))/\True
def VC_l5Model_4 (i1:Nat) (c:List Int):Prop:=0<=(((i1:Int)+1:Int) - (1:Int))/\(((i1:Int)+1:Int) - (1:Int)) < ((((mdV c i1).1).length:Nat):Int)
def VC_l5Model_5 (i1:Nat) (c:List Int):Prop:=([.s (.c (.d (.val (.int .i64 (((i1:Int)+1:Int)+(1:Int)))))),.s (.c (.d (.val (.int .i64 (((mdV c i1).2:Int)+(1:Int))))))]:List S)=[.s (.c (.d (.val (.int .i64 (((i1+1):Int)+1:Int))))),.s (.c (.d (.val (.int .i64 ((mdV c (i1+1)).2:Int)))))]
def VC_l5Model_6 (i1:Nat) (c:List Int) (a:GAsn):Prop:=True/\(inK .i64 (((i1:Int)+1:Int)+(1:Int)))/\True/\((i1+1)<=8)/\(8 - (i1+1) < 8 - i1)/\TT/\(VC_l5Model_1 c)/\(VC_l5Model_5 i1 c)/\(VC_l5Model_2 a)/\(RM [some (.blk [.own 7,.own 8])])/\(((some (((mdV c i1).1).set (((i1:Int)+1:Int) - (1:Int)).toNat (((mdV c i1).2:Int)+(1:Int))):Option (List Int))=some ((mdV c (i1+1)).1))/\VC_l5Model_3)/\TT
def VC_l5Model_7 (i1:Nat) (c:List Int):Prop:=([.s (.c (.d (.val (.int .i64 (((i1:Int)+1:Int)+(1:Int)))))),.s (.c (.d (.val (.int .i64 ((mdV c i1).2:Int)))))]:List S)=[.s (.c (.d (.val (.int .i64 (((i1+1):Int)+1:Int))))),.s (.c (.d (.val (.int .i64 ((mdV c (i1+1)).2:Int)))))]
def VC_l5Model_8 (i1:Nat) (c:List Int) (a:GAsn):Prop:=True/\(inK .i64 (((i1:Int)+1:Int)+(1:Int)))/\True/\((i1+1)<=8)/\(8 - (i1+1) < 8 - i1)/\TT/\(VC_l5Model_1 c)/\(VC_l5Model_7 i1 c)/\(VC_l5Model_2 a)/\(RM [some (.blk [.own 7,.own 8])])/\(((some ((mdV c i1).1):Option (List Int))=some ((mdV c (i1+1)).1))/\VC_l5Model_3)/\TT
def VC_l5Model_9 (c:List Int) (i1:Nat) (a:GAsn):Prop:=(True/\(vcIf ((c.getD ((i1:Int)+1:Int).toNat (0:Int)) == ((i1:Int)+1:Int)) (True/\(inK .i64 (((mdV c i1).2:Int)+(1:Int)))/\True/\True/\True/\True/\(inK .i64 (((i1:Int)+1:Int) - (1:Int)))/\True/\(VC_l5Model_4 i1 c)/\(TF/\TF/\True/\((7:Nat) ∉ ([]:List Nat)))/\True/\True/\True/\(vcIf (decide ((0:Int) < (c.getD ((i1:Int)+1:Int).toNat (0:Int)))) (True/\True/\True/\True/\(vcIf (decide ((c.getD ((i1:Int)+1:Int).toNat (0:Int)) < ((i1:Int)+1:Int))) (True/\True/\True/\(inK .i64 (((i1:Int)+1:Int) - (1:Int)))/\True/\True/\True/\(inK .i64 ((c.getD ((i1:Int)+1:Int).toNat (0:Int)) - (1:Int)))/\(0<=((c.getD ((i1:Int)+1:Int).toNat (0:Int)) - (1:Int))/\((c.getD ((i1:Int)+1:Int).toNat (0:Int)) - (1:Int)) < (((((mdV c i1).1).set (((i1:Int)+1:Int) - (1:Int)).toNat (((mdV c i1).2:Int)+(1:Int))).length:Nat):Int))/\True/\(0<=(((i1:Int)+1:Int) - (1:Int))/\(((i1:Int)+1:Int) - (1:Int)) < (((((mdV c i1).1).set (((i1:Int)+1:Int) - (1:Int)).toNat (((mdV c i1).2:Int)+(1:Int))).length:Nat):Int))/\(TF/\TF/\True/\((7:Nat) ∉ ([]:List Nat)))/\True/\(inK .i64 (((i1:Int)+1:Int)+(1:Int)))/\True/\((i1+1)<=8)/\(8 - (i1+1) < 8 - i1)/\TT/\(VC_l5Model_1 c)/\(VC_l5Model_5 i1 c)/\(VC_l5Model_2 a)/\(RM [some (.blk [.own 7,.own 8])])/\(((some ((((mdV c i1).1).set (((i1:Int)+1:Int) - (1:Int)).toNat (((mdV c i1).2:Int)+(1:Int))).set (((i1:Int)+1:Int) - (1:Int)).toNat ((((mdV c i1).1).set (((i1:Int)+1:Int) - (1:Int)).toNat (((mdV c i1).2:Int)+(1:Int))).getD ((c.getD ((i1:Int)+1:Int).toNat (0:Int)) - (1:Int)).toNat (0:Int))):Option (List Int))=some ((mdV c (i1+1)).1))/\VC_l5Model_3)/\TT) (VC_l5Model_6 i1 c a))) (True/\(VC_l5Model_6 i1 c a)))) (True/\True/\True/\(vcIf (decide ((0:Int) < (c.getD ((i1:Int)+1:Int).toNat (0:Int)))) (True/\True/\True/\True/\(vcIf (decide ((c.getD ((i1:Int)+1:Int).toNat (0:Int)) < ((i1:Int)+1:Int))) (True/\True/\True/\(inK .i64 (((i1:Int)+1:Int) - (1:Int)))/\True/\True/\True/\(inK .i64 ((c.getD ((i1:Int)+1:Int).toNat (0:Int)) - (1:Int)))/\(0<=((c.getD ((i1:Int)+1:Int).toNat (0:Int)) - (1:Int))/\((c.getD ((i1:Int)+1:Int).toNat (0:Int)) - (1:Int)) < ((((mdV c i1).1).length:Nat):Int))/\True/\(VC_l5Model_4 i1 c)/\(TF/\TF/\True/\((7:Nat) ∉ ([]:List Nat)))/\True/\(inK .i64 (((i1:Int)+1:Int)+(1:Int)))/\True/\((i1+1)<=8)/\(8 - (i1+1) < 8 - i1)/\TT/\(VC_l5Model_1 c)/\(VC_l5Model_7 i1 c)/\(VC_l5Model_2 a)/\(RM [some (.blk [.own 7,.own 8])])/\(((some (((mdV c i1).1).set (((i1:Int)+1:Int) - (1:Int)).toNat (((mdV c i1).1).getD ((c.getD ((i1:Int)+1:Int).toNat (0:Int)) - (1:Int)).toNat (0:Int))):Option (List Int))=some ((mdV c (i1+1)).1))/\VC_l5Model_3)/\TT) (VC_l5Model_8 i1 c a))) (True/\(VC_l5Model_8 i1 c a))))))
def VC_l5Model_10 (c:List Int) (a:GAsn):Prop:=RM [some (.sl 64 .int ([]:List Int)),some (.sl 65 .int ([]:List Int)),some (.blk [.own 64,.own 65]),some (.sl 100832 .atom (fL c a.atoms))]
def VC_l5Model_11 (c:List Int) (a:GAsn):Prop:=(((0<=8)/\TT/\(VC_l5Model_1 c)/\(([.s (.c (.d (.val (.int .i64 (1:Int))))),.s (.c (.d (.val (.int .i64 (0:Int)))))]:List S)=[.s (.c (.d (.val (.int .i64 ((0:Int)+1:Int))))),.s (.c (.d (.val (.int .i64 ((mdV c 0).2:Int)))))])/\(VC_l5Model_2 a)/\(RM [some (.blk [.own 176,.own 177])])/\(((some (List.replicate 8 0):Option (List Int))=some ((mdV c 0).1))/\VC_l5Model_3)/\TT)/\(∀ i1:Nat,(i1<=8)->True/\True/\(vcIf (decide (((i1:Int)+1:Int)<=(8:Int))) (True/\True/\(0<=((i1:Int)+1:Int)/\((i1:Int)+1:Int) < ((c.length:Nat):Int))/\True/\True/\True/\True/\(VC_l5Model_9 c i1 a)) (True/\True/\True/\((a.atoms.length<=1048576/\a.atoms.all atV=true/\c.length=9)/\True/\TN/\True)/\True/\True/\((0<=(fL c a.atoms).length)/\TT/\(RL [.s (.c (.ptr 79 0)),.s (.c (.ptr 95 0)),.s (.c (.own 100832))])/\(([.s (.c (.d (.val (.int .i64 (0:Int)))))]:List S)=[.s (.c (.d (.val (.int .i64 ((0:Nat):Int)))))])/\(VC_l5Model_10 c a)/\(RM [some (.blk [.own 7,.own 8])])/\(((some ((mdV c i1).1):Option (List Int))=some ((mdV c 8).1))/\((some (List.replicate 8 (-1)):Option (List Int))=some (mdH (mdV c 8).1 ((fL c a.atoms).take 0)))/\True)/\TT)/\(∀ i2:Nat,(i2<=(fL c a.atoms).length)->True/\True/\True/\True/\(vcIf (decide (((i2:Nat):Int) < (((fL c a.atoms).length:Nat):Int))) (True/\True/\True/\True/\True/\True/\(0<=((i2:Nat):Int)/\((i2:Nat):Int) < (((fL c a.atoms).length:Nat):Int))/\True/\True/\((((mdV c 8).1).length=8/\isT (((fL c a.atoms).getD i2 (⟨0,0,0⟩:GAtom)).a)=true)/\True/\True)/\(inK .i64 ((tv ((mdV c 8).1) (((fL c a.atoms).getD i2 (⟨0,0,0⟩:GAtom)).a)) - (1:Int)))/\True/\True/\True/\True/\(0<=((i2:Nat):Int)/\((i2:Nat):Int) < (((fL c a.atoms).length:Nat):Int))/\True/\True/\((((mdV c 8).1).length=8/\isT (((fL c a.atoms).getD i2 (⟨0,0,0⟩:GAtom)).b)=true)/\True/\True)/\(0<=((tv ((mdV c 8).1) (((fL c a.atoms).getD i2 (⟨0,0,0⟩:GAtom)).a)) - (1:Int))/\((tv ((mdV c 8).1) (((fL c a.atoms).getD i2 (⟨0,0,0⟩:GAtom)).a)) - (1:Int)) < (((mdH (mdV c 8).1 ((fL c a.atoms).take i2)).length:Nat):Int))/\(TF/\TF/\True/\((8:Nat) ∉ ([]:List Nat)))/\True/\(inK .i64 (((i2:Nat):Int)+(1:Int)))/\True/\((i2+1)<=(fL c a.atoms).length)/\((fL c a.atoms).length - (i2+1) < (fL c a.atoms).length - i2)/\TT/\(RL [.s (.c (.ptr 79 0)),.s (.c (.ptr 95 0)),.s (.c (.own 100832))])/\(([.s (.c (.d (.val (.int .i64 (((i2:Nat):Int)+(1:Int))))))]:List S)=[.s (.c (.d (.val (.int .i64 (((i2+1):Nat):Int)))))])/\(VC_l5Model_10 c a)/\(RM [some (.blk [.own 7,.own 8])])/\(((some ((mdV c 8).1):Option (List Int))=some ((mdV c 8).1))/\((some ((mdH (mdV c 8).1 ((fL c a.atoms).take i2)).set ((tv ((mdV c 8).1) (((fL c a.atoms).getD i2 (⟨0,0,0⟩:GAtom)).a)) - (1:Int)).toNat (tv ((mdV c 8).1) (((fL c a.atoms).getD i2 (⟨0,0,0⟩:GAtom)).b))):Option (List Int))=some (mdH (mdV c 8).1 ((fL c a.atoms).take (i2+1))))/\True)/\TT) (True/\(TF/\TF)/\((((⟨(mdV c 8).1,mdH (mdV c 8).1 ((fL c a.atoms).take i2)⟩:GState),()):GState × Unit)=(md a c,()))/\((((7:Nat) ≠ 8)/\True)/\True/\True)/\((TF/\TF)/\(TF/\TF)/\True)/\True/\(True/\True/\True)/\TF)))))))
def VC_l5Model (a:GAsn) (c:List Int) (k:Nat):Prop:=TN/\(TN/\TN/\TN/\True)/\(True/\True/\TN/\TN/\True)/\(TN/\TN/\TN/\True)/\(TF/\TF)/\True/\True/\(VC_l5Model_11 c a)
theorem vcn_l5Model (a:GAsn) (c:List Int) (k:Nat) (hp:asV a=true/\CaseOk a c):VC_l5Model a c k:=by
 unfold VC_l5Model VC_l5Model_11 VC_l5Model_10 VC_l5Model_9 VC_l5Model_8 VC_l5Model_7 VC_l5Model_6 VC_l5Model_5 VC_l5Model_4 VC_l5Model_3 VC_l5Model_2 VC_l5Model_1
 simp only [cln,Nat.reduceEqDiff,Nat.reduceLeDiff,Nat.reduceAdd]
 have hC:=hp.2
 have hn:=mdV_n c
 have hl:=hC.len
 have hF:=Nat.le_trans (fL_len c a.atoms) (asV_facts hp.1).2.2.2
 all_goals (try simp only [vcIf_iff,tn1,tn2,len8,mdH_len,List.length_replicate,List.length_set,decide_eq_true_eq,decide_eq_false_iff_not,bne_iff_ne,ne_eq,beq_iff_eq,beq_eq_false_iff_ne,bne_eq_false_iff_eq,Bool.not_eq_true',Bool.not_eq_false',Int.ofNat_lt,Int.natCast_inj])
 all_goals (repeat' (first | apply And.intro | intro _))
 all_goals (repeat (cases ‹_/\_›))
 all_goals (first | omega | rfl | assumption | (simp_all;done) | skip)
 all_goals (try simp only [tn1,tn2,len8,mdH_len,List.length_replicate,List.length_set] at *)
 all_goals (first
  | omega | exact rep_set (by omega) | exact rep_end ‹_› ‹_›
  | exact (md_n1 ‹_›).1 | exact (md_n1 ‹_›).2.1 | exact (md_n1 ‹_›).2.2.1 | exact (md_n1 ‹_›).2.2.2
  | exact (md_le hC ‹_›).1 | exact (md_le hC ‹_›).2 | exact md_end ‹_› ‹_›
  | exact (md_a hC ‹_›).1.1 | exact (md_a hC ‹_›).1.2 | exact (md_a hC ‹_›).2.1.1 | exact (md_a hC ‹_›).2.1.2 | exact (md_a hC ‹_›).2.2.1 | exact (md_a hC ‹_›).2.2.2
  | exact (md_gt hC ‹_› ‹_› ‹_›).elim
  | exact (mdH_step ‹_›).symm | (rw [take_full (l:=fL c a.atoms) ‹_›];rfl)
  | (rw [mdV_eq ‹_›];done) | (rw [mdV_lt ‹_› ‹_›];done) | (rw [mdV_no ‹_› ‹_›];done)
  | (have h1:=le_get hC (t:=_+1) (by omega);omega)
  | (have h1:=asV_facts (by assumption:asV a=true);omega)
  | exact (asV_facts (by assumption:asV a=true)).2.2.1
  | skip)
theorem ok_l5Model:FnOk Try.prog E 106 c_l5Model :=
 fn_okQ (l:=L_l5Model) (lp:=P_l5Model) (hp:=fun _=>false) (gcs:=fun _=>none) (perm:=fun _=>[]) tabOk mix ⟨ok_l5Filled,ok_l1Value,ok_l2Blank,trivial⟩ trivial Try.func106 rfl (by kernel_rfl) (by decide) (by kernel_rfl) (anns:=fun x _=>an_l5Model x.1 x.2.1) (fun ⟨a,c,_⟩ k hp _=>Eq.mp (by kernel_rfl) (vcn_l5Model a c k hp)) tot_fn
abbrev c_l2Has:Con:=⟨[.state,.int],[.bool],fun (s,n,_)=>stV s=true,.inl fun (s,n,_)=>(al s n,()),fun _=>0⟩
abbrev L_l2Has:List (FuncId × Con):=[]
abbrev P_l2Has:List (FuncId × PT):=[]
def VC_l2Has_1 (s:GState) (n:Int):Prop:=True/\True/\(((false,()):Bool × Unit)=(al s n,()))/\True/\True/\True/\True/\TF
def VC_l2Has (s:GState) (n:Int) (k:Nat):Prop:=TN/\True/\True/\True/\True/\(vcIf (decide ((1:Int)<=n)) (True/\True/\True/\True/\(vcIf (decide (n<=(8:Int))) (True/\True/\True/\(inK .i64 (n - (1:Int)))/\(0<=(n - (1:Int))/\(n - (1:Int)) < ((s.heap.length:Nat):Int))/\True/\True/\True/\True/\(((decide ((0:Int)<=(s.heap.getD (n - (1:Int)).toNat (0:Int))),()):Bool × Unit)=(al s n,()))/\True/\True/\True/\True/\TF) (VC_l2Has_1 s n))) (True/\True/\(VC_l2Has_1 s n)))
theorem vcn_l2Has (s:GState) (n:Int) (k:Nat) (hp:stV s=true):VC_l2Has s n k:=by
 unfold VC_l2Has VC_l2Has_1
 simp only [cln,Nat.reduceEqDiff,Nat.reduceLeDiff,Nat.reduceAdd]
 all_goals (try simp only [opn])
 all_goals (repeat' (first | apply And.intro | intro _))
 all_goals (repeat (cases ‹_/\_›))
 all_goals (first | omega | rfl | assumption | (simp_all;done) | skip)
 all_goals (try have h2:=stV_all hp)
 all_goals (first | omega | exact al_yes ‹_› ‹_› | exact al_no (by omega) | skip)
theorem ok_l2Has:FnOk Try.prog E 143 c_l2Has :=
 fn_okQ (l:=L_l2Has) (lp:=P_l2Has) (hp:=fun _=>false) (gcs:=fun _=>none) (perm:=fun _=>[]) tabOk mix trivial trivial Try.func143 rfl (by kernel_rfl) (by decide) (by kernel_rfl) (anns:=fun x _=>fun _ _=>none) (fun ⟨s,n,_⟩ k hp _=>Eq.mp (by kernel_rfl) (vcn_l2Has s n k hp)) tot_fn
end Go.Proofs.Ytopjgjelkpkmmaa
