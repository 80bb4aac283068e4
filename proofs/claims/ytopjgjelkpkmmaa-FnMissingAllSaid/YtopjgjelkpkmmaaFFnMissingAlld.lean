/-
  Contracts of single functions of the program, each shown by the engine: what a call returns for arguments within the contract's bounds.
-/
import Derived.Test.YtopjgjelkpkmmaaFFnMissingAlla
import Derived.Test.YtopjgjelkpkmmaaFFnMissingAllc
import Derived.Test.YtopjgjelkpkmmaaEd
import Derived.Test.YtopjgjelkpkmmaaEe
import Derived.Test.YtopjgjelkpkmmaaFFnMissingAllb
import Derived.Test.YtopjgjelkpkmmaaEf
set_option linter.unusedSimpArgs false
set_option linter.unusedVariables false
set_option linter.unusedSectionVars false

namespace Go.Proofs.Ytopjgjelkpkmmaa
open Go.SE Go.RowKit
set_option linter.unusedSimpArgs false
set_option linter.unusedVariables false
set_option maxHeartbeats 1000000
set_option maxRecDepth 100000
abbrev m_cmChain:BCon:=⟨[.atom],[.sl .int,.bool],fun l u n (x,_)=>l.length<=6/\u.length=6/\n=cnt u,fun l u n (x,_)=>chU l u x,fun l u n (x,_)=>cnt (chU l u x),fun l u n (x,_)=>(chL l u x,chB l u x,())⟩
abbrev pt_cmChain:PT:=ptB m_cmChain
abbrev L_cmChain:List (FuncId × Con):=[(161,c_beginsAt)]
abbrev P_cmChain:List (FuncId × PT):=[(159,pt_cmUnused),(160,pt_cmTake)]
def an_cmChain (l:List GAtom) (u:List Bool) (n:Int) (x:GAtom) (v:Value):Nat->St->Option Ann
 | 4,se=>some { α:=List Bool × Int × List Int,ok:=fun p=>chI l u x p.1 p.2.1 p.2.2,mu:=fun p=>6 - p.2.2.length,i0:=fun st=>(usedAt st 7,intAt st 8,slAt .int st (.slot 7)),nx:=fun p st=>(usedAt st 7,intAt st 8,slAt .int st (.slot 7)),live:=[0,3,6],sets:=fun p=>[(8,sv (.int .i64 p.2.1))],mids:=[79],blks:=fun p=>[(7,.blk [.d (.fix .atom l v),.d (.val (.bool (p.1.getD 0 false))),.d (.val (.bool (p.1.getD 1 false))),.d (.val (.bool (p.1.getD 2 false))),.d (.val (.bool (p.1.getD 3 false))),.d (.val (.bool (p.1.getD 4 false))),.d (.val (.bool (p.1.getD 5 false))),.d (.val (.int .i64 (cnt p.1)))])],owns:=fun p=>[⟨8,.slot 7,.int,p.2.2⟩],rd:=fun r _=>r,base:=100000 }
 | _,_=>none
def hp_cmChain:Nat->Bool
 | 4=>true
 | 7=>true
 | _=>false
def VC_cmChain_1 (l:List GAtom) (u:List Bool) (x:GAtom):Prop:=chI l u x ((sx6 u),x.a,([]:List Int)).1 ((sx6 u),x.a,([]:List Int)).2.1 ((sx6 u),x.a,([]:List Int)).2.2
def VC_cmChain_2 (x:GAtom):Prop:=RM [some (.blk [.d (.val (.int .i64 x.kind)),.d (.val (.int .i64 x.a)),.d (.val (.int .i64 x.b))])]
def VC_cmChain_3 (x:GAtom) (u:List Bool) (l:List GAtom) (v:Value) (n:Int):Prop:=(([.s (.c (.d (.val (.int .i64 x.a))))]:List S)=[.s (.c (.d (.val (.int .i64 (((sx6 u),x.a,([]:List Int)).2.1:Int)))))])/\(VC_cmChain_2 x)/\(([some (.blk [.d (.fix .atom l v),.d (.val (.bool (u.getD 0 false))),.d (.val (.bool (u.getD 1 false))),.d (.val (.bool (u.getD 2 false))),.d (.val (.bool (u.getD 3 false))),.d (.val (.bool (u.getD 4 false))),.d (.val (.bool (u.getD 5 false))),.d (.val (.int .i64 n))])]:List (Option Res))=[some (.blk [.d (.fix .atom l v),.d (.val (.bool (((sx6 u),x.a,([]:List Int)).1.getD 0 false))),.d (.val (.bool (((sx6 u),x.a,([]:List Int)).1.getD 1 false))),.d (.val (.bool (((sx6 u),x.a,([]:List Int)).1.getD 2 false))),.d (.val (.bool (((sx6 u),x.a,([]:List Int)).1.getD 3 false))),.d (.val (.bool (((sx6 u),x.a,([]:List Int)).1.getD 4 false))),.d (.val (.bool (((sx6 u),x.a,([]:List Int)).1.getD 5 false))),.d (.val (.int .i64 (cnt ((sx6 u),x.a,([]:List Int)).1)))])])/\(((some ([]:List Int):Option (List Int))=some (((sx6 u),x.a,([]:List Int)).2.2))/\True)/\TT
def VC_cmChain_4 (l:List GAtom) (u:List Bool) (x:GAtom) (v:Value) (p1:List Bool × Int × List Int):Prop:=TN/\True/\(((([]:List Int),false,()):(List Int) × Bool × Unit)=(chL l u x,chB l u x,()))/\(True/\True)/\((TF/\TF)/\True)/\True/\(TF/\TF)/\((v:Value)=v)/\(sx6 p1.1=chU l u x)/\(((cnt p1.1):Int)=cnt (chU l u x))
def VC_cmChain_5 (l:List GAtom) (p1:List Bool × Int × List Int):Prop:=l.length<=6/\(sx6 p1.1).length=6/\(cnt p1.1)=cnt (sx6 p1.1)/\0<=(uaI l (sx6 p1.1) (p1.2.1:Int))/\(uaI l (sx6 p1.1) (p1.2.1:Int)) < 6/\(sx6 p1.1).getD (uaI l (sx6 p1.1) (p1.2.1:Int)).toNat false=false
def VC_cmChain_6 (p1:List Bool × Int × List Int) (l:List GAtom):Prop:=TN/\TF/\TF/\(p1.2.2.length+([(uaI l (sx6 p1.1) (p1.2.1:Int))]:List Int).length<=4294967296)
def VC_cmChain_7 (l:List GAtom) (p1:List Bool × Int × List Int):Prop:=0<=(uaI l (sx6 p1.1) (p1.2.1:Int))/\(uaI l (sx6 p1.1) (p1.2.1:Int)) < ((l.length:Nat):Int)
def VC_cmChain_8 (v:Value) (p1:List Bool × Int × List Int) (l:List GAtom) (u:List Bool) (x:GAtom):Prop:=(True/\True)/\((TF/\TF)/\True)/\True/\(TF/\TF)/\((v:Value)=v)/\(sx6 ((sx6 p1.1).set (uaI l (sx6 p1.1) (p1.2.1:Int)).toNat true)=chU l u x)/\(((cnt p1.1)+1:Int)=cnt (chU l u x))
def VC_cmChain_9 (p1:List Bool × Int × List Int) (l:List GAtom) (u:List Bool) (x:GAtom) (v:Value):Prop:=True/\True/\True/\(((p1.2.2 ++ ([(uaI l (sx6 p1.1) (p1.2.1:Int))]:List Int),true,()):(List Int) × Bool × Unit)=(chL l u x,chB l u x,()))/\(VC_cmChain_8 v p1 l u x)
def VC_cmChain_10 (l:List GAtom) (u:List Bool) (x:GAtom) (p1:List Bool × Int × List Int):Prop:=chI l u x ((sx6 ((sx6 p1.1).set (uaI l (sx6 p1.1) (p1.2.1:Int)).toNat true)),((l.getD (uaI l (sx6 p1.1) (p1.2.1:Int)).toNat (⟨0,0,0⟩:GAtom)).b),(p1.2.2 ++ ([(uaI l (sx6 p1.1) (p1.2.1:Int))]:List Int))).1 ((sx6 ((sx6 p1.1).set (uaI l (sx6 p1.1) (p1.2.1:Int)).toNat true)),((l.getD (uaI l (sx6 p1.1) (p1.2.1:Int)).toNat (⟨0,0,0⟩:GAtom)).b),(p1.2.2 ++ ([(uaI l (sx6 p1.1) (p1.2.1:Int))]:List Int))).2.1 ((sx6 ((sx6 p1.1).set (uaI l (sx6 p1.1) (p1.2.1:Int)).toNat true)),((l.getD (uaI l (sx6 p1.1) (p1.2.1:Int)).toNat (⟨0,0,0⟩:GAtom)).b),(p1.2.2 ++ ([(uaI l (sx6 p1.1) (p1.2.1:Int))]:List Int))).2.2
def VC_cmChain_11 (p1:List Bool × Int × List Int) (l:List GAtom):Prop:=6 - ((sx6 ((sx6 p1.1).set (uaI l (sx6 p1.1) (p1.2.1:Int)).toNat true)),((l.getD (uaI l (sx6 p1.1) (p1.2.1:Int)).toNat (⟨0,0,0⟩:GAtom)).b),(p1.2.2 ++ ([(uaI l (sx6 p1.1) (p1.2.1:Int))]:List Int))).2.2.length < 6 - p1.2.2.length
def VC_cmChain_12 (l:List GAtom) (p1:List Bool × Int × List Int) (x:GAtom) (v:Value):Prop:=((([.s (.c (.d (.val (.int .i64 ((l.getD (uaI l (sx6 p1.1) (p1.2.1:Int)).toNat (⟨0,0,0⟩:GAtom)).b)))))]:List S)=[.s (.c (.d (.val (.int .i64 (((sx6 ((sx6 p1.1).set (uaI l (sx6 p1.1) (p1.2.1:Int)).toNat true)),((l.getD (uaI l (sx6 p1.1) (p1.2.1:Int)).toNat (⟨0,0,0⟩:GAtom)).b),(p1.2.2 ++ ([(uaI l (sx6 p1.1) (p1.2.1:Int))]:List Int))).2.1:Int)))))])/\(VC_cmChain_2 x)/\(([some (.blk [.d (.fix .atom l v),.d (.val (.bool (((sx6 p1.1).set (uaI l (sx6 p1.1) (p1.2.1:Int)).toNat true).getD 0 false))),.d (.val (.bool (((sx6 p1.1).set (uaI l (sx6 p1.1) (p1.2.1:Int)).toNat true).getD 1 false))),.d (.val (.bool (((sx6 p1.1).set (uaI l (sx6 p1.1) (p1.2.1:Int)).toNat true).getD 2 false))),.d (.val (.bool (((sx6 p1.1).set (uaI l (sx6 p1.1) (p1.2.1:Int)).toNat true).getD 3 false))),.d (.val (.bool (((sx6 p1.1).set (uaI l (sx6 p1.1) (p1.2.1:Int)).toNat true).getD 4 false))),.d (.val (.bool (((sx6 p1.1).set (uaI l (sx6 p1.1) (p1.2.1:Int)).toNat true).getD 5 false))),.d (.val (.int .i64 ((cnt p1.1)+1)))])]:List (Option Res))=[some (.blk [.d (.fix .atom l v),.d (.val (.bool (((sx6 ((sx6 p1.1).set (uaI l (sx6 p1.1) (p1.2.1:Int)).toNat true)),((l.getD (uaI l (sx6 p1.1) (p1.2.1:Int)).toNat (⟨0,0,0⟩:GAtom)).b),(p1.2.2 ++ ([(uaI l (sx6 p1.1) (p1.2.1:Int))]:List Int))).1.getD 0 false))),.d (.val (.bool (((sx6 ((sx6 p1.1).set (uaI l (sx6 p1.1) (p1.2.1:Int)).toNat true)),((l.getD (uaI l (sx6 p1.1) (p1.2.1:Int)).toNat (⟨0,0,0⟩:GAtom)).b),(p1.2.2 ++ ([(uaI l (sx6 p1.1) (p1.2.1:Int))]:List Int))).1.getD 1 false))),.d (.val (.bool (((sx6 ((sx6 p1.1).set (uaI l (sx6 p1.1) (p1.2.1:Int)).toNat true)),((l.getD (uaI l (sx6 p1.1) (p1.2.1:Int)).toNat (⟨0,0,0⟩:GAtom)).b),(p1.2.2 ++ ([(uaI l (sx6 p1.1) (p1.2.1:Int))]:List Int))).1.getD 2 false))),.d (.val (.bool (((sx6 ((sx6 p1.1).set (uaI l (sx6 p1.1) (p1.2.1:Int)).toNat true)),((l.getD (uaI l (sx6 p1.1) (p1.2.1:Int)).toNat (⟨0,0,0⟩:GAtom)).b),(p1.2.2 ++ ([(uaI l (sx6 p1.1) (p1.2.1:Int))]:List Int))).1.getD 3 false))),.d (.val (.bool (((sx6 ((sx6 p1.1).set (uaI l (sx6 p1.1) (p1.2.1:Int)).toNat true)),((l.getD (uaI l (sx6 p1.1) (p1.2.1:Int)).toNat (⟨0,0,0⟩:GAtom)).b),(p1.2.2 ++ ([(uaI l (sx6 p1.1) (p1.2.1:Int))]:List Int))).1.getD 4 false))),.d (.val (.bool (((sx6 ((sx6 p1.1).set (uaI l (sx6 p1.1) (p1.2.1:Int)).toNat true)),((l.getD (uaI l (sx6 p1.1) (p1.2.1:Int)).toNat (⟨0,0,0⟩:GAtom)).b),(p1.2.2 ++ ([(uaI l (sx6 p1.1) (p1.2.1:Int))]:List Int))).1.getD 5 false))),.d (.val (.int .i64 (cnt ((sx6 ((sx6 p1.1).set (uaI l (sx6 p1.1) (p1.2.1:Int)).toNat true)),((l.getD (uaI l (sx6 p1.1) (p1.2.1:Int)).toNat (⟨0,0,0⟩:GAtom)).b),(p1.2.2 ++ ([(uaI l (sx6 p1.1) (p1.2.1:Int))]:List Int))).1)))])])/\(((some (p1.2.2 ++ ([(uaI l (sx6 p1.1) (p1.2.1:Int))]:List Int)):Option (List Int))=some (((sx6 ((sx6 p1.1).set (uaI l (sx6 p1.1) (p1.2.1:Int)).toNat true)),((l.getD (uaI l (sx6 p1.1) (p1.2.1:Int)).toNat (⟨0,0,0⟩:GAtom)).b),(p1.2.2 ++ ([(uaI l (sx6 p1.1) (p1.2.1:Int))]:List Int))).2.2))/\True)/\TT)
def VC_cmChain_13 (l:List GAtom) (p1:List Bool × Int × List Int) (x:GAtom) (v:Value):Prop:=(VC_cmChain_12 l p1 x v)
def VC_cmChain_14 (l:List GAtom) (u:List Bool) (x:GAtom) (p1:List Bool × Int × List Int) (v:Value):Prop:=True/\(VC_cmChain_10 l u x p1)/\(VC_cmChain_11 p1 l)/\TT/\(RL [.s (.c (.ptr 7 0)),.s (.c (.ptr 79 0)),.s (.c (.d (.val (.bool true))))])/\(VC_cmChain_13 l p1 x v)
def VC_cmChain_15 (l:List GAtom) (u:List Bool) (x:GAtom) (p2:List Bool × Int × List Int) (v:Value):Prop:=(VC_cmChain_10 l u x p2)/\(VC_cmChain_11 p2 l)/\TT/\(RL [.s (.c (.ptr 7 0)),.s (.c (.ptr 79 0)),.s (.c (.d (.val (.bool (bgn l x.b)))))])/\(VC_cmChain_13 l p2 x v)
def VC_cmChain (l:List GAtom) (u:List Bool) (n:Int) (x:GAtom) (v:Value) (k:Nat):Prop:=TN/\TN/\True/\True/\True/\True/\True/\(vcIf (x.b == (0:Int)) (True/\True/\TN/\True/\True/\True/\((VC_cmChain_1 l u x)/\TT/\(RL [.s (.c (.ptr 7 0)),.s (.c (.ptr 79 0)),.s (.c (.d (.val (.bool true))))])/\(VC_cmChain_3 x u l v n))/\(∀ p1:List Bool × Int × List Int,(chI l u x p1.1 p1.2.1 p1.2.2)->True/\True/\TF/\TF/\True/\True/\(l.length<=6/\(sx6 p1.1).length=6/\(cnt p1.1)=cnt (sx6 p1.1))/\True/\True/\True/\True/\True/\True/\True/\(vcIf (!(uaB l (sx6 p1.1) (p1.2.1:Int))) (VC_cmChain_4 l u x v p1) (True/\True/\TF/\TF/\True/\True/\(VC_cmChain_5 l p1)/\True/\True/\(TN/\True)/\(VC_cmChain_6 p1 l)/\True/\True/\True/\True/\True/\True/\(VC_cmChain_7 l p1)/\True/\True/\True/\True/\True/\True/\True/\(vcIf (((l.getD (uaI l (sx6 p1.1) (p1.2.1:Int)).toNat (⟨0,0,0⟩:GAtom)).b) == x.b) (VC_cmChain_9 p1 l u x v) (True/\True/\True/\True/\True/\(VC_cmChain_7 l p1)/\True/\True/\True/\True/\(vcIf (((l.getD (uaI l (sx6 p1.1) (p1.2.1:Int)).toNat (⟨0,0,0⟩:GAtom)).kind) == (2:Int)) (True/\True/\(VC_cmChain_14 l u x p1 v)) (VC_cmChain_14 l u x p1 v)))))))) (True/\True/\True/\True/\True/\True/\((l.length<=1048576)/\True/\True)/\True/\True/\TN/\True/\True/\True/\((VC_cmChain_1 l u x)/\TT/\(RL [.s (.c (.ptr 7 0)),.s (.c (.ptr 79 0)),.s (.c (.d (.val (.bool (bgn l x.b)))))])/\(VC_cmChain_3 x u l v n))/\(∀ p2:List Bool × Int × List Int,(chI l u x p2.1 p2.2.1 p2.2.2)->True/\True/\TF/\TF/\True/\True/\(l.length<=6/\(sx6 p2.1).length=6/\(cnt p2.1)=cnt (sx6 p2.1))/\True/\True/\True/\True/\True/\True/\True/\(vcIf (!(uaB l (sx6 p2.1) (p2.2.1:Int))) (VC_cmChain_4 l u x v p2) (True/\True/\TF/\TF/\True/\True/\(VC_cmChain_5 l p2)/\True/\True/\(TN/\True)/\(VC_cmChain_6 p2 l)/\True/\True/\True/\True/\True/\True/\(VC_cmChain_7 l p2)/\True/\True/\True/\True/\True/\True/\True/\(vcIf (((l.getD (uaI l (sx6 p2.1) (p2.2.1:Int)).toNat (⟨0,0,0⟩:GAtom)).b) == x.b) (VC_cmChain_9 p2 l u x v) (True/\True/\True/\True/\True/\(VC_cmChain_7 l p2)/\True/\True/\True/\True/\(vcIf (((l.getD (uaI l (sx6 p2.1) (p2.2.1:Int)).toNat (⟨0,0,0⟩:GAtom)).kind) == (2:Int)) (True/\True/\True/\(vcIf (!(bgn l x.b)) (TN/\True/\(((([]:List Int),false,()):(List Int) × Bool × Unit)=(chL l u x,chB l u x,()))/\(VC_cmChain_8 v p2 l u x)) (VC_cmChain_15 l u x p2 v))) (True/\(VC_cmChain_15 l u x p2 v))))))))))
theorem vcn_cmChain (l:List GAtom) (u:List Bool) (n:Int) (x:GAtom) (v:Value) (k:Nat) (hp:l.length<=6/\u.length=6/\n=cnt u):VC_cmChain l u n x v k:=by
 unfold VC_cmChain VC_cmChain_15 VC_cmChain_14 VC_cmChain_13 VC_cmChain_12 VC_cmChain_11 VC_cmChain_10 VC_cmChain_9 VC_cmChain_8 VC_cmChain_7 VC_cmChain_6 VC_cmChain_5 VC_cmChain_4 VC_cmChain_3 VC_cmChain_2 VC_cmChain_1
 simp only [cln,Nat.reduceEqDiff,Nat.reduceLeDiff,Nat.reduceAdd]
 obtain ⟨hl,hu,hn⟩:=hp
 subst hn
 have h6:=sx6_eta hu
 simp only [h6]
 all_goals (try simp only [opn])
 all_goals (repeat' (first | apply And.intro | intro _))
 all_goals (first | trivial | exact chI_zero hu | omega | skip)
 all_goals (try (have h7:=‹chI _ _ _ _ _ _›;have h8:=sx6_eta h7.len;simp only [h8] at *))
 all_goals (first | trivial | exact h7.len | skip)
 all_goals (try (have hb:=‹uaB _ _ _=true›;have h9:=ch_kit h7 hb hl))
 all_goals (try simp only [h9.2.2.2.2.2.1])
 all_goals (try have h12:=h9.2.2.2.2.2.2)
 all_goals (try have h13:=h9.2.2.2.1)
 all_goals (first
  | omega | assumption | rfl
  | exact (ch_no h7 ‹_›).1.symm | exact (ch_no h7 ‹_›).2.1.symm | exact (ch_no h7 ‹_›).2.2.symm | (rw [(ch_no h7 ‹_›).1];done)
  | exact (ch_end h7 hb hl ‹_›).1.symm | exact (ch_end h7 hb hl ‹_›).2.1.symm | exact (ch_end h7 hb hl ‹_›).2.2.symm
  | (rw [(ch_end h7 hb hl ‹_›).1];symm;assumption)
  | exact ch_go h7 hb hl ‹_› (.inr (cl1 ‹_›)) | exact ch_go h7 hb hl ‹_› (.inr (cl2 ‹_›)) | exact ch_go h7 hb hl ‹_› (.inl ‹_›)
  | (rw [List.length_append,List.length_singleton];omega)
  | exact (ch_open h7 hb hl ‹_› ‹_› (cl3 ‹_› ‹_›)).1.symm | exact (ch_open h7 hb hl ‹_› ‹_› (cl3 ‹_› ‹_›)).2.1.symm | exact (ch_open h7 hb hl ‹_› ‹_› (cl3 ‹_› ‹_›)).2.2.symm
  | (rw [(ch_open h7 hb hl ‹_› ‹_› (cl3 ‹_› ‹_›)).1];symm;assumption)
  | skip)
theorem ptok_cmChain:PTOk Try.prog E 138 pt_cmChain :=
 blk_ok (c:=m_cmChain) (fn:=Try.f138) (l:=L_cmChain) (lp:=P_cmChain) (hp:=hp_cmChain) (perm:=fun _=>[]) tabOk mix ⟨ok_beginsAt,trivial⟩ ⟨ptok_cmUnused,ptok_cmTake,trivial⟩ Try.func138 rfl (by kernel_rfl) rfl (show m_cmChain.k2.length+1<=Try.f138.ntmps by decide) (by kernel_rfl) (anns:=fun l u n y v=>an_cmChain l u n y.1 v) (fun l u n ⟨x,_⟩ v hp=>Eq.mp (by kernel_rfl) (vcn_cmChain l u n x v 0 hp))
abbrev c_matchCase:Con:=⟨[.asn,.asn,.kase],[.sl .ints,.bool],fun (a,b,c,_)=>asV a=true/\asV b=true/\c.length=9,.inr fun (a,b,c,_) r=>r.2.1=MC a b c,fun _=>0⟩
abbrev L_matchCase:List (FuncId × Con):=[(102,c_iFilled),(136,c_factsHold)]
abbrev P_matchCase:List (FuncId × PT):=[(137,pt_cmCell),(138,pt_cmChain)]
def an_matchCase (a:GAsn) (b:GAsn) (c:List Int):Nat->St->Option Ann
 | 6,se=>some { α:=Nat × List (List Int) × List Bool,ok:=fun p=>p.1<=(fL c b.atoms).length/\p.2.1.length=p.1/\mcI (fL c a.atoms) (fL c b.atoms) p.1 p.2.2,mu:=fun p=>(fL c b.atoms).length - p.1,i0:=fun st=>(0,([]:List (List Int)),usedAt st 143),nx:=fun p st=>(p.1+1,slAt .ints st (.slot 9),usedAt st 143),live:=[8,24,25],sets:=fun p=>[(26,sv (.int .i64 p.1))],mids:=[384],blks:=fun p=>[(143,.blk [.own 8,.d (.val (.bool (p.2.2.getD 0 false))),.d (.val (.bool (p.2.2.getD 1 false))),.d (.val (.bool (p.2.2.getD 2 false))),.d (.val (.bool (p.2.2.getD 3 false))),.d (.val (.bool (p.2.2.getD 4 false))),.d (.val (.bool (p.2.2.getD 5 false))),.d (.val (.int .i64 (cnt p.2.2)))])],owns:=fun p=>[⟨8,.cell 143 0,.atom,fL c a.atoms⟩,⟨9,.slot 9,.ints,p.2.1⟩],rd:=fun r _=>r,base:=100000 }
 | _,_=>none
def hp_matchCase:Nat->Bool
 | 11=>true
 | 12=>true
 | _=>false
def VC_matchCase_1 (a:GAsn) (b:GAsn) (c:List Int):Prop:=TN/\True/\(false=MC a b c)/\(True/\True)/\((TF/\TF)/\True)/\True/\(True/\True)/\TF
def VC_matchCase_2 (c:List Int) (b:GAsn):Prop:=RL [.s (.c (.ptr 143 0)),.s (.c (.own 384)),.s (.c (.d (.val (.int .i64 (((fL c b.atoms).length:Nat):Int)))))]
def VC_matchCase_3 (c:List Int) (a:GAsn) (p1:Nat × List (List Int) × List Bool) (b:GAsn):Prop:=((([some (.blk [.own 8,.d (.val (.bool ((ucU (fL c a.atoms) (sx6 p1.2.2) ((fL c b.atoms).getD (p1.1:Int).toNat (⟨0,0,0⟩:GAtom))).getD 0 false))),.d (.val (.bool ((ucU (fL c a.atoms) (sx6 p1.2.2) ((fL c b.atoms).getD (p1.1:Int).toNat (⟨0,0,0⟩:GAtom))).getD 1 false))),.d (.val (.bool ((ucU (fL c a.atoms) (sx6 p1.2.2) ((fL c b.atoms).getD (p1.1:Int).toNat (⟨0,0,0⟩:GAtom))).getD 2 false))),.d (.val (.bool ((ucU (fL c a.atoms) (sx6 p1.2.2) ((fL c b.atoms).getD (p1.1:Int).toNat (⟨0,0,0⟩:GAtom))).getD 3 false))),.d (.val (.bool ((ucU (fL c a.atoms) (sx6 p1.2.2) ((fL c b.atoms).getD (p1.1:Int).toNat (⟨0,0,0⟩:GAtom))).getD 4 false))),.d (.val (.bool ((ucU (fL c a.atoms) (sx6 p1.2.2) ((fL c b.atoms).getD (p1.1:Int).toNat (⟨0,0,0⟩:GAtom))).getD 5 false))),.d (.val (.int .i64 (cnt (ucU (fL c a.atoms) (sx6 p1.2.2) ((fL c b.atoms).getD (p1.1:Int).toNat (⟨0,0,0⟩:GAtom))))))])]:List (Option Res))=[some (.blk [.own 8,.d (.val (.bool ((p1.1+1,(p1.2.1 ++ ([(ucL (fL c a.atoms) (sx6 p1.2.2) ((fL c b.atoms).getD (p1.1:Int).toNat (⟨0,0,0⟩:GAtom)))]:List (List Int))),(sx6 (ucU (fL c a.atoms) (sx6 p1.2.2) ((fL c b.atoms).getD (p1.1:Int).toNat (⟨0,0,0⟩:GAtom))))).2.2.getD 0 false))),.d (.val (.bool ((p1.1+1,(p1.2.1 ++ ([(ucL (fL c a.atoms) (sx6 p1.2.2) ((fL c b.atoms).getD (p1.1:Int).toNat (⟨0,0,0⟩:GAtom)))]:List (List Int))),(sx6 (ucU (fL c a.atoms) (sx6 p1.2.2) ((fL c b.atoms).getD (p1.1:Int).toNat (⟨0,0,0⟩:GAtom))))).2.2.getD 1 false))),.d (.val (.bool ((p1.1+1,(p1.2.1 ++ ([(ucL (fL c a.atoms) (sx6 p1.2.2) ((fL c b.atoms).getD (p1.1:Int).toNat (⟨0,0,0⟩:GAtom)))]:List (List Int))),(sx6 (ucU (fL c a.atoms) (sx6 p1.2.2) ((fL c b.atoms).getD (p1.1:Int).toNat (⟨0,0,0⟩:GAtom))))).2.2.getD 2 false))),.d (.val (.bool ((p1.1+1,(p1.2.1 ++ ([(ucL (fL c a.atoms) (sx6 p1.2.2) ((fL c b.atoms).getD (p1.1:Int).toNat (⟨0,0,0⟩:GAtom)))]:List (List Int))),(sx6 (ucU (fL c a.atoms) (sx6 p1.2.2) ((fL c b.atoms).getD (p1.1:Int).toNat (⟨0,0,0⟩:GAtom))))).2.2.getD 3 false))),.d (.val (.bool ((p1.1+1,(p1.2.1 ++ ([(ucL (fL c a.atoms) (sx6 p1.2.2) ((fL c b.atoms).getD (p1.1:Int).toNat (⟨0,0,0⟩:GAtom)))]:List (List Int))),(sx6 (ucU (fL c a.atoms) (sx6 p1.2.2) ((fL c b.atoms).getD (p1.1:Int).toNat (⟨0,0,0⟩:GAtom))))).2.2.getD 4 false))),.d (.val (.bool ((p1.1+1,(p1.2.1 ++ ([(ucL (fL c a.atoms) (sx6 p1.2.2) ((fL c b.atoms).getD (p1.1:Int).toNat (⟨0,0,0⟩:GAtom)))]:List (List Int))),(sx6 (ucU (fL c a.atoms) (sx6 p1.2.2) ((fL c b.atoms).getD (p1.1:Int).toNat (⟨0,0,0⟩:GAtom))))).2.2.getD 5 false))),.d (.val (.int .i64 (cnt (p1.1+1,(p1.2.1 ++ ([(ucL (fL c a.atoms) (sx6 p1.2.2) ((fL c b.atoms).getD (p1.1:Int).toNat (⟨0,0,0⟩:GAtom)))]:List (List Int))),(sx6 (ucU (fL c a.atoms) (sx6 p1.2.2) ((fL c b.atoms).getD (p1.1:Int).toNat (⟨0,0,0⟩:GAtom))))).2.2)))])])/\(((some (fL c a.atoms):Option (List GAtom))=some (fL c a.atoms))/\((some (p1.2.1 ++ ([(ucL (fL c a.atoms) (sx6 p1.2.2) ((fL c b.atoms).getD (p1.1:Int).toNat (⟨0,0,0⟩:GAtom)))]:List (List Int))):Option (List (List Int)))=some ((p1.1+1,(p1.2.1 ++ ([(ucL (fL c a.atoms) (sx6 p1.2.2) ((fL c b.atoms).getD (p1.1:Int).toNat (⟨0,0,0⟩:GAtom)))]:List (List Int))),(sx6 (ucU (fL c a.atoms) (sx6 p1.2.2) ((fL c b.atoms).getD (p1.1:Int).toNat (⟨0,0,0⟩:GAtom))))).2.1))/\True)/\TT)
def VC_matchCase_4 (c:List Int) (a:GAsn) (p1:Nat × List (List Int) × List Bool) (b:GAsn):Prop:=((([some (.blk [.own 8,.d (.val (.bool ((chU (fL c a.atoms) (sx6 p1.2.2) ((fL c b.atoms).getD (p1.1:Int).toNat (⟨0,0,0⟩:GAtom))).getD 0 false))),.d (.val (.bool ((chU (fL c a.atoms) (sx6 p1.2.2) ((fL c b.atoms).getD (p1.1:Int).toNat (⟨0,0,0⟩:GAtom))).getD 1 false))),.d (.val (.bool ((chU (fL c a.atoms) (sx6 p1.2.2) ((fL c b.atoms).getD (p1.1:Int).toNat (⟨0,0,0⟩:GAtom))).getD 2 false))),.d (.val (.bool ((chU (fL c a.atoms) (sx6 p1.2.2) ((fL c b.atoms).getD (p1.1:Int).toNat (⟨0,0,0⟩:GAtom))).getD 3 false))),.d (.val (.bool ((chU (fL c a.atoms) (sx6 p1.2.2) ((fL c b.atoms).getD (p1.1:Int).toNat (⟨0,0,0⟩:GAtom))).getD 4 false))),.d (.val (.bool ((chU (fL c a.atoms) (sx6 p1.2.2) ((fL c b.atoms).getD (p1.1:Int).toNat (⟨0,0,0⟩:GAtom))).getD 5 false))),.d (.val (.int .i64 (cnt (chU (fL c a.atoms) (sx6 p1.2.2) ((fL c b.atoms).getD (p1.1:Int).toNat (⟨0,0,0⟩:GAtom))))))])]:List (Option Res))=[some (.blk [.own 8,.d (.val (.bool ((p1.1+1,(p1.2.1 ++ ([(chL (fL c a.atoms) (sx6 p1.2.2) ((fL c b.atoms).getD (p1.1:Int).toNat (⟨0,0,0⟩:GAtom)))]:List (List Int))),(sx6 (chU (fL c a.atoms) (sx6 p1.2.2) ((fL c b.atoms).getD (p1.1:Int).toNat (⟨0,0,0⟩:GAtom))))).2.2.getD 0 false))),.d (.val (.bool ((p1.1+1,(p1.2.1 ++ ([(chL (fL c a.atoms) (sx6 p1.2.2) ((fL c b.atoms).getD (p1.1:Int).toNat (⟨0,0,0⟩:GAtom)))]:List (List Int))),(sx6 (chU (fL c a.atoms) (sx6 p1.2.2) ((fL c b.atoms).getD (p1.1:Int).toNat (⟨0,0,0⟩:GAtom))))).2.2.getD 1 false))),.d (.val (.bool ((p1.1+1,(p1.2.1 ++ ([(chL (fL c a.atoms) (sx6 p1.2.2) ((fL c b.atoms).getD (p1.1:Int).toNat (⟨0,0,0⟩:GAtom)))]:List (List Int))),(sx6 (chU (fL c a.atoms) (sx6 p1.2.2) ((fL c b.atoms).getD (p1.1:Int).toNat (⟨0,0,0⟩:GAtom))))).2.2.getD 2 false))),.d (.val (.bool ((p1.1+1,(p1.2.1 ++ ([(chL (fL c a.atoms) (sx6 p1.2.2) ((fL c b.atoms).getD (p1.1:Int).toNat (⟨0,0,0⟩:GAtom)))]:List (List Int))),(sx6 (chU (fL c a.atoms) (sx6 p1.2.2) ((fL c b.atoms).getD (p1.1:Int).toNat (⟨0,0,0⟩:GAtom))))).2.2.getD 3 false))),.d (.val (.bool ((p1.1+1,(p1.2.1 ++ ([(chL (fL c a.atoms) (sx6 p1.2.2) ((fL c b.atoms).getD (p1.1:Int).toNat (⟨0,0,0⟩:GAtom)))]:List (List Int))),(sx6 (chU (fL c a.atoms) (sx6 p1.2.2) ((fL c b.atoms).getD (p1.1:Int).toNat (⟨0,0,0⟩:GAtom))))).2.2.getD 4 false))),.d (.val (.bool ((p1.1+1,(p1.2.1 ++ ([(chL (fL c a.atoms) (sx6 p1.2.2) ((fL c b.atoms).getD (p1.1:Int).toNat (⟨0,0,0⟩:GAtom)))]:List (List Int))),(sx6 (chU (fL c a.atoms) (sx6 p1.2.2) ((fL c b.atoms).getD (p1.1:Int).toNat (⟨0,0,0⟩:GAtom))))).2.2.getD 5 false))),.d (.val (.int .i64 (cnt (p1.1+1,(p1.2.1 ++ ([(chL (fL c a.atoms) (sx6 p1.2.2) ((fL c b.atoms).getD (p1.1:Int).toNat (⟨0,0,0⟩:GAtom)))]:List (List Int))),(sx6 (chU (fL c a.atoms) (sx6 p1.2.2) ((fL c b.atoms).getD (p1.1:Int).toNat (⟨0,0,0⟩:GAtom))))).2.2)))])])/\(((some (fL c a.atoms):Option (List GAtom))=some (fL c a.atoms))/\((some (p1.2.1 ++ ([(chL (fL c a.atoms) (sx6 p1.2.2) ((fL c b.atoms).getD (p1.1:Int).toNat (⟨0,0,0⟩:GAtom)))]:List (List Int))):Option (List (List Int)))=some ((p1.1+1,(p1.2.1 ++ ([(chL (fL c a.atoms) (sx6 p1.2.2) ((fL c b.atoms).getD (p1.1:Int).toNat (⟨0,0,0⟩:GAtom)))]:List (List Int))),(sx6 (chU (fL c a.atoms) (sx6 p1.2.2) ((fL c b.atoms).getD (p1.1:Int).toNat (⟨0,0,0⟩:GAtom))))).2.1))/\True)/\TT)
def VC_matchCase_5 (c:List Int) (b:GAsn) (p1:Nat × List (List Int) × List Bool) (a:GAsn):Prop:=(True/\(vcIf ((((fL c b.atoms).getD (p1.1:Int).toNat (⟨0,0,0⟩:GAtom)).kind) == (1:Int)) (True/\TF/\TF/\(TF/\True)/\(TN/\True)/\((fL c a.atoms).length<=6/\(sx6 p1.2.2).length=6/\(cnt p1.2.2)=cnt (sx6 p1.2.2))/\True/\True/\True/\True/\True/\True/\True/\(vcIf (!(ucB (fL c a.atoms) (sx6 p1.2.2) ((fL c b.atoms).getD (p1.1:Int).toNat (⟨0,0,0⟩:GAtom)))) (VC_matchCase_1 a b c) (True/\True/\(TN/\TF/\True)/\(TN/\TF/\TF/\(p1.2.1.length+([(ucL (fL c a.atoms) (sx6 p1.2.2) ((fL c b.atoms).getD (p1.1:Int).toNat (⟨0,0,0⟩:GAtom)))]:List (List Int)).length<=4294967296))/\True/\(inK .i64 ((p1.1:Int)+(1:Int)))/\True/\((p1.1+1,(p1.2.1 ++ ([(ucL (fL c a.atoms) (sx6 p1.2.2) ((fL c b.atoms).getD (p1.1:Int).toNat (⟨0,0,0⟩:GAtom)))]:List (List Int))),(sx6 (ucU (fL c a.atoms) (sx6 p1.2.2) ((fL c b.atoms).getD (p1.1:Int).toNat (⟨0,0,0⟩:GAtom))))).1<=(fL c b.atoms).length/\(p1.1+1,(p1.2.1 ++ ([(ucL (fL c a.atoms) (sx6 p1.2.2) ((fL c b.atoms).getD (p1.1:Int).toNat (⟨0,0,0⟩:GAtom)))]:List (List Int))),(sx6 (ucU (fL c a.atoms) (sx6 p1.2.2) ((fL c b.atoms).getD (p1.1:Int).toNat (⟨0,0,0⟩:GAtom))))).2.1.length=(p1.1+1,(p1.2.1 ++ ([(ucL (fL c a.atoms) (sx6 p1.2.2) ((fL c b.atoms).getD (p1.1:Int).toNat (⟨0,0,0⟩:GAtom)))]:List (List Int))),(sx6 (ucU (fL c a.atoms) (sx6 p1.2.2) ((fL c b.atoms).getD (p1.1:Int).toNat (⟨0,0,0⟩:GAtom))))).1/\mcI (fL c a.atoms) (fL c b.atoms) (p1.1+1,(p1.2.1 ++ ([(ucL (fL c a.atoms) (sx6 p1.2.2) ((fL c b.atoms).getD (p1.1:Int).toNat (⟨0,0,0⟩:GAtom)))]:List (List Int))),(sx6 (ucU (fL c a.atoms) (sx6 p1.2.2) ((fL c b.atoms).getD (p1.1:Int).toNat (⟨0,0,0⟩:GAtom))))).1 (p1.1+1,(p1.2.1 ++ ([(ucL (fL c a.atoms) (sx6 p1.2.2) ((fL c b.atoms).getD (p1.1:Int).toNat (⟨0,0,0⟩:GAtom)))]:List (List Int))),(sx6 (ucU (fL c a.atoms) (sx6 p1.2.2) ((fL c b.atoms).getD (p1.1:Int).toNat (⟨0,0,0⟩:GAtom))))).2.2)/\((fL c b.atoms).length - (p1.1+1,(p1.2.1 ++ ([(ucL (fL c a.atoms) (sx6 p1.2.2) ((fL c b.atoms).getD (p1.1:Int).toNat (⟨0,0,0⟩:GAtom)))]:List (List Int))),(sx6 (ucU (fL c a.atoms) (sx6 p1.2.2) ((fL c b.atoms).getD (p1.1:Int).toNat (⟨0,0,0⟩:GAtom))))).1 < (fL c b.atoms).length - p1.1)/\TT/\(VC_matchCase_2 c b)/\(([.s (.c (.d (.val (.int .i64 ((p1.1:Int)+(1:Int))))))]:List S)=[.s (.c (.d (.val (.int .i64 ((p1.1+1,(p1.2.1 ++ ([(ucL (fL c a.atoms) (sx6 p1.2.2) ((fL c b.atoms).getD (p1.1:Int).toNat (⟨0,0,0⟩:GAtom)))]:List (List Int))),(sx6 (ucU (fL c a.atoms) (sx6 p1.2.2) ((fL c b.atoms).getD (p1.1:Int).toNat (⟨0,0,0⟩:GAtom))))).1:Int)))))])/\(RM [some (.sl 384 .atom (fL c b.atoms))])/\(VC_matchCase_3 c a p1 b)))) (True/\TF/\TF/\(TF/\True)/\(TN/\True)/\((fL c a.atoms).length<=6/\(sx6 p1.2.2).length=6/\(cnt p1.2.2)=cnt (sx6 p1.2.2))/\True/\True/\True/\True/\True/\True/\True/\(vcIf (!(chB (fL c a.atoms) (sx6 p1.2.2) ((fL c b.atoms).getD (p1.1:Int).toNat (⟨0,0,0⟩:GAtom)))) (VC_matchCase_1 a b c) (True/\True/\(TN/\TF/\True)/\(TN/\TF/\TF/\(p1.2.1.length+([(chL (fL c a.atoms) (sx6 p1.2.2) ((fL c b.atoms).getD (p1.1:Int).toNat (⟨0,0,0⟩:GAtom)))]:List (List Int)).length<=4294967296))/\True/\(inK .i64 ((p1.1:Int)+(1:Int)))/\True/\((p1.1+1,(p1.2.1 ++ ([(chL (fL c a.atoms) (sx6 p1.2.2) ((fL c b.atoms).getD (p1.1:Int).toNat (⟨0,0,0⟩:GAtom)))]:List (List Int))),(sx6 (chU (fL c a.atoms) (sx6 p1.2.2) ((fL c b.atoms).getD (p1.1:Int).toNat (⟨0,0,0⟩:GAtom))))).1<=(fL c b.atoms).length/\(p1.1+1,(p1.2.1 ++ ([(chL (fL c a.atoms) (sx6 p1.2.2) ((fL c b.atoms).getD (p1.1:Int).toNat (⟨0,0,0⟩:GAtom)))]:List (List Int))),(sx6 (chU (fL c a.atoms) (sx6 p1.2.2) ((fL c b.atoms).getD (p1.1:Int).toNat (⟨0,0,0⟩:GAtom))))).2.1.length=(p1.1+1,(p1.2.1 ++ ([(chL (fL c a.atoms) (sx6 p1.2.2) ((fL c b.atoms).getD (p1.1:Int).toNat (⟨0,0,0⟩:GAtom)))]:List (List Int))),(sx6 (chU (fL c a.atoms) (sx6 p1.2.2) ((fL c b.atoms).getD (p1.1:Int).toNat (⟨0,0,0⟩:GAtom))))).1/\mcI (fL c a.atoms) (fL c b.atoms) (p1.1+1,(p1.2.1 ++ ([(chL (fL c a.atoms) (sx6 p1.2.2) ((fL c b.atoms).getD (p1.1:Int).toNat (⟨0,0,0⟩:GAtom)))]:List (List Int))),(sx6 (chU (fL c a.atoms) (sx6 p1.2.2) ((fL c b.atoms).getD (p1.1:Int).toNat (⟨0,0,0⟩:GAtom))))).1 (p1.1+1,(p1.2.1 ++ ([(chL (fL c a.atoms) (sx6 p1.2.2) ((fL c b.atoms).getD (p1.1:Int).toNat (⟨0,0,0⟩:GAtom)))]:List (List Int))),(sx6 (chU (fL c a.atoms) (sx6 p1.2.2) ((fL c b.atoms).getD (p1.1:Int).toNat (⟨0,0,0⟩:GAtom))))).2.2)/\((fL c b.atoms).length - (p1.1+1,(p1.2.1 ++ ([(chL (fL c a.atoms) (sx6 p1.2.2) ((fL c b.atoms).getD (p1.1:Int).toNat (⟨0,0,0⟩:GAtom)))]:List (List Int))),(sx6 (chU (fL c a.atoms) (sx6 p1.2.2) ((fL c b.atoms).getD (p1.1:Int).toNat (⟨0,0,0⟩:GAtom))))).1 < (fL c b.atoms).length - p1.1)/\TT/\(VC_matchCase_2 c b)/\(([.s (.c (.d (.val (.int .i64 ((p1.1:Int)+(1:Int))))))]:List S)=[.s (.c (.d (.val (.int .i64 ((p1.1+1,(p1.2.1 ++ ([(chL (fL c a.atoms) (sx6 p1.2.2) ((fL c b.atoms).getD (p1.1:Int).toNat (⟨0,0,0⟩:GAtom)))]:List (List Int))),(sx6 (chU (fL c a.atoms) (sx6 p1.2.2) ((fL c b.atoms).getD (p1.1:Int).toNat (⟨0,0,0⟩:GAtom))))).1:Int)))))])/\(RM [some (.sl 384 .atom (fL c b.atoms))])/\(VC_matchCase_4 c a p1 b))))))
def VC_matchCase_6 (c:List Int) (b:GAsn) (a:GAsn):Prop:=(True/\True/\True/\((c.length=9/\b.facts.all fV=true/\b.facts.length<=1048576)/\True/\True)/\True/\(vcIf (!(b.facts.all (fh c))) (VC_matchCase_1 a b c) (True/\True/\((a.atoms.length<=1048576/\a.atoms.all atV=true/\c.length=9)/\True/\TN/\True)/\(TN/\True)/\(TN/\TN/\True)/\(TF/\TF)/\TN/\True/\True/\((b.atoms.length<=1048576/\b.atoms.all atV=true/\c.length=9)/\True/\TN/\True)/\True/\True/\(((0,([]:List (List Int)),(six false false false false false false)).1<=(fL c b.atoms).length/\(0,([]:List (List Int)),(six false false false false false false)).2.1.length=(0,([]:List (List Int)),(six false false false false false false)).1/\mcI (fL c a.atoms) (fL c b.atoms) (0,([]:List (List Int)),(six false false false false false false)).1 (0,([]:List (List Int)),(six false false false false false false)).2.2)/\TT/\(VC_matchCase_2 c b)/\(([.s (.c (.d (.val (.int .i64 (0:Int)))))]:List S)=[.s (.c (.d (.val (.int .i64 ((0,([]:List (List Int)),(six false false false false false false)).1:Int)))))])/\(RM [some (.sl 384 .atom (fL c b.atoms))])/\(([some (.blk [.own 320,.d (.val (.bool false)),.d (.val (.bool false)),.d (.val (.bool false)),.d (.val (.bool false)),.d (.val (.bool false)),.d (.val (.bool false)),.d (.val (.int .i64 (0:Int)))])]:List (Option Res))=[some (.blk [.own 320,.d (.val (.bool ((0,([]:List (List Int)),(six false false false false false false)).2.2.getD 0 false))),.d (.val (.bool ((0,([]:List (List Int)),(six false false false false false false)).2.2.getD 1 false))),.d (.val (.bool ((0,([]:List (List Int)),(six false false false false false false)).2.2.getD 2 false))),.d (.val (.bool ((0,([]:List (List Int)),(six false false false false false false)).2.2.getD 3 false))),.d (.val (.bool ((0,([]:List (List Int)),(six false false false false false false)).2.2.getD 4 false))),.d (.val (.bool ((0,([]:List (List Int)),(six false false false false false false)).2.2.getD 5 false))),.d (.val (.int .i64 (cnt (0,([]:List (List Int)),(six false false false false false false)).2.2)))])])/\(((some (fL c a.atoms):Option (List GAtom))=some (fL c a.atoms))/\((some ([]:List (List Int)):Option (List (List Int)))=some ((0,([]:List (List Int)),(six false false false false false false)).2.1))/\True)/\TT)/\(∀ p1:Nat × List (List Int) × List Bool,(p1.1<=(fL c b.atoms).length/\p1.2.1.length=p1.1/\mcI (fL c a.atoms) (fL c b.atoms) p1.1 p1.2.2)->True/\(vcIf (decide ((p1.1:Int) < (((fL c b.atoms).length:Nat):Int))) ((0<=(p1.1:Int)/\(p1.1:Int) < (((fL c b.atoms).length:Nat):Int))/\True/\(TN/\True)/\(TF/\TF)/\TN/\True/\True/\True/\(VC_matchCase_5 c b p1 a)) (True/\True/\True/\True/\True/\True/\(vcIf ((cnt p1.2.2) != (((fL c a.atoms).length:Nat):Int)) (VC_matchCase_1 a b c) (True/\True/\True/\(true=MC a b c)/\(True/\True)/\((TF/\TF)/\True)/\True/\(True/\True)/\TF))))))))
def VC_matchCase (a:GAsn) (b:GAsn) (c:List Int) (k:Nat):Prop:=TN/\TN/\TN/\TN/\(VC_matchCase_6 c b a)
theorem vcn_matchCase (a:GAsn) (b:GAsn) (c:List Int) (k:Nat) (hp:asV a=true/\asV b=true/\c.length=9):VC_matchCase a b c k:=by
 unfold VC_matchCase VC_matchCase_6 VC_matchCase_5 VC_matchCase_4 VC_matchCase_3 VC_matchCase_2 VC_matchCase_1
 simp only [cln,Nat.reduceEqDiff,Nat.reduceLeDiff,Nat.reduceAdd]
 have hA:=asV_facts hp.1
 have hB:=asV_facts hp.2.1
 have hLa:=Nat.le_trans (fL_len c a.atoms) hA.2.2.2
 have hLb:=Nat.le_trans (fL_len c b.atoms) hB.2.2.2
 all_goals (try simp only [opn])
 all_goals (repeat' (first | apply And.intro | intro _))
 all_goals (repeat (cases ‹_/\_›))
 all_goals (try (have h7:=‹mcI _ _ _ _›;have h8:=sx6_eta h7.len;simp only [h8] at *))
 all_goals (try simp only [six_uc h7.len,six_ch h7.len] at *)
 all_goals (first | omega | rfl | assumption | (simp_all;done) | skip)
 all_goals (first
  | exact hA.2.2.1 | exact hB.2.2.1 | exact hB.1 | exact mc_no ‹_› | exact mcI_zero
  | exact mc_bad1 ‹_› h7 ‹_› ‹_› ‹_›
  | exact mc_bad2 ‹_› h7 ‹_› ‹_› ‹_›
  | exact mc_go1 h7 ‹_› ‹_› ‹_›
  | exact mc_go2 h7 ‹_› ‹_› ‹_›
  | exact mc_end1 ‹_› h7 ‹_› ‹_›
  | exact mc_end2 ‹_› h7 ‹_› ‹_›
  | exact h7.len
  | skip)
theorem ok_matchCase:FnOk Try.prog E 100 c_matchCase :=
 fn_okQ (l:=L_matchCase) (lp:=P_matchCase) (hp:=hp_matchCase) (gcs:=fun _=>none) (perm:=fun _=>[]) tabOk mix ⟨ok_iFilled,ok_factsHold,trivial⟩ ⟨ptok_cmCell,ptok_cmChain,trivial⟩ Try.func100 rfl (by kernel_rfl) (by decide) (by kernel_rfl) (anns:=fun x _=>an_matchCase x.1 x.2.1 x.2.2.1) (fun ⟨a,b,c,_⟩ k hp _=>Eq.mp (by kernel_rfl) (vcn_matchCase a b c k hp)) (fun ⟨a,b,c,_⟩ _=>⟨([],MC a b c,()),rfl⟩)
abbrev c_failingCase:Con:=⟨[.asn,.asn],[.kase,.bool],fun (a,b,_)=>asV a=true/\asV b=true,.inl fun (a,b,_)=>((FC a b).headD (List.replicate 9 0),!(FC a b).isEmpty,()),fun _=>0⟩
abbrev L_failingCase:List (FuncId × Con):=[(99,c_termsIn),(100,c_matchCase)]
abbrev P_failingCase:List (FuncId × PT):=[(98,pt_possibleCases)]
def hp_failingCase:Nat->Bool
 | 1=>true
 | _=>false
def ra_failingCase (a:GAsn) (b:GAsn):St->Option RAnn:=fun se=>some ⟨fun c=>MC a b c,[2,3,4,5],[47,63,79,95],fun i=>[],[47,63,79,95],fun i=>[],fun i=>[],300000⟩
def VC_failingCase_1 (a:GAsn) (b:GAsn):Prop:=TT/\(RL [.s (.c (.ptr 47 0)),.s (.c (.ptr 63 0)),.s (.c (.ptr 79 0)),.s (.c (.ptr 95 0))])/\(RL [])/\(RM [some (.blk [.d (.arr .fact a.facts),.d (.arr .atom a.atoms)]),some (.blk [.d (.arr .fact b.facts),.d (.arr .atom b.atoms)]),some (.vec .int (List.replicate 9 (0:Int))),some (.blk [.d (.val (.bool false))])])/\(RM [])/\True/\TT
def VC_failingCase_2 (c2_0:Int) (c2_1:Int) (c2_2:Int) (c2_3:Int) (c2_4:Int) (c2_5:Int) (c2_6:Int) (c2_7:Int) (c2_8:Int):Prop:=(([c2_0,c2_1,c2_2,c2_3,c2_4,c2_5,c2_6,c2_7,c2_8]:List Int).length=(List.replicate 9 (0:Int)).length)/\TF/\TF
def VC_failingCase (a:GAsn) (b:GAsn) (k:Nat):Prop:=TT/\TN/\TN/\(TN/\True)/\(TN/\True)/\TT/\True/\True/\((b.facts.length<=281474976710656/\b.atoms.length<=281474976710656)/\True/\True)/\((2:Nat)<=12)/\TN/\True/\True/\((a.facts.length<=281474976710656/\a.atoms.length<=281474976710656)/\True/\True)/\((0<=(tsA a)/\(tsA a) < 512)/\True/\True)/\True/\True/\(TN/\True)/\(TF/\TF)/\True/\True/\((((134:Nat)=134)/\((none:Option Nat)=none)/\(itPre a (bits .or .u16 (tsWith (tsA a) (0:Int)) (tsA b))))/\TT/\(VC_failingCase_1 a b))/\(∀ i1:Nat,∀ c2_0:Int,∀ c2_1:Int,∀ c2_2:Int,∀ c2_3:Int,∀ c2_4:Int,∀ c2_5:Int,∀ c2_6:Int,∀ c2_7:Int,∀ c2_8:Int,((itEn a (bits .or .u16 (tsWith (tsA a) (0:Int)) (tsA b)))[i1]?=some ([c2_0,c2_1,c2_2,c2_3,c2_4,c2_5,c2_6,c2_7,c2_8]:List Int))->(((itEn a (bits .or .u16 (tsWith (tsA a) (0:Int)) (tsA b))).take i1).all (fun c=>MC a b c)=true)->TT/\(TN/\True)/\(VC_failingCase_2 c2_0 c2_1 c2_2 c2_3 c2_4 c2_5 c2_6 c2_7 c2_8)/\((none:Option Nat)=none)/\TT/\True/\True/\(9=([c2_0,c2_1,c2_2,c2_3,c2_4,c2_5,c2_6,c2_7,c2_8]:List Int).length * 1)/\((asV a=true/\asV b=true/\([c2_0,c2_1,c2_2,c2_3,c2_4,c2_5,c2_6,c2_7,c2_8]:List Int).length=9)/\True/\True/\TN/\True)/\(∀ r3:(List (List Int)) × Bool × Unit,(r3.2.1=MC a b ([c2_0,c2_1,c2_2,c2_3,c2_4,c2_5,c2_6,c2_7,c2_8]:List Int))->True/\True/\True/\True/\True/\TT/\True/\True/\(vcIf (!r3.2.1) (TT/\(9=([c2_0,c2_1,c2_2,c2_3,c2_4,c2_5,c2_6,c2_7,c2_8]:List Int).length * 1)/\(VC_failingCase_2 c2_0 c2_1 c2_2 c2_3 c2_4 c2_5 c2_6 c2_7 c2_8)/\(TF/\TF)/\((MC a b ([c2_0,c2_1,c2_2,c2_3,c2_4,c2_5,c2_6,c2_7,c2_8]:List Int))=false)/\((none:Option Nat)=none)/\((none:Option Nat)=none)/\(((([c2_0,c2_1,c2_2,c2_3,c2_4,c2_5,c2_6,c2_7,c2_8]:List Int),true,()):(List Int) × Bool × Unit)=((FC a b).headD (List.replicate 9 0),!(FC a b).isEmpty,()))/\True/\True/\True/\True/\TF) (((MC a b ([c2_0,c2_1,c2_2,c2_3,c2_4,c2_5,c2_6,c2_7,c2_8]:List Int))=true)/\((none:Option Nat)=none)/\(VC_failingCase_1 a b)))))/\(((itEn a (bits .or .u16 (tsWith (tsA a) (0:Int)) (tsA b))).all (fun c=>MC a b c)=true)->TT/\True/\(((List.replicate 9 (0:Int)).length=(List.replicate 9 (0:Int)).length)/\TF/\TF)/\(TF/\TF)/\((none:Option Nat)=none)/\(((List.replicate 9 (0:Int),false,()):(List Int) × Bool × Unit)=((FC a b).headD (List.replicate 9 0),!(FC a b).isEmpty,()))/\True/\True/\True/\True/\TF)
theorem vcn_failingCase (a:GAsn) (b:GAsn) (k:Nat) (hp:asV a=true/\asV b=true):VC_failingCase a b k:=by
 unfold VC_failingCase VC_failingCase_2 VC_failingCase_1
 simp only [cln,Nat.reduceEqDiff,Nat.reduceLeDiff,Nat.reduceAdd]
 have ha:=hp.1
 have hb:=hp.2
 have hs:=asV_facts ha
 have hA:=tsA_bd a
 have hB:=tsA_bd b
 have hsb:=asV_facts hb
 have hI:=itEn_ent ha hb
 have hw:=tsWith_bd (t:=0) hA.1 hA.2
 all_goals (try simp only [opn])
 all_goals (repeat' (first | apply And.intro | intro _))
 all_goals (first | omega | rfl | assumption | exact hI.2 | exact hI.2.2.1 | exact hI.2.2.2 | skip)
 all_goals (first
  | exact (fc_hit ha hb ‹_› ‹_› ((‹_=MC a b _›).symm.trans ‹_›)).1.symm
  | (rw [(fc_hit (d:=[]) ha hb ‹_› ‹_› ((‹_=MC a b _›).symm.trans ‹_›)).2];rfl)
  | exact (‹_=MC a b _›).symm.trans ‹_›
  | (rw [fc_none ha hb ‹_›];rfl)
  | skip)
abbrev spc_failingCase (a:GAsn) (b:GAsn):SpCode Bool:=spR tab (lookF L_failingCase) (lookP P_failingCase) hp_failingCase (fun _=>none) (fun _ _ _=>none) (fun _=>[]) Try.f53.ntmps 134 itPre itEn (ra_failingCase a b)
theorem spcok_failingCase (a:GAsn) (b:GAsn) (wE:World) (ro0:Nat->Option (Array Value)) (ρ:Nat):SpcOk Fence.wide 0 Try.prog E (AC wE ro0 ρ) Try.f53.ntmps (spc_failingCase a b) :=
 spR_ok tabOk (kall_of (l:=L_failingCase) ⟨ok_termsIn,ok_matchCase,trivial⟩) (pall_of (l:=P_failingCase) ⟨ptok_possibleCases,trivial⟩) mix it_ok it_len it_run
theorem vcr_failingCase:∀ x:Args c_failingCase.aks,c_failingCase.pre x->vcY tab (lookF L_failingCase) (lookP P_failingCase) noSpB (spc_failingCase x.1 x.2.1) (fun b=>!b) hp_failingCase (fun _=>none) (fun _ _ _=>none) (fun _=>[]) (bodyOf Try.f53) (entry (encs c_failingCase.aks x) none) false (retR tab c_failingCase Try.f53.results.toList x) :=
 fun ⟨a,b,_⟩ hp=>Eq.mp (by kernel_rfl) (vcn_failingCase a b 0 hp)
theorem ok_failingCase:FnOk Try.prog E 53 c_failingCase :=
 fnR_ok (con:=c_failingCase) (fn:=Try.f53) (l:=L_failingCase) (lp:=P_failingCase) (hp:=hp_failingCase) (gcs:=fun _=>none) (perm:=fun _=>[]) (spc:=fun x=>spc_failingCase x.1 x.2.1) (anns:=fun x=>(fun _ _ _=>none)) tabOk mix ⟨ok_termsIn,ok_matchCase,trivial⟩ ⟨ptok_possibleCases,trivial⟩ rfl Try.func53 rfl (by kernel_rfl) (by decide) (by kernel_rfl) (fun x _=>spcok_failingCase x.1 x.2.1) vcr_failingCase tot_fn
abbrev c_iEntails:Con:=⟨[.asn,.asn],[.bool],fun (a,b,_)=>a.facts.length<=281474976710656/\a.atoms.length<=281474976710656/\b.facts.length<=281474976710656/\b.atoms.length<=281474976710656,.inl fun (a,b,_)=>(ENT a b,()),fun _=>0⟩
abbrev L_iEntails:List (FuncId × Con):=[(37,c_iAssertionValid),(53,c_failingCase)]
abbrev P_iEntails:List (FuncId × PT):=[]
def VC_iEntails_1 (a:GAsn) (b:GAsn):Prop:=True/\(((false,()):Bool × Unit)=(ENT a b,()))/\True/\True/\True/\True/\TF
def VC_iEntails (a:GAsn) (b:GAsn) (k:Nat):Prop:=TN/\TN/\True/\True/\((a.facts.length<=281474976710656/\a.atoms.length<=281474976710656)/\True/\True)/\True/\True/\(vcIf (!(asV a)) (True/\(VC_iEntails_1 a b)) (True/\((b.facts.length<=281474976710656/\b.atoms.length<=281474976710656)/\True/\True)/\True/\True/\(vcIf (!(asV b)) (VC_iEntails_1 a b) (True/\True/\((asV a=true/\asV b=true)/\True/\True)/\True/\True/\True/\(TN/\True)/\((((FC a b).headD (List.replicate 9 0)).length=(List.replicate 9 (0:Int)).length)/\TF/\TF)/\True/\True/\True/\True/\(((!(!(FC a b).isEmpty),()):Bool × Unit)=(ENT a b,()))/\True/\True/\True/\True/\TF))))
theorem vcn_iEntails (a:GAsn) (b:GAsn) (k:Nat) (hp:a.facts.length<=281474976710656/\a.atoms.length<=281474976710656/\b.facts.length<=281474976710656/\b.atoms.length<=281474976710656):VC_iEntails a b k:=by
 unfold VC_iEntails VC_iEntails_1
 simp only [cln,Nat.reduceEqDiff,Nat.reduceLeDiff,Nat.reduceAdd]
 all_goals (try simp only [opn])
 all_goals (repeat' (first | apply And.intro | intro _))
 all_goals (repeat (cases ‹_/\_›))
 all_goals (first | omega | rfl | assumption | exact (ent_no1 ‹_›).symm | exact (ent_no2 ‹_›).symm | (rw [ENT_FC ‹_› ‹_›,Bool.not_not];done) | exact fc_len ‹_› ‹_› | skip)
theorem ok_iEntails:FnOk Try.prog E 20 c_iEntails :=
 fn_okQ (l:=L_iEntails) (lp:=P_iEntails) (hp:=fun _=>false) (gcs:=fun _=>none) (perm:=fun _=>[]) tabOk mix ⟨ok_iAssertionValid,ok_failingCase,trivial⟩ trivial Try.func20 rfl (by kernel_rfl) (by decide) (by kernel_rfl) (anns:=fun x _=>fun _ _=>none) (fun ⟨a,b,_⟩ k hp _=>Eq.mp (by kernel_rfl) (vcn_iEntails a b k hp)) tot_fn
abbrev c_frAcc:Con:=⟨[.int,.pasn,.pasn],[.bool],fun (m,b,a,_)=>asV a=true/\asV b=true,.inl fun (m,b,a,_)=>(FRA m b a,()),fun _=>0⟩
abbrev L_frAcc:List (FuncId × Con):=[(20,c_iEntails),(32,c_iStarAssertions),(73,c_pickAtoms)]
abbrev P_frAcc:List (FuncId × PT):=[]
def VC_frAcc (m:Int) (b:GAsn) (a:GAsn) (k:Nat):Prop:=True/\True/\True/\True/\((a.facts.length<=1048576/\a.atoms.length<=1048576)/\True/\TN/\TN/\True)/\((b.facts.length<=1048576/\b.atoms.length<=1048576/\(⟨[],(pkA m a.atoms)⟩:GAsn).facts.length<=1048576/\(⟨[],(pkA m a.atoms)⟩:GAsn).atoms.length<=1048576)/\True/\TN/\TN/\True)/\True/\True/\True/\(TN/\TN/\TN/\True)/\(TF/\TF)/\True/\True/\True/\(vcIf (starOk b (⟨[],(pkA m a.atoms)⟩:GAsn)) (True/\True/\((a.facts.length<=281474976710656/\a.atoms.length<=281474976710656/\(starL b (⟨[],(pkA m a.atoms)⟩:GAsn)).facts.length<=281474976710656/\(starL b (⟨[],(pkA m a.atoms)⟩:GAsn)).atoms.length<=281474976710656)/\True/\True)/\True/\True/\((((ENT a (starL b (⟨[],(pkA m a.atoms)⟩:GAsn))),()):Bool × Unit)=(FRA m b a,()))/\True/\True/\True/\True/\TF) (True/\True/\(((false,()):Bool × Unit)=(FRA m b a,()))/\True/\True/\True/\True/\TF))
theorem vcn_frAcc (m:Int) (b:GAsn) (a:GAsn) (k:Nat) (hp:asV a=true/\asV b=true):VC_frAcc m b a k:=by
 unfold VC_frAcc
 simp only [cln,Nat.reduceEqDiff,Nat.reduceLeDiff,Nat.reduceAdd]
 all_goals (try simp only [opn])
 all_goals (repeat' (first | apply And.intro | intro _))
 all_goals (repeat (cases ‹_/\_›))
 all_goals (first | with_reducible exact True.intro | (exfalso;contradiction) | omega | with_reducible assumption | with_reducible rfl | skip)
 all_goals (try have hA:=fo_len6 ‹asV a=true›)
 all_goals (try have hB:=fo_len6 ‹asV b=true›)
 all_goals (first
  | omega
  | with_reducible exact pk200 (by omega)
  | (with_reducible refine Nat.le_trans (m:=200) ?_ (by decide);first
   | with_reducible exact star_pkF (by omega) | with_reducible exact star_pkA (by omega) (by omega))
  | with_reducible exact fra_y ‹_› | with_reducible exact fra_n ‹_›
  | with_reducible exact (frm_no1 ‹_›).1 | with_reducible exact (frm_no1 ‹_›).2 | with_reducible exact (frm_no2 ‹_›).1 | with_reducible exact (frm_no2 ‹_›).2
  | with_reducible exact (frm_n ‹_› ‹_› ‹_›).1 | with_reducible exact (frm_n ‹_› ‹_› ‹_›).2
  | with_reducible exact (frm_y ‹_› ‹_› ‹_›).1 | with_reducible exact (frm_y ‹_› ‹_› ‹_›).2
  | skip)
abbrev cl_frAcc:ClC:=⟨fun m b a=>asV a=true/\asV b=true,fun m b a=>FRA m b a⟩
theorem ok_frAcc:FnOk Try.prog E 82 c_frAcc :=
 fn_okQ (l:=L_frAcc) (lp:=P_frAcc) (hp:=fun _=>false) (gcs:=fun _=>none) (perm:=fun _=>[]) tabOk mix ⟨ok_iEntails,ok_iStarAssertions,ok_pickAtoms,trivial⟩ trivial Try.func82 rfl (by kernel_rfl) (by decide) (by kernel_rfl) (anns:=fun x _=>fun _ _=>none) (fun ⟨m,b,a,_⟩ k hp _=>Eq.mp (by kernel_rfl) (vcn_frAcc m b a k hp)) tot_fn
abbrev c_iFrameOf:Con:=⟨[.asn,.asn],[.asn,.bool],fun (a,b,_)=>a.facts.length<=281474976710656/\a.atoms.length<=281474976710656/\b.facts.length<=281474976710656/\b.atoms.length<=281474976710656,.inl fun (a,b,_)=>(frmL a b,frmB a b,()),fun _=>0⟩
abbrev L_iFrameOf:List (FuncId × Con):=[(37,c_iAssertionValid),(73,c_pickAtoms)]
abbrev P_iFrameOf:List (FuncId × PT):=[(81,ptLM 82 cl_frAcc)]
def hp_iFrameOf:Nat->Bool
 | 3=>true
 | _=>false
def VC_iFrameOf_1 (a:GAsn) (b:GAsn):Prop:=(((⟨([]:List GFact),([]:List GAtom)⟩:GAsn),false,()):GAsn × Bool × Unit)=(frmL a b,frmB a b,())
def VC_iFrameOf_2 (a:GAsn) (b:GAsn):Prop:=(TN/\TN/\True)/\(TF/\TF)/\True/\(VC_iFrameOf_1 a b)/\((((256:Nat) ≠ 257)/\True)/\True/\True)/\((TF/\TF)/\(TF/\TF)/\True)/\True/\(True/\True/\True)/\TF
def VC_iFrameOf (a:GAsn) (b:GAsn) (k:Nat):Prop:=TN/\TN/\(TN/\TN/\TN/\True)/\True/\True/\((a.facts.length<=281474976710656/\a.atoms.length<=281474976710656)/\True/\True)/\True/\True/\(vcIf (!(asV a)) (True/\(VC_iFrameOf_2 a b)) (True/\((b.facts.length<=281474976710656/\b.atoms.length<=281474976710656)/\True/\True)/\True/\True/\(vcIf (!(asV b)) (VC_iFrameOf_2 a b) (True/\True/\True/\True/\((82:Nat)=82)/\((none:Option Nat)=none)/\(0<=((a.atoms.length:Nat):Int)/\((a.atoms.length:Nat):Int)<=62)/\(∀ m1:Int,(0:Int)<=m1->m1 < (2:Int) ^ (((a.atoms.length:Nat):Int)).toNat->asV a=true/\asV b=true)/\True/\True/\True/\True/\True/\True/\True/\(vcIf (!(lmB (fun m1=>FRA m1 b a) ((a.atoms.length:Nat):Int))) ((TN/\TN/\True)/\(TF/\TF)/\True/\(VC_iFrameOf_1 a b)/\((((432:Nat) ≠ 433)/\True)/\True/\True)/\((TF/\TF)/\(TF/\TF)/\True)/\True/\(True/\True/\True)/\TF) (True/\True/\((a.facts.length<=1048576/\a.atoms.length<=1048576)/\True/\TN/\TN/\True)/\(TF/\TF)/\True/\((((⟨[],(pkA (lmI (fun m1=>FRA m1 b a) ((a.atoms.length:Nat):Int)) a.atoms)⟩:GAsn),true,()):GAsn × Bool × Unit)=(frmL a b,frmB a b,()))/\((((480:Nat) ≠ 481)/\True)/\True/\True)/\((TF/\TF)/\(TF/\TF)/\True)/\True/\(True/\True/\True)/\TF))))))
theorem vcn_iFrameOf (a:GAsn) (b:GAsn) (k:Nat) (hp:a.facts.length<=281474976710656/\a.atoms.length<=281474976710656/\b.facts.length<=281474976710656/\b.atoms.length<=281474976710656):VC_iFrameOf a b k:=by
 unfold VC_iFrameOf VC_iFrameOf_2 VC_iFrameOf_1
 simp only [cln,Nat.reduceEqDiff,Nat.reduceLeDiff,Nat.reduceAdd]
 all_goals (try simp only [opn])
 all_goals (repeat' (first | apply And.intro | intro _))
 all_goals (repeat (cases ‹_/\_›))
 all_goals (first | with_reducible exact True.intro | (exfalso;contradiction) | omega | with_reducible assumption | with_reducible rfl | skip)
 all_goals (try have hA:=fo_len6 ‹asV a=true›)
 all_goals (try have hB:=fo_len6 ‹asV b=true›)
 all_goals (first
  | omega
  | with_reducible exact pk200 (by omega)
  | (with_reducible refine Nat.le_trans (m:=200) ?_ (by decide);first
   | with_reducible exact star_pkF (by omega) | with_reducible exact star_pkA (by omega) (by omega))
  | with_reducible exact fra_y ‹_› | with_reducible exact fra_n ‹_›
  | with_reducible exact (frm_no1 ‹_›).1 | with_reducible exact (frm_no1 ‹_›).2 | with_reducible exact (frm_no2 ‹_›).1 | with_reducible exact (frm_no2 ‹_›).2
  | with_reducible exact (frm_n ‹_› ‹_› ‹_›).1 | with_reducible exact (frm_n ‹_› ‹_› ‹_›).2
  | with_reducible exact (frm_y ‹_› ‹_› ‹_›).1 | with_reducible exact (frm_y ‹_› ‹_› ‹_›).2
  | skip)
theorem ok_iFrameOf:FnOk Try.prog E 35 c_iFrameOf :=
 fn_okQ (l:=L_iFrameOf) (lp:=P_iFrameOf) (hp:=hp_iFrameOf) (gcs:=fun _=>none) (perm:=fun _=>[]) tabOk mix ⟨ok_iAssertionValid,ok_pickAtoms,trivial⟩ ⟨(ptok_lm (c:=cl_frAcc) ok_frAcc),trivial⟩ Try.func35 rfl (by kernel_rfl) (by decide) (by kernel_rfl) (anns:=fun x _=>fun _ _=>none) (fun ⟨a,b,_⟩ k hp _=>Eq.mp (by kernel_rfl) (vcn_iFrameOf a b k hp)) tot_fn
abbrev c_firstCase:Con:=⟨[.asn],[.kase,.bool],fun (a,_)=>asV a=true,.inl fun (a,_)=>((casesF a).headD (List.replicate 9 0),!(casesF a).isEmpty,()),fun _=>0⟩
abbrev L_firstCase:List (FuncId × Con):=[]
abbrev P_firstCase:List (FuncId × PT):=[(98,pt_possibleCases)]
def hp_firstCase:Nat->Bool
 | 1=>true
 | _=>false
def ra_firstCase (a:GAsn):St->Option RAnn:=fun se=>some ⟨fun _=>false,[2,3],[47,63],fun i=>[],[47,63],fun i=>[],fun i=>[],300000⟩
def VC_firstCase_1 (c2_0:Int) (c2_1:Int) (c2_2:Int) (c2_3:Int) (c2_4:Int) (c2_5:Int) (c2_6:Int) (c2_7:Int) (c2_8:Int):Prop:=(([c2_0,c2_1,c2_2,c2_3,c2_4,c2_5,c2_6,c2_7,c2_8]:List Int).length=(List.replicate 9 (0:Int)).length)/\TF/\TF
def VC_firstCase (a:GAsn) (k:Nat):Prop:=TT/\TN/\(TN/\True)/\(TN/\True)/\TT/\True/\((2:Nat)<=12)/\TN/\True/\True/\((a.facts.length<=281474976710656/\a.atoms.length<=281474976710656)/\True/\True)/\((0<=(tsA a)/\(tsA a) < 512)/\True/\True)/\True/\True/\(TN/\True)/\(TF/\TF)/\True/\True/\((((134:Nat)=134)/\((none:Option Nat)=none)/\(itPre a (bits .or .u16 (tsWith (tsA a) (0:Int)) (0:Int))))/\TT/\TT/\(RL [.s (.c (.ptr 47 0)),.s (.c (.ptr 63 0))])/\(RL [])/\(RM [some (.vec .int (List.replicate 9 (0:Int))),some (.blk [.d (.val (.bool false))])])/\(RM [])/\True/\TT)/\(∀ i1:Nat,∀ c2_0:Int,∀ c2_1:Int,∀ c2_2:Int,∀ c2_3:Int,∀ c2_4:Int,∀ c2_5:Int,∀ c2_6:Int,∀ c2_7:Int,∀ c2_8:Int,((itEn a (bits .or .u16 (tsWith (tsA a) (0:Int)) (0:Int)))[i1]?=some ([c2_0,c2_1,c2_2,c2_3,c2_4,c2_5,c2_6,c2_7,c2_8]:List Int))->(((itEn a (bits .or .u16 (tsWith (tsA a) (0:Int)) (0:Int))).take i1).all (fun _=>false)=true)->TT/\(TN/\True)/\(VC_firstCase_1 c2_0 c2_1 c2_2 c2_3 c2_4 c2_5 c2_6 c2_7 c2_8)/\((none:Option Nat)=none)/\TT/\(9=([c2_0,c2_1,c2_2,c2_3,c2_4,c2_5,c2_6,c2_7,c2_8]:List Int).length * 1)/\(VC_firstCase_1 c2_0 c2_1 c2_2 c2_3 c2_4 c2_5 c2_6 c2_7 c2_8)/\(TF/\TF)/\(false=false)/\((none:Option Nat)=none)/\((none:Option Nat)=none)/\(((([c2_0,c2_1,c2_2,c2_3,c2_4,c2_5,c2_6,c2_7,c2_8]:List Int),true,()):(List Int) × Bool × Unit)=((casesF a).headD (List.replicate 9 0),!(casesF a).isEmpty,()))/\True/\True/\True/\True/\TF)/\(((itEn a (bits .or .u16 (tsWith (tsA a) (0:Int)) (0:Int))).all (fun _=>false)=true)->TT/\True/\(((List.replicate 9 (0:Int)).length=(List.replicate 9 (0:Int)).length)/\TF/\TF)/\(TF/\TF)/\((none:Option Nat)=none)/\(((List.replicate 9 (0:Int),false,()):(List Int) × Bool × Unit)=((casesF a).headD (List.replicate 9 0),!(casesF a).isEmpty,()))/\True/\True/\True/\True/\TF)
theorem vcn_firstCase (a:GAsn) (k:Nat) (hp:asV a=true):VC_firstCase a k:=by
 unfold VC_firstCase VC_firstCase_1
 simp only [cln,Nat.reduceEqDiff,Nat.reduceLeDiff,Nat.reduceAdd]
 have hs:=asV_small hp
 have hb:=tsA_bd a
 have hw:=tsWith_bd (t:=0) hb.1 hb.2
 have ho:=tsOr hw.1 hw.2 (y:=0) (by decide) (by decide)
 have hi:=itEn_or hp (s:=0) (by decide) (by decide)
 rw [itEn_zero hp]
 all_goals (repeat' (first | apply And.intro | intro _))
 all_goals (first | omega | assumption | rfl | exact hs.1 | exact hs.2 | exact hi.2 | (rw [itEn_zero hp] at *;exact hi.2) | exact ho.1 | exact ho.2.1 | (simp_all;done) | exact (head_hit ‹_› ‹_›).1 | exact (head_hit (d:=[]) ‹_› ‹_›).2 | exact (head_none ‹_›).1 | exact (head_none (d:=[]) ‹_›).2 | skip)
abbrev spc_firstCase (a:GAsn):SpCode Bool:=spR tab (lookF L_firstCase) (lookP P_firstCase) hp_firstCase (fun _=>none) (fun _ _ _=>none) (fun _=>[]) Try.f91.ntmps 134 itPre itEn (ra_firstCase a)
theorem spcok_firstCase (a:GAsn) (wE:World) (ro0:Nat->Option (Array Value)) (ρ:Nat):SpcOk Fence.wide 0 Try.prog E (AC wE ro0 ρ) Try.f91.ntmps (spc_firstCase a) :=
 spR_ok tabOk (kall_of (l:=L_firstCase) trivial) (pall_of (l:=P_firstCase) ⟨ptok_possibleCases,trivial⟩) mix it_ok it_len it_run
theorem vcr_firstCase:∀ x:Args c_firstCase.aks,c_firstCase.pre x->vcY tab (lookF L_firstCase) (lookP P_firstCase) noSpB (spc_firstCase x.1) (fun b=>!b) hp_firstCase (fun _=>none) (fun _ _ _=>none) (fun _=>[]) (bodyOf Try.f91) (entry (encs c_firstCase.aks x) none) false (retR tab c_firstCase Try.f91.results.toList x) :=
 fun ⟨a,_⟩ hp=>Eq.mp (by kernel_rfl) (vcn_firstCase a 0 hp)
theorem ok_firstCase:FnOk Try.prog E 91 c_firstCase :=
 fnR_ok (con:=c_firstCase) (fn:=Try.f91) (l:=L_firstCase) (lp:=P_firstCase) (hp:=hp_firstCase) (gcs:=fun _=>none) (perm:=fun _=>[]) (spc:=fun x=>spc_firstCase x.1) (anns:=fun x=>(fun _ _ _=>none)) tabOk mix trivial ⟨ptok_possibleCases,trivial⟩ rfl Try.func91 rfl (by kernel_rfl) (by decide) (by kernel_rfl) (fun x _=>spcok_firstCase x.1) vcr_firstCase tot_fn
abbrev c_iConsistent:Con:=⟨[.asn],[.bool],fun (a,_)=>a.facts.length<=281474976710656/\a.atoms.length<=281474976710656,.inl fun (a,_)=>(asV a && !(casesF a).isEmpty,()),fun _=>0⟩
abbrev L_iConsistent:List (FuncId × Con):=[(37,c_iAssertionValid),(91,c_firstCase)]
abbrev P_iConsistent:List (FuncId × PT):=[]
def VC_iConsistent (a:GAsn) (k:Nat):Prop:=TN/\True/\True/\((a.facts.length<=281474976710656/\a.atoms.length<=281474976710656)/\True/\True)/\True/\(vcIf (!(asV a)) (True/\(((false,()):Bool × Unit)=(asV a && !(casesF a).isEmpty,()))/\True/\True/\True/\True/\TF) (True/\((asV a=true)/\True/\True)/\True/\True/\True/\(TN/\True)/\((((casesF a).headD (List.replicate 9 0)).length=(List.replicate 9 (0:Int)).length)/\TF/\TF)/\True/\True/\True/\((((!(casesF a).isEmpty),()):Bool × Unit)=(asV a && !(casesF a).isEmpty,()))/\True/\True/\True/\True/\TF))
theorem vcn_iConsistent (a:GAsn) (k:Nat) (hp:a.facts.length<=281474976710656/\a.atoms.length<=281474976710656):VC_iConsistent a k:=by
 unfold VC_iConsistent
 simp only [cln,Nat.reduceEqDiff,Nat.reduceLeDiff,Nat.reduceAdd]
 have hl:=casesF_len a
 all_goals (try simp only [opn])
 all_goals (repeat' (first | apply And.intro | intro _))
 all_goals (first | omega | (simp_all;done) | grind [])
theorem ok_iConsistent:FnOk Try.prog E 44 c_iConsistent :=
 fn_okQ (l:=L_iConsistent) (lp:=P_iConsistent) (hp:=fun _=>false) (gcs:=fun _=>none) (perm:=fun _=>[]) tabOk mix ⟨ok_iAssertionValid,ok_firstCase,trivial⟩ trivial Try.func44 rfl (by kernel_rfl) (by decide) (by kernel_rfl) (anns:=fun x _=>fun _ _=>none) (fun ⟨a,_⟩ k hp _=>Eq.mp (by kernel_rfl) (vcn_iConsistent a k hp)) tot_fn
abbrev L_repairWith:List (FuncId × Con):=[(32,c_iStarAssertions),(35,c_iFrameOf),(44,c_iConsistent),(73,c_pickAtoms)]
abbrev P_repairWith:List (FuncId × PT):=[]
abbrev pt_repairWith:PT:=inl tab (lookF L_repairWith) (lookP P_repairWith) (fun _=>false) (fun _ _=>none) (fun _ _ _ _=>none) (fun _=>[]) Try.f89.ntmps (bodyOf Try.f89) Try.f89.results.toList
theorem ptok_repairWith:PTOk Try.prog E 89 pt_repairWith :=
 pt_ok (l:=L_repairWith) (lp:=P_repairWith) tabOk mix ⟨ok_iStarAssertions,ok_iFrameOf,ok_iConsistent,ok_pickAtoms,trivial⟩ trivial Try.func89 rfl (by kernel_rfl) (by kernel_rfl)
abbrev cw_miAcc:WCon:=⟨fun m a b=>asV a=true/\asV b=true/\0<=m/\m < pkTop b,fun m a b=>mxB a b m,fun m a b=>(⟨[],pkA m b.atoms⟩:GAsn),fun m a b=>frmL (mxS a b m) b⟩
abbrev pt_miAcc:PT:=ptW cw_miAcc
abbrev L_miAcc:List (FuncId × Con):=[]
abbrev P_miAcc:List (FuncId × PT):=[(89,pt_repairWith)]
def hp_miAcc:Nat->Bool
 | 1=>true
 | _=>false
def VC_miAcc_1 (a:GAsn) (b:GAsn) (m:Int) (v0:Value) (v1:Value) (v2:Value) (v3:Value):Prop:=(TN/\TN/\TN/\TN/\True)/\(TF/\TF)/\True/\True/\True/\True/\(TN/\TN/\TN/\TN/\TN/\True)/\(TF/\TF)/\True/\True/\True/\True/\((false:Bool)=mxB a b m)/\(TF/\TF)/\((v0:Value)=v0)/\((v1:Value)=v1)/\((v2:Value)=v2)/\((v3:Value)=v3)
def VC_miAcc (m:Int) (a:GAsn) (b:GAsn) (v0 v1 v2 v3:Value) (k:Nat):Prop:=True/\True/\True/\True/\((3:Nat)<=41)/\TN/\TN/\(TN/\TN/\TN/\TN/\TN/\True)/\True/\True/\True/\((b.facts.length<=1048576/\b.atoms.length<=1048576)/\True/\TN/\TN/\True)/\(TN/\TN/\TN/\True)/\(TF/\TF)/\True/\True/\((a.facts.length<=1048576/\a.atoms.length<=1048576/\(⟨[],(pkA m b.atoms)⟩:GAsn).facts.length<=1048576/\(⟨[],(pkA m b.atoms)⟩:GAsn).atoms.length<=1048576)/\True/\TN/\TN/\True)/\True/\True/\True/\(TN/\TN/\TN/\True)/\(TF/\TF)/\True/\True/\True/\True/\(vcIf (!(starOk a (⟨[],(pkA m b.atoms)⟩:GAsn))) (True/\(VC_miAcc_1 a b m v0 v1 v2 v3)) (True/\(((starL a (⟨[],(pkA m b.atoms)⟩:GAsn)).facts.length<=281474976710656/\(starL a (⟨[],(pkA m b.atoms)⟩:GAsn)).atoms.length<=281474976710656)/\True/\True)/\True/\True/\(vcIf (!(asV (starL a (⟨[],(pkA m b.atoms)⟩:GAsn)) && !(casesF (starL a (⟨[],(pkA m b.atoms)⟩:GAsn))).isEmpty)) (VC_miAcc_1 a b m v0 v1 v2 v3) (True/\True/\(((starL a (⟨[],(pkA m b.atoms)⟩:GAsn)).facts.length<=281474976710656/\(starL a (⟨[],(pkA m b.atoms)⟩:GAsn)).atoms.length<=281474976710656/\b.facts.length<=281474976710656/\b.atoms.length<=281474976710656)/\True/\TN/\TN/\True)/\True/\True/\True/\(TN/\TN/\TN/\True)/\(TF/\TF)/\True/\True/\True/\(vcIf (!(frmB (starL a (⟨[],(pkA m b.atoms)⟩:GAsn)) b)) (VC_miAcc_1 a b m v0 v1 v2 v3) (True/\True/\(TN/\TN/\TN/\TN/\True)/\(TF/\TF)/\True/\True/\True/\True/\(TN/\TN/\TN/\TN/\TN/\True)/\(TF/\TF)/\True/\True/\True/\(TF/\TF)/\True/\True/\((true:Bool)=mxB a b m)/\(TF/\TF)/\((((⟨[],(pkA m b.atoms)⟩:GAsn),(frmL (starL a (⟨[],(pkA m b.atoms)⟩:GAsn)) b),()):GAsn × GAsn × Unit)=((⟨[],pkA m b.atoms⟩:GAsn),frmL (mxS a b m) b,()))/\((((214240:Nat) ≠ 214241)/\((214240:Nat) ≠ 214528)/\((214240:Nat) ≠ 214529)/\True)/\(((214241:Nat) ≠ 214528)/\((214241:Nat) ≠ 214529)/\True)/\(((214528:Nat) ≠ 214529)/\True)/\True/\True)/\((TF/\TF)/\(TF/\TF)/\(TF/\TF)/\(TF/\TF)/\True)/\True))))))
theorem vcn_miAcc (m:Int) (a:GAsn) (b:GAsn) (v0 v1 v2 v3:Value) (k:Nat) (hp:asV a=true/\asV b=true/\0<=m/\m < pkTop b):VC_miAcc m a b v0 v1 v2 v3 k:=by
 unfold VC_miAcc VC_miAcc_1
 simp only [cln,Nat.reduceEqDiff,Nat.reduceLeDiff,Nat.reduceAdd]
 all_goals (try simp only [opn])
 all_goals (try simp only [pkTop_w])
 all_goals (repeat' (first | apply And.intro | intro _))
 all_goals (repeat (cases ‹_/\_›))
 all_goals (first | with_reducible exact True.intro | (exfalso;contradiction) | omega | with_reducible assumption | with_reducible rfl | skip)
 all_goals (have hA:=fo_len6 ‹asV a=true›;have hB:=fo_len6 ‹asV b=true›;have hT:=pkTop_eq ‹asV b=true›)
 all_goals (first
  | omega
  | (with_reducible refine Nat.le_trans (m:=200) ?_ (by decide);first | with_reducible exact mxs200F (by omega) | with_reducible exact mxs200A (by omega) (by omega) | with_reducible exact pk200 (by omega))
  | with_reducible exact (mxN1 ‹_› ‹_› ‹_›).symm | with_reducible exact (mxN2 ‹_› ‹_›).symm | with_reducible exact (mxN3 ‹_› ‹_›).symm
  | with_reducible exact (mxY ‹_› ‹_› ‹_›).symm
  | with_reducible exact mx_fr ‹_›
  | skip)
theorem ptok_miAcc:PTOk Try.prog E 88 pt_miAcc :=
 clw_ok (c:=cw_miAcc) (fn:=Try.f88) (l:=L_miAcc) (lp:=P_miAcc) (hp:=hp_miAcc) (perm:=fun _=>[]) tabOk mix trivial ⟨ptok_repairWith,trivial⟩ Try.func88 rfl (by kernel_rfl) (show 4<=Try.f88.ntmps by decide) (by kernel_rfl) (anns:=fun _ _=>none) (fun m a b v0 v1 v2 v3 hp=>Eq.mp (by kernel_rfl) (vcn_miAcc m a b v0 v1 v2 v3 0 hp))
end Go.Proofs.Ytopjgjelkpkmmaa
