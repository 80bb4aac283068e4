/-
  Contracts of single functions of the program, each shown by the engine: what a call returns for arguments within the contract's bounds.
-/
import Derived.Test.YtopjgjelkpkmmaaFFnMissingNonea
import Derived.Test.YtopjgjelkpkmmaaFFnMissingNonec
import Derived.Test.YtopjgjelkpkmmaaEd
import Derived.Test.YtopjgjelkpkmmaaEe
import Derived.Test.YtopjgjelkpkmmaaFFnMissingNoneb
import Derived.Test.YtopjgjelkpkmmaaEc
set_option linter.unusedSimpArgs false
set_option linter.unusedVariables false
set_option linter.unusedSectionVars false

namespace Go.Proofs.Ytopjgjelkpkmmaa
open Go.SE Go.RowKit
set_option linter.unusedSimpArgs false
set_option linter.unusedVariables false
set_option maxHeartbeats 1000000
set_option maxRecDepth 100000
abbrev c_matchCase:Con:=⟨[.asn,.asn,.kase],[.sl .ints,.bool],fun (a,b,c,_)=>asV a=true/\asV b=true/\c.length=9,.inr fun (a,b,c,_) r=>r.2.1=MC a b c,fun _=>0⟩
abbrev L_matchCase:List (FuncId × Con):=[(102,c_iFilled),(136,c_factsHold)]
abbrev P_matchCase:List (FuncId × PT):=[(137,pt_cmCell),(138,pt_cmChain)]
def an_matchCase (a:GAsn) (b:GAsn) (c:List Int):Nat->St->Option Ann
 | 6,se=>some { α:=Nat × List (List Int) × List Bool,ok:=fun p=>p.1<=(fL c b.atoms).length/\p.2.1.length=p.1/\mcI (fL c a.atoms) (fL c b.atoms) p.1 p.2.2,mu:=fun p=>(fL c b.atoms).length - p.1,i0:=fun st=>(0,([]:List (List Int)),usedAt st 143),nx:=fun p st=>(p.1+1,slAt .ints st (.slot 9),usedAt st 143),live:=[8,24,25],sets:=fun p=>[(26,sv (.int .i64 p.1))],mids:=[384],blks:=fun p=>[(143,.blk [.own 8,.d (.val (.bool (p.2.2.getD 0 false))),.d (.val (.bool (p.2.2.getD 1 false))),.d (.val (.bool (p.2.2.getD 2 false))),.d (.val (.bool (p.2.2.getD 3 false))),.d (.val (.bool (p.2.2.getD 4 false))),.d (.val (.bool (p.2.2.getD 5 false))),.d (.val (.int .i64 (cnt p.2.2)))])],owns:=fun p=>[⟨8,.cell 143 0,.atom,fL c a.atoms⟩,⟨9,.slot 9,.ints,p.2.1⟩],rd:=fun r _=>r,base:=100000 }
 | _,_=>none
def hp_matchCase:Nat->Bool
 | 11=>true
 | 12=>true
 | _=>false
def VC_matchCase_1 (a:GAsn) (b:GAsn) (c:List Int):Prop:=TN/\True/\(false=MC a b c)/\(True/\True)/\((TF/\TF)/\True)/\True/\(True/\True)/\TF
def VC_matchCase_2 (c:List Int) (b:GAsn):Prop:=RL [.s (.c (.ptr 143 0)),.s (.c (.own 384)),.s (.c (.d (.val (.int .i64 (((fL c b.atoms).length:Nat):Int)))))]
def VC_matchCase_3 (c:List Int) (a:GAsn) (p1:Nat × List (List Int) × List Bool) (b:GAsn):Prop:=((([some (.blk [.own 8,.d (.val (.bool ((ucU (fL c a.atoms) (sx6 p1.2.2) ((fL c b.atoms).getD (p1.1:Int).toNat (⟨0,0,0⟩:GAtom))).getD 0 false))),.d (.val (.bool ((ucU (fL c a.atoms) (sx6 p1.2.2) ((fL c b.atoms).getD (p1.1:Int).toNat (⟨0,0,0⟩:GAtom))).getD 1 false))),.d (.val (.bool ((ucU (fL c a.atoms) (sx6 p1.2.2) ((fL c b.atoms).getD (p1.1:Int).toNat (⟨0,0,0⟩:GAtom))).getD 2 false))),.d (.val (.bool ((ucU (fL c a.atoms) (sx6 p1.2.2) ((fL c b.atoms).getD (p1.1:Int).toNat (⟨0,0,0⟩:GAtom))).getD 3 false))),.d (.val (.bool ((ucU (fL c a.atoms) (sx6 p1.2.2) ((fL c b.atoms).getD (p1.1:Int).toNat (⟨0,0,0⟩:GAtom))).getD 4 false))),.d (.val (.bool ((ucU (fL c a.atoms) (sx6 p1.2.2) ((fL c b.atoms).getD (p1.1:Int).toNat (⟨0,0,0⟩:GAtom))).getD 5 false))),.d (.val (.int .i64 (cnt (ucU (fL c a.atoms) (sx6 p1.2.2) ((fL c b.atoms).getD (p1.1:Int).toNat (⟨0,0,0⟩:GAtom))))))])]:List (Option Res))=[some (.blk [.own 8,.d (.val (.bool ((p1.1+1,(p1.2.1 ++ ([(ucL (fL c a.atoms) (sx6 p1.2.2) ((fL c b.atoms).getD (p1.1:Int).toNat (⟨0,0,0⟩:GAtom)))]:List (List Int))),(sx6 (ucU (fL c a.atoms) (sx6 p1.2.2) ((fL c b.atoms).getD (p1.1:Int).toNat (⟨0,0,0⟩:GAtom))))).2.2.getD 0 false))),.d (.val (.bool ((p1.1+1,(p1.2.1 ++ ([(ucL (fL c a.atoms) (sx6 p1.2.2) ((fL c b.atoms).getD (p1.1:Int).toNat (⟨0,0,0⟩:GAtom)))]:List (List Int))),(sx6 (ucU (fL c a.atoms) (sx6 p1.2.2) ((fL c b.atoms).getD (p1.1:Int).toNat (⟨0,0,0⟩:GAtom))))).2.2.getD 1 false))),.d (.val (.bool ((p1.1+1,(p1.2.1 ++ ([(ucL (fL c a.atoms) (sx6 p1.2.2) ((fL c b.atoms).getD (p1.1:Int).toNat (⟨0,0,0⟩:GAtom)))]:List (List Int))),(sx6 (ucU (fL c a.atoms) (sx6 p1.2.2) ((fL c b.atoms).getD (p1.1:Int).toNat (⟨0,0,0⟩:GAtom))))).2.2.getD 2 false))),.d (.val (.bool ((p1.1+1,(p1.2.1 ++ ([(ucL (fL c a.atoms) (sx6 p1.2.2) ((fL c b.atoms).getD (p1.1:Int).toNat (⟨0,0,0⟩:GAtom)))]:List (List Int))),(sx6 (ucU (fL c a.atoms) (sx6 p1.2.2) ((fL c b.atoms).getD (p1.1:Int).toNat (⟨0,0,0⟩:GAtom))))).2.2.getD 3 false))),.d (.val (.bool ((p1.1+1,(p1.2.1 ++ ([(ucL (fL c a.atoms) (sx6 p1.2.2) ((fL c b.atoms).getD (p1.1:Int).toNat (⟨0,0,0⟩:GAtom)))]:List (List Int))),(sx6 (ucU (fL c a.atoms) (sx6 p1.2.2) ((fL c b.atoms).getD (p1.1:Int).toNat (⟨0,0,0⟩:GAtom))))).2.2.getD 4 false))),.d (.val (.bool ((p1.1+1,(p1.2.1 ++ ([(ucL (fL c a.atoms) (sx6 p1.2.2) ((fL c b.atoms).getD (p1.1:Int).toNat (⟨0,0,0⟩:GAtom)))]:List (List Int))),(sx6 (ucU (fL c a.atoms) (sx6 p1.2.2) ((fL c b.atoms).getD (p1.1:Int).toNat (⟨0,0,0⟩:GAtom))))).2.2.getD 5 false))),.d (.val (.int .i64 (cnt (p1.1+1,(p1.2.1 ++ ([(ucL (fL c a.atoms) (sx6 p1.2.2) ((fL c b.atoms).getD (p1.1:Int).toNat (⟨0,0,0⟩:GAtom)))]:List (List Int))),(sx6 (ucU (fL c a.atoms) (sx6 p1.2.2) ((fL c b.atoms).getD (p1.1:Int).toNat (⟨0,0,0⟩:GAtom))))).2.2)))])])/\(((some (fL c a.atoms):Option (List GAtom))=some (fL c a.atoms))/\((some (p1.2.1 ++ ([(ucL (fL c a.atoms) (sx6 p1.2.2) ((fL c b.atoms).getD (p1.1:Int).toNat (⟨0,0,0⟩:GAtom)))]:List (List Int))):Option (List (List Int)))=some ((p1.1+1,(p1.2.1 ++ ([(ucL (fL c a.atoms) (sx6 p1.2.2) ((fL c b.atoms).getD (p1.1:Int).toNat (⟨0,0,0⟩:GAtom)))]:List (List Int))),(sx6 (ucU (fL c a.atoms) (sx6 p1.2.2) ((fL c b.atoms).getD (p1.1:Int).toNat (⟨0,0,0⟩:GAtom))))).2.1))/\True)/\TT)
def VC_matchCase_4 (c:List Int) (a:GAsn) (p1:Nat × List (List Int) × List Bool) (b:GAsn):Prop:=((([some (.blk [.own 8,.d (.val (.bool ((chU (fL c a.atoms) (sx6 p1.2.2) ((fL c b.atoms).getD (p1.1:Int).toNat (⟨0,0,0⟩:GAtom))).getD 0 false))),.d (.val (.bool ((chU (fL c a.atoms) (sx6 p1.2.2) ((fL c b.atoms).getD (p1.1:Int).toNat (⟨0,0,0⟩:GAtom))).getD 1 false))),.d (.val (.bool ((chU (fL c a.atoms) (sx6 p1.2.2) ((fL c b.atoms).getD (p1.1:Int).toNat (⟨0,0,0⟩:GAtom))).getD 2 false))),.d (.val (.bool ((chU (fL c a.atoms) (sx6 p1.2.2) ((fL c b.atoms).getD (p1.1:Int).toNat (⟨0,0,0⟩:GAtom))).getD 3 false))),.d (.val (.bool ((chU (fL c a.atoms) (sx6 p1.2.2) ((fL c b.atoms).getD (p1.1:Int).toNat (⟨0,0,0⟩:GAtom))).getD 4 false))),.d (.val (.bool ((chU (fL c a.atoms) (sx6 p1.2.2) ((fL c b.atoms).getD (p1.1:Int).toNat (⟨0,0,0⟩:GAtom))).getD 5 false))),.d (.val (.int .i64 (cnt (chU (fL c a.atoms) (sx6 p1.2.2) ((fL c b.atoms).getD (p1.1:Int).toNat (⟨0,0,0⟩:GAtom))))))])]:List (Option Res))=[some (.blk [.own 8,.d (.val (.bool ((p1.1+1,(p1.2.1 ++ ([(chL (fL c a.atoms) (sx6 p1.2.2) ((fL c b.atoms).getD (p1.1:Int).toNat (⟨0,0,0⟩:GAtom)))]:List (List Int))),(sx6 (chU (fL c a.atoms) (sx6 p1.2.2) ((fL c b.atoms).getD (p1.1:Int).toNat (⟨0,0,0⟩:GAtom))))).2.2.getD 0 false))),.d (.val (.bool ((p1.1+1,(p1.2.1 ++ ([(chL (fL c a.atoms) (sx6 p1.2.2) ((fL c b.atoms).getD (p1.1:Int).toNat (⟨0,0,0⟩:GAtom)))]:List (List Int))),(sx6 (chU (fL c a.atoms) (sx6 p1.2.2) ((fL c b.atoms).getD (p1.1:Int).toNat (⟨0,0,0⟩:GAtom))))).2.2.getD 1 false))),.d (.val (.bool ((p1.1+1,(p1.2.1 ++ ([(chL (fL c a.atoms) (sx6 p1.2.2) ((fL c b.atoms).getD (p1.1:Int).toNat (⟨0,0,0⟩:GAtom)))]:List (List Int))),(sx6 (chU (fL c a.atoms) (sx6 p1.2.2) ((fL c b.atoms).getD (p1.1:Int).toNat (⟨0,0,0⟩:GAtom))))).2.2.getD 2 false))),.d (.val (.bool ((p1.1+1,(p1.2.1 ++ ([(chL (fL c a.atoms) (sx6 p1.2.2) ((fL c b.atoms).getD (p1.1:Int).toNat (⟨0,0,0⟩:GAtom)))]:List (List Int))),(sx6 (chU (fL c a.atoms) (sx6 p1.2.2) ((fL c b.atoms).getD (p1.1:Int).toNat (⟨0,0,0⟩:GAtom))))).2.2.getD 3 false))),.d (.val (.bool ((p1.1+1,(p1.2.1 ++ ([(chL (fL c a.atoms) (sx6 p1.2.2) ((fL c b.atoms).getD (p1.1:Int).toNat (⟨0,0,0⟩:GAtom)))]:List (List Int))),(sx6 (chU (fL c a.atoms) (sx6 p1.2.2) ((fL c b.atoms).getD (p1.1:Int).toNat (⟨0,0,0⟩:GAtom))))).2.2.getD 4 false))),.d (.val (.bool ((p1.1+1,(p1.2.1 ++ ([(chL (fL c a.atoms) (sx6 p1.2.2) ((fL c b.atoms).getD (p1.1:Int).toNat (⟨0,0,0⟩:GAtom)))]:List (List Int))),(sx6 (chU (fL c a.atoms) (sx6 p1.2.2) ((fL c b.atoms).getD (p1.1:Int).toNat (⟨0,0,0⟩:GAtom))))).2.2.getD 5 false))),.d (.val (.int .i64 (cnt (p1.1+1,(p1.2.1 ++ ([(chL (fL c a.atoms) (sx6 p1.2.2) ((fL c b.atoms).getD (p1.1:Int).toNat (⟨0,0,0⟩:GAtom)))]:List (List Int))),(sx6 (chU (fL c a.atoms) (sx6 p1.2.2) ((fL c b.atoms).getD (p1.1:Int).toNat (⟨0,0,0⟩:GAtom))))).2.2)))])])/\(((some (fL c a.atoms):Option (List GAtom))=some (fL c a.atoms))/\((some (p1.2.1 ++ ([(chL (fL c a.atoms) (sx6 p1.2.2) ((fL c b.atoms).getD (p1.1:Int).toNat (⟨0,0,0⟩:GAtom)))]:List (List Int))):Option (List (List Int)))=some ((p1.1+1,(p1.2.1 ++ ([(chL (fL c a.atoms) (sx6 p1.2.2) ((fL c b.atoms).getD (p1.1:Int).toNat (⟨0,0,0⟩:GAtom)))]:List (List Int))),(sx6 (chU (fL c a.atoms) (sx6 p1.2.2) ((fL c b.atoms).getD (p1.1:Int).toNat (⟨0,0,0⟩:GAtom))))).2.1))/\True)/\TT)
def VC_matchCase_5 (c:List Int) (b:GAsn) (p1:Nat × List (List Int) × List Bool) (a:GAsn):Prop:=(True/\(vcIf ((((fL c b.atoms).getD (p1.1:Int).toNat (⟨0,0,0⟩:GAtom)).kind) == (1:Int)) (True/\TF/\TF/\(TF/\True)/\(TN/\True)/\((fL c a.atoms).length<=6/\(sx6 p1.2.2).length=6/\(cnt p1.2.2)=cnt (sx6 p1.2.2))/\True/\True/\True/\True/\True/\True/\True/\(vcIf (!(ucB (fL c a.atoms) (sx6 p1.2.2) ((fL c b.atoms).getD (p1.1:Int).toNat (⟨0,0,0⟩:GAtom)))) (VC_matchCase_1 a b c) (True/\True/\(TN/\TF/\True)/\(TN/\TF/\TF/\(p1.2.1.length+([(ucL (fL c a.atoms) (sx6 p1.2.2) ((fL c b.atoms).getD (p1.1:Int).toNat (⟨0,0,0⟩:GAtom)))]:List (List Int)).length<=4294967296))/\True/\(inK .i64 ((p1.1:Int)+(1:Int)))/\True/\((p1.1+1,(p1.2.1 ++ ([(ucL (fL c a.atoms) (sx6 p1.2.2) ((fL c b.atoms).getD (p1.1:Int).toNat (⟨0,0,0⟩:GAtom)))]:List (List Int))),(sx6 (ucU (fL c a.atoms) (sx6 p1.2.2) ((fL c b.atoms).getD (p1.1:Int).toNat (⟨0,0,0⟩:GAtom))))).1<=(fL c b.atoms).length/\(p1.1+1,(p1.2.1 ++ ([(ucL (fL c a.atoms) (sx6 p1.2.2) ((fL c b.atoms).getD (p1.1:Int).toNat (⟨0,0,0⟩:GAtom)))]:List (List Int))),(sx6 (ucU (fL c a.atoms) (sx6 p1.2.2) ((fL c b.atoms).getD (p1.1:Int).toNat (⟨0,0,0⟩:GAtom))))).2.1.length=(p1.1+1,(p1.2.1 ++ ([(ucL (fL c a.atoms) (sx6 p1.2.2) ((fL c b.atoms).getD (p1.1:Int).toNat (⟨0,0,0⟩:GAtom)))]:List (List Int))),(sx6 (ucU (fL c a.atoms) (sx6 p1.2.2) ((fL c b.atoms).getD (p1.1:Int).toNat (⟨0,0,0⟩:GAtom))))).1/\mcI (fL c a.atoms) (fL c b.atoms) (p1.1+1,(p1.2.1 ++ ([(ucL (fL c a.atoms) (sx6 p1.2.2) ((fL c b.atoms).getD (p1.1:Int).toNat (⟨0,0,0⟩:GAtom)))]:List (List Int))),(sx6 (ucU (fL c a.atoms) (sx6 p1.2.2) ((fL c b.atoms).getD (p1.1:Int).toNat (⟨0,0,0⟩:GAtom))))).1 (p1.1+1,(p1.2.1 ++ ([(ucL (fL c a.atoms) (sx6 p1.2.2) ((fL c b.atoms).getD (p1.1:Int).toNat (⟨0,0,0⟩:GAtom)))]:List (List Int))),(sx6 (ucU (fL c a.atoms) (sx6 p1.2.2) ((fL c b.atoms).getD (p1.1:Int).toNat (⟨0,0,0⟩:GAtom))))).2.2)/\((fL c b.atoms).length - (p1.1+1,(p1.2.1 ++ ([(ucL (fL c a.atoms) (sx6 p1.2.2) ((fL c b.atoms).getD (p1.1:Int).toNat (⟨0,0,0⟩:GAtom)))]:List (List Int))),(sx6 (ucU (fL c a.atoms) (sx6 p1.2.2) ((fL c b.atoms).getD (p1.1:Int).toNat (⟨0,0,0⟩:GAtom))))).1 < (fL c b.atoms).length - p1.1)/\TT/\(VC_matchCase_2 c b)/\(([.s (.c (.d (.val (.int .i64 ((p1.1:Int)+(1:Int))))))]:List S)=[.s (.c (.d (.val (.int .i64 ((p1.1+1,(p1.2.1 ++ ([(ucL (fL c a.atoms) (sx6 p1.2.2) ((fL c b.atoms).getD (p1.1:Int).toNat (⟨0,0,0⟩:GAtom)))]:List (List Int))),(sx6 (ucU (fL c a.atoms) (sx6 p1.2.2) ((fL c b.atoms).getD (p1.1:Int).toNat (⟨0,0,0⟩:GAtom))))).1:Int)))))])/\(RM [some (.sl 384 .atom (fL c b.atoms))])/\(VC_matchCase_3 c a p1 b)))) (True/\TF/\TF/\(TF/\True)/\(TN/\True)/\((fL c a.atoms).length<=6/\(sx6 p1.2.2).length=6/\(cnt p1.2.2)=cnt (sx6 p1.2.2))/\True/\True/\True/\True/\True/\True/\True/\(vcIf (!(chB (fL c a.atoms) (sx6 p1.2.2) ((fL c b.atoms).getD (p1.1:Int).toNat (⟨0,0,0⟩:GAtom)))) (VC_matchCase_1 a b c) (True/\True/\(TN/\TF/\True)/\(TN/\TF/\TF/\(p1.2.1.length+([(chL (fL c a.atoms) (sx6 p1.2.2) ((fL c b.atoms).getD (p1.1:Int).toNat (⟨0,0,0⟩:GAtom)))]:List (List Int)).length<=4294967296))/\True/\(inK .i64 ((p1.1:Int)+(1:Int)))/\True/\((p1.1+1,(p1.2.1 ++ ([(chL (fL c a.atoms) (sx6 p1.2.2) ((fL c b.atoms).getD (p1.1:Int).toNat (⟨0,0,0⟩:GAtom)))]:List (List Int))),(sx6 (chU (fL c a.atoms) (sx6 p1.2.2) ((fL c b.atoms).getD (p1.1:Int).toNat (⟨0,0,0⟩:GAtom))))).1<=(fL c b.atoms).length/\(p1.1+1,(p1.2.1 ++ ([(chL (fL c a.atoms) (sx6 p1.2.2) ((fL c b.atoms).getD (p1.1:Int).toNat (⟨0,0,0⟩:GAtom)))]:List (List Int))),(sx6 (chU (fL c a.atoms) (sx6 p1.2.2) ((fL c b.atoms).getD (p1.1:Int).toNat (⟨0,0,0⟩:GAtom))))).2.1.length=(p1.1+1,(p1.2.1 ++ ([(chL (fL c a.atoms) (sx6 p1.2.2) ((fL c b.atoms).getD (p1.1:Int).toNat (⟨0,0,0⟩:GAtom)))]:List (List Int))),(sx6 (chU (fL c a.atoms) (sx6 p1.2.2) ((fL c b.atoms).getD (p1.1:Int).toNat (⟨0,0,0⟩:GAtom))))).1/\mcI (fL c a.atoms) (fL c b.atoms) (p1.1+1,(p1.2.1 ++ ([(chL (fL c a.atoms) (sx6 p1.2.2) ((fL c b.atoms).getD (p1.1:Int).toNat (⟨0,0,0⟩:GAtom)))]:List (List Int))),(sx6 (chU (fL c a.atoms) (sx6 p1.2.2) ((fL c b.atoms).getD (p1.1:Int).toNat (⟨0,0,0⟩:GAtom))))).1 (p1.1+1,(p1.2.1 ++ ([(chL (fL c a.atoms) (sx6 p1.2.2) ((fL c b.atoms).getD (p1.1:Int).toNat (⟨0,0,0⟩:GAtom)))]:List (List Int))),(sx6 (chU (fL c a.atoms) (sx6 p1.2.2) ((fL c b.atoms).getD (p1.1:Int).toNat (⟨0,0,0⟩:GAtom))))).2.2)/\((fL c b.atoms).length - (p1.1+1,(p1.2.1 ++ ([(chL (fL c a.atoms) (sx6 p1.2.2) ((fL c b.atoms).getD (p1.1:Int).toNat (⟨0,0,0⟩:GAtom)))]:List (List Int))),(sx6 (chU (fL c a.atoms) (sx6 p1.2.2) ((fL c b.atoms).getD (p1.1:Int).toNat (⟨0,0,0⟩:GAtom))))).1 < (fL c b.atoms).length - p1.1)/\TT/\(VC_matchCase_2 c b)/\(([.s (.c (.d (.val (.int .i64 ((p1.1:Int)+(1:Int))))))]:List S)=[.s (.c (.d (.val (.int .i64 ((p1.1+1,(p1.2.1 ++ ([(chL (fL c a.atoms) (sx6 p1.2.2) ((fL c b.atoms).getD (p1.1:Int).toNat (⟨0,0,0⟩:GAtom)))]:List (List Int))),(sx6 (chU (fL c a.atoms) (sx6 p1.2.2) ((fL c b.atoms).getD (p1.1:Int).toNat (⟨0,0,0⟩:GAtom))))).1:Int)))))])/\(RM [some (.sl 384 .atom (fL c b.atoms))])/\(VC_matchCase_4 c a p1 b))))))
def VC_matchCase_6 (c:List Int) (b:GAsn) (a:GAsn):Prop:=(True/\True/\True/\((c.length=9/\b.facts.all fV=true/\b.facts.length<=1048576)/\True/\True)/\True/\(vcIf (!(b.facts.all (fh c))) (VC_matchCase_1 a b c) (True/\True/\((a.atoms.length<=1048576/\a.atoms.all atV=true/\c.length=9)/\True/\TN/\True)/\(TN/\True)/\(TN/\TN/\True)/\(TF/\TF)/\TN/\True/\True/\((b.atoms.length<=1048576/\b.atoms.all atV=true/\c.length=9)/\True/\TN/\True)/\True/\True/\(((0,([]:List (List Int)),(six false false false false false false)).1<=(fL c b.atoms).length/\(0,([]:List (List Int)),(six false false false false false false)).2.1.length=(0,([]:List (List Int)),(six false false false false false false)).1/\mcI (fL c a.atoms) (fL c b.atoms) (0,([]:List (List Int)),(six false false false false false false)).1 (0,([]:List (List Int)),(six false false false false false false)).2.2)/\TT/\(VC_matchCase_2 c b)/\(([.s (.c (.d (.val (.int .i64 (0:Int)))))]:List S)=[.s (.c (.d (.val (.int .i64 ((0,([]:List (List Int)),(six false false false false false false)).1:Int)))))])/\(RM [some (.sl 384 .atom (fL c b.atoms))])/\(([some (.blk [.own 320,.d (.val (.bool false)),.d (.val (.bool false)),.d (.val (.bool false)),.d (.val (.bool false)),.d (.val (.bool false)),.d (.val (.bool false)),.d (.val (.int .i64 (0:Int)))])]:List (Option Res))=[some (.blk [.own 320,.d (.val (.bool ((0,([]:List (List Int)),(six false false false false false false)).2.2.getD 0 false))),.d (.val (.bool ((0,([]:List (List Int)),(six false false false false false false)).2.2.getD 1 false))),.d (.val (.bool ((0,([]:List (List Int)),(six false false false false false false)).2.2.getD 2 false))),.d (.val (.bool ((0,([]:List (List Int)),(six false false false false false false)).2.2.getD 3 false))),.d (.val (.bool ((0,([]:List (List Int)),(six false false false false false false)).2.2.getD 4 false))),.d (.val (.bool ((0,([]:List (List Int)),(six false false false false false false)).2.2.getD 5 false))),.d (.val (.int .i64 (cnt (0,([]:List (List Int)),(six false false false false false false)).2.2)))])])/\(((some (fL c a.atoms):Option (List GAtom))=some (fL c a.atoms))/\((some ([]:List (List Int)):Option (List (List Int)))=some ((0,([]:List (List Int)),(six false false false false false false)).2.1))/\True)/\TT)/\(∀ p1:Nat × List (List Int) × List Bool,(p1.1<=(fL c b.atoms).length/\p1.2.1.length=p1.1/\mcI (fL c a.atoms) (fL c b.atoms) p1.1 p1.2.2)->True/\(vcIf (decide ((p1.1:Int) < (((fL c b.atoms).length:Nat):Int))) ((0<=(p1.1:Int)/\(p1.1:Int) < (((fL c b.atoms).length:Nat):Int))/\True/\(TN/\True)/\(TF/\TF)/\TN/\True/\True/\True/\(VC_matchCase_5 c b p1 a)) (True/\True/\True/\True/\True/\True/\(vcIf ((cnt p1.2.2) != (((fL c a.atoms).length:Nat):Int)) (VC_matchCase_1 a b c) (True/\True/\True/\(true=MC a b c)/\(True/\True)/\((TF/\TF)/\True)/\True/\(True/\True)/\TF))))))))
def VC_matchCase (a:GAsn) (b:GAsn) (c:List Int) (k:Nat):Prop:=TN/\TN/\TN/\TN/\(VC_matchCase_6 c b a)
theorem vcn_matchCase (a:GAsn) (b:GAsn) (c:List Int) (k:Nat) (hp:asV a=true/\asV b=true/\c.length=9):VC_matchCase a b c k:=by
 unfold VC_matchCase VC_matchCase_6 VC_matchCase_5 VC_matchCase_4 VC_matchCase_3 VC_matchCase_2 VC_matchCase_1
 simp only [cln,Nat.reduceEqDiff,Nat.reduceLeDiff,Nat.reduceAdd]
 have hA:=asV_facts hp.1
 have hB:=asV_facts hp.2.1
 have hLa:=Nat.le_trans (fL_len c a.atoms) hA.2.2.2
 have hLb:=Nat.le_trans (fL_len c b.atoms) hB.2.2.2
 all_goals (try simp only [opn])
 all_goals (repeat' (first | apply And.intro | intro _))
 all_goals (repeat (cases ‹_/\_›))
 all_goals (try (have h7:=‹mcI _ _ _ _›;have h8:=sx6_eta h7.len;simp only [h8] at *))
 all_goals (try simp only [six_uc h7.len,six_ch h7.len] at *)
 all_goals (first | omega | rfl | assumption | (simp_all;done) | skip)
 all_goals (first
  | exact hA.2.2.1 | exact hB.2.2.1 | exact hB.1 | exact mc_no ‹_› | exact mcI_zero
  | exact mc_bad1 ‹_› h7 ‹_› ‹_› ‹_›
  | exact mc_bad2 ‹_› h7 ‹_› ‹_› ‹_›
  | exact mc_go1 h7 ‹_› ‹_› ‹_›
  | exact mc_go2 h7 ‹_› ‹_› ‹_›
  | exact mc_end1 ‹_› h7 ‹_› ‹_›
  | exact mc_end2 ‹_› h7 ‹_› ‹_›
  | exact h7.len
  | skip)
theorem ok_matchCase:FnOk Try.prog E 100 c_matchCase :=
 fn_okQ (l:=L_matchCase) (lp:=P_matchCase) (hp:=hp_matchCase) (gcs:=fun _=>none) (perm:=fun _=>[]) tabOk mix ⟨ok_iFilled,ok_factsHold,trivial⟩ ⟨ptok_cmCell,ptok_cmChain,trivial⟩ Try.func100 rfl (by kernel_rfl) (by decide) (by kernel_rfl) (anns:=fun x _=>an_matchCase x.1 x.2.1 x.2.2.1) (fun ⟨a,b,c,_⟩ k hp _=>Eq.mp (by kernel_rfl) (vcn_matchCase a b c k hp)) (fun ⟨a,b,c,_⟩ _=>⟨([],MC a b c,()),rfl⟩)
abbrev c_failingCase:Con:=⟨[.asn,.asn],[.kase,.bool],fun (a,b,_)=>asV a=true/\asV b=true,.inl fun (a,b,_)=>((FC a b).headD (List.replicate 9 0),!(FC a b).isEmpty,()),fun _=>0⟩
abbrev L_failingCase:List (FuncId × Con):=[(99,c_termsIn),(100,c_matchCase)]
abbrev P_failingCase:List (FuncId × PT):=[(98,pt_possibleCases)]
def hp_failingCase:Nat->Bool
 | 1=>true
 | _=>false
def ra_failingCase (a:GAsn) (b:GAsn):St->Option RAnn:=fun se=>some ⟨fun c=>MC a b c,[2,3,4,5],[47,63,79,95],fun i=>[],[47,63,79,95],fun i=>[],fun i=>[],300000⟩
def VC_failingCase_1 (a:GAsn) (b:GAsn):Prop:=TT/\(RL [.s (.c (.ptr 47 0)),.s (.c (.ptr 63 0)),.s (.c (.ptr 79 0)),.s (.c (.ptr 95 0))])/\(RL [])/\(RM [some (.blk [.d (.arr .fact a.facts),.d (.arr .atom a.atoms)]),some (.blk [.d (.arr .fact b.facts),.d (.arr .atom b.atoms)]),some (.vec .int (List.replicate 9 (0:Int))),some (.blk [.d (.val (.bool false))])])/\(RM [])/\True/\TT
def VC_failingCase_2 (c2_0:Int) (c2_1:Int) (c2_2:Int) (c2_3:Int) (c2_4:Int) (c2_5:Int) (c2_6:Int) (c2_7:Int) (c2_8:Int):Prop:=(([c2_0,c2_1,c2_2,c2_3,c2_4,c2_5,c2_6,c2_7,c2_8]:List Int).length=(List.replicate 9 (0:Int)).length)/\TF/\TF
def VC_failingCase (a:GAsn) (b:GAsn) (k:Nat):Prop:=TT/\TN/\TN/\(TN/\True)/\(TN/\True)/\TT/\True/\True/\((b.facts.length<=281474976710656/\b.atoms.length<=281474976710656)/\True/\True)/\((2:Nat)<=12)/\TN/\True/\True/\((a.facts.length<=281474976710656/\a.atoms.length<=281474976710656)/\True/\True)/\((0<=(tsA a)/\(tsA a) < 512)/\True/\True)/\True/\True/\(TN/\True)/\(TF/\TF)/\True/\True/\((((134:Nat)=134)/\((none:Option Nat)=none)/\(itPre a (bits .or .u16 (tsWith (tsA a) (0:Int)) (tsA b))))/\TT/\(VC_failingCase_1 a b))/\(∀ i1:Nat,∀ c2_0:Int,∀ c2_1:Int,∀ c2_2:Int,∀ c2_3:Int,∀ c2_4:Int,∀ c2_5:Int,∀ c2_6:Int,∀ c2_7:Int,∀ c2_8:Int,((itEn a (bits .or .u16 (tsWith (tsA a) (0:Int)) (tsA b)))[i1]?=some ([c2_0,c2_1,c2_2,c2_3,c2_4,c2_5,c2_6,c2_7,c2_8]:List Int))->(((itEn a (bits .or .u16 (tsWith (tsA a) (0:Int)) (tsA b))).take i1).all (fun c=>MC a b c)=true)->TT/\(TN/\True)/\(VC_failingCase_2 c2_0 c2_1 c2_2 c2_3 c2_4 c2_5 c2_6 c2_7 c2_8)/\((none:Option Nat)=none)/\TT/\True/\True/\(9=([c2_0,c2_1,c2_2,c2_3,c2_4,c2_5,c2_6,c2_7,c2_8]:List Int).length * 1)/\((asV a=true/\asV b=true/\([c2_0,c2_1,c2_2,c2_3,c2_4,c2_5,c2_6,c2_7,c2_8]:List Int).length=9)/\True/\True/\TN/\True)/\(∀ r3:(List (List Int)) × Bool × Unit,(r3.2.1=MC a b ([c2_0,c2_1,c2_2,c2_3,c2_4,c2_5,c2_6,c2_7,c2_8]:List Int))->True/\True/\True/\True/\True/\TT/\True/\True/\(vcIf (!r3.2.1) (TT/\(9=([c2_0,c2_1,c2_2,c2_3,c2_4,c2_5,c2_6,c2_7,c2_8]:List Int).length * 1)/\(VC_failingCase_2 c2_0 c2_1 c2_2 c2_3 c2_4 c2_5 c2_6 c2_7 c2_8)/\(TF/\TF)/\((MC a b ([c2_0,c2_1,c2_2,c2_3,c2_4,c2_5,c2_6,c2_7,c2_8]:List Int))=false)/\((none:Option Nat)=none)/\((none:Option Nat)=none)/\(((([c2_0,c2_1,c2_2,c2_3,c2_4,c2_5,c2_6,c2_7,c2_8]:List Int),true,()):(List Int) × Bool × Unit)=((FC a b).headD (List.replicate 9 0),!(FC a b).isEmpty,()))/\True/\True/\True/\True/\TF) (((MC a b ([c2_0,c2_1,c2_2,c2_3,c2_4,c2_5,c2_6,c2_7,c2_8]:List Int))=true)/\((none:Option Nat)=none)/\(VC_failingCase_1 a b)))))/\(((itEn a (bits .or .u16 (tsWith (tsA a) (0:Int)) (tsA b))).all (fun c=>MC a b c)=true)->TT/\True/\(((List.replicate 9 (0:Int)).length=(List.replicate 9 (0:Int)).length)/\TF/\TF)/\(TF/\TF)/\((none:Option Nat)=none)/\(((List.replicate 9 (0:Int),false,()):(List Int) × Bool × Unit)=((FC a b).headD (List.replicate 9 0),!(FC a b).isEmpty,()))/\True/\True/\True/\True/\TF)
theorem vcn_failingCase (a:GAsn) (b:GAsn) (k:Nat) (hp:asV a=true/\asV b=true):VC_failingCase a b k:=by
 unfold VC_failingCase VC_failingCase_2 VC_failingCase_1
 simp only [cln,Nat.reduceEqDiff,Nat.reduceLeDiff,Nat.reduceAdd]
 have ha:=hp.1
 have hb:=hp.2
 have hs:=asV_facts ha
 have hA:=tsA_bd a
 have hB:=tsA_bd b
 have hsb:=asV_facts hb
 have hI:=itEn_ent ha hb
 have hw:=tsWith_bd (t:=0) hA.1 hA.2
 all_goals (try simp only [opn])
 all_goals (repeat' (first | apply And.intro | intro _))
 all_goals (first | omega | rfl | assumption | exact hI.2 | exact hI.2.2.1 | exact hI.2.2.2 | skip)
 all_goals (first
  | exact (fc_hit ha hb ‹_› ‹_› ((‹_=MC a b _›).symm.trans ‹_›)).1.symm
  | (rw [(fc_hit (d:=[]) ha hb ‹_› ‹_› ((‹_=MC a b _›).symm.trans ‹_›)).2];rfl)
  | exact (‹_=MC a b _›).symm.trans ‹_›
  | (rw [fc_none ha hb ‹_›];rfl)
  | skip)
abbrev spc_failingCase (a:GAsn) (b:GAsn):SpCode Bool:=spR tab (lookF L_failingCase) (lookP P_failingCase) hp_failingCase (fun _=>none) (fun _ _ _=>none) (fun _=>[]) Try.f53.ntmps 134 itPre itEn (ra_failingCase a b)
theorem spcok_failingCase (a:GAsn) (b:GAsn) (wE:World) (ro0:Nat->Option (Array Value)) (ρ:Nat):SpcOk Fence.wide 0 Try.prog E (AC wE ro0 ρ) Try.f53.ntmps (spc_failingCase a b) :=
 spR_ok tabOk (kall_of (l:=L_failingCase) ⟨ok_termsIn,ok_matchCase,trivial⟩) (pall_of (l:=P_failingCase) ⟨ptok_possibleCases,trivial⟩) mix it_ok it_len it_run
theorem vcr_failingCase:∀ x:Args c_failingCase.aks,c_failingCase.pre x->vcY tab (lookF L_failingCase) (lookP P_failingCase) noSpB (spc_failingCase x.1 x.2.1) (fun b=>!b) hp_failingCase (fun _=>none) (fun _ _ _=>none) (fun _=>[]) (bodyOf Try.f53) (entry (encs c_failingCase.aks x) none) false (retR tab c_failingCase Try.f53.results.toList x) :=
 fun ⟨a,b,_⟩ hp=>Eq.mp (by kernel_rfl) (vcn_failingCase a b 0 hp)
theorem ok_failingCase:FnOk Try.prog E 53 c_failingCase :=
 fnR_ok (con:=c_failingCase) (fn:=Try.f53) (l:=L_failingCase) (lp:=P_failingCase) (hp:=hp_failingCase) (gcs:=fun _=>none) (perm:=fun _=>[]) (spc:=fun x=>spc_failingCase x.1 x.2.1) (anns:=fun x=>(fun _ _ _=>none)) tabOk mix ⟨ok_termsIn,ok_matchCase,trivial⟩ ⟨ptok_possibleCases,trivial⟩ rfl Try.func53 rfl (by kernel_rfl) (by decide) (by kernel_rfl) (fun x _=>spcok_failingCase x.1 x.2.1) vcr_failingCase tot_fn
abbrev c_iEntails:Con:=⟨[.asn,.asn],[.bool],fun (a,b,_)=>a.facts.length<=281474976710656/\a.atoms.length<=281474976710656/\b.facts.length<=281474976710656/\b.atoms.length<=281474976710656,.inl fun (a,b,_)=>(ENT a b,()),fun _=>0⟩
abbrev L_iEntails:List (FuncId × Con):=[(37,c_iAssertionValid),(53,c_failingCase)]
abbrev P_iEntails:List (FuncId × PT):=[]
def VC_iEntails_1 (a:GAsn) (b:GAsn):Prop:=True/\(((false,()):Bool × Unit)=(ENT a b,()))/\True/\True/\True/\True/\TF
def VC_iEntails (a:GAsn) (b:GAsn) (k:Nat):Prop:=TN/\TN/\True/\True/\((a.facts.length<=281474976710656/\a.atoms.length<=281474976710656)/\True/\True)/\True/\True/\(vcIf (!(asV a)) (True/\(VC_iEntails_1 a b)) (True/\((b.facts.length<=281474976710656/\b.atoms.length<=281474976710656)/\True/\True)/\True/\True/\(vcIf (!(asV b)) (VC_iEntails_1 a b) (True/\True/\((asV a=true/\asV b=true)/\True/\True)/\True/\True/\True/\(TN/\True)/\((((FC a b).headD (List.replicate 9 0)).length=(List.replicate 9 (0:Int)).length)/\TF/\TF)/\True/\True/\True/\True/\(((!(!(FC a b).isEmpty),()):Bool × Unit)=(ENT a b,()))/\True/\True/\True/\True/\TF))))
theorem vcn_iEntails (a:GAsn) (b:GAsn) (k:Nat) (hp:a.facts.length<=281474976710656/\a.atoms.length<=281474976710656/\b.facts.length<=281474976710656/\b.atoms.length<=281474976710656):VC_iEntails a b k:=by
 unfold VC_iEntails VC_iEntails_1
 simp only [cln,Nat.reduceEqDiff,Nat.reduceLeDiff,Nat.reduceAdd]
 all_goals (try simp only [opn])
 all_goals (repeat' (first | apply And.intro | intro _))
 all_goals (repeat (cases ‹_/\_›))
 all_goals (first | omega | rfl | assumption | exact (ent_no1 ‹_›).symm | exact (ent_no2 ‹_›).symm | (rw [ENT_FC ‹_› ‹_›,Bool.not_not];done) | exact fc_len ‹_› ‹_› | skip)
theorem ok_iEntails:FnOk Try.prog E 20 c_iEntails :=
 fn_okQ (l:=L_iEntails) (lp:=P_iEntails) (hp:=fun _=>false) (gcs:=fun _=>none) (perm:=fun _=>[]) tabOk mix ⟨ok_iAssertionValid,ok_failingCase,trivial⟩ trivial Try.func20 rfl (by kernel_rfl) (by decide) (by kernel_rfl) (anns:=fun x _=>fun _ _=>none) (fun ⟨a,b,_⟩ k hp _=>Eq.mp (by kernel_rfl) (vcn_iEntails a b k hp)) tot_fn
abbrev c_joinListsF:Con:=⟨[.sl .fact,.sl .fact],[.sl .fact],fun (a,b,_)=>a.length<=1048576/\b.length<=1048576,.inl fun (a,b,_)=>(a ++ b,()),fun _=>0⟩
abbrev L_joinListsF:List (FuncId × Con):=[]
abbrev P_joinListsF:List (FuncId × PT):=[]
def VC_joinListsF (a:List GFact) (b:List GFact) (k:Nat):Prop:=TN/\True/\True/\True/\True/\(inK .i64 (((a.length:Nat):Int)+((b.length:Nat):Int)))/\(TN/\(0<=(0:Int)/\(0:Int)<=(((a.length:Nat):Int)+((b.length:Nat):Int))/\(((a.length:Nat):Int)+((b.length:Nat):Int))<=4294967296))/\True/\True/\True/\(TN/\TF/\TF/\((List.replicate 0 (⟨false,0,0⟩:GFact)).length+a.length<=4294967296))/\True/\(TN/\TF/\TF/\(((List.replicate 0 (⟨false,0,0⟩:GFact)) ++ a).length+b.length<=4294967296))/\True/\(((((List.replicate 0 (⟨false,0,0⟩:GFact)) ++ a) ++ b,()):(List GFact) × Unit)=(a ++ b,()))/\(True/\True)/\((TF/\TF)/\True)/\True/\(True/\True)/\TF
theorem vcn_joinListsF (a:List GFact) (b:List GFact) (k:Nat) (hp:a.length<=1048576/\b.length<=1048576):VC_joinListsF a b k:=by
 unfold VC_joinListsF
 simp only [cln,Nat.reduceEqDiff,Nat.reduceLeDiff,Nat.reduceAdd]
 all_goals (try simp only [opn])
 all_goals (repeat' (first | apply And.intro | intro _))
 all_goals (first | omega | (simp_all;done) | grind [])
theorem ok_joinListsF:FnOk Try.prog E 78 c_joinListsF :=
 fn_okQ (l:=L_joinListsF) (lp:=P_joinListsF) (hp:=fun _=>false) (gcs:=fun _=>none) (perm:=fun _=>[]) tabOk mix trivial trivial Try.func78 rfl (by kernel_rfl) (by decide) (by kernel_rfl) (anns:=fun x _=>fun _ _=>none) (fun ⟨a,b,_⟩ k hp _=>Eq.mp (by kernel_rfl) (vcn_joinListsF a b k hp)) tot_fn
abbrev c_joinListsA:Con:=⟨[.sl .atom,.sl .atom],[.sl .atom],fun (a,b,_)=>a.length<=1048576/\b.length<=1048576,.inl fun (a,b,_)=>(a ++ b,()),fun _=>0⟩
abbrev L_joinListsA:List (FuncId × Con):=[]
abbrev P_joinListsA:List (FuncId × PT):=[]
def VC_joinListsA (a:List GAtom) (b:List GAtom) (k:Nat):Prop:=TN/\True/\True/\True/\True/\(inK .i64 (((a.length:Nat):Int)+((b.length:Nat):Int)))/\(TN/\(0<=(0:Int)/\(0:Int)<=(((a.length:Nat):Int)+((b.length:Nat):Int))/\(((a.length:Nat):Int)+((b.length:Nat):Int))<=4294967296))/\True/\True/\True/\(TN/\TF/\TF/\((List.replicate 0 (⟨0,0,0⟩:GAtom)).length+a.length<=4294967296))/\True/\(TN/\TF/\TF/\(((List.replicate 0 (⟨0,0,0⟩:GAtom)) ++ a).length+b.length<=4294967296))/\True/\(((((List.replicate 0 (⟨0,0,0⟩:GAtom)) ++ a) ++ b,()):(List GAtom) × Unit)=(a ++ b,()))/\(True/\True)/\((TF/\TF)/\True)/\True/\(True/\True)/\TF
theorem vcn_joinListsA (a:List GAtom) (b:List GAtom) (k:Nat) (hp:a.length<=1048576/\b.length<=1048576):VC_joinListsA a b k:=by
 unfold VC_joinListsA
 simp only [cln,Nat.reduceEqDiff,Nat.reduceLeDiff,Nat.reduceAdd]
 all_goals (try simp only [opn])
 all_goals (repeat' (first | apply And.intro | intro _))
 all_goals (first | omega | (simp_all;done) | grind [])
theorem ok_joinListsA:FnOk Try.prog E 79 c_joinListsA :=
 fn_okQ (l:=L_joinListsA) (lp:=P_joinListsA) (hp:=fun _=>false) (gcs:=fun _=>none) (perm:=fun _=>[]) tabOk mix trivial trivial Try.func79 rfl (by kernel_rfl) (by decide) (by kernel_rfl) (anns:=fun x _=>fun _ _=>none) (fun ⟨a,b,_⟩ k hp _=>Eq.mp (by kernel_rfl) (vcn_joinListsA a b k hp)) tot_fn
abbrev c_iStarAssertions:Con:=⟨[.asn,.asn],[.asn,.bool],fun (a,b,_)=>a.facts.length<=1048576/\a.atoms.length<=1048576/\b.facts.length<=1048576/\b.atoms.length<=1048576,.inl fun (a,b,_)=>(starL a b,starOk a b,()),fun _=>0⟩
abbrev L_iStarAssertions:List (FuncId × Con):=[(37,c_iAssertionValid),(78,c_joinListsF),(79,c_joinListsA)]
abbrev P_iStarAssertions:List (FuncId × PT):=[]
def VC_iStarAssertions_1 (a:GAsn) (b:GAsn):Prop:=(((⟨([]:List GFact),([]:List GAtom)⟩:GAsn),false,()):GAsn × Bool × Unit)=(starL a b,starOk a b,())
def VC_iStarAssertions_2 (a:GAsn) (b:GAsn):Prop:=(TN/\TN/\True)/\(TF/\TF)/\True/\(VC_iStarAssertions_1 a b)/\((((240:Nat) ≠ 241)/\True)/\True/\True)/\((TF/\TF)/\(TF/\TF)/\True)/\True/\(True/\True/\True)/\TF
def VC_iStarAssertions (a:GAsn) (b:GAsn) (k:Nat):Prop:=TN/\TN/\(TN/\TN/\TN/\True)/\True/\True/\((a.facts.length<=281474976710656/\a.atoms.length<=281474976710656)/\True/\True)/\True/\True/\(vcIf (!(asV a)) (True/\(VC_iStarAssertions_2 a b)) (True/\((b.facts.length<=281474976710656/\b.atoms.length<=281474976710656)/\True/\True)/\True/\True/\(vcIf (!(asV b)) (VC_iStarAssertions_2 a b) (True/\True/\True/\True/\((a.facts.length<=1048576/\b.facts.length<=1048576)/\True/\TN/\True)/\True/\True/\True/\True/\((a.atoms.length<=1048576/\b.atoms.length<=1048576)/\True/\TN/\True)/\(TN/\TN/\True)/\(TN/\TN/\TN/\True)/\(TF/\TF)/\True/\(((⟨(a.facts ++ b.facts),(a.atoms ++ b.atoms)⟩:GAsn).facts.length<=281474976710656/\(⟨(a.facts ++ b.facts),(a.atoms ++ b.atoms)⟩:GAsn).atoms.length<=281474976710656)/\True/\True)/\True/\(vcIf (!(asV (⟨(a.facts ++ b.facts),(a.atoms ++ b.atoms)⟩:GAsn))) ((TN/\TN/\True)/\(TF/\TF)/\True/\(VC_iStarAssertions_1 a b)/\((((480:Nat) ≠ 481)/\True)/\True/\True)/\((TF/\TF)/\(TF/\TF)/\True)/\True/\(True/\True/\True)/\TF) (True/\(TF/\TF)/\True/\((((⟨(a.facts ++ b.facts),(a.atoms ++ b.atoms)⟩:GAsn),true,()):GAsn × Bool × Unit)=(starL a b,starOk a b,()))/\((((320:Nat) ≠ 400)/\True)/\True/\True)/\((TF/\TF)/\(TF/\TF)/\True)/\True/\(True/\True/\True)/\TF))))))
theorem vcn_iStarAssertions (a:GAsn) (b:GAsn) (k:Nat) (hp:a.facts.length<=1048576/\a.atoms.length<=1048576/\b.facts.length<=1048576/\b.atoms.length<=1048576):VC_iStarAssertions a b k:=by
 unfold VC_iStarAssertions VC_iStarAssertions_2 VC_iStarAssertions_1
 simp only [cln,Nat.reduceEqDiff,Nat.reduceLeDiff,Nat.reduceAdd]
 all_goals (try simp only [opn])
 all_goals (repeat' (first | apply And.intro | intro _))
 all_goals (first | omega | (simp_all;done) | grind [starL,starOk,starA])
theorem ok_iStarAssertions:FnOk Try.prog E 32 c_iStarAssertions :=
 fn_okQ (l:=L_iStarAssertions) (lp:=P_iStarAssertions) (hp:=fun _=>false) (gcs:=fun _=>none) (perm:=fun _=>[]) tabOk mix ⟨ok_iAssertionValid,ok_joinListsF,ok_joinListsA,trivial⟩ trivial Try.func32 rfl (by kernel_rfl) (by decide) (by kernel_rfl) (anns:=fun x _=>fun _ _=>none) (fun ⟨a,b,_⟩ k hp _=>Eq.mp (by kernel_rfl) (vcn_iStarAssertions a b k hp)) tot_fn
abbrev c_frAcc:Con:=⟨[.int,.pasn,.pasn],[.bool],fun (m,b,a,_)=>asV a=true/\asV b=true,.inl fun (m,b,a,_)=>(FRA m b a,()),fun _=>0⟩
abbrev L_frAcc:List (FuncId × Con):=[(20,c_iEntails),(32,c_iStarAssertions),(73,c_pickAtoms)]
abbrev P_frAcc:List (FuncId × PT):=[]
def VC_frAcc (m:Int) (b:GAsn) (a:GAsn) (k:Nat):Prop:=True/\True/\True/\True/\((a.facts.length<=1048576/\a.atoms.length<=1048576)/\True/\TN/\TN/\True)/\((b.facts.length<=1048576/\b.atoms.length<=1048576/\(⟨[],(pkA m a.atoms)⟩:GAsn).facts.length<=1048576/\(⟨[],(pkA m a.atoms)⟩:GAsn).atoms.length<=1048576)/\True/\TN/\TN/\True)/\True/\True/\True/\(TN/\TN/\TN/\True)/\(TF/\TF)/\True/\True/\True/\(vcIf (starOk b (⟨[],(pkA m a.atoms)⟩:GAsn)) (True/\True/\((a.facts.length<=281474976710656/\a.atoms.length<=281474976710656/\(starL b (⟨[],(pkA m a.atoms)⟩:GAsn)).facts.length<=281474976710656/\(starL b (⟨[],(pkA m a.atoms)⟩:GAsn)).atoms.length<=281474976710656)/\True/\True)/\True/\True/\((((ENT a (starL b (⟨[],(pkA m a.atoms)⟩:GAsn))),()):Bool × Unit)=(FRA m b a,()))/\True/\True/\True/\True/\TF) (True/\True/\(((false,()):Bool × Unit)=(FRA m b a,()))/\True/\True/\True/\True/\TF))
theorem vcn_frAcc (m:Int) (b:GAsn) (a:GAsn) (k:Nat) (hp:asV a=true/\asV b=true):VC_frAcc m b a k:=by
 unfold VC_frAcc
 simp only [cln,Nat.reduceEqDiff,Nat.reduceLeDiff,Nat.reduceAdd]
 all_goals (try simp only [opn])
 all_goals (repeat' (first | apply And.intro | intro _))
 all_goals (repeat (cases ‹_/\_›))
 all_goals (first | with_reducible exact True.intro | (exfalso;contradiction) | omega | with_reducible assumption | with_reducible rfl | skip)
 all_goals (try have hA:=fo_len6 ‹asV a=true›)
 all_goals (try have hB:=fo_len6 ‹asV b=true›)
 all_goals (first
  | omega
  | with_reducible exact pk200 (by omega)
  | (with_reducible refine Nat.le_trans (m:=200) ?_ (by decide);first
   | with_reducible exact star_pkF (by omega) | with_reducible exact star_pkA (by omega) (by omega))
  | with_reducible exact fra_y ‹_› | with_reducible exact fra_n ‹_›
  | with_reducible exact (frm_no1 ‹_›).1 | with_reducible exact (frm_no1 ‹_›).2 | with_reducible exact (frm_no2 ‹_›).1 | with_reducible exact (frm_no2 ‹_›).2
  | with_reducible exact (frm_n ‹_› ‹_› ‹_›).1 | with_reducible exact (frm_n ‹_› ‹_› ‹_›).2
  | with_reducible exact (frm_y ‹_› ‹_› ‹_›).1 | with_reducible exact (frm_y ‹_› ‹_› ‹_›).2
  | skip)
abbrev cl_frAcc:ClC:=⟨fun m b a=>asV a=true/\asV b=true,fun m b a=>FRA m b a⟩
theorem ok_frAcc:FnOk Try.prog E 82 c_frAcc :=
 fn_okQ (l:=L_frAcc) (lp:=P_frAcc) (hp:=fun _=>false) (gcs:=fun _=>none) (perm:=fun _=>[]) tabOk mix ⟨ok_iEntails,ok_iStarAssertions,ok_pickAtoms,trivial⟩ trivial Try.func82 rfl (by kernel_rfl) (by decide) (by kernel_rfl) (anns:=fun x _=>fun _ _=>none) (fun ⟨m,b,a,_⟩ k hp _=>Eq.mp (by kernel_rfl) (vcn_frAcc m b a k hp)) tot_fn
abbrev c_iFrameOf:Con:=⟨[.asn,.asn],[.asn,.bool],fun (a,b,_)=>a.facts.length<=281474976710656/\a.atoms.length<=281474976710656/\b.facts.length<=281474976710656/\b.atoms.length<=281474976710656,.inl fun (a,b,_)=>(frmL a b,frmB a b,()),fun _=>0⟩
abbrev L_iFrameOf:List (FuncId × Con):=[(37,c_iAssertionValid),(73,c_pickAtoms)]
abbrev P_iFrameOf:List (FuncId × PT):=[(81,ptLM 82 cl_frAcc)]
def hp_iFrameOf:Nat->Bool
 | 3=>true
 | _=>false
def VC_iFrameOf_1 (a:GAsn) (b:GAsn):Prop:=(((⟨([]:List GFact),([]:List GAtom)⟩:GAsn),false,()):GAsn × Bool × Unit)=(frmL a b,frmB a b,())
def VC_iFrameOf_2 (a:GAsn) (b:GAsn):Prop:=(TN/\TN/\True)/\(TF/\TF)/\True/\(VC_iFrameOf_1 a b)/\((((256:Nat) ≠ 257)/\True)/\True/\True)/\((TF/\TF)/\(TF/\TF)/\True)/\True/\(True/\True/\True)/\TF
def VC_iFrameOf (a:GAsn) (b:GAsn) (k:Nat):Prop:=TN/\TN/\(TN/\TN/\TN/\True)/\True/\True/\((a.facts.length<=281474976710656/\a.atoms.length<=281474976710656)/\True/\True)/\True/\True/\(vcIf (!(asV a)) (True/\(VC_iFrameOf_2 a b)) (True/\((b.facts.length<=281474976710656/\b.atoms.length<=281474976710656)/\True/\True)/\True/\True/\(vcIf (!(asV b)) (VC_iFrameOf_2 a b) (True/\True/\True/\True/\((82:Nat)=82)/\((none:Option Nat)=none)/\(0<=((a.atoms.length:Nat):Int)/\((a.atoms.length:Nat):Int)<=62)/\(∀ m1:Int,(0:Int)<=m1->m1 < (2:Int) ^ (((a.atoms.length:Nat):Int)).toNat->asV a=true/\asV b=true)/\True/\True/\True/\True/\True/\True/\True/\(vcIf (!(lmB (fun m1=>FRA m1 b a) ((a.atoms.length:Nat):Int))) ((TN/\TN/\True)/\(TF/\TF)/\True/\(VC_iFrameOf_1 a b)/\((((432:Nat) ≠ 433)/\True)/\True/\True)/\((TF/\TF)/\(TF/\TF)/\True)/\True/\(True/\True/\True)/\TF) (True/\True/\((a.facts.length<=1048576/\a.atoms.length<=1048576)/\True/\TN/\TN/\True)/\(TF/\TF)/\True/\((((⟨[],(pkA (lmI (fun m1=>FRA m1 b a) ((a.atoms.length:Nat):Int)) a.atoms)⟩:GAsn),true,()):GAsn × Bool × Unit)=(frmL a b,frmB a b,()))/\((((480:Nat) ≠ 481)/\True)/\True/\True)/\((TF/\TF)/\(TF/\TF)/\True)/\True/\(True/\True/\True)/\TF))))))
theorem vcn_iFrameOf (a:GAsn) (b:GAsn) (k:Nat) (hp:a.facts.length<=281474976710656/\a.atoms.length<=281474976710656/\b.facts.length<=281474976710656/\b.atoms.length<=281474976710656):VC_iFrameOf a b k:=by
 unfold VC_iFrameOf VC_iFrameOf_2 VC_iFrameOf_1
 simp only [cln,Nat.reduceEqDiff,Nat.reduceLeDiff,Nat.reduceAdd]
 all_goals (try simp only [opn])
 all_goals (repeat' (first | apply And.intro | intro _))
 all_goals (repeat (cases ‹_/\_›))
 all_goals (first | with_reducible exact True.intro | (exfalso;contradiction) | omega | with_reducible assumption | with_reducible rfl | skip)
 all_goals (try have hA:=fo_len6 ‹asV a=true›)
 all_goals (try have hB:=fo_len6 ‹asV b=true›)
 all_goals (first
  | omega
  | with_reducible exact pk200 (by omega)
  | (with_reducible refine Nat.le_trans (m:=200) ?_ (by decide);first
   | with_reducible exact star_pkF (by omega) | with_reducible exact star_pkA (by omega) (by omega))
  | with_reducible exact fra_y ‹_› | with_reducible exact fra_n ‹_›
  | with_reducible exact (frm_no1 ‹_›).1 | with_reducible exact (frm_no1 ‹_›).2 | with_reducible exact (frm_no2 ‹_›).1 | with_reducible exact (frm_no2 ‹_›).2
  | with_reducible exact (frm_n ‹_› ‹_› ‹_›).1 | with_reducible exact (frm_n ‹_› ‹_› ‹_›).2
  | with_reducible exact (frm_y ‹_› ‹_› ‹_›).1 | with_reducible exact (frm_y ‹_› ‹_› ‹_›).2
  | skip)
theorem ok_iFrameOf:FnOk Try.prog E 35 c_iFrameOf :=
 fn_okQ (l:=L_iFrameOf) (lp:=P_iFrameOf) (hp:=hp_iFrameOf) (gcs:=fun _=>none) (perm:=fun _=>[]) tabOk mix ⟨ok_iAssertionValid,ok_pickAtoms,trivial⟩ ⟨(ptok_lm (c:=cl_frAcc) ok_frAcc),trivial⟩ Try.func35 rfl (by kernel_rfl) (by decide) (by kernel_rfl) (anns:=fun x _=>fun _ _=>none) (fun ⟨a,b,_⟩ k hp _=>Eq.mp (by kernel_rfl) (vcn_iFrameOf a b k hp)) tot_fn
theorem vc_l18Open (code:List UInt8):vc tab (lookF []) (fun _=>none) (fun _=>[]) (bodyOf Try.f48) (entry [.c (.d (.arr .u8 code))] none) openQ:=by
 dsimp only [bodyOf,Try.f48]
 simp only [openQ,pickK,openE,openM,true_and,and_true,SE.lookF,tab2,tab3,tab4,tab5,tab7,tab9,tab12,tab13,tab21,tab22,tab23,tab24,tab25,tab26,tab29,tab30,tab31,tab38,tab39,tab40,tab41,tab65,tab66,tab67,tab68,tab71,tab77,tab78,tab93,tab94,tab104,tab105,tab110,tab111,tab112,tab119,tab121,tab130,tab139,tab141,tab149,tab151,tab156,tab157,tab158,SE.entry,SE.envOf,SE.rdOf,Option.get_some,SE.vc,SE.vcReg,SE.vcLoop,SE.condK,SE.seqK,SE.blockK,SE.vcOps,SE.vcStep,SE.vcOp,SE.vcTr,SE.vcDet_some,SE.vcDet_none,SE.vcIf_true,SE.vcIf_false,SE.vcEach,SE.pickOps,SE.gslot,SE.trOp,SE.moveId,SE.trMove,SE.trPick,SE.trAlloc,SE.trBox,SE.trBuild,SE.trBuildSlice,SE.trLoad,SE.trStore,SE.trNilCheck,SE.trBin,SE.trUn,SE.trConvert,SE.trFieldAddr,SE.trField,SE.trIndexAddr,SE.trIndex,SE.trSlice,SE.trMakeSlice,SE.trExtract,SE.trLen,SE.trAppend,SE.trCopy,SE.trFn,SE.trCall,SE.argsS,SE.ev,SE.constS,SE.junk,SE.sv,SE.upd_app,SE.adds,SE.sets,SE.nid,SE.St.app,SE.St.put,SE.free,SE.freeL,SE.allFree,SE.rids,SE.AK.rids,SE.castL,SE.rdl,SE.AK.dec,SE.decs,SE.AK.enc,SE.encs,SE.AK.res,SE.ress,SE.pack1,SE.zcells,SE.zeroOf,SE.partCells,SE.putc,SE.fills,SE.datas,SE.elemOf,SE.elemsOf,SE.notSpent,SE.cellsAt,SE.weak,SE.dcellsAt,SE.slAt,SE.rdPlus,SE.intAt,SE.updElem,SE.kill,SE.noJunk,SE.inK,SE.binI,SE.shf,SE.isShift,SE.eqCells,SE.aggS,SE.intOp,SE.nested,SE.hasRdr,SE.refsC,SE.refsCs,SE.ownsC,SE.refsAr,SE.rdFits,SE.costIf,SE.Con.post,SE.Con.det,SE.Ty.cells,SE.Ty.sz,SE.Ty.zero,SE.Ty.flat,SE.Ty.dec,SE.retOk,SE.loadsS,SE.loadS,SE.decRs,SE.decR,SE.outC,SE.rdC,SE.allDiff,SE.notIn,SE.notFrozen,SE.apartL,SE.rdEnd,SE.firstReg,SE.headC,SE.fitsC,SE.idsC,SE.keepE,SE.keepM,SE.keepB,SE.inL,SE.puts,SE.ownRes,SE.ownEnv,SE.renL,SE.srcId,SE.lookR,SE.envSame,SE.envSets,SE.memSame,SE.memBlks,SE.memOwns,SE.famsOf,SE.allIn,SE.closedE,SE.closedV,SE.closedM,SE.closedR,SE.rdLe,SE.S.refs,SE.S0.refs,SE.CV.refs,SE.refsL,SE.refsT,SE.S.ren,SE.S0.ren,SE.CV.ren,SE.Res.refs,SE.Res.ren,min_i64,max_i64,min_u16,max_u16,min_u8,max_u8,min_u64,max_u64,S.s.injEq,S0.c.injEq,CV.d.injEq,DC.val.injEq,Value.int.injEq,Value.bool.injEq,Value.string.injEq,eta_fact,eta_atom,eta_asn,eta_state,List.mem_cons,List.mem_nil_iff,or_false,false_or,or_true,true_or,Option.map_some,Option.map_none,Option.bind_some,Option.getD_some,Option.getD_none,Nat.reduceEqDiff,Nat.reduceAdd,Nat.reduceMul,Nat.reduceLeDiff,↓reduceIte,reduceCtorEq,true_and,and_true,and_self,forall_const,implies_true,true_implies,List.getElem?_toArray,List.getElem?_cons_succ,List.getElem?_cons_zero,List.append_nil,List.nil_append,List.cons_append,List.length_cons,List.length_nil,List.take_succ_cons,List.take_zero,List.drop_succ_cons,List.drop_zero,List.set_cons_zero,List.set_cons_succ,List.map_cons,List.map_nil,Nat.add_zero,Nat.zero_add,forall_eq,Prod.forall,Bool.not_true,Bool.not_false,Nat.lt_irrefl,Nat.zero_lt_succ,List.singleton_append,Prod.mk.injEq,Nat.zero_mul,Nat.one_mul,Nat.reducePow,Option.some.injEq,not_false_eq_true,Int.toNat_natCast,Nat.sub_zero,Nat.le_refl,Bool.or_false,Bool.false_or,Bool.or_true,Bool.true_or,Bool.and_true,Bool.true_and,Bool.and_false,Bool.false_and,Bool.or_self,Bool.and_self,List.append_eq,and_false,false_and]
 all_goals (try simp only [vcIf_iff,decide_eq_true_eq,decide_eq_false_iff_not])
 all_goals (repeat' (first | apply And.intro | intro _))
 all_goals (first | omega | (simp_all;done) | grind)
theorem open_l18Open:OpenOk Try.prog 48 :=
 open_ok tabOk mix (perm:=fun _=>[]) Try.func48 (by kernel_rfl) (by kernel_rfl) (by decide) (by kernel_rfl) vc_l18Open
theorem fn_l18Open : ∃ fn c, Try.prog.funcs[48]? = some fn /\ (fn.name == "runtime.NumGoroutine") = false /\ fn.body = some c := ⟨_, _, Try.func48, by kernel_rfl, rfl⟩
abbrev c_pick:Con:=⟨[.rdr,.int],[.int],fun _=>True,.inr fun (_,n,_) (r,_)=>pickP n r,fun _=>1⟩
theorem vc_pick (code:List UInt8) (v:Value) (p n:Int) (k:Nat) (h1:code.length<=2000) (h2:0<=p) (h3:p<=k) (h4:k+1<=rdLimit):vc tab (lookF []) (fun _=>none) (fun _=>[]) (bodyOf Try.f51) (pickSt code v p n) (pickQ code v p n):=by
 have h5:p<=1099511627776:=by have:k+1<=1099511627776:=h4;omega
 dsimp only [bodyOf,Try.f51,rdOf]
 simp only [pickSt,pickQ,pickK,pickM,pickR,pickP,true_and,and_true,SE.lookF,tab2,tab3,tab4,tab5,tab7,tab9,tab12,tab13,tab21,tab22,tab23,tab24,tab25,tab26,tab29,tab30,tab31,tab38,tab39,tab40,tab41,tab65,tab66,tab67,tab68,tab71,tab77,tab78,tab93,tab94,tab104,tab105,tab110,tab111,tab112,tab119,tab121,tab130,tab139,tab141,tab149,tab151,tab156,tab157,tab158,SE.entry,SE.envOf,SE.rdOf,Option.get_some,SE.vc,SE.vcReg,SE.vcLoop,SE.condK,SE.seqK,SE.blockK,SE.vcOps,SE.vcStep,SE.vcOp,SE.vcTr,SE.vcDet_some,SE.vcDet_none,SE.vcIf_true,SE.vcIf_false,SE.vcEach,SE.pickOps,SE.gslot,SE.trOp,SE.moveId,SE.trMove,SE.trPick,SE.trAlloc,SE.trBox,SE.trBuild,SE.trBuildSlice,SE.trLoad,SE.trStore,SE.trNilCheck,SE.trBin,SE.trUn,SE.trConvert,SE.trFieldAddr,SE.trField,SE.trIndexAddr,SE.trIndex,SE.trSlice,SE.trMakeSlice,SE.trExtract,SE.trLen,SE.trAppend,SE.trCopy,SE.trFn,SE.trCall,SE.argsS,SE.ev,SE.constS,SE.junk,SE.sv,SE.upd_app,SE.adds,SE.sets,SE.nid,SE.St.app,SE.St.put,SE.free,SE.freeL,SE.allFree,SE.rids,SE.AK.rids,SE.castL,SE.rdl,SE.AK.dec,SE.decs,SE.AK.enc,SE.encs,SE.AK.res,SE.ress,SE.pack1,SE.zcells,SE.zeroOf,SE.partCells,SE.putc,SE.fills,SE.datas,SE.elemOf,SE.elemsOf,SE.notSpent,SE.cellsAt,SE.weak,SE.dcellsAt,SE.slAt,SE.rdPlus,SE.intAt,SE.updElem,SE.kill,SE.noJunk,SE.inK,SE.binI,SE.shf,SE.isShift,SE.eqCells,SE.aggS,SE.intOp,SE.nested,SE.hasRdr,SE.refsC,SE.refsCs,SE.ownsC,SE.refsAr,SE.rdFits,SE.costIf,SE.Con.post,SE.Con.det,SE.Ty.cells,SE.Ty.sz,SE.Ty.zero,SE.Ty.flat,SE.Ty.dec,SE.retOk,SE.loadsS,SE.loadS,SE.decRs,SE.decR,SE.outC,SE.rdC,SE.allDiff,SE.notIn,SE.notFrozen,SE.apartL,SE.rdEnd,SE.firstReg,SE.headC,SE.fitsC,SE.idsC,SE.keepE,SE.keepM,SE.keepB,SE.inL,SE.puts,SE.ownRes,SE.ownEnv,SE.renL,SE.srcId,SE.lookR,SE.envSame,SE.envSets,SE.memSame,SE.memBlks,SE.memOwns,SE.famsOf,SE.allIn,SE.closedE,SE.closedV,SE.closedM,SE.closedR,SE.rdLe,SE.S.refs,SE.S0.refs,SE.CV.refs,SE.refsL,SE.refsT,SE.S.ren,SE.S0.ren,SE.CV.ren,SE.Res.refs,SE.Res.ren,min_i64,max_i64,min_u16,max_u16,min_u8,max_u8,min_u64,max_u64,S.s.injEq,S0.c.injEq,CV.d.injEq,DC.val.injEq,Value.int.injEq,Value.bool.injEq,Value.string.injEq,eta_fact,eta_atom,eta_asn,eta_state,List.mem_cons,List.mem_nil_iff,or_false,false_or,or_true,true_or,Option.map_some,Option.map_none,Option.bind_some,Option.getD_some,Option.getD_none,Nat.reduceEqDiff,Nat.reduceAdd,Nat.reduceMul,Nat.reduceLeDiff,↓reduceIte,reduceCtorEq,true_and,and_true,and_self,forall_const,implies_true,true_implies,List.getElem?_toArray,List.getElem?_cons_succ,List.getElem?_cons_zero,List.append_nil,List.nil_append,List.cons_append,List.length_cons,List.length_nil,List.take_succ_cons,List.take_zero,List.drop_succ_cons,List.drop_zero,List.set_cons_zero,List.set_cons_succ,List.map_cons,List.map_nil,Nat.add_zero,Nat.zero_add,forall_eq,Prod.forall,Bool.not_true,Bool.not_false,Nat.lt_irrefl,Nat.zero_lt_succ,List.singleton_append,Prod.mk.injEq,Nat.zero_mul,Nat.one_mul,Nat.reducePow,Option.some.injEq,not_false_eq_true,Int.toNat_natCast,Nat.sub_zero,Nat.le_refl,Bool.or_false,Bool.false_or,Bool.or_true,Bool.true_or,Bool.and_true,Bool.true_and,Bool.and_false,Bool.false_and,Bool.or_self,Bool.and_self,List.append_eq,and_false,false_and]
 all_goals (try simp only [vcIf_iff,decide_eq_true_eq,decide_eq_false_iff_not,bne_iff_ne,ne_eq,beq_iff_eq,beq_eq_false_iff_ne])
 have hq:p+1 - 1=p:=by omega
 simp only [hq]
 have hA:=byte_bd code
 generalize hL:(code.length:Int)=L at *
 have hL0:0<=L:=by omega
 have hm:∀ x:Int,0<=x->¬ L=0->0<=x.tmod L/\x.tmod L < L:=fun x h0 h1=>tmod_bd h0 (by omega)
 refine ⟨by omega,fun _ _=>by omega,fun hn=>⟨fun _ _=>by omega,fun hl=>⟨by omega,fun hpl=>?_,fun hpl=>?_⟩⟩⟩
 ·have a1:=hA p.toNat
  have m1:=tmod_bd (n:=n) a1.1 (by omega)
  generalize ((code.getD p.toNat 0).toNat:Int)=A at *
  exact ⟨by omega,by omega,by omega,fun _=>m1,fun h=>by omega⟩
 ·have m1:=hm p h2 hl
  have m2:=hm (p * 7+3) (by omega) hl
  have a1:=hA (p.tmod L).toNat
  have a2:=hA ((p * 7+3).tmod L).toNat
  have d1:=tdiv_bd (x:=p) (n:=L) h2 (by omega)
  generalize ((code.getD (p.tmod L).toNat 0).toNat:Int)=A at *
  generalize ((code.getD ((p * 7+3).tmod L).toNat 0).toNat:Int)=B at *
  generalize p.tdiv L=D at *
  have d2:=tdiv_bd (x:=A * 131+B * 1117+p * 29+D * 53) (n:=64) (by omega) (by omega)
  have x1:=xor_i64_pos (a:=A * 131+B * 1117+p * 29+D * 53) (b:=(A * 131+B * 1117+p * 29+D * 53).tdiv 64) (by omega) (by omega) d2.1 (by omega)
  have m3:=tmod_bd (n:=n) x1 (by omega)
  repeat' (first | apply And.intro | intro _)
  all_goals (first | assumption | omega | exact m3.1 | exact m3.2)
theorem ok_pick:FnOk Try.prog E 51 c_pick :=
 pick_ok tabOk mix (perm:=fun _=>[]) Try.func51 (by kernel_rfl) (by decide) (by kernel_rfl) (by decide) (by kernel_rfl) (fun code v p n k h1 h2 h3 h4=>vc_pick code v p n k h1 h2 h3 h4)
abbrev c_num:Con:=⟨[.rdr,.sl .int],[.int],fun (rr,l,_)=>0 < l.length/\l.length<=1000,.inr fun (rr,l,_) r=>r.1 ∈ l,fun (rr,l,_)=>1⟩
abbrev L_num:List (FuncId × Con):=[(51,c_pick)]
abbrev P_num:List (FuncId × PT):=[]
def VC_num (rr:Unit) (l:List Int) (k:Nat):Prop:=True/\True/\True/\True/\True/\(True/\(k+1<=1099511627776)/\True)/\(∀ r1:Int × Unit,(pickP ((l.length:Nat):Int) r1.1)->(0<=r1.1/\r1.1 < ((l.length:Nat):Int))/\True/\True/\((l.getD r1.1.toNat (0:Int)) ∈ l)/\True/\True/\True/\True/\(k+1<=k+1))
theorem vcn_num (rr:Unit) (l:List Int) (k:Nat) (hp:0 < l.length/\l.length<=1000) (hk:k+(1)<=1099511627776):VC_num rr l k:=by
 unfold VC_num
 simp only [cln,Nat.reduceEqDiff,Nat.reduceLeDiff,Nat.reduceAdd]
 all_goals (try simp only [opn])
 all_goals (repeat' (first | apply And.intro | intro _))
 all_goals (first | omega | (simp_all;done) | grind [getD_mem,pickP])
theorem ok_num:FnOk Try.prog E 72 c_num :=
 fn_okQ (l:=L_num) (lp:=P_num) (hp:=fun _=>false) (gcs:=fun _=>none) (perm:=fun _=>[]) tabOk mix ⟨ok_pick,trivial⟩ trivial Try.func72 rfl (by kernel_rfl) (by decide) (by kernel_rfl) (anns:=fun x _=>fun _ _=>none) (fun ⟨rr,l,_⟩ k hp hk=>Eq.mp (by kernel_rfl) (vcn_num rr l k hp (hk rfl))) (fun ⟨_,l,_⟩ hp=>⟨(l.getD 0 0,()),getD_mem hp.1⟩)
abbrev c_l3Star:Con:=⟨[.asn,.asn],[.asn],fun (a,b,_)=>a.facts.length<=1048576/\a.atoms.length<=1048576/\b.facts.length<=1048576/\b.atoms.length<=1048576,.inl fun (a,b,_)=>(⟨a.facts ++ b.facts,a.atoms ++ b.atoms⟩,()),fun _=>0⟩
abbrev L_l3Star:List (FuncId × Con):=[]
abbrev P_l3Star:List (FuncId × PT):=[]
def VC_l3Star (a:GAsn) (b:GAsn) (k:Nat):Prop:=TN/\TN/\(TN/\TN/\TN/\True)/\(TN/\True)/\True/\True/\(TN/\TF/\TF/\(([]:List GFact).length+a.facts.length<=4294967296))/\True/\True/\(TN/\TF/\TF/\((([]:List GFact) ++ a.facts).length+b.facts.length<=4294967296))/\(TN/\True)/\True/\True/\(TN/\TF/\TF/\(([]:List GAtom).length+a.atoms.length<=4294967296))/\True/\True/\(TN/\TF/\TF/\((([]:List GAtom) ++ a.atoms).length+b.atoms.length<=4294967296))/\(TN/\TN/\True)/\(TF/\TF)/\((((⟨(([]:List GFact) ++ a.facts) ++ b.facts,(([]:List GAtom) ++ a.atoms) ++ b.atoms⟩:GAsn),()):GAsn × Unit)=(⟨a.facts ++ b.facts,a.atoms ++ b.atoms⟩,()))/\((((176:Nat) ≠ 288)/\True)/\True/\True)/\((TF/\TF)/\(TF/\TF)/\True)/\True/\(True/\True/\True)/\TF
theorem vcn_l3Star (a:GAsn) (b:GAsn) (k:Nat) (hp:a.facts.length<=1048576/\a.atoms.length<=1048576/\b.facts.length<=1048576/\b.atoms.length<=1048576):VC_l3Star a b k:=by
 unfold VC_l3Star
 simp only [cln,Nat.reduceEqDiff,Nat.reduceLeDiff,Nat.reduceAdd]
 all_goals (try simp only [opn])
 all_goals (repeat' (first | apply And.intro | intro _))
 all_goals (first | omega | (simp_all;done) | grind [])
theorem ok_l3Star:FnOk Try.prog E 87 c_l3Star :=
 fn_okQ (l:=L_l3Star) (lp:=P_l3Star) (hp:=fun _=>false) (gcs:=fun _=>none) (perm:=fun _=>[]) tabOk mix trivial trivial Try.func87 rfl (by kernel_rfl) (by decide) (by kernel_rfl) (anns:=fun x _=>fun _ _=>none) (fun ⟨a,b,_⟩ k hp _=>Eq.mp (by kernel_rfl) (vcn_l3Star a b k hp)) tot_fn
abbrev c_l3Copy:Con:=⟨[.asn],[.asn],fun (a,_)=>a.facts.length<=1048576/\a.atoms.length<=1048576,.inl fun (a,_)=>(a,()),fun _=>0⟩
abbrev L_l3Copy:List (FuncId × Con):=[(87,c_l3Star)]
abbrev P_l3Copy:List (FuncId × PT):=[]
def VC_l3Copy (a:GAsn) (k:Nat):Prop:=TN/\(TN/\TN/\TN/\True)/\True/\(TN/\TN/\True)/\((a.facts.length<=1048576/\a.atoms.length<=1048576/\(⟨([]:List GFact),([]:List GAtom)⟩:GAsn).facts.length<=1048576/\(⟨([]:List GFact),([]:List GAtom)⟩:GAsn).atoms.length<=1048576)/\True/\TN/\TN/\True)/\(TF/\TF)/\((((⟨(a.facts ++ (⟨([]:List GFact),([]:List GAtom)⟩:GAsn).facts),(a.atoms ++ (⟨([]:List GFact),([]:List GAtom)⟩:GAsn).atoms)⟩:GAsn),()):GAsn × Unit)=(a,()))/\((((80:Nat) ≠ 81)/\True)/\True/\True)/\((TF/\TF)/\(TF/\TF)/\True)/\True/\(True/\True/\True)/\TF
theorem vcn_l3Copy (a:GAsn) (k:Nat) (hp:a.facts.length<=1048576/\a.atoms.length<=1048576):VC_l3Copy a k:=by
 unfold VC_l3Copy
 simp only [cln,Nat.reduceEqDiff,Nat.reduceLeDiff,Nat.reduceAdd]
 all_goals (try simp only [opn])
 all_goals (repeat' (first | apply And.intro | intro _))
 all_goals (first | omega | (simp_all;done) | grind [])
theorem ok_l3Copy:FnOk Try.prog E 95 c_l3Copy :=
 fn_okQ (l:=L_l3Copy) (lp:=P_l3Copy) (hp:=fun _=>false) (gcs:=fun _=>none) (perm:=fun _=>[]) tabOk mix ⟨ok_l3Star,trivial⟩ trivial Try.func95 rfl (by kernel_rfl) (by decide) (by kernel_rfl) (anns:=fun x _=>fun _ _=>none) (fun ⟨a,_⟩ k hp _=>Eq.mp (by kernel_rfl) (vcn_l3Copy a k hp)) tot_fn
abbrev c_l1Mutate:Con:=⟨[.rdr,.sl .fact],[.sl .fact],fun (rr,l,_)=>l.length<=1048576,.inr fun (rr,l,_) r=>r.1.length<=l.length+13,fun (rr,l,_)=>2⟩
abbrev L_l1Mutate:List (FuncId × Con):=[(51,c_pick),(72,c_num)]
def an_l1Mutate (rr:Unit) (l:List GFact):Nat->Option Ann
 | 6=>some { α:=Nat,ok:=fun i=>i=0 ∨ l.length+i<=13,mu:=fun i=>20 - i,i0:=fun _=>0,nx:=fun a _=>(fun i=>i+1) a,live:=[],sets:=fun i=>[],mids:=[],blks:=fun i=>[],owns:=fun i=>[⟨7,.slot 5,.fact,l ++ List.replicate i ⟨true,1,2⟩⟩],rd:=fun r _=>r,base:=100000 }
 | _=>none
theorem vc_l1Mutate (rr:Unit) (l:List GFact) (k:Nat) (hp:l.length<=1048576) (hk:k+(2)<=1099511627776):vc tab (lookF L_l1Mutate) (an_l1Mutate rr l) (fun _=>[]) (bodyOf Try.f97) (entry (encs c_l1Mutate.aks (rr,l,())) (rdOf true k)) (retOk tab c_l1Mutate Try.f97.results.toList (rr,l,()) k):=by
 dsimp only [bodyOf,Try.f97,rdOf]
 simp (maxSteps:=10000000) only [c_l1Mutate,L_l1Mutate,an_l1Mutate,SE.lookF,c_pick,c_num,tab2,tab3,tab4,tab5,tab7,tab9,tab12,tab13,tab21,tab22,tab23,tab24,tab25,tab26,tab29,tab30,tab31,tab38,tab39,tab40,tab41,tab65,tab66,tab67,tab68,tab71,tab77,tab78,tab93,tab94,tab104,tab105,tab110,tab111,tab112,tab119,tab121,tab130,tab139,tab141,tab149,tab151,tab156,tab157,tab158,SE.entry,SE.envOf,SE.rdOf,Option.get_some,SE.vc,SE.vcReg,SE.vcLoop,SE.condK,SE.seqK,SE.blockK,SE.vcOps,SE.vcStep,SE.vcOp,SE.vcTr,SE.vcDet_some,SE.vcDet_none,SE.vcIf_true,SE.vcIf_false,SE.vcEach,SE.pickOps,SE.gslot,SE.trOp,SE.moveId,SE.trMove,SE.trPick,SE.trAlloc,SE.trBox,SE.trBuild,SE.trBuildSlice,SE.trLoad,SE.trStore,SE.trNilCheck,SE.trBin,SE.trUn,SE.trConvert,SE.trFieldAddr,SE.trField,SE.trIndexAddr,SE.trIndex,SE.trSlice,SE.trMakeSlice,SE.trExtract,SE.trLen,SE.trAppend,SE.trCopy,SE.trFn,SE.trCall,SE.argsS,SE.ev,SE.constS,SE.junk,SE.sv,SE.upd_app,SE.adds,SE.sets,SE.nid,SE.St.app,SE.St.put,SE.free,SE.freeL,SE.allFree,SE.rids,SE.AK.rids,SE.castL,SE.rdl,SE.AK.dec,SE.decs,SE.AK.enc,SE.encs,SE.AK.res,SE.ress,SE.pack1,SE.zcells,SE.zeroOf,SE.partCells,SE.putc,SE.fills,SE.datas,SE.elemOf,SE.elemsOf,SE.notSpent,SE.cellsAt,SE.weak,SE.dcellsAt,SE.slAt,SE.rdPlus,SE.intAt,SE.updElem,SE.kill,SE.noJunk,SE.inK,SE.binI,SE.shf,SE.isShift,SE.eqCells,SE.aggS,SE.intOp,SE.nested,SE.hasRdr,SE.refsC,SE.refsCs,SE.ownsC,SE.refsAr,SE.rdFits,SE.costIf,SE.Con.post,SE.Con.det,SE.Ty.cells,SE.Ty.sz,SE.Ty.zero,SE.Ty.flat,SE.Ty.dec,SE.retOk,SE.loadsS,SE.loadS,SE.decRs,SE.decR,SE.outC,SE.rdC,SE.allDiff,SE.notIn,SE.notFrozen,SE.apartL,SE.rdEnd,SE.firstReg,SE.headC,SE.fitsC,SE.idsC,SE.keepE,SE.keepM,SE.keepB,SE.inL,SE.puts,SE.ownRes,SE.ownEnv,SE.renL,SE.srcId,SE.lookR,SE.envSame,SE.envSets,SE.memSame,SE.memBlks,SE.memOwns,SE.famsOf,SE.allIn,SE.closedE,SE.closedV,SE.closedM,SE.closedR,SE.rdLe,SE.S.refs,SE.S0.refs,SE.CV.refs,SE.refsL,SE.refsT,SE.S.ren,SE.S0.ren,SE.CV.ren,SE.Res.refs,SE.Res.ren,min_i64,max_i64,min_u16,max_u16,min_u8,max_u8,min_u64,max_u64,S.s.injEq,S0.c.injEq,CV.d.injEq,DC.val.injEq,Value.int.injEq,Value.bool.injEq,Value.string.injEq,eta_fact,eta_atom,eta_asn,eta_state,List.mem_cons,List.mem_nil_iff,or_false,false_or,or_true,true_or,Option.map_some,Option.map_none,Option.bind_some,Option.getD_some,Option.getD_none,Nat.reduceEqDiff,Nat.reduceAdd,Nat.reduceMul,Nat.reduceLeDiff,↓reduceIte,reduceCtorEq,true_and,and_true,and_self,forall_const,implies_true,true_implies,List.getElem?_toArray,List.getElem?_cons_succ,List.getElem?_cons_zero,List.append_nil,List.nil_append,List.cons_append,List.length_cons,List.length_nil,List.take_succ_cons,List.take_zero,List.drop_succ_cons,List.drop_zero,List.set_cons_zero,List.set_cons_succ,List.map_cons,List.map_nil,Nat.add_zero,Nat.zero_add,forall_eq,Prod.forall,Bool.not_true,Bool.not_false,Nat.lt_irrefl,Nat.zero_lt_succ,List.singleton_append,Prod.mk.injEq,Nat.zero_mul,Nat.one_mul,Nat.reducePow,Option.some.injEq,not_false_eq_true,Int.toNat_natCast,Nat.sub_zero,Nat.le_refl,Bool.or_false,Bool.false_or,Bool.or_true,Bool.true_or,Bool.and_true,Bool.true_and,Bool.and_false,Bool.false_and,Bool.or_self,Bool.and_self,List.append_eq,and_false,false_and]
 all_goals (try simp only [vcIf_iff,decide_eq_true_eq,decide_eq_false_iff_not,bne_iff_ne,ne_eq,beq_iff_eq,beq_eq_false_iff_ne,bne_eq_false_iff_eq,Bool.not_eq_true',Bool.not_eq_false',Int.ofNat_lt,Int.natCast_inj])
 all_goals (repeat' (first | apply And.intro | intro _))
 all_goals (first | omega | (simp_all;done) | grind [List.replicate_succ',List.append_assoc])
theorem ok_l1Mutate:FnOk Try.prog E 97 c_l1Mutate :=
 fn_ok (l:=L_l1Mutate) (perm:=fun _=>[]) tabOk mix ⟨ok_pick,ok_num,trivial⟩ Try.func97 rfl (by kernel_rfl) (by decide) (by kernel_rfl) (anns:=fun x _=>an_l1Mutate x.1 x.2.1) (fun ⟨rr,l,_⟩ k hp hk=>vc_l1Mutate rr l k hp (hk rfl)) (fun ⟨_,l,_⟩ _=>⟨(l,()),Nat.le_add_right _ _⟩)
end Go.Proofs.Ytopjgjelkpkmmaa
