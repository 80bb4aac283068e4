/-
  Contracts of single functions of the program, each shown by the engine: what a call returns for arguments within the contract's bounds.
-/
import Derived.Test.YtopjgjelkpkmmaaFFnMissingAlla
import Derived.Test.YtopjgjelkpkmmaaEd
import Derived.Test.YtopjgjelkpkmmaaEe
import Derived.Test.YtopjgjelkpkmmaaEc
set_option linter.unusedSimpArgs false
set_option linter.unusedVariables false
set_option linter.unusedSectionVars false

namespace Go.Proofs.Ytopjgjelkpkmmaa
open Go.SE Go.RowKit
set_option linter.unusedSimpArgs false
set_option linter.unusedVariables false
set_option maxHeartbeats 1000000
set_option maxRecDepth 100000
abbrev c_l7Small:Con:=⟨[.rdr],[.dasn],fun _=>True,.inr fun (rr,_) r=>r.1.facts.length<=1/\r.1.atoms.length<=4,fun (rr,_)=>13⟩
abbrev L_l7Small:List (FuncId × Con):=[(49,c_l6Chains)]
abbrev P_l7Small:List (FuncId × PT):=[]
def VC_l7Small (rr:Unit) (k:Nat):Prop:=(TN/\TN/\TN/\True)/\True/\(True/\(k+13<=1099511627776)/\TN/\TN/\True)/\(∀ r1:GAsn × Unit,(r1.1.facts.length<=1/\r1.1.atoms.length<=4)->(TN/\TN/\TN/\True)/\(TF/\TF)/\True/\True/\True/\True/\(vcIf (decide ((3:Int) < ((r1.1.atoms.length:Nat):Int))) (True/\True/\(TF/\(0<=(0:Int))/\((0:Int)<=(3:Int))/\((3:Int)<=((r1.1.atoms.length:Nat):Int)))/\True/\(TF/\TF)/\True/\(TF/\TF)/\((⟨r1.1.facts,(r1.1.atoms.drop 0).take (3 - 0)⟩:GAsn).facts.length<=1/\(⟨r1.1.facts,(r1.1.atoms.drop 0).take (3 - 0)⟩:GAsn).atoms.length<=4)/\True/\True/\(TF/\True)/\True/\(k+13<=k+13)) (True/\(TF/\TF)/\(r1.1.facts.length<=1/\r1.1.atoms.length<=4)/\True/\True/\(TF/\TF/\True)/\True/\(k+13<=k+13))))
theorem vcn_l7Small (rr:Unit) (k:Nat) (hk:k+(13)<=1099511627776):VC_l7Small rr k:=by
 unfold VC_l7Small
 simp only [cln,Nat.reduceEqDiff,Nat.reduceLeDiff,Nat.reduceAdd]
 all_goals (try simp only [opn])
 all_goals (repeat' (first | apply And.intro | intro _))
 all_goals (repeat (cases ‹_/\_›))
 all_goals (first | (exfalso;contradiction) | omega | with_reducible assumption | with_reducible rfl | skip)
 all_goals (try simp only [List.length_append,List.length_cons,List.length_nil,List.length_set,List.length_take,List.length_drop,List.mem_cons,List.mem_nil_iff,or_false] at *)
 all_goals (first
  | omega
  | (rcases ‹_ ∨ _› with h | h | h | h <;> omega)
  | exact Nat.le_trans fcL_len.1 ‹_› | exact Nat.le_trans fcL_len.2 ‹_›
  | grind [asV,fsV])
theorem ok_l7Small:FnOk Try.prog E 86 c_l7Small :=
 fn_okQ (l:=L_l7Small) (lp:=P_l7Small) (hp:=fun _=>false) (gcs:=fun _=>none) (perm:=fun _=>[]) tabOk mix ⟨ok_l6Chains,trivial⟩ trivial Try.func86 rfl (by kernel_rfl) (by decide) (by kernel_rfl) (anns:=fun x _=>fun _ _=>none) (fun ⟨rr,_⟩ k _ hk=>Eq.mp (by kernel_rfl) (vcn_l7Small rr k (hk rfl))) (fun _ _=>⟨((⟨[],[]⟩:GAsn),()),⟨Nat.zero_le _,Nat.zero_le _⟩⟩)
abbrev c_DrawMissingOf:Con:=⟨[.sl .u8],[.asn,.asn],fun _=>True,.inr fun (code,_) r=>r.1.facts.length<=40/\r.1.atoms.length<=40/\r.2.1.facts.length<=40/\r.2.1.atoms.length<=40,fun (code,_)=>40⟩
abbrev L_DrawMissingOf:List (FuncId × Con):=[(51,c_pick),(52,c_l3Mutate),(75,c_l7Pick),(86,c_l7Small)]
abbrev P_DrawMissingOf:List (FuncId × PT):=[]
def VC_DrawMissingOf_1 (r1:GAsn × Unit) (r4:GAsn × Unit):Prop:=True/\True/\((r1.1.facts.length<=100000/\r1.1.atoms.length<=100000)/\(0+13+1+1+4+4<=1099511627776)/\TN/\TN/\True)/\(∀ r5:GAsn × Unit,(r5.1.facts.length<=r1.1.facts.length+14/\r5.1.atoms.length<=r1.1.atoms.length+7)->(TF/\TF)/\(TF/\TF)/\(r4.1.facts.length<=40/\r4.1.atoms.length<=40/\r5.1.facts.length<=40/\r5.1.atoms.length<=40)/\((((512:Nat) ≠ 513)/\((512:Nat) ≠ 560)/\((512:Nat) ≠ 561)/\True)/\(((513:Nat) ≠ 560)/\((513:Nat) ≠ 561)/\True)/\(((560:Nat) ≠ 561)/\True)/\True/\True)/\((TF/\TF)/\(TF/\TF)/\(TF/\TF)/\(TF/\TF)/\True)/\True/\(True/\True/\True/\True/\True)/\(0+13+1+1+4+4<=0+40))
def VC_DrawMissingOf_2 (r2:Int × Unit) (r1:GAsn × Unit):Prop:=True/\True/\(((⟨[],(pkA r2.1 r1.1.atoms)⟩:GAsn).facts.length<=100000/\(⟨[],(pkA r2.1 r1.1.atoms)⟩:GAsn).atoms.length<=100000)/\(0+13+1+1+4<=1099511627776)/\TN/\TN/\True)/\(∀ r6:GAsn × Unit,(r6.1.facts.length<=(⟨[],(pkA r2.1 r1.1.atoms)⟩:GAsn).facts.length+14/\r6.1.atoms.length<=(⟨[],(pkA r2.1 r1.1.atoms)⟩:GAsn).atoms.length+7)->(VC_DrawMissingOf_1 r1 r6))
def VC_DrawMissingOf (code:List UInt8) (k:Nat):Prop:=(TN/\TN/\TN/\True)/\(TN/\TN/\TN/\True)/\(((7:Nat) < 36)/\((8:Nat) < 36)/\((4:Nat) < 36)/\((7:Nat) ≠ 0))/\((none:Option Nat)=none)/\TT/\TT/\True/\True/\(True/\True/\(0+13<=1099511627776)/\True)/\(∀ r1:GAsn × Unit,(r1.1.facts.length<=1/\r1.1.atoms.length<=4)->(TN/\TN/\TN/\True)/\(TF/\TF)/\True/\True/\(True/\(0+13+1<=1099511627776)/\True)/\(∀ r2:Int × Unit,(pickP (8:Int) r2.1)->((r1.1.facts.length<=1048576/\r1.1.atoms.length<=1048576)/\True/\TN/\TN/\True)/\(TN/\TN/\TN/\True)/\(TF/\TF)/\True/\(True/\(0+13+1+1<=1099511627776)/\True)/\(∀ r3:Int × Unit,(pickP (3:Int) r3.1)->True/\True/\(vcIf (r3.1 == (0:Int)) (True/\True/\True/\True/\True/\(vcIf (decide ((((pkA r2.1 r1.1.atoms).length:Nat):Int) < (3:Int))) (True/\True/\True/\(TN/\True)/\(TN/\TF/\TF/\((pkA r2.1 r1.1.atoms).length+([(⟨(1:Int),(3:Int),(0:Int)⟩:GAtom)]:List GAtom).length<=4294967296))/\True/\(TF/\TF)/\True/\True/\(((⟨[],(pkA r2.1 r1.1.atoms) ++ ([(⟨(1:Int),(3:Int),(0:Int)⟩:GAtom)]:List GAtom)⟩:GAsn).facts.length<=100000/\(⟨[],(pkA r2.1 r1.1.atoms) ++ ([(⟨(1:Int),(3:Int),(0:Int)⟩:GAtom)]:List GAtom)⟩:GAsn).atoms.length<=100000)/\(0+13+1+1+4<=1099511627776)/\TN/\TN/\True)/\(∀ r4:GAsn × Unit,(r4.1.facts.length<=(⟨[],(pkA r2.1 r1.1.atoms) ++ ([(⟨(1:Int),(3:Int),(0:Int)⟩:GAtom)]:List GAtom)⟩:GAsn).facts.length+14/\r4.1.atoms.length<=(⟨[],(pkA r2.1 r1.1.atoms) ++ ([(⟨(1:Int),(3:Int),(0:Int)⟩:GAtom)]:List GAtom)⟩:GAsn).atoms.length+7)->(VC_DrawMissingOf_1 r1 r4))) (VC_DrawMissingOf_2 r2 r1))) (True/\(VC_DrawMissingOf_2 r2 r1))))))
theorem vcn_DrawMissingOf (code:List UInt8) (k:Nat):VC_DrawMissingOf code k:=by
 unfold VC_DrawMissingOf VC_DrawMissingOf_2 VC_DrawMissingOf_1
 simp only [cln,Nat.reduceEqDiff,Nat.reduceLeDiff,Nat.reduceAdd]
 all_goals (try simp only [opn])
 all_goals (repeat' (first | apply And.intro | intro _))
 all_goals (repeat (cases ‹_/\_›))
 all_goals (first | (exfalso;contradiction) | omega | with_reducible assumption | with_reducible rfl | skip)
 all_goals (try simp only [List.length_append,List.length_cons,List.length_nil,List.length_set,List.length_take,List.length_drop,List.mem_cons,List.mem_nil_iff,or_false] at *)
 all_goals (first
  | omega
  | (rcases ‹_ ∨ _› with h | h | h | h <;> omega)
  | exact Nat.le_trans fcL_len.1 ‹_› | exact Nat.le_trans fcL_len.2 ‹_›
  | grind [asV,fsV,pkA_le,fcL_len])
theorem ok_DrawMissingOf:FnOk Try.prog E 41 c_DrawMissingOf :=
 draw_fnQ (hp:=fun _=>false) (perm:=fun _=>[]) (gl:=([0,2,3],[32,33,47,48,49,63])) tabOk mix (kall_of (l:=L_DrawMissingOf) ⟨ok_pick,ok_l3Mutate,ok_l7Pick,ok_l7Small,trivial⟩) (pall_of (l:=P_DrawMissingOf) trivial) open_l18Open fn_l18Open Try.func41 rfl (by kernel_rfl) (by decide) (by kernel_rfl) rfl rfl (anns:=fun x=>fun _ _=>none) (fun ⟨code,_⟩ _=>Eq.mp (by kernel_rfl) (vcn_DrawMissingOf code 0)) (fun _ _=>⟨((⟨[],[]⟩:GAsn),(⟨[],[]⟩:GAsn),()),⟨Nat.zero_le _,Nat.zero_le _,Nat.zero_le _,Nat.zero_le _⟩⟩)
abbrev c_isTerm:Con:=⟨[.int],[.bool],fun _=>True,.inl fun (t,_)=>(isT t,()),fun _=>0⟩
abbrev L_isTerm:List (FuncId × Con):=[]
abbrev P_isTerm:List (FuncId × PT):=[]
def VC_isTerm (t:Int) (k:Nat):Prop:=True/\True/\True/\True/\(vcIf (decide ((0:Int)<=t)) (True/\True/\True/\True/\(((decide (t<=(8:Int)),()):Bool × Unit)=(isT t,()))/\True/\True/\True/\True/\TF) (True/\True/\(((false,()):Bool × Unit)=(isT t,()))/\True/\True/\True/\True/\TF))
theorem vcn_isTerm (t:Int) (k:Nat):VC_isTerm t k:=by
 unfold VC_isTerm
 simp only [cln,Nat.reduceEqDiff,Nat.reduceLeDiff,Nat.reduceAdd]
 cases h:decide (0<=t) <;> simp [vcIf,isT,h]
theorem ok_isTerm:FnOk Try.prog E 126 c_isTerm :=
 fn_okQ (l:=L_isTerm) (lp:=P_isTerm) (hp:=fun _=>false) (gcs:=fun _=>none) (perm:=fun _=>[]) tabOk mix trivial trivial Try.func126 rfl (by kernel_rfl) (by decide) (by kernel_rfl) (anns:=fun x _=>fun _ _=>none) (fun ⟨t,_⟩ k _ _=>Eq.mp (by kernel_rfl) (vcn_isTerm t k)) tot_fn
abbrev c_iFactValid:Con:=⟨[.fact],[.bool],fun _=>True,.inl fun (f,_)=>(fV f,()),fun _=>0⟩
abbrev L_iFactValid:List (FuncId × Con):=[(126,c_isTerm)]
abbrev P_iFactValid:List (FuncId × PT):=[]
def VC_iFactValid (f:GFact) (k:Nat):Prop:=TN/\True/\True/\True/\(True/\True/\True)/\True/\(vcIf (isT f.a) (True/\True/\(True/\True/\True)/\True/\True/\((((isT f.b),()):Bool × Unit)=(fV f,()))/\True/\True/\True/\True/\TF) (True/\True/\(((false,()):Bool × Unit)=(fV f,()))/\True/\True/\True/\True/\TF))
theorem vcn_iFactValid (f:GFact) (k:Nat):VC_iFactValid f k:=by
 unfold VC_iFactValid
 simp only [cln,Nat.reduceEqDiff,Nat.reduceLeDiff,Nat.reduceAdd]
 cases h:isT f.a <;> simp [vcIf,fV,h]
theorem ok_iFactValid:FnOk Try.prog E 125 c_iFactValid :=
 fn_okQ (l:=L_iFactValid) (lp:=P_iFactValid) (hp:=fun _=>false) (gcs:=fun _=>none) (perm:=fun _=>[]) tabOk mix ⟨ok_isTerm,trivial⟩ trivial Try.func125 rfl (by kernel_rfl) (by decide) (by kernel_rfl) (anns:=fun x _=>fun _ _=>none) (fun ⟨f,_⟩ k _ _=>Eq.mp (by kernel_rfl) (vcn_iFactValid f k)) tot_fn
abbrev c_iFactsValid:Con:=⟨[.sl .fact],[.bool],fun (l,_)=>l.length<=281474976710656,.inl fun (l,_)=>(fsV l,()),fun _=>0⟩
abbrev L_iFactsValid:List (FuncId × Con):=[(125,c_iFactValid)]
abbrev P_iFactsValid:List (FuncId × PT):=[]
def an_iFactsValid (l:List GFact):Nat->St->Option Ann
 | 4,se=>some { α:=Nat,ok:=fun i=>i<=l.length/\l.length<=12/\(l.take i).all fV=true,mu:=fun i=>l.length - i,i0:=fun _=>0,nx:=fun a _=>(fun i=>i+1) a,live:=[8,9],sets:=fun i=>[(10,sv (.int .i64 i))],mids:=[],blks:=fun i=>[],owns:=fun i=>[],rd:=fun r _=>r,base:=100000 }
 | _,_=>none
def VC_iFactsValid_1 (l:List GFact):Prop:=True/\(((false,()):Bool × Unit)=(fsV l,()))/\True/\True/\True/\True/\TF
def VC_iFactsValid_2 (l:List GFact):Prop:=RL [.s (.c (.d (.arr .fact l))),.s (.c (.d (.val (.int .i64 ((l.length:Nat):Int)))))]
def VC_iFactsValid (l:List GFact) (k:Nat):Prop:=True/\True/\True/\True/\(vcIf (decide ((12:Int) < ((l.length:Nat):Int))) (VC_iFactsValid_1 l) (True/\True/\True/\((0<=l.length/\l.length<=12/\(l.take 0).all fV=true)/\TT/\(VC_iFactsValid_2 l)/\(([.s (.c (.d (.val (.int .i64 (0:Int)))))]:List S)=[.s (.c (.d (.val (.int .i64 ((0:Nat):Int)))))])/\(RM [])/\(RM [])/\True/\TT)/\(∀ i1:Nat,(i1<=l.length/\l.length<=12/\(l.take i1).all fV=true)->True/\(vcIf (decide (((i1:Nat):Int) < ((l.length:Nat):Int))) ((0<=((i1:Nat):Int)/\((i1:Nat):Int) < ((l.length:Nat):Int))/\True/\(TN/\True)/\(TF/\TF)/\True/\(True/\True/\True)/\True/\(vcIf (!(fV (l.getD i1 (⟨false,0,0⟩:GFact)))) (VC_iFactsValid_1 l) ((inK .i64 (((i1:Nat):Int)+(1:Int)))/\True/\((i1+1)<=l.length/\l.length<=12/\(l.take (i1+1)).all fV=true)/\(l.length - (i1+1) < l.length - i1)/\TT/\(VC_iFactsValid_2 l)/\(([.s (.c (.d (.val (.int .i64 (((i1:Nat):Int)+(1:Int))))))]:List S)=[.s (.c (.d (.val (.int .i64 (((i1+1):Nat):Int)))))])/\(RM [])/\(RM [])/\True/\TT))) (True/\(((true,()):Bool × Unit)=(fsV l,()))/\True/\True/\True/\True/\TF)))))
theorem vcn_iFactsValid (l:List GFact) (k:Nat) (hp:l.length<=281474976710656):VC_iFactsValid l k:=by
 unfold VC_iFactsValid VC_iFactsValid_2 VC_iFactsValid_1
 simp only [cln,Nat.reduceEqDiff,Nat.reduceLeDiff,Nat.reduceAdd]
 all_goals (try simp only [opn])
 all_goals (repeat' (first | apply And.intro | intro _))
 all_goals (first | omega | (simp_all;done) | grind [fsV,take_all,all_take,take_full,Ty.zero])
theorem ok_iFactsValid:FnOk Try.prog E 84 c_iFactsValid :=
 fn_okQ (l:=L_iFactsValid) (lp:=P_iFactsValid) (hp:=fun _=>false) (gcs:=fun _=>none) (perm:=fun _=>[]) tabOk mix ⟨ok_iFactValid,trivial⟩ trivial Try.func84 rfl (by kernel_rfl) (by decide) (by kernel_rfl) (anns:=fun x _=>an_iFactsValid x.1) (fun ⟨l,_⟩ k hp _=>Eq.mp (by kernel_rfl) (vcn_iFactsValid l k hp)) tot_fn
abbrev c_iAtomValid:Con:=⟨[.atom],[.bool],fun _=>True,.inl fun (x,_)=>(atV x,()),fun _=>0⟩
abbrev L_iAtomValid:List (FuncId × Con):=[(126,c_isTerm)]
abbrev P_iAtomValid:List (FuncId × PT):=[]
def VC_iAtomValid_1 (x:GAtom):Prop:=True/\True/\(((false,()):Bool × Unit)=(atV x,()))/\True/\True/\True/\True/\TF
def VC_iAtomValid_2 (x:GAtom):Prop:=True/\True/\(True/\True/\True)/\True/\True/\(vcIf (isT x.a) (True/\True/\(True/\True/\True)/\True/\True/\((((isT x.b),()):Bool × Unit)=(atV x,()))/\True/\True/\True/\True/\TF) (VC_iAtomValid_1 x))
def VC_iAtomValid (x:GAtom) (k:Nat):Prop:=TN/\True/\True/\True/\True/\True/\(vcIf (x.kind == (1:Int)) (True/\True/\(VC_iAtomValid_2 x)) (True/\True/\True/\True/\True/\(vcIf (x.kind == (2:Int)) (VC_iAtomValid_2 x) (True/\True/\(VC_iAtomValid_1 x)))))
theorem vcn_iAtomValid (x:GAtom) (k:Nat):VC_iAtomValid x k:=by
 unfold VC_iAtomValid VC_iAtomValid_2 VC_iAtomValid_1
 simp only [cln,Nat.reduceEqDiff,Nat.reduceLeDiff,Nat.reduceAdd]
 all_goals (try simp only [opn])
 all_goals (repeat' (first | apply And.intro | intro _))
 all_goals (first | omega | (simp_all;done) | grind [atV])
theorem ok_iAtomValid:FnOk Try.prog E 85 c_iAtomValid :=
 fn_okQ (l:=L_iAtomValid) (lp:=P_iAtomValid) (hp:=fun _=>false) (gcs:=fun _=>none) (perm:=fun _=>[]) tabOk mix ⟨ok_isTerm,trivial⟩ trivial Try.func85 rfl (by kernel_rfl) (by decide) (by kernel_rfl) (anns:=fun x _=>fun _ _=>none) (fun ⟨x,_⟩ k _ _=>Eq.mp (by kernel_rfl) (vcn_iAtomValid x k)) tot_fn
abbrev c_iAssertionValid:Con:=⟨[.asn],[.bool],fun (a,_)=>a.facts.length<=281474976710656/\a.atoms.length<=281474976710656,.inl fun (a,_)=>(asV a,()),fun _=>0⟩
abbrev L_iAssertionValid:List (FuncId × Con):=[(84,c_iFactsValid),(85,c_iAtomValid)]
abbrev P_iAssertionValid:List (FuncId × PT):=[]
def an_iAssertionValid (a:GAsn):Nat->St->Option Ann
 | 4,se=>some { α:=Nat,ok:=fun i=>i<=a.atoms.length/\a.atoms.length<=6/\fsV a.facts=true/\(a.atoms.take i).all atV=true,mu:=fun i=>a.atoms.length - i,i0:=fun _=>0,nx:=fun a _=>(fun i=>i+1) a,live:=[16,17],sets:=fun i=>[(18,sv (.int .i64 i))],mids:=[],blks:=fun i=>[],owns:=fun i=>[],rd:=fun r _=>r,base:=100000 }
 | _,_=>none
def VC_iAssertionValid_1 (a:GAsn):Prop:=True/\(((false,()):Bool × Unit)=(asV a,()))/\True/\True/\True/\True/\TF
def VC_iAssertionValid_2 (a:GAsn):Prop:=RL [.s (.c (.d (.arr .atom a.atoms))),.s (.c (.d (.val (.int .i64 ((a.atoms.length:Nat):Int)))))]
def VC_iAssertionValid (a:GAsn) (k:Nat):Prop:=TN/\True/\True/\True/\((a.facts.length<=281474976710656)/\True/\True)/\True/\True/\(vcIf (!(fsV a.facts)) (True/\(VC_iAssertionValid_1 a)) (True/\True/\True/\True/\True/\(vcIf (decide ((6:Int) < ((a.atoms.length:Nat):Int))) (VC_iAssertionValid_1 a) (True/\True/\True/\True/\((0<=a.atoms.length/\a.atoms.length<=6/\fsV a.facts=true/\(a.atoms.take 0).all atV=true)/\TT/\(VC_iAssertionValid_2 a)/\(([.s (.c (.d (.val (.int .i64 (0:Int)))))]:List S)=[.s (.c (.d (.val (.int .i64 ((0:Nat):Int)))))])/\(RM [])/\(RM [])/\True/\TT)/\(∀ i1:Nat,(i1<=a.atoms.length/\a.atoms.length<=6/\fsV a.facts=true/\(a.atoms.take i1).all atV=true)->True/\(vcIf (decide (((i1:Nat):Int) < ((a.atoms.length:Nat):Int))) ((0<=((i1:Nat):Int)/\((i1:Nat):Int) < ((a.atoms.length:Nat):Int))/\True/\(TN/\True)/\(TF/\TF)/\True/\(True/\True/\True)/\True/\(vcIf (!(atV (a.atoms.getD i1 (⟨0,0,0⟩:GAtom)))) (VC_iAssertionValid_1 a) ((inK .i64 (((i1:Nat):Int)+(1:Int)))/\True/\((i1+1)<=a.atoms.length/\a.atoms.length<=6/\fsV a.facts=true/\(a.atoms.take (i1+1)).all atV=true)/\(a.atoms.length - (i1+1) < a.atoms.length - i1)/\TT/\(VC_iAssertionValid_2 a)/\(([.s (.c (.d (.val (.int .i64 (((i1:Nat):Int)+(1:Int))))))]:List S)=[.s (.c (.d (.val (.int .i64 (((i1+1):Nat):Int)))))])/\(RM [])/\(RM [])/\True/\TT))) (True/\(((true,()):Bool × Unit)=(asV a,()))/\True/\True/\True/\True/\TF)))))))
theorem vcn_iAssertionValid (a:GAsn) (k:Nat) (hp:a.facts.length<=281474976710656/\a.atoms.length<=281474976710656):VC_iAssertionValid a k:=by
 unfold VC_iAssertionValid VC_iAssertionValid_2 VC_iAssertionValid_1
 simp only [cln,Nat.reduceEqDiff,Nat.reduceLeDiff,Nat.reduceAdd]
 all_goals (try simp only [opn])
 all_goals (repeat' (first | apply And.intro | intro _))
 all_goals (first | omega | (simp_all;done) | grind [asV,take_all,all_take,take_full,Ty.zero])
theorem ok_iAssertionValid:FnOk Try.prog E 37 c_iAssertionValid :=
 fn_okQ (l:=L_iAssertionValid) (lp:=P_iAssertionValid) (hp:=fun _=>false) (gcs:=fun _=>none) (perm:=fun _=>[]) tabOk mix ⟨ok_iFactsValid,ok_iAtomValid,trivial⟩ trivial Try.func37 rfl (by kernel_rfl) (by decide) (by kernel_rfl) (anns:=fun x _=>an_iAssertionValid x.1) (fun ⟨a,_⟩ k hp _=>Eq.mp (by kernel_rfl) (vcn_iAssertionValid a k hp)) tot_fn
def lmHp:Nat->Bool
 | 4=>true
 | _=>false
def seqL:Code->Code
 | .seq a _=>a
 | c=>c
def seqR:Code->Code
 | .seq _ a=>a
 | c=>c
def loopB:Code->Code
 | .block _ (.loop a)=>a
 | c=>c
noncomputable def lmLB:Code:=loopB (seqR (seqL (seqR (bodyOf Try.f81))))
theorem lm_code:bodyOf Try.f81=.seq (seqL (bodyOf Try.f81)) (.seq (.seq (seqL (seqL (seqR (bodyOf Try.f81)))) (.block 0 (.loop lmLB))) (seqR (seqR (bodyOf Try.f81)))):=by rfl
def lmAnn (n:Int) (acc:Int->Bool) (base:Nat):Nat->Option Ann
 | 2=>some { α:=Nat,ok:=fun m=>(m:Int)<=2 ^ n.toNat/\∀ j:Nat,j < m->acc j=false,mu:=fun m=>2 ^ n.toNat - m,i0:=fun _=>0,nx:=fun m _=>m+1,live:=[0,1],sets:=fun m=>[(6,sv (.int .i64 (m:Int)))],mids:=[],blks:=fun _=>[],owns:=fun _=>[],rd:=fun r _=>r,base:=base }
 | _=>none
def lmAnnS (c:ClC) (args:List S0) (base:Nat) (st:St):Nat->Option Ann :=
 match args with
 | [.c (.d (.val (.int .i64 n))),.c (.fn _ [i1,i2])]=>match asnBlk st i1,asnBlk st i2 with
  | some a,some b=>lmAnn n (fun m=>c.acc m a b) base
  | _,_=>fun _=>none
 | _=>fun _=>none
theorem lm_round (c:ClC) (h:St) (n m:Int) (f:Nat) (i1 i2:Nat) (a b:GAsn) (O:Nat->Option Res) (ann:Nat->Option Ann) (Q:XK->St->Prop) (e0:h.env 0=.s (.c (.d (.val (.int .i64 n))))) (e1:h.env 1=.s (.c (.fn f [i1,i2]))) (e6:h.env 6=.s (.c (.d (.val (.int .i64 m))))) (hrd:h.rd=none)
  (ha:∀ env sp fr base rd,asnBlk { env:=env,mem:=h.mem,sp:=sp,fr:=fr,base:=base,rd:=rd } i1=some a) (hb':∀ env sp fr base rd,asnBlk { env:=env,mem:=h.mem,sp:=sp,fr:=fr,base:=base,rd:=rd } i2=some b)
  (hb:∀ env sp fr base rd,blkIds { env:=env,mem:=h.mem,sp:=sp,fr:=fr,base:=base,rd:=rd } [i1,i2]=true)
  (h0:0<=n) (h62:n<=62) (hm0:0<=m) (hpre:m < 2 ^ n.toNat->c.pre m a b)
  (q1:m < 2 ^ n.toNat->c.acc m a b=true->∀ env,env 4=.s (.c (.d (.val (.int .i64 m))))->env 5=.s (.c (.d (.val (.bool true))))->Q .ret { env:=env,mem:=h.mem,sp:=h.sp,fr:=h.fr,base:=h.base,rd:=none })
  (q2:m < 2 ^ n.toNat->c.acc m a b=false->∀ env,env 0=h.env 0->env 1=h.env 1->env 6=.s (.c (.d (.val (.int .i64 (m+1)))))->Q .normal { env:=env,mem:=h.mem,sp:=h.sp,fr:=h.fr,base:=h.base,rd:=none })
  (q3:¬ m < 2 ^ n.toNat->∀ env,Q (.exit 0) { env:=env,mem:=h.mem,sp:=h.sp,fr:=h.fr,base:=h.base,rd:=none }) :
  vcP tab (lookF []) O (lookP [(f,ptCl c)]) lmHp (fun _=>none) ann (fun _=>[]) lmLB h Q:=by
 have hp:=pow62 h0 h62
 dsimp only [lmLB,loopB,seqR,seqL,bodyOf,Try.f81]
 simp only [e0,e1,e6,hrd,hb,ha,hb',hp.1,ptCl,List.map_cons,List.map_nil,List.cons_append,List.nil_append,upd,lmHp,SE.lookF,tab2,tab3,tab4,tab5,tab7,tab9,tab12,tab13,tab21,tab22,tab23,tab24,tab25,tab26,tab29,tab30,tab31,tab38,tab39,tab40,tab41,tab65,tab66,tab67,tab68,tab71,tab77,tab78,tab93,tab94,tab104,tab105,tab110,tab111,tab112,tab119,tab121,tab130,tab139,tab141,tab149,tab151,tab156,tab157,tab158,Option.map_none,Option.map_some,if_true,if_false,reduceCtorEq,Option.getD_some,Nat.reduceEqDiff,vcReg,condK,seqK,blockK,vcOps,vcStep,vcOp,vcTr,vcDet_some,vcDet_none,vcIf_true,vcIf_false,gslot,trOp,trMove,trPick,trBin,argsS,ev,constS,junk,sv,St.app,St.put,noJunk,inK,binI,shf,isShift,intOp,vcP,vcRegP,vcOpsP,vcStepP,vcOpP,vcOpX,idxOf,cloK,cloOf,withPtrs,ptK,ptOf,vcPt,gcK,lookP,ptBase,St.back,adds,sets,cond_true,true_and,and_true]
 rw [vcIf_iff,decide_eq_true_eq,decide_eq_false_iff_not]
 refine ⟨h0,fun hlt=>⟨hpre hlt,?_⟩,fun hge=>q3 hge _⟩
 rw [vcIf_iff]
 refine ⟨fun ht=>q1 hlt ht _ rfl rfl,fun hf=>⟨?_,q2 hlt hf _ rfl rfl rfl⟩⟩
 have h2:=hp.2.1
 have:IntKind.i64.min=-9223372036854775808:=rfl
 have:IntKind.i64.max=9223372036854775807:=rfl
 omega
theorem lm_fits (st s0 st':St) (n m:Int) (f i1 i2:Nat) (hm0:s0.mem=st.mem) (hm:st'.mem=st.mem) (hs:∀ j,(st.mem j).isSome=true->st'.sp j=s0.sp j/\st'.fr j=s0.fr j) (e0:s0.env 0=.s (.c (.d (.val (.int .i64 n))))) (e1:s0.env 1=.s (.c (.fn f [i1,i2]))) (h0:st'.env 0=s0.env 0) (h1:st'.env 1=s0.env 1) (h6:st'.env 6=.s (.c (.d (.val (.int .i64 m)))))
  (hi:(st.mem i1).isSome=true) (hj:(st.mem i2).isSome=true) (hrd:st'.rd=none):fitsP st.mem [0,1] [(6,sv (.int .i64 m))] [] [] [] none s0 st':=by
 refine ⟨⟨h0,h1,trivial⟩,⟨h6,trivial⟩,trivial,trivial,trivial,trivial,trivial,trivial,?_,⟨trivial,trivial⟩,trivial,trivial,trivial,fun j hj' _=>?_,fun _ _ _ _ _ _=>trivial,by rw [hrd];trivial⟩
 ·refine ⟨?_,?_,trivial⟩
  ·rw [e0];trivial
  ·rw [e1]
   exact ⟨by rw [hi,Bool.or_true],by rw [hj,Bool.or_true],trivial⟩
 ·exact ⟨by rw [hm0],by rw [hm,hm0],(hs j hj').1,(hs j hj').2⟩
theorem lm_loop (c:ClC) (st s0:St) (base:Nat) (n:Int) (f i1 i2:Nat) (a b:GAsn) (ha:asnBlk st i1=some a) (hb:asnBlk st i2=some b) (h0:0<=n) (h62:n<=62) (hpre:∀ m:Int,0<=m->m < 2 ^ n.toNat->c.pre m a b)
  (hm0:s0.mem=st.mem) (hs0:∀ j,(st.mem j).isSome=true->s0.sp j=st.sp j/\s0.fr j=st.fr j) (hrd:s0.rd=none) (e0:s0.env 0=.s (.c (.d (.val (.int .i64 n))))) (e1:s0.env 1=.s (.c (.fn f [i1,i2]))) (e6:s0.env 6=.s (.c (.d (.val (.int .i64 0))))) (ann:Nat->Option Ann) (Q:XK->St->Prop)
  (q1:∀ m:Nat,(m:Int) < 2 ^ n.toNat->(∀ j:Nat,j < m->c.acc j a b=false)->c.acc m a b=true->∀ st',st'.mem=st.mem->(∀ j,(st.mem j).isSome=true->st'.sp j=st.sp j/\st'.fr j=st.fr j)->st'.rd=none->st'.env 4=.s (.c (.d (.val (.int .i64 m))))->st'.env 5=.s (.c (.d (.val (.bool true))))->Q .ret st')
  (q3:∀ m:Nat,¬ (m:Int) < 2 ^ n.toNat->(∀ j:Nat,j < m->c.acc j a b=false)->∀ st',st'.mem=st.mem->(∀ j,(st.mem j).isSome=true->st'.sp j=st.sp j/\st'.fr j=st.fr j)->st'.rd=none->Q (.exit 0) st') :
  vcLoopP st.mem (fun st' Q'=>vcP tab (lookF []) st.mem (lookP [(f,ptCl c)]) lmHp (fun _=>none) ann (fun _=>[]) lmLB st' Q') s0 Q (lmAnn n (fun m=>c.acc m a b) base 2):=by
 have hp:=pow62 h0 h62
 have m1:(st.mem i1).isSome=true:=by rw [asnBlk_mem ha];rfl
 have m2:(st.mem i2).isSome=true:=by rw [asnBlk_mem hb];rfl
 have tm:tabM st.mem s0.mem []=st.mem:=by
  rw [hm0]
  funext j
  simp only [tabM]
  cases st.mem j <;> rfl
 have tq:∀ (q:Nat->Bool) j,(st.mem j).isSome=true->tabQ st.mem q [] j=q j:=fun q j hj=>by
  simp only [tabQ]
  cases hq:st.mem j with
  | none=>rw [hq] at hj;cases hj
  | some r=>rfl
 have e2:((2 ^ n.toNat:Nat):Int)=2 ^ n.toNat:=by push_cast;rfl
 refine ⟨⟨⟨by show ((0:Nat):Int)<=_;omega,fun j hj=>absurd hj (Nat.not_lt_zero _)⟩,?_⟩,fun m hm=>?_⟩
 ·show fitsP st.mem [0,1] [(6,sv (.int .i64 ((0:Nat):Int)))] [] [] [] s0.rd s0 s0
  rw [hrd]
  exact lm_fits st s0 s0 n 0 f i1 i2 hm0 hm0 (fun _ _=>⟨rfl,rfl⟩) e0 e1 rfl rfl e6 m1 m2 hrd
 ·obtain ⟨hle,hno⟩:=hm
  show vcP tab (lookF []) st.mem _ lmHp _ ann _ lmLB (headP st.mem [0,1] [(6,sv (.int .i64 (m:Int)))] [] [] [] base s0.rd s0) _
  have hmem:(headP st.mem [0,1] [(6,sv (.int .i64 (m:Int)))] [] [] [] base s0.rd s0).mem=st.mem:=tm
  have hsp:∀ j,(st.mem j).isSome=true->(headP st.mem [0,1] [(6,sv (.int .i64 (m:Int)))] [] [] [] base s0.rd s0).sp j=s0.sp j/\(headP st.mem [0,1] [(6,sv (.int .i64 (m:Int)))] [] [] [] base s0.rd s0).fr j=s0.fr j:=fun j hj=>⟨tq _ j hj,tq _ j hj⟩
  have hrd':(headP st.mem [0,1] [(6,sv (.int .i64 (m:Int)))] [] [] [] base s0.rd s0).rd=none:=hrd
  have he0:(headP st.mem [0,1] [(6,sv (.int .i64 (m:Int)))] [] [] [] base s0.rd s0).env 0=s0.env 0:=rfl
  have he1:(headP st.mem [0,1] [(6,sv (.int .i64 (m:Int)))] [] [] [] base s0.rd s0).env 1=s0.env 1:=rfl
  have he6:(headP st.mem [0,1] [(6,sv (.int .i64 (m:Int)))] [] [] [] base s0.rd s0).env 6=.s (.c (.d (.val (.int .i64 (m:Int))))):=rfl
  generalize headP st.mem [0,1] [(6,sv (.int .i64 (m:Int)))] [] [] [] base s0.rd s0=h at hmem hsp hrd' he0 he1 he6
  have hsp':∀ j,(st.mem j).isSome=true->h.sp j=st.sp j/\h.fr j=st.fr j:=fun j hj=>⟨(hsp j hj).1.trans (hs0 j hj).1,(hsp j hj).2.trans (hs0 j hj).2⟩
  refine lm_round c h n (m:Int) f i1 i2 a b st.mem ann _ (he0.trans e0) (he1.trans e1) he6 hrd' ?_ ?_ ?_ h0 h62 (by omega) (fun hlt=>hpre _ (by omega) hlt) ?_ ?_ ?_
  ·intro env sp fr base rd
   unfold asnBlk at ha ⊢
   rw [hmem];exact ha
  ·intro env sp fr base rd
   unfold asnBlk at hb ⊢
   rw [hmem];exact hb
  ·intro env sp fr base rd
   simp only [blkIds,hmem,asnBlk_mem ha,asnBlk_mem hb]
  ·intro hlt hacc env h4 h5
   exact q1 m hlt hno hacc _ hmem hsp' rfl h4 h5
  ·intro hlt hacc env g0 g1 g6
   show (((m+1:Nat):Int)<=2 ^ n.toNat/\∀ j:Nat,j < m+1->c.acc j a b=false)/\2 ^ n.toNat - (m+1) < 2 ^ n.toNat - m/\fitsP st.mem [0,1] [(6,sv (.int .i64 ((m+1:Nat):Int)))] [] [] [] s0.rd s0 _
   refine ⟨⟨by omega,fun j hj=>?_⟩,by omega,?_⟩
   ·by_cases e:j=m
    ·subst e;exact hacc
    ·exact hno j (by omega)
   ·rw [hrd]
    exact lm_fits st s0 _ n ((m+1:Nat):Int) f i1 i2 hm0 hmem hsp e0 e1 (g0.trans he0) (g1.trans he1) (by rw [show ((m+1:Nat):Int)=(m:Int)+1 by omega];exact g6) m1 m2 rfl
  ·intro hge env
   exact q3 m hge hno _ hmem hsp' rfl
theorem lm_vc (c:ClC) (st:St) (base:Nat) (n:Int) (f i1 i2:Nat) (a b:GAsn) (ha:asnBlk st i1=some a) (hb:asnBlk st i2=some b) (hrd:st.rd=none) (h0:0<=n) (h62:n<=62) (hpre:∀ m:Int,0<=m->m < 2 ^ n.toNat->c.pre m a b) (k:S->St->Prop)
  (hk:∀ st',st'.mem=st.mem->(∀ j,(st.mem j).isSome=true->st'.sp j=st.sp j/\st'.fr j=st.fr j)->st'.rd=none->k (.tup [.c (.d (.val (.int .i64 (lmI (fun m=>c.acc m a b) n)))),.c (.d (.val (.bool (lmB (fun m=>c.acc m a b) n))))]) st') :
  inl tab (lookF []) (lookP [(f,ptCl c)]) lmHp (fun _ _=>none) (lmAnnS c) (fun _=>[]) Try.f81.ntmps (bodyOf Try.f81) Try.f81.results.toList [.c (.d (.val (.int .i64 n))),.c (.fn f [i1,i2])] base st k:=by
 have hp:=pow62 h0 h62
 refine ⟨by show 2<=17;decide,?_⟩
 have hA:lmAnnS c [.c (.d (.val (.int .i64 n))),.c (.fn f [i1,i2])] base st=lmAnn n (fun m=>c.acc m a b) base:=by
  unfold lmAnnS
  simp only [ha,hb]
 rw [hA,lm_code]
 have m1:=asnBlk_mem ha
 have m2:=asnBlk_mem hb
 have tm:∀ m:Nat->Option Res,m=st.mem->tabM st.mem m []=st.mem:=fun m hm=>by
  subst hm
  funext j
  simp only [tabM]
  cases st.mem j <;> rfl
 have tq:∀ (q:Nat->Bool) j,(st.mem j).isSome=true->tabQ st.mem q [] j=q j:=fun q j hj=>by
  simp only [tabQ]
  cases hq:st.mem j with
  | none=>rw [hq] at hj;cases hj
  | some r=>rfl
 simp only [vcP,seqK,gcK,blockK]
 dsimp only [seqL,seqR,bodyOf,Try.f81]
 simp only [inlSt,envOf,upd,SE.lookF,tab2,tab3,tab4,tab5,tab7,tab9,tab12,tab13,tab21,tab22,tab23,tab24,tab25,tab26,tab29,tab30,tab31,tab38,tab39,tab40,tab41,tab65,tab66,tab67,tab68,tab71,tab77,tab78,tab93,tab94,tab104,tab105,tab110,tab111,tab112,tab119,tab121,tab130,tab139,tab141,tab149,tab151,tab156,tab157,tab158,hrd,Option.map_none,Option.map_some,reduceCtorEq,Option.getD_some,Nat.reduceEqDiff,vcReg,condK,seqK,blockK,vcOps,vcStep,vcOp,vcTr,vcDet_some,vcDet_none,trOp,trMove,ev,constS,junk,sv,St.app,St.put,vcP,vcRegP,vcOpsP,lmHp,gcK,adds,sets,true_and,and_true]
 rw [show firstReg lmLB=2 from rfl]
 refine lm_loop c st _ base n f i1 i2 a b ha hb h0 h62 hpre ?_ ?_ ?_ ?_ ?_ ?_ _ _ ?_ ?_
 ·rfl
 ·exact fun _ _=>⟨rfl,rfl⟩
 ·rfl
 ·rfl
 ·rfl
 ·rfl
 ·intro m hlt hno hacc st' g1 g2 g3 g4 g5
  obtain ⟨l1,l2⟩:=lm_found (acc:=fun m=>c.acc m a b) hlt hno hacc
  show retP tab [.tmp 4,.tmp 5] k .ret st'
  simp only [retP,loadsS,loadS,g4,g5,pack1]
  rw [l1,l2]
  exact hk st' g1 g2 g3
 ·intro m hge hno st' g1 g2 g3
  obtain ⟨l1,l2⟩:=lm_none (acc:=fun m=>c.acc m a b) hge hno
  simp only [blockK,seqK,retP,loadsS,loadS,upd,pack1,Nat.reduceEqDiff,if_true,if_false]
  rw [l1,l2]
  exact hk _ g1 g2 (by simp [g3])
theorem ptok_lm {f:Nat} {c:ClC} (hF:FnOk Try.prog E f c.con):PTOk Try.prog E 81 (ptLM f c):=by
 have base:=pt_ok (l:=[]) (lp:=[(f,ptCl c)]) (hp:=lmHp) (perm:=fun _=>[]) (gcb:=fun _ _=>none) (ann:=lmAnnS c) tabOk mix trivial ⟨ptCl_ok hF,trivial⟩ Try.func81 rfl (by kernel_rfl) (by kernel_rfl)
 refine ⟨base.fn,?_⟩
 intro w0 M g st w args vs bs k hg hcl hrefs hargs hv
 unfold ptLM at hv
 split at hv
 ·rename_i n f' i1 i2
  split at hv
  ·rename_i a b ha hb
   obtain ⟨rfl,hrd,⟨h0,h62⟩,hpre,hk⟩:=hv
   have hi:=lm_vc c st bs n f' i1 i2 a b ha hb hrd h0 h62 hpre
    (fun s st'=>s=.tup [.c (.d (.val (.int .i64 (lmI (fun m=>c.acc m a b) n)))),.c (.d (.val (.bool (lmB (fun m=>c.acc m a b) n))))]/\st'.mem=st.mem/\(∀ j,(st.mem j).isSome=true->st'.sp j=st.sp j/\st'.fr j=st.fr j)/\st'.rd=st.rd)
    (fun st' g1 g2 g3=>⟨rfl,g1,g2,g3.trans hrd.symm⟩)
   refine Calls.mono (base.call w0 M g st w _ vs bs _ hg hcl hrefs hargs hi) fun e w' he=>?_
   obtain ⟨v,s,st',g',rfl,⟨rfl,g1,g2,g3⟩,hg',hsR,hsref,hcl',hold,hro,hρ⟩:=he
   exact ⟨v,_,st,g',rfl,hk,hg'.agree g1 g2 g3,hsR,(fun id hid=>by cases hid),hcl,fun id h=>⟨h,(hold id h).2⟩,hro,hρ⟩
  ·exact hv.elim
 ·exact hv.elim
theorem lm_roundW (c:WCon) (h:St) (n m:Int) (f:Nat) (i1 i2 i3 j0 j1 j2 j3 bs:Nat) (a b:GAsn) (O:Nat->Option Res) (ann:Nat->Option Ann) (Q:XK->St->Prop) (e0:h.env 0=.s (.c (.d (.val (.int .i64 n))))) (e1:h.env 1=.s (.c (.fn f [i1,i2,i3]))) (e6:h.env 6=.s (.c (.d (.val (.int .i64 m))))) (hrd:h.rd=none)
  (ha:∀ env sp fr base rd,asnBlk { env:=env,mem:=h.mem,sp:=sp,fr:=fr,base:=base,rd:=rd } i1=some a) (hb':∀ env sp fr base rd,asnBlk { env:=env,mem:=h.mem,sp:=sp,fr:=fr,base:=base,rd:=rd } i2=some b)
  (hb:∀ env sp fr base rd,blkIds { env:=env,mem:=h.mem,sp:=sp,fr:=fr,base:=base,rd:=rd } [i1,i2,i3]=true)
  (h3:h.mem i3=some (.blk [.own j0,.own j1,.own j2,.own j3])) (hn1:i1 ≠ i3) (hn2:i2 ≠ i3) (hsp3:h.sp i3=false) (hfr3:h.fr i3=false) (hbs:h.base=bs) (hfree:∀ env sp fr base rd,freeL { env:=env,mem:=h.mem,sp:=sp,fr:=fr,base:=base,rd:=rd } (rids kkW (ptBase bs 15)))
  (h0:0<=n) (h62:n<=62) (hm0:0<=m) (hpre:m < 2 ^ n.toNat->c.pre m a b)
  (q1:m < 2 ^ n.toNat->c.acc m a b=true->∀ env,env 4=.s (.c (.d (.val (.int .i64 m))))->env 5=.s (.c (.d (.val (.bool true))))->Q .ret { env:=env,mem:=upd (adds h.mem (ress kkW (ptBase bs 15) (c.val m a b)).2) i3 (some (.blk (owC (ptBase bs 15)))),sp:=h.sp,fr:=h.fr,base:=h.base,rd:=none })
  (q2:m < 2 ^ n.toNat->c.acc m a b=false->∀ env,env 0=h.env 0->env 1=h.env 1->env 6=.s (.c (.d (.val (.int .i64 (m+1)))))->Q .normal { env:=env,mem:=h.mem,sp:=h.sp,fr:=h.fr,base:=h.base,rd:=none })
  (q3:¬ m < 2 ^ n.toNat->∀ env,Q (.exit 0) { env:=env,mem:=h.mem,sp:=h.sp,fr:=h.fr,base:=h.base,rd:=none }) :
  vcP tab (lookF []) O (lookP [(f,ptW c)]) lmHp (fun _=>none) ann (fun _=>[]) lmLB h Q:=by
 have hp:=pow62 h0 h62
 subst hbs
 dsimp only [lmLB,loopB,seqR,seqL,bodyOf,Try.f81]
 simp only [e0,e1,e6,hrd,hb,ha,hb',h3,hsp3,hfr3,hfree,hn1,hn2,ne_eq,not_false_eq_true,hp.1,ptW,ptW3,ptWk,List.map_cons,List.map_nil,List.cons_append,List.nil_append,upd,lmHp,SE.lookF,tab2,tab3,tab4,tab5,tab7,tab9,tab12,tab13,tab21,tab22,tab23,tab24,tab25,tab26,tab29,tab30,tab31,tab38,tab39,tab40,tab41,tab65,tab66,tab67,tab68,tab71,tab77,tab78,tab93,tab94,tab104,tab105,tab110,tab111,tab112,tab119,tab121,tab130,tab139,tab141,tab149,tab151,tab156,tab157,tab158,Option.map_none,Option.map_some,if_true,if_false,reduceCtorEq,Option.getD_some,Nat.reduceEqDiff,vcReg,condK,seqK,blockK,vcOps,vcStep,vcOp,vcTr,vcDet_some,vcDet_none,vcIf_true,vcIf_false,gslot,trOp,trMove,trPick,trBin,argsS,ev,constS,junk,sv,St.app,St.put,noJunk,inK,binI,shf,isShift,intOp,vcP,vcRegP,vcOpsP,vcStepP,vcOpP,vcOpX,idxOf,cloK,cloOf,withPtrs,ptK,ptOf,vcPt,gcK,lookP,St.back,adds,sets,cond_true,true_and,and_true]
 rw [vcIf_iff,decide_eq_true_eq,decide_eq_false_iff_not]
 refine ⟨h0,fun hlt=>⟨hpre hlt,fun hf=>⟨?_,?_⟩,fun ht=>?_⟩,fun hge=>?_⟩
 ·have h2:=hp.2.1
  have:IntKind.i64.min=-9223372036854775808:=rfl
  have:IntKind.i64.max=9223372036854775807:=rfl
  omega
 ·exact q2 hlt hf _ rfl rfl rfl
 ·exact q1 hlt ht _ rfl rfl
 ·exact q3 hge _
theorem lm_fitsW (st s0 st':St) (n m:Int) (f i1 i2 i3:Nat) (hm0:s0.mem=st.mem) (hm:st'.mem=st.mem) (hs:∀ j,(st.mem j).isSome=true->st'.sp j=s0.sp j/\st'.fr j=s0.fr j) (e0:s0.env 0=.s (.c (.d (.val (.int .i64 n))))) (e1:s0.env 1=.s (.c (.fn f [i1,i2,i3]))) (h0:st'.env 0=s0.env 0) (h1:st'.env 1=s0.env 1) (h6:st'.env 6=.s (.c (.d (.val (.int .i64 m)))))
  (hi:(st.mem i1).isSome=true) (hj:(st.mem i2).isSome=true) (hk:(st.mem i3).isSome=true) (hrd:st'.rd=none):fitsP st.mem [0,1] [(6,sv (.int .i64 m))] [] [] [] none s0 st':=by
 refine ⟨⟨h0,h1,trivial⟩,⟨h6,trivial⟩,trivial,trivial,trivial,trivial,trivial,trivial,?_,⟨trivial,trivial⟩,trivial,trivial,trivial,fun j hj' _=>?_,fun _ _ _ _ _ _=>trivial,by rw [hrd];trivial⟩
 ·refine ⟨?_,?_,trivial⟩
  ·rw [e0];trivial
  ·rw [e1]
   exact ⟨by rw [hi,Bool.or_true],by rw [hj,Bool.or_true],by rw [hk,Bool.or_true],trivial⟩
 ·exact ⟨by rw [hm0],by rw [hm,hm0],(hs j hj').1,(hs j hj').2⟩
theorem lm_loopW (c:WCon) (st s0:St) (base:Nat) (n:Int) (f i1 i2 i3 j0 j1 j2 j3:Nat) (a b:GAsn) (ha:asnBlk st i1=some a) (hb:asnBlk st i2=some b) (h3:st.mem i3=some (.blk [.own j0,.own j1,.own j2,.own j3])) (hn1:i1 ≠ i3) (hn2:i2 ≠ i3) (hsp3:st.sp i3=false) (hfr3:st.fr i3=false) (hfree:freeL st (rids kkW (ptBase base 15))) (h0:0<=n) (h62:n<=62) (hpre:∀ m:Int,0<=m->m < 2 ^ n.toNat->c.pre m a b)
  (hm0:s0.mem=st.mem) (hs0:∀ j,(st.mem j).isSome=true->s0.sp j=st.sp j/\s0.fr j=st.fr j) (hrd:s0.rd=none) (e0:s0.env 0=.s (.c (.d (.val (.int .i64 n))))) (e1:s0.env 1=.s (.c (.fn f [i1,i2,i3]))) (e6:s0.env 6=.s (.c (.d (.val (.int .i64 0))))) (ann:Nat->Option Ann) (Q:XK->St->Prop)
  (q1:∀ m:Nat,(m:Int) < 2 ^ n.toNat->(∀ j:Nat,j < m->c.acc j a b=false)->c.acc m a b=true->∀ st',st'.mem=upd (adds st.mem (ress kkW (ptBase base 15) (c.val m a b)).2) i3 (some (.blk (owC (ptBase base 15))))->(∀ j,st'.sp j=clO st.mem st.sp j/\st'.fr j=clO st.mem st.fr j)->st'.rd=none->st'.env 4=.s (.c (.d (.val (.int .i64 m))))->st'.env 5=.s (.c (.d (.val (.bool true))))->Q .ret st')
  (q3:∀ m:Nat,¬ (m:Int) < 2 ^ n.toNat->(∀ j:Nat,j < m->c.acc j a b=false)->∀ st',st'.mem=st.mem->(∀ j,(st.mem j).isSome=true->st'.sp j=st.sp j/\st'.fr j=st.fr j)->st'.rd=none->Q (.exit 0) st') :
  vcLoopP st.mem (fun st' Q'=>vcP tab (lookF []) st.mem (lookP [(f,ptW c)]) lmHp (fun _=>none) ann (fun _=>[]) lmLB st' Q') s0 Q (lmAnn n (fun m=>c.acc m a b) base 2):=by
 have hp:=pow62 h0 h62
 have m1:(st.mem i1).isSome=true:=by rw [asnBlk_mem ha];rfl
 have m2:(st.mem i2).isSome=true:=by rw [asnBlk_mem hb];rfl
 have m3:(st.mem i3).isSome=true:=by rw [h3];rfl
 have tm:tabM st.mem s0.mem []=st.mem:=by
  rw [hm0]
  funext j
  simp only [tabM]
  cases st.mem j <;> rfl
 have tq:∀ (q:Nat->Bool) j,(st.mem j).isSome=true->tabQ st.mem q [] j=q j:=fun q j hj=>by
  simp only [tabQ]
  cases hq:st.mem j with
  | none=>rw [hq] at hj;cases hj
  | some r=>rfl
 have e2:((2 ^ n.toNat:Nat):Int)=2 ^ n.toNat:=by push_cast;rfl
 refine ⟨⟨⟨by show ((0:Nat):Int)<=_;omega,fun j hj=>absurd hj (Nat.not_lt_zero _)⟩,?_⟩,fun m hm=>?_⟩
 ·show fitsP st.mem [0,1] [(6,sv (.int .i64 ((0:Nat):Int)))] [] [] [] s0.rd s0 s0
  rw [hrd]
  exact lm_fitsW st s0 s0 n 0 f i1 i2 i3 hm0 hm0 (fun _ _=>⟨rfl,rfl⟩) e0 e1 rfl rfl e6 m1 m2 m3 hrd
 ·obtain ⟨hle,hno⟩:=hm
  show vcP tab (lookF []) st.mem _ lmHp _ ann _ lmLB (headP st.mem [0,1] [(6,sv (.int .i64 (m:Int)))] [] [] [] base s0.rd s0) _
  have hmem:(headP st.mem [0,1] [(6,sv (.int .i64 (m:Int)))] [] [] [] base s0.rd s0).mem=st.mem:=tm
  have hsp:∀ j,(st.mem j).isSome=true->(headP st.mem [0,1] [(6,sv (.int .i64 (m:Int)))] [] [] [] base s0.rd s0).sp j=s0.sp j/\(headP st.mem [0,1] [(6,sv (.int .i64 (m:Int)))] [] [] [] base s0.rd s0).fr j=s0.fr j:=fun j hj=>⟨tq _ j hj,tq _ j hj⟩
  have hcl:∀ j,(headP st.mem [0,1] [(6,sv (.int .i64 (m:Int)))] [] [] [] base s0.rd s0).sp j=clO st.mem st.sp j/\(headP st.mem [0,1] [(6,sv (.int .i64 (m:Int)))] [] [] [] base s0.rd s0).fr j=clO st.mem st.fr j:=fun j=>by
   show tabQ st.mem s0.sp [] j=_/\tabQ st.mem s0.fr [] j=_
   simp only [tabQ,clO]
   cases hq:st.mem j with
   | none=>exact ⟨rfl,rfl⟩
   | some r=>exact hs0 j (by rw [hq];rfl)
  have hbs:(headP st.mem [0,1] [(6,sv (.int .i64 (m:Int)))] [] [] [] base s0.rd s0).base=base:=rfl
  have hrd':(headP st.mem [0,1] [(6,sv (.int .i64 (m:Int)))] [] [] [] base s0.rd s0).rd=none:=hrd
  have he0:(headP st.mem [0,1] [(6,sv (.int .i64 (m:Int)))] [] [] [] base s0.rd s0).env 0=s0.env 0:=rfl
  have he1:(headP st.mem [0,1] [(6,sv (.int .i64 (m:Int)))] [] [] [] base s0.rd s0).env 1=s0.env 1:=rfl
  have he6:(headP st.mem [0,1] [(6,sv (.int .i64 (m:Int)))] [] [] [] base s0.rd s0).env 6=.s (.c (.d (.val (.int .i64 (m:Int))))):=rfl
  generalize headP st.mem [0,1] [(6,sv (.int .i64 (m:Int)))] [] [] [] base s0.rd s0=h at hmem hsp hcl hbs hrd' he0 he1 he6
  have hsp':∀ j,(st.mem j).isSome=true->h.sp j=st.sp j/\h.fr j=st.fr j:=fun j hj=>⟨(hsp j hj).1.trans (hs0 j hj).1,(hsp j hj).2.trans (hs0 j hj).2⟩
  refine lm_roundW c h n (m:Int) f i1 i2 i3 j0 j1 j2 j3 base a b st.mem ann _ (he0.trans e0) (he1.trans e1) he6 hrd' ?_ ?_ ?_ (by rw [hmem];exact h3) hn1 hn2 (by rw [(hsp' i3 m3).1];exact hsp3) (by rw [(hsp' i3 m3).2];exact hfr3) hbs ?_ h0 h62 (by omega) (fun hlt=>hpre _ (by omega) hlt) ?_ ?_ ?_
  ·intro env sp fr base rd
   unfold asnBlk at ha ⊢
   rw [hmem];exact ha
  ·intro env sp fr base rd
   unfold asnBlk at hb ⊢
   rw [hmem];exact hb
  ·intro env sp fr base rd
   simp only [blkIds,hmem,asnBlk_mem ha,asnBlk_mem hb,h3]
  ·intro env sp fr base' rd
   rw [hmem]
   exact hfree
  ·intro hlt hacc env h4 h5
   exact q1 m hlt hno hacc _ (by rw [hmem]) hcl rfl h4 h5
  ·intro hlt hacc env g0 g1 g6
   show (((m+1:Nat):Int)<=2 ^ n.toNat/\∀ j:Nat,j < m+1->c.acc j a b=false)/\2 ^ n.toNat - (m+1) < 2 ^ n.toNat - m/\fitsP st.mem [0,1] [(6,sv (.int .i64 ((m+1:Nat):Int)))] [] [] [] s0.rd s0 _
   refine ⟨⟨by omega,fun j hj=>?_⟩,by omega,?_⟩
   ·by_cases e:j=m
    ·subst e;exact hacc
    ·exact hno j (by omega)
   ·rw [hrd]
    exact lm_fitsW st s0 _ n ((m+1:Nat):Int) f i1 i2 i3 hm0 hmem hsp e0 e1 (g0.trans he0) (g1.trans he1) (by rw [show ((m+1:Nat):Int)=(m:Int)+1 by omega];exact g6) m1 m2 m3 rfl
  ·intro hge env
   exact q3 m hge hno _ hmem hsp' rfl
def lmAnnW (c:WCon) (args:List S0) (base:Nat) (st:St):Nat->Option Ann :=
 match args with
 | [.c (.d (.val (.int .i64 n))),.c (.fn _ [i1,i2,_])]=>match asnBlk st i1,asnBlk st i2 with
  | some a,some b=>lmAnn n (fun m=>c.acc m a b) base
  | _,_=>fun _=>none
 | _=>fun _=>none
theorem lm_vcW (c:WCon) (st:St) (base:Nat) (n:Int) (f i1 i2 i3 j0 j1 j2 j3:Nat) (a b:GAsn) (ha:asnBlk st i1=some a) (hb:asnBlk st i2=some b) (hrd:st.rd=none) (h3:st.mem i3=some (.blk [.own j0,.own j1,.own j2,.own j3])) (hn1:i1 ≠ i3) (hn2:i2 ≠ i3) (hsp3:st.sp i3=false) (hfr3:st.fr i3=false) (hfree:freeL st (rids kkW (ptBase base 15))) (h0:0<=n) (h62:n<=62) (hpre:∀ m:Int,0<=m->m < 2 ^ n.toNat->c.pre m a b) (k:S->St->Prop)
  (hk0:lmB (fun m=>c.acc m a b) n=false->∀ st',st'.mem=st.mem->(∀ j,(st.mem j).isSome=true->st'.sp j=st.sp j/\st'.fr j=st.fr j)->st'.rd=none->k (.tup [.c (.d (.val (.int .i64 0))),.c (.d (.val (.bool false)))]) st')
  (hk1:lmB (fun m=>c.acc m a b) n=true->∀ st',st'.mem=upd (adds st.mem (ress kkW (ptBase base 15) (c.val (lmI (fun m=>c.acc m a b) n) a b)).2) i3 (some (.blk (owC (ptBase base 15))))->(∀ j,st'.sp j=clO st.mem st.sp j/\st'.fr j=clO st.mem st.fr j)->st'.rd=none->k (.tup [.c (.d (.val (.int .i64 (lmI (fun m=>c.acc m a b) n)))),.c (.d (.val (.bool true)))]) st') :
  inl tab (lookF []) (lookP [(f,ptW c)]) lmHp (fun _ _=>none) (lmAnnW c) (fun _=>[]) Try.f81.ntmps (bodyOf Try.f81) Try.f81.results.toList [.c (.d (.val (.int .i64 n))),.c (.fn f [i1,i2,i3])] base st k:=by
 have hp:=pow62 h0 h62
 refine ⟨by show 2<=17;decide,?_⟩
 have hA:lmAnnW c [.c (.d (.val (.int .i64 n))),.c (.fn f [i1,i2,i3])] base st=lmAnn n (fun m=>c.acc m a b) base:=by
  unfold lmAnnW
  simp only [ha,hb]
 rw [hA,lm_code]
 have m1:=asnBlk_mem ha
 have m2:=asnBlk_mem hb
 have tm:∀ m:Nat->Option Res,m=st.mem->tabM st.mem m []=st.mem:=fun m hm=>by
  subst hm
  funext j
  simp only [tabM]
  cases st.mem j <;> rfl
 have tq:∀ (q:Nat->Bool) j,(st.mem j).isSome=true->tabQ st.mem q [] j=q j:=fun q j hj=>by
  simp only [tabQ]
  cases hq:st.mem j with
  | none=>rw [hq] at hj;cases hj
  | some r=>rfl
 simp only [vcP,seqK,gcK,blockK]
 dsimp only [seqL,seqR,bodyOf,Try.f81]
 simp only [inlSt,envOf,upd,SE.lookF,tab2,tab3,tab4,tab5,tab7,tab9,tab12,tab13,tab21,tab22,tab23,tab24,tab25,tab26,tab29,tab30,tab31,tab38,tab39,tab40,tab41,tab65,tab66,tab67,tab68,tab71,tab77,tab78,tab93,tab94,tab104,tab105,tab110,tab111,tab112,tab119,tab121,tab130,tab139,tab141,tab149,tab151,tab156,tab157,tab158,hrd,Option.map_none,Option.map_some,reduceCtorEq,Option.getD_some,Nat.reduceEqDiff,vcReg,condK,seqK,blockK,vcOps,vcStep,vcOp,vcTr,vcDet_some,vcDet_none,trOp,trMove,ev,constS,junk,sv,St.app,St.put,vcP,vcRegP,vcOpsP,lmHp,gcK,adds,sets,true_and,and_true]
 rw [show firstReg lmLB=2 from rfl]
 refine lm_loopW c st _ base n f i1 i2 i3 j0 j1 j2 j3 a b ha hb h3 hn1 hn2 hsp3 hfr3 hfree h0 h62 hpre ?_ ?_ ?_ ?_ ?_ ?_ _ _ ?_ ?_
 ·rfl
 ·exact fun _ _=>⟨rfl,rfl⟩
 ·rfl
 ·rfl
 ·rfl
 ·rfl
 ·intro m hlt hno hacc st' g1 g2 g3 g4 g5
  obtain ⟨l1,l2⟩:=lm_found (acc:=fun m=>c.acc m a b) hlt hno hacc
  show retP tab [.tmp 4,.tmp 5] k .ret st'
  simp only [retP,loadsS,loadS,g4,g5,pack1]
  rw [l1] at g1 ⊢
  exact hk1 l2.symm st' g1 g2 g3
 ·intro m hge hno st' g1 g2 g3
  obtain ⟨l1,l2⟩:=lm_none (acc:=fun m=>c.acc m a b) hge hno
  simp only [blockK,seqK,retP,loadsS,loadS,upd,pack1,Nat.reduceEqDiff,if_true,if_false]
  exact hk0 l2.symm _ g1 g2 (by simp [g3])
theorem ptok_lmW {f:Nat} {c:WCon} (hF:PTOk Try.prog E f (ptW c)):PTOk Try.prog E 81 (ptLMW f c):=by
 have base:=pt_ok (l:=[]) (lp:=[(f,ptW c)]) (hp:=lmHp) (perm:=fun _=>[]) (gcb:=fun _ _=>none) (ann:=lmAnnW c) tabOk mix trivial ⟨hF,trivial⟩ Try.func81 rfl (by kernel_rfl) (by kernel_rfl)
 refine ⟨base.fn,?_⟩
 intro w0 M g st w args vs bs k hg hcl hrefs hargs hv
 unfold ptLMW at hv
 split at hv
 ·rename_i n f' i1 i2 i3
  obtain ⟨rfl,hv⟩:=hv
  unfold ptLW3 at hv
  split at hv
  ·rename_i a b j0 j1 j2 j3 ha hb h3
   obtain ⟨hn1,hn2,hrd,⟨h0,h62⟩,hsp3,hfr3,hfree,hpre,hk0,hk1⟩:=hv
   have hi:=lm_vcW c st bs n f' i1 i2 i3 j0 j1 j2 j3 a b ha hb hrd h3 hn1 hn2 hsp3 hfr3 hfree h0 h62 hpre
    (fun s st'=>st'.rd=st.rd/\((lmB (fun m=>c.acc m a b) n=false/\s=.tup [.c (.d (.val (.int .i64 0))),.c (.d (.val (.bool false)))]/\st'.mem=st.mem/\(∀ j,(st.mem j).isSome=true->st'.sp j=st.sp j/\st'.fr j=st.fr j)) ∨
     (lmB (fun m=>c.acc m a b) n=true/\s=.tup [.c (.d (.val (.int .i64 (lmI (fun m=>c.acc m a b) n)))),.c (.d (.val (.bool true)))]/\st'.mem=upd (adds st.mem (ress kkW (ptBase bs 15) (c.val (lmI (fun m=>c.acc m a b) n) a b)).2) i3 (some (.blk (owC (ptBase bs 15))))/\(∀ j,st'.sp j=clO st.mem st.sp j/\st'.fr j=clO st.mem st.fr j))))
    (fun hB st' g1 g2 g3=>⟨g3.trans hrd.symm,.inl ⟨hB,rfl,g1,g2⟩⟩) (fun hB st' g1 g2 g3=>⟨g3.trans hrd.symm,.inr ⟨hB,rfl,g1,g2⟩⟩)
   refine Calls.mono (base.call w0 M g st w _ vs bs _ hg hcl hrefs hargs hi) fun e w' he=>?_
   obtain ⟨v,s,st',g',rfl,⟨g3,hh⟩,hg',hsR,hsref,hcl',hold,hro,hρ⟩:=he
   rcases hh with ⟨hB,rfl,g1,g2⟩ | ⟨hB,rfl,g1,g2⟩
   ·exact ⟨v,_,st,g',rfl,hk0 hB,hg'.agree g1 g2 g3,hsR,(fun id hid=>by cases hid),hcl,fun id h=>⟨h,(hold id h).2⟩,hro,hρ⟩
   ·refine ⟨v,_,_,g',rfl,hk1 hB,hg'.agree g1 (fun j _=>g2 j) g3,hsR,(fun id hid=>by cases hid),?_,fun id h=>⟨?_,(hold id h).2⟩,hro,hρ⟩
    ·intro j r hj i hi
     have:=hcl' j r (by rw [g1];exact hj) i hi
     rw [g1] at this;exact this
    ·have:=(hold id h).1
     rw [g1] at this;exact this
  ·exact hv.elim
 ·exact hv.elim
abbrev c_joinListsF:Con:=⟨[.sl .fact,.sl .fact],[.sl .fact],fun (a,b,_)=>a.length<=1048576/\b.length<=1048576,.inl fun (a,b,_)=>(a ++ b,()),fun _=>0⟩
abbrev L_joinListsF:List (FuncId × Con):=[]
abbrev P_joinListsF:List (FuncId × PT):=[]
def VC_joinListsF (a:List GFact) (b:List GFact) (k:Nat):Prop:=TN/\True/\True/\True/\True/\(inK .i64 (((a.length:Nat):Int)+((b.length:Nat):Int)))/\(TN/\(0<=(0:Int)/\(0:Int)<=(((a.length:Nat):Int)+((b.length:Nat):Int))/\(((a.length:Nat):Int)+((b.length:Nat):Int))<=4294967296))/\True/\True/\True/\(TN/\TF/\TF/\((List.replicate 0 (⟨false,0,0⟩:GFact)).length+a.length<=4294967296))/\True/\(TN/\TF/\TF/\(((List.replicate 0 (⟨false,0,0⟩:GFact)) ++ a).length+b.length<=4294967296))/\True/\(((((List.replicate 0 (⟨false,0,0⟩:GFact)) ++ a) ++ b,()):(List GFact) × Unit)=(a ++ b,()))/\(True/\True)/\((TF/\TF)/\True)/\True/\(True/\True)/\TF
theorem vcn_joinListsF (a:List GFact) (b:List GFact) (k:Nat) (hp:a.length<=1048576/\b.length<=1048576):VC_joinListsF a b k:=by
 unfold VC_joinListsF
 simp only [cln,Nat.reduceEqDiff,Nat.reduceLeDiff,Nat.reduceAdd]
 all_goals (try simp only [opn])
 all_goals (repeat' (first | apply And.intro | intro _))
 all_goals (first | omega | (simp_all;done) | grind [])
theorem ok_joinListsF:FnOk Try.prog E 78 c_joinListsF :=
 fn_okQ (l:=L_joinListsF) (lp:=P_joinListsF) (hp:=fun _=>false) (gcs:=fun _=>none) (perm:=fun _=>[]) tabOk mix trivial trivial Try.func78 rfl (by kernel_rfl) (by decide) (by kernel_rfl) (anns:=fun x _=>fun _ _=>none) (fun ⟨a,b,_⟩ k hp _=>Eq.mp (by kernel_rfl) (vcn_joinListsF a b k hp)) tot_fn
abbrev c_joinListsA:Con:=⟨[.sl .atom,.sl .atom],[.sl .atom],fun (a,b,_)=>a.length<=1048576/\b.length<=1048576,.inl fun (a,b,_)=>(a ++ b,()),fun _=>0⟩
abbrev L_joinListsA:List (FuncId × Con):=[]
abbrev P_joinListsA:List (FuncId × PT):=[]
def VC_joinListsA (a:List GAtom) (b:List GAtom) (k:Nat):Prop:=TN/\True/\True/\True/\True/\(inK .i64 (((a.length:Nat):Int)+((b.length:Nat):Int)))/\(TN/\(0<=(0:Int)/\(0:Int)<=(((a.length:Nat):Int)+((b.length:Nat):Int))/\(((a.length:Nat):Int)+((b.length:Nat):Int))<=4294967296))/\True/\True/\True/\(TN/\TF/\TF/\((List.replicate 0 (⟨0,0,0⟩:GAtom)).length+a.length<=4294967296))/\True/\(TN/\TF/\TF/\(((List.replicate 0 (⟨0,0,0⟩:GAtom)) ++ a).length+b.length<=4294967296))/\True/\(((((List.replicate 0 (⟨0,0,0⟩:GAtom)) ++ a) ++ b,()):(List GAtom) × Unit)=(a ++ b,()))/\(True/\True)/\((TF/\TF)/\True)/\True/\(True/\True)/\TF
theorem vcn_joinListsA (a:List GAtom) (b:List GAtom) (k:Nat) (hp:a.length<=1048576/\b.length<=1048576):VC_joinListsA a b k:=by
 unfold VC_joinListsA
 simp only [cln,Nat.reduceEqDiff,Nat.reduceLeDiff,Nat.reduceAdd]
 all_goals (try simp only [opn])
 all_goals (repeat' (first | apply And.intro | intro _))
 all_goals (first | omega | (simp_all;done) | grind [])
theorem ok_joinListsA:FnOk Try.prog E 79 c_joinListsA :=
 fn_okQ (l:=L_joinListsA) (lp:=P_joinListsA) (hp:=fun _=>false) (gcs:=fun _=>none) (perm:=fun _=>[]) tabOk mix trivial trivial Try.func79 rfl (by kernel_rfl) (by decide) (by kernel_rfl) (anns:=fun x _=>fun _ _=>none) (fun ⟨a,b,_⟩ k hp _=>Eq.mp (by kernel_rfl) (vcn_joinListsA a b k hp)) tot_fn
abbrev c_iStarAssertions:Con:=⟨[.asn,.asn],[.asn,.bool],fun (a,b,_)=>a.facts.length<=1048576/\a.atoms.length<=1048576/\b.facts.length<=1048576/\b.atoms.length<=1048576,.inl fun (a,b,_)=>(starL a b,starOk a b,()),fun _=>0⟩
abbrev L_iStarAssertions:List (FuncId × Con):=[(37,c_iAssertionValid),(78,c_joinListsF),(79,c_joinListsA)]
abbrev P_iStarAssertions:List (FuncId × PT):=[]
def VC_iStarAssertions_1 (a:GAsn) (b:GAsn):Prop:=(((⟨([]:List GFact),([]:List GAtom)⟩:GAsn),false,()):GAsn × Bool × Unit)=(starL a b,starOk a b,())
def VC_iStarAssertions_2 (a:GAsn) (b:GAsn):Prop:=(TN/\TN/\True)/\(TF/\TF)/\True/\(VC_iStarAssertions_1 a b)/\((((240:Nat) ≠ 241)/\True)/\True/\True)/\((TF/\TF)/\(TF/\TF)/\True)/\True/\(True/\True/\True)/\TF
def VC_iStarAssertions (a:GAsn) (b:GAsn) (k:Nat):Prop:=TN/\TN/\(TN/\TN/\TN/\True)/\True/\True/\((a.facts.length<=281474976710656/\a.atoms.length<=281474976710656)/\True/\True)/\True/\True/\(vcIf (!(asV a)) (True/\(VC_iStarAssertions_2 a b)) (True/\((b.facts.length<=281474976710656/\b.atoms.length<=281474976710656)/\True/\True)/\True/\True/\(vcIf (!(asV b)) (VC_iStarAssertions_2 a b) (True/\True/\True/\True/\((a.facts.length<=1048576/\b.facts.length<=1048576)/\True/\TN/\True)/\True/\True/\True/\True/\((a.atoms.length<=1048576/\b.atoms.length<=1048576)/\True/\TN/\True)/\(TN/\TN/\True)/\(TN/\TN/\TN/\True)/\(TF/\TF)/\True/\(((⟨(a.facts ++ b.facts),(a.atoms ++ b.atoms)⟩:GAsn).facts.length<=281474976710656/\(⟨(a.facts ++ b.facts),(a.atoms ++ b.atoms)⟩:GAsn).atoms.length<=281474976710656)/\True/\True)/\True/\(vcIf (!(asV (⟨(a.facts ++ b.facts),(a.atoms ++ b.atoms)⟩:GAsn))) ((TN/\TN/\True)/\(TF/\TF)/\True/\(VC_iStarAssertions_1 a b)/\((((480:Nat) ≠ 481)/\True)/\True/\True)/\((TF/\TF)/\(TF/\TF)/\True)/\True/\(True/\True/\True)/\TF) (True/\(TF/\TF)/\True/\((((⟨(a.facts ++ b.facts),(a.atoms ++ b.atoms)⟩:GAsn),true,()):GAsn × Bool × Unit)=(starL a b,starOk a b,()))/\((((320:Nat) ≠ 400)/\True)/\True/\True)/\((TF/\TF)/\(TF/\TF)/\True)/\True/\(True/\True/\True)/\TF))))))
theorem vcn_iStarAssertions (a:GAsn) (b:GAsn) (k:Nat) (hp:a.facts.length<=1048576/\a.atoms.length<=1048576/\b.facts.length<=1048576/\b.atoms.length<=1048576):VC_iStarAssertions a b k:=by
 unfold VC_iStarAssertions VC_iStarAssertions_2 VC_iStarAssertions_1
 simp only [cln,Nat.reduceEqDiff,Nat.reduceLeDiff,Nat.reduceAdd]
 all_goals (try simp only [opn])
 all_goals (repeat' (first | apply And.intro | intro _))
 all_goals (first | omega | (simp_all;done) | grind [starL,starOk,starA])
theorem ok_iStarAssertions:FnOk Try.prog E 32 c_iStarAssertions :=
 fn_okQ (l:=L_iStarAssertions) (lp:=P_iStarAssertions) (hp:=fun _=>false) (gcs:=fun _=>none) (perm:=fun _=>[]) tabOk mix ⟨ok_iAssertionValid,ok_joinListsF,ok_joinListsA,trivial⟩ trivial Try.func32 rfl (by kernel_rfl) (by decide) (by kernel_rfl) (anns:=fun x _=>fun _ _=>none) (fun ⟨a,b,_⟩ k hp _=>Eq.mp (by kernel_rfl) (vcn_iStarAssertions a b k hp)) tot_fn
abbrev c_pickAtoms:Con:=⟨[.asn,.int],[.asn],fun (a,mask,_)=>a.facts.length<=1048576/\a.atoms.length<=1048576,.inl fun (a,mask,_)=>(⟨[],pkA mask a.atoms⟩,()),fun _=>0⟩
abbrev L_pickAtoms:List (FuncId × Con):=[]
abbrev P_pickAtoms:List (FuncId × PT):=[]
def an_pickAtoms (a:GAsn) (mask:Int):Nat->St->Option Ann
 | 3,se=>some { α:=Nat,ok:=fun i=>i<=a.atoms.length,mu:=fun i=>a.atoms.length - i,i0:=fun _=>0,nx:=fun a _=>(fun i=>i+1) a,live:=[1,4,5,9,10],sets:=fun i=>[(11,sv (.int .i64 i))],mids:=[64,65,79],blks:=fun i=>[(95,.blk [.own 7,.own 8])],owns:=fun i=>[⟨7,.cell 95 0,.fact,[]⟩,⟨8,.cell 95 1,.atom,pk mask a.atoms i⟩],rd:=fun r _=>r,base:=100000 }
 | _,_=>none
def VC_pickAtoms_1 (mask:Int) (a:GAsn):Prop:=RL [.s (.c (.d (.val (.int .i64 mask)))),.s (.c (.ptr 79 0)),.s (.c (.ptr 95 0)),.s (.c (.d (.arr .atom a.atoms))),.s (.c (.d (.val (.int .i64 ((a.atoms.length:Nat):Int)))))]
def VC_pickAtoms_2 :Prop:=RM [some (.sl 64 .fact ([]:List GFact)),some (.sl 65 .atom ([]:List GAtom)),some (.blk [.own 64,.own 65])]
def VC_pickAtoms_3 (i1:Nat):Prop:=([.s (.c (.d (.val (.int .i64 (((i1:Nat):Int)+(1:Int))))))]:List S)=[.s (.c (.d (.val (.int .i64 (((i1+1):Nat):Int)))))]
def VC_pickAtoms (a:GAsn) (mask:Int) (k:Nat):Prop:=TN/\(TN/\TN/\TN/\True)/\(TN/\TN/\TN/\True)/\True/\True/\True/\True/\((0<=a.atoms.length)/\TT/\(VC_pickAtoms_1 mask a)/\(([.s (.c (.d (.val (.int .i64 (0:Int)))))]:List S)=[.s (.c (.d (.val (.int .i64 ((0:Nat):Int)))))])/\VC_pickAtoms_2/\(RM [some (.blk [.own 80,.own 81])])/\(((some ([]:List GFact):Option (List GFact))=some [])/\((some ([]:List GAtom):Option (List GAtom))=some (pk mask a.atoms 0))/\True)/\TT)/\(∀ i1:Nat,(i1<=a.atoms.length)->True/\(vcIf (decide (((i1:Nat):Int) < ((a.atoms.length:Nat):Int))) (True/\(0<=((i1:Nat):Int)/\((i1:Nat):Int) < ((a.atoms.length:Nat):Int))/\True/\(TN/\True)/\True/\(TF/\TF)/\True/\True/\(0<=((i1:Nat):Int))/\True/\True/\(vcIf ((bits .and .i64 (Int.fdiv mask (2 ^ (min i1 (IntKind.bits .i64)))) (1:Int)) == (1:Int)) (True/\True/\True/\(TN/\True)/\(TN/\TF/\TF/\((pk mask a.atoms i1).length+([(a.atoms.getD i1 (⟨0,0,0⟩:GAtom))]:List GAtom).length<=4294967296))/\True/\(TF/\TF)/\(inK .i64 (((i1:Nat):Int)+(1:Int)))/\True/\((i1+1)<=a.atoms.length)/\(a.atoms.length - (i1+1) < a.atoms.length - i1)/\TT/\(VC_pickAtoms_1 mask a)/\(VC_pickAtoms_3 i1)/\VC_pickAtoms_2/\(RM [some (.blk [.own 7,.own 100400])])/\(((some []:Option (List GFact))=some [])/\((some ((pk mask a.atoms i1) ++ ([(a.atoms.getD i1 (⟨0,0,0⟩:GAtom))]:List GAtom)):Option (List GAtom))=some (pk mask a.atoms (i1+1)))/\True)/\TT) ((inK .i64 (((i1:Nat):Int)+(1:Int)))/\True/\((i1+1)<=a.atoms.length)/\(a.atoms.length - (i1+1) < a.atoms.length - i1)/\TT/\(VC_pickAtoms_1 mask a)/\(VC_pickAtoms_3 i1)/\VC_pickAtoms_2/\(RM [some (.blk [.own 7,.own 8])])/\(((some []:Option (List GFact))=some [])/\((some (pk mask a.atoms i1):Option (List GAtom))=some (pk mask a.atoms (i1+1)))/\True)/\TT))) (True/\(TF/\TF)/\((((⟨[],pk mask a.atoms i1⟩:GAsn),()):GAsn × Unit)=(⟨[],pkA mask a.atoms⟩,()))/\((((7:Nat) ≠ 8)/\True)/\True/\True)/\((TF/\TF)/\(TF/\TF)/\True)/\True/\(True/\True/\True)/\TF)))
theorem vcn_pickAtoms (a:GAsn) (mask:Int) (k:Nat) (hp:a.facts.length<=1048576/\a.atoms.length<=1048576):VC_pickAtoms a mask k:=by
 unfold VC_pickAtoms VC_pickAtoms_3 VC_pickAtoms_2 VC_pickAtoms_1
 simp only [cln,Nat.reduceEqDiff,Nat.reduceLeDiff,Nat.reduceAdd]
 have hs:=pk_step mask a.atoms
 have hl:=pk_len mask a.atoms
 all_goals (try simp only [opn])
 all_goals (repeat' (first | apply And.intro | intro _))
 all_goals (first | omega | (simp_all;done) | grind [pkA,mbit,pk])
theorem ok_pickAtoms:FnOk Try.prog E 73 c_pickAtoms :=
 fn_okQ (l:=L_pickAtoms) (lp:=P_pickAtoms) (hp:=fun _=>false) (gcs:=fun _=>none) (perm:=fun _=>[]) tabOk mix trivial trivial Try.func73 rfl (by kernel_rfl) (by decide) (by kernel_rfl) (anns:=fun x _=>an_pickAtoms x.1 x.2.1) (fun ⟨a,mask,_⟩ k hp _=>Eq.mp (by kernel_rfl) (vcn_pickAtoms a mask k hp)) tot_fn
abbrev c_tsWith:Con:=⟨[.u16,.int],[.u16],fun (s,t,_)=>0<=s/\s < 512,.inl fun (s,t,_)=>(tsWith s t,()),fun _=>0⟩
abbrev L_tsWith:List (FuncId × Con):=[(126,c_isTerm)]
abbrev P_tsWith:List (FuncId × PT):=[]
def VC_tsWith (s:Int) (t:Int) (k:Nat):Prop:=True/\True/\(True/\True/\True)/\True/\(vcIf (!(isT t)) (True/\True/\(((s,()):Int × Unit)=(tsWith s t,()))/\True/\True/\True/\True/\TF) (True/\True/\(0<=t)/\True/\True/\(((bits .or .u16 s (IntKind.wrap .u16 ((1:Int) * 2 ^ (min t.toNat (IntKind.bits .u16)))),()):Int × Unit)=(tsWith s t,()))/\True/\True/\True/\True/\TF))
theorem vcn_tsWith (s:Int) (t:Int) (k:Nat) (hp:0<=s/\s < 512):VC_tsWith s t k:=by
 unfold VC_tsWith
 simp only [cln,Nat.reduceEqDiff,Nat.reduceLeDiff,Nat.reduceAdd]
 simp only [vcIf_iff]
 exact ⟨fun h=>(tsWith_no (by simpa using h)).symm,fun h=>⟨(isT_iff.1 (by simpa using h)).1,tsWith_eq hp.1 hp.2 (by simpa using h)⟩⟩
theorem ok_tsWith:FnOk Try.prog E 133 c_tsWith :=
 fn_okQ (l:=L_tsWith) (lp:=P_tsWith) (hp:=fun _=>false) (gcs:=fun _=>none) (perm:=fun _=>[]) tabOk mix ⟨ok_isTerm,trivial⟩ trivial Try.func133 rfl (by kernel_rfl) (by decide) (by kernel_rfl) (anns:=fun x _=>fun _ _=>none) (fun ⟨s,t,_⟩ k hp _=>Eq.mp (by kernel_rfl) (vcn_tsWith s t k hp)) tot_fn
end Go.Proofs.Ytopjgjelkpkmmaa
