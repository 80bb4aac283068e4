/-
  Contracts of single functions of the program, each shown by the engine: what a call returns for arguments within the contract's bounds.
-/
import Derived.Test.YtkafaeeianofnaaDoorFFnExactFormatPrograma
import Derived.Test.YtkafaeeianofnaaDoorEd
set_option linter.unusedSimpArgs false
set_option linter.unusedVariables false
set_option linter.unusedSectionVars false

namespace Go.Proofs.YtkafaeeianofnaaDoor
open Go.SE Go.RowKit
variable [Base] [Names]
set_option linter.unusedSectionVars false
set_option linter.unusedSimpArgs false
set_option linter.unusedVariables false
set_option maxHeartbeats 1000000
set_option maxRecDepth 100000
abbrev c_iFormatAssertion:Con:=⟨[.asn],[.str],fun (a,_)=>a.facts.length<=281474976710656/\a.atoms.length<=281474976710656,.inl fun (a,_)=>(if asV a=true then asnT a else ⟨#[]⟩,()),fun _=>0⟩
abbrev L_iFormatAssertion:List (FuncId × Con):=[(31,c_iFormatFact),(50,c_iAssertionValid),(57,c_join),(58,c_formatAtom)]
abbrev P_iFormatAssertion:List (FuncId × PT):=[]
def an_iFormatAssertion (a:GAsn):Nat->St->Option Ann
 | 7,se=>some { α:=Nat,ok:=fun i=>i<=a.facts.length/\asV a=true,mu:=fun i=>a.facts.length - i,i0:=fun _=>0,nx:=fun a _=>(fun i=>i+1) a,live:=[1,2,4,19,20],sets:=fun i=>[(21,sv (.int .i64 i))],mids:=[31],blks:=fun i=>[],owns:=fun i=>[⟨7,.slot 5,.str,(a.facts.take i).map factT⟩],rd:=fun r _=>r,base:=100000 }
 | 15,se=>some { α:=Nat,ok:=fun i=>i<=a.atoms.length/\asV a=true,mu:=fun i=>a.atoms.length - i,i0:=fun _=>0,nx:=fun a _=>(fun i=>i+1) a,live:=[2,3,38,39],sets:=fun i=>[(40,sv (.int .i64 i))],mids:=[],blks:=fun i=>[],owns:=fun i=>[⟨7,.slot 8,.str,(a.atoms.take i).map atomT⟩],rd:=fun r _=>r,base:=200000 }
 | _,_=>none
def VC_iFormatAssertion_1 (a:GAsn):Prop:=RL [.s (.c (.ptr 31 0)),.s (.c (.d (.val (.string (⟨#[]⟩:ByteArray))))),.s (.c (.d (.val (.string (⟨#[101,109,112]⟩:ByteArray))))),.s (.c (.d (.arr .fact a.facts))),.s (.c (.d (.val (.int .i64 ((a.facts.length:Nat):Int)))))]
def VC_iFormatAssertion_2 :Prop:=([.s (.c (.d (.val (.int .i64 (0:Int)))))]:List S)=[.s (.c (.d (.val (.int .i64 ((0:Nat):Int)))))]
def VC_iFormatAssertion_3 (i1:Nat):Prop:=([.s (.c (.d (.val (.int .i64 (((i1:Nat):Int)+(1:Int))))))]:List S)=[.s (.c (.d (.val (.int .i64 (((i1+1):Nat):Int)))))]
def VC_iFormatAssertion_4 (a:GAsn) (i1:Nat):Prop:=RL [.s (.c (.d (.val (.string (⟨#[]⟩:ByteArray))))),.s (.c (.d (.val (.string (joinB ((a.facts.take i1).map factT) (⟨#[32,38,32]⟩:ByteArray)))))),.s (.c (.d (.arr .atom a.atoms))),.s (.c (.d (.val (.int .i64 ((a.atoms.length:Nat):Int)))))]
def VC_iFormatAssertion_5 (a:GAsn):Prop:=VC_iFormatAssertion_2/\(RM [])/\(RM [])/\(((some ([]:List ByteArray):Option (List ByteArray))=some ((a.atoms.take 0).map atomT))/\True)/\TT
def VC_iFormatAssertion_6 (a:GAsn) (i2:Nat):Prop:=TN/\TF/\TF/\(((a.atoms.take i2).map atomT).length+([(atomT (a.atoms.getD i2 (⟨0,0,0⟩:GAtom)))]:List ByteArray).length<=4294967296)
def VC_iFormatAssertion_7 (i2:Nat) (a:GAsn):Prop:=(VC_iFormatAssertion_3 i2)/\(RM [])/\(RM [])/\(((some (((a.atoms.take i2).map atomT) ++ ([(atomT (a.atoms.getD i2 (⟨0,0,0⟩:GAtom)))]:List ByteArray)):Option (List ByteArray))=some ((a.atoms.take (i2+1)).map atomT))/\True)/\TT
def VC_iFormatAssertion_8 (a:GAsn) (i2:Nat):Prop:=(List.length (α:=ByteArray) ((a.atoms.take i2).map atomT)<=4294967296/\(joinB ((a.atoms.take i2).map atomT) (⟨#[32,42,32]⟩:ByteArray)).size<=140737488355328)/\True/\True
def VC_iFormatAssertion_9 (a:GAsn) (i1:Nat):Prop:=(((joinB ((a.facts.take i1).map factT) (⟨#[32,38,32]⟩:ByteArray)).size+(⟨#[32,124,32]⟩:ByteArray).size:Nat):Int)<=9223372036854775807
def VC_iFormatAssertion_10 (i1:Nat) (a:GAsn):Prop:=(True/\(vcIf (decide (((i1:Nat):Int) < ((a.facts.length:Nat):Int))) ((0<=((i1:Nat):Int)/\((i1:Nat):Int) < ((a.facts.length:Nat):Int))/\True/\(TN/\True)/\(TF/\TF)/\True/\True/\(True/\True/\True)/\(TN/\True)/\(TN/\TF/\TF/\(((a.facts.take i1).map factT).length+([(if fV (a.facts.getD i1 (⟨false,0,0⟩:GFact))=true then factT (a.facts.getD i1 (⟨false,0,0⟩:GFact)) else ⟨#[]⟩)]:List ByteArray).length<=4294967296))/\True/\(inK .i64 (((i1:Nat):Int)+(1:Int)))/\True/\((i1+1)<=a.facts.length/\asV a=true)/\(a.facts.length - (i1+1) < a.facts.length - i1)/\TT/\(VC_iFormatAssertion_1 a)/\(VC_iFormatAssertion_3 i1)/\(RM [some (.blk [.d (.arr .fact a.facts),.d (.arr .atom a.atoms)])])/\(RM [])/\(((some (((a.facts.take i1).map factT) ++ ([(if fV (a.facts.getD i1 (⟨false,0,0⟩:GFact))=true then factT (a.facts.getD i1 (⟨false,0,0⟩:GFact)) else ⟨#[]⟩)]:List ByteArray)):Option (List ByteArray))=some ((a.facts.take (i1+1)).map factT))/\True)/\TT) (True/\((List.length (α:=ByteArray) ((a.facts.take i1).map factT)<=4294967296/\(joinB ((a.facts.take i1).map factT) (⟨#[32,38,32]⟩:ByteArray)).size<=140737488355328)/\True/\True)/\True/\True/\True/\True/\True/\(vcIf (decide ((0:Int) < ((a.atoms.length:Nat):Int))) (TN/\True/\True/\True/\True/\((0<=a.atoms.length/\asV a=true)/\TT/\(VC_iFormatAssertion_4 a i1)/\(VC_iFormatAssertion_5 a))/\(∀ i2:Nat,(i2<=a.atoms.length/\asV a=true)->True/\(vcIf (decide (((i2:Nat):Int) < ((a.atoms.length:Nat):Int))) ((0<=((i2:Nat):Int)/\((i2:Nat):Int) < ((a.atoms.length:Nat):Int))/\True/\(TN/\True)/\(TF/\TF)/\True/\True/\(True/\True/\True)/\(TN/\True)/\(VC_iFormatAssertion_6 a i2)/\True/\(inK .i64 (((i2:Nat):Int)+(1:Int)))/\True/\((i2+1)<=a.atoms.length/\asV a=true)/\(a.atoms.length - (i2+1) < a.atoms.length - i2)/\TT/\(VC_iFormatAssertion_4 a i1)/\(VC_iFormatAssertion_7 i2 a)) (True/\(VC_iFormatAssertion_8 a i2)/\True/\True/\(VC_iFormatAssertion_9 a i1)/\True/\(((((joinB ((a.facts.take i1).map factT) (⟨#[32,38,32]⟩:ByteArray)) ++ (⟨#[32,124,32]⟩:ByteArray)).size+(joinB ((a.atoms.take i2).map atomT) (⟨#[32,42,32]⟩:ByteArray)).size:Nat):Int)<=9223372036854775807)/\True/\(((((joinB ((a.facts.take i1).map factT) (⟨#[32,38,32]⟩:ByteArray)) ++ (⟨#[32,124,32]⟩:ByteArray)) ++ (joinB ((a.atoms.take i2).map atomT) (⟨#[32,42,32]⟩:ByteArray)),()):ByteArray × Unit)=(if asV a=true then asnT a else ⟨#[]⟩,()))/\True/\True/\True/\True/\TF)))) (True/\(VC_iFormatAssertion_9 a i1)/\True/\(((((joinB ((a.facts.take i1).map factT) (⟨#[32,38,32]⟩:ByteArray)) ++ (⟨#[32,124,32]⟩:ByteArray)).size+(⟨#[101,109,112]⟩:ByteArray).size:Nat):Int)<=9223372036854775807)/\True/\(((((joinB ((a.facts.take i1).map factT) (⟨#[32,38,32]⟩:ByteArray)) ++ (⟨#[32,124,32]⟩:ByteArray)) ++ (⟨#[101,109,112]⟩:ByteArray),()):ByteArray × Unit)=(if asV a=true then asnT a else ⟨#[]⟩,()))/\True/\True/\True/\True/\TF)))))
def VC_iFormatAssertion_11 (a:GAsn):Prop:=RL [.s (.c (.d (.val (.string (⟨#[]⟩:ByteArray))))),.s (.c (.d (.val (.string (⟨#[116,114,117,101]⟩:ByteArray))))),.s (.c (.d (.arr .atom a.atoms))),.s (.c (.d (.val (.int .i64 ((a.atoms.length:Nat):Int)))))]
def VC_iFormatAssertion_12 :Prop:=(((⟨#[116,114,117,101]⟩:ByteArray).size+(⟨#[32,124,32]⟩:ByteArray).size:Nat):Int)<=9223372036854775807
def VC_iFormatAssertion (a:GAsn) (k:Nat):Prop:=TN/\True/\True/\((a.facts.length<=281474976710656/\a.atoms.length<=281474976710656)/\True/\True)/\True/\(vcIf (!(asV a)) (True/\((((⟨#[]⟩:ByteArray),()):ByteArray × Unit)=(if asV a=true then asnT a else ⟨#[]⟩,()))/\True/\True/\True/\True/\TF) (True/\True/\True/\True/\True/\True/\(vcIf (decide ((0:Int) < ((a.facts.length:Nat):Int))) (TN/\True/\True/\True/\True/\((0<=a.facts.length/\asV a=true)/\TT/\(VC_iFormatAssertion_1 a)/\VC_iFormatAssertion_2/\(RM [some (.blk [.d (.arr .fact a.facts),.d (.arr .atom a.atoms)])])/\(RM [])/\(((some ([]:List ByteArray):Option (List ByteArray))=some ((a.facts.take 0).map factT))/\True)/\TT)/\(∀ i1:Nat,(i1<=a.facts.length/\asV a=true)->(VC_iFormatAssertion_10 i1 a))) (True/\True/\True/\True/\(vcIf (decide ((0:Int) < ((a.atoms.length:Nat):Int))) (TN/\True/\True/\True/\True/\((0<=a.atoms.length/\asV a=true)/\TT/\(VC_iFormatAssertion_11 a)/\(VC_iFormatAssertion_5 a))/\(∀ i3:Nat,(i3<=a.atoms.length/\asV a=true)->True/\(vcIf (decide (((i3:Nat):Int) < ((a.atoms.length:Nat):Int))) ((0<=((i3:Nat):Int)/\((i3:Nat):Int) < ((a.atoms.length:Nat):Int))/\True/\(TN/\True)/\(TF/\TF)/\True/\True/\(True/\True/\True)/\(TN/\True)/\(VC_iFormatAssertion_6 a i3)/\True/\(inK .i64 (((i3:Nat):Int)+(1:Int)))/\True/\((i3+1)<=a.atoms.length/\asV a=true)/\(a.atoms.length - (i3+1) < a.atoms.length - i3)/\TT/\(VC_iFormatAssertion_11 a)/\(VC_iFormatAssertion_7 i3 a)) (True/\(VC_iFormatAssertion_8 a i3)/\True/\True/\VC_iFormatAssertion_12/\True/\(((((⟨#[116,114,117,101]⟩:ByteArray) ++ (⟨#[32,124,32]⟩:ByteArray)).size+(joinB ((a.atoms.take i3).map atomT) (⟨#[32,42,32]⟩:ByteArray)).size:Nat):Int)<=9223372036854775807)/\True/\(((((⟨#[116,114,117,101]⟩:ByteArray) ++ (⟨#[32,124,32]⟩:ByteArray)) ++ (joinB ((a.atoms.take i3).map atomT) (⟨#[32,42,32]⟩:ByteArray)),()):ByteArray × Unit)=(if asV a=true then asnT a else ⟨#[]⟩,()))/\True/\True/\True/\True/\TF)))) (True/\VC_iFormatAssertion_12/\True/\(((((⟨#[116,114,117,101]⟩:ByteArray) ++ (⟨#[32,124,32]⟩:ByteArray)).size+(⟨#[101,109,112]⟩:ByteArray).size:Nat):Int)<=9223372036854775807)/\True/\(((((⟨#[116,114,117,101]⟩:ByteArray) ++ (⟨#[32,124,32]⟩:ByteArray)) ++ (⟨#[101,109,112]⟩:ByteArray),()):ByteArray × Unit)=(if asV a=true then asnT a else ⟨#[]⟩,()))/\True/\True/\True/\True/\TF))))))
theorem vcn_iFormatAssertion (a:GAsn) (k:Nat) (hp:a.facts.length<=281474976710656/\a.atoms.length<=281474976710656):VC_iFormatAssertion a k:=by
 unfold VC_iFormatAssertion VC_iFormatAssertion_12 VC_iFormatAssertion_11 VC_iFormatAssertion_10 VC_iFormatAssertion_9 VC_iFormatAssertion_8 VC_iFormatAssertion_7 VC_iFormatAssertion_6 VC_iFormatAssertion_5 VC_iFormatAssertion_4 VC_iFormatAssertion_3 VC_iFormatAssertion_2 VC_iFormatAssertion_1
 simp only [cln,Nat.reduceEqDiff,Nat.reduceLeDiff,Nat.reduceAdd]
 have sz:=fun h i=>(fa_sz (a:=a) h i 0).1
 have sy:=fun h i=>(fa_sz (a:=a) h 0 i).2
 have b1:=fun h=>(asV_facts (a:=a) h).2.1
 have b2:=fun h=>(asV_facts (a:=a) h).2.2.2
 all_goals (try simp only [vcIf_iff,decide_eq_true_eq,decide_eq_false_iff_not,bne_iff_ne,ne_eq,beq_iff_eq,beq_eq_false_iff_ne,bne_eq_false_iff_eq,Bool.not_eq_true',Bool.not_eq_false',Int.ofNat_lt,Int.natCast_inj])
 all_goals (repeat' (first | apply And.intro | intro _))
 all_goals (repeat (cases ‹_/\_›))
 all_goals (first | omega | with_reducible assumption | with_reducible rfl | skip)
 all_goals (first
  | (simp only [List.length_map,List.length_take];omega)
  | exact fa_fact ‹_› ‹_›
  | exact fa_atom ‹_›
  | exact Nat.le_trans (sz ‹_› _) (by decide)
  | exact Nat.le_trans (sy ‹_› _) (by decide)
  | exact fa_all ‹_› (fa_F ‹_› ‹_› ‹_›) (fa_A ‹_› ‹_› ‹_›)
  | exact fa_all ‹_› (fa_F ‹_› ‹_› ‹_›) (fa_A0 ‹_›)
  | exact fa_all ‹_› (fa_F0 ‹_›) (fa_A ‹_› ‹_› ‹_›)
  | exact fa_all ‹_› (fa_F0 ‹_›) (fa_A0 ‹_›)
  | ((try simp only [ba_size,ba_lit,List.size_toArray,List.length_cons,List.length_nil]);grind)
  | (simp [*];done)
  | skip)
theorem ok_iFormatAssertion:FnOk Tryd.prog E 32 c_iFormatAssertion :=
 fn_okQ (l:=L_iFormatAssertion) (lp:=P_iFormatAssertion) (hp:=fun _=>false) (gcs:=fun _=>none) (perm:=fun _=>[]) tabOk mix ⟨ok_iFormatFact,ok_iAssertionValid,ok_join,ok_formatAtom,trivial⟩ trivial Tryd.func32 rfl (by kernel_rfl) (by decide) (by kernel_rfl) (anns:=fun x _=>an_iFormatAssertion x.1) (fun ⟨a,_⟩ k hp _=>Eq.mp (by kernel_rfl) (vcn_iFormatAssertion a k hp)) tot_fn
abbrev c_formatBasic:Con:=⟨[.cmd],[.str],fun _=>True,.inl fun (c,_)=>(bscT c,()),fun _=>0⟩
abbrev L_formatBasic:List (FuncId × Con):=[(56,c_iTermName)]
abbrev P_formatBasic:List (FuncId × PT):=[]
def VC_formatBasic (c:GCmd) (k:Nat):Prop:=TN/\True/\True/\True/\(True/\True/\True)/\True/\True/\(True/\True/\True)/\True/\True/\True/\True/\True/\True/\(vcIf (c.kind == (1:Int)) (True/\((((nmB c.a).size+(⟨#[58,61]⟩:ByteArray).size:Nat):Int)<=9223372036854775807)/\True/\(((((nmB c.a) ++ (⟨#[58,61]⟩:ByteArray)).size+(nmB c.b).size:Nat):Int)<=9223372036854775807)/\True/\(((((nmB c.a) ++ (⟨#[58,61]⟩:ByteArray)) ++ (nmB c.b),()):ByteArray × Unit)=(bscT c,()))/\True/\True/\True/\True/\TF) (True/\True/\(vcIf (c.kind == (2:Int)) (True/\((((nmB c.a).size+(⟨#[58,61,91]⟩:ByteArray).size:Nat):Int)<=9223372036854775807)/\True/\(((((nmB c.a) ++ (⟨#[58,61,91]⟩:ByteArray)).size+(nmB c.b).size:Nat):Int)<=9223372036854775807)/\((((((nmB c.a) ++ (⟨#[58,61,91]⟩:ByteArray)) ++ (nmB c.b)).size+(⟨#[93]⟩:ByteArray).size:Nat):Int)<=9223372036854775807)/\True/\((((((nmB c.a) ++ (⟨#[58,61,91]⟩:ByteArray)) ++ (nmB c.b)) ++ (⟨#[93]⟩:ByteArray),()):ByteArray × Unit)=(bscT c,()))/\True/\True/\True/\True/\TF) (True/\True/\(vcIf (c.kind == (3:Int)) (True/\((((⟨#[91]⟩:ByteArray).size+(nmB c.a).size:Nat):Int)<=9223372036854775807)/\(((((⟨#[91]⟩:ByteArray) ++ (nmB c.a)).size+(⟨#[93,58,61]⟩:ByteArray).size:Nat):Int)<=9223372036854775807)/\True/\((((((⟨#[91]⟩:ByteArray) ++ (nmB c.a)) ++ (⟨#[93,58,61]⟩:ByteArray)).size+(nmB c.b).size:Nat):Int)<=9223372036854775807)/\True/\((((((⟨#[91]⟩:ByteArray) ++ (nmB c.a)) ++ (⟨#[93,58,61]⟩:ByteArray)) ++ (nmB c.b),()):ByteArray × Unit)=(bscT c,()))/\True/\True/\True/\True/\TF) (True/\True/\(vcIf (c.kind == (4:Int)) (True/\((((⟨#[110,101,119,32]⟩:ByteArray).size+(nmB c.a).size:Nat):Int)<=9223372036854775807)/\True/\((((⟨#[110,101,119,32]⟩:ByteArray) ++ (nmB c.a),()):ByteArray × Unit)=(bscT c,()))/\True/\True/\True/\True/\TF) (True/\((((⟨#[102,114,101,101,32]⟩:ByteArray).size+(nmB c.a).size:Nat):Int)<=9223372036854775807)/\True/\((((⟨#[102,114,101,101,32]⟩:ByteArray) ++ (nmB c.a),()):ByteArray × Unit)=(bscT c,()))/\True/\True/\True/\True/\TF))))))))
theorem vcn_formatBasic (c:GCmd) (k:Nat):VC_formatBasic c k:=by
 unfold VC_formatBasic
 simp only [cln,Nat.reduceEqDiff,Nat.reduceLeDiff,Nat.reduceAdd,GCmd.eta]
 have n1:=nmB_size c.a
 have n2:=nmB_size c.b
 all_goals (try simp only [vcIf_iff,decide_eq_true_eq,decide_eq_false_iff_not,bne_iff_ne,ne_eq,beq_iff_eq,beq_eq_false_iff_ne,bne_eq_false_iff_eq,Bool.not_eq_true',Bool.not_eq_false',Int.ofNat_lt,Int.natCast_inj])
 all_goals (repeat' (first | apply And.intro | intro _))
 all_goals (repeat (cases ‹_/\_›))
 all_goals (first | omega | with_reducible assumption | with_reducible rfl | (simp only [ba_size,ba_lit,List.size_toArray,List.length_cons,List.length_nil];omega) | skip)
 all_goals (first | (simp [bscT, *];done) | skip)
theorem ok_formatBasic:FnOk Tryd.prog E 33 c_formatBasic :=
 fn_okQ (l:=L_formatBasic) (lp:=P_formatBasic) (hp:=fun _=>false) (gcs:=fun _=>none) (perm:=fun _=>[]) tabOk mix ⟨ok_iTermName,trivial⟩ trivial Tryd.func33 rfl (by kernel_rfl) (by decide) (by kernel_rfl) (anns:=fun x _=>fun _ _=>none) (fun ⟨c,_⟩ k _ _=>Eq.mp (by kernel_rfl) (vcn_formatBasic c k)) tot_fn
end Go.Proofs.YtkafaeeianofnaaDoor

namespace Go.Proofs.YtkafaeeianofnaaDoor
open Go.SE Go.RowKit
variable [Base]
set_option linter.unusedSectionVars false
set_option linter.unusedSimpArgs false
set_option linter.unusedVariables false
set_option maxHeartbeats 1000000
set_option maxRecDepth 100000
abbrev pt_bldS:PT:=ptBS 65
theorem ptok_bldS:PTOk Tryd.prog E 34 pt_bldS:=ptBS_ok (P:=Tryd.prog) (ρ:=Tryd.lays156_ren) { Tryd.lays156 with } Tryd.Builder_Extra_156 rfl
end Go.Proofs.YtkafaeeianofnaaDoor

namespace Go.Proofs.YtkafaeeianofnaaDoor
open Go.SE Go.RowKit
variable [Base] [Names]
set_option linter.unusedSectionVars false
set_option linter.unusedSimpArgs false
set_option linter.unusedVariables false
set_option maxHeartbeats 1000000
set_option maxRecDepth 100000
abbrev c_formatCommands:Con:=⟨[.sl .cmd],[.str],fun (l,_)=>VlL l,.inl fun (l,_)=>(cmL l,()),fun _=>0⟩
abbrev mu_formatCommands:Args c_formatCommands.aks->Nat:=fun (l,_)=>ndL l
abbrev L_formatCommands (m:Nat):List (FuncId × Con):=[(20,c_formatCommands.lim mu_formatCommands m),(31,c_iFormatFact),(32,c_iFormatAssertion),(33,c_formatBasic)]
abbrev P_formatCommands:List (FuncId × PT):=[(30,pt_bldW),(34,pt_bldS)]
def an_formatCommands (l:List GCmd):Nat->St->Option Ann
 | 3,se=>some { α:=Nat,ok:=fun i=>i<=l.length,mu:=fun i=>l.length - i,i0:=fun _=>0,nx:=fun a _=>(fun i=>i+1) a,live:=[2,3,6,7],sets:=fun i=>[(8,sv (.int .i64 i))],mids:=[],blks:=fun i=>[(63,.bld 65 7)],owns:=fun i=>[⟨7,.cell 63 0,.u8,(cmL (l.take i)).data.toList⟩],rd:=fun r _=>r,base:=100000 }
 | _,_=>none
def perm_formatCommands:Nat->List (List Nat)
 | 8=>[[]]
 | 13=>[[]]
 | _=>[]
def hp_formatCommands:Nat->Bool
 | 6=>true
 | 8=>true
 | 10=>true
 | 11=>true
 | 13=>true
 | 14=>true
 | 16=>true
 | _=>false
def VC_formatCommands_1 (l:List GCmd):Prop:=RL [.s (.c (.d (.val (.string (⟨#[]⟩:ByteArray))))),.s (.c (.ptr 63 0)),.s (.c (.d (.arr .cmd l))),.s (.c (.d (.val (.int .i64 ((l.length:Nat):Int)))))]
def VC_formatCommands_2 (l:List GCmd) (i1:Nat) (m:Nat):Prop:=((VlL ((l.getD i1 (Ty.zero .cmd)).body))/\ndL ((l.getD i1 (Ty.zero .cmd)).body) < m)/\True/\True
def VC_formatCommands_3 (i1:Nat):Prop:=([.s (.c (.d (.val (.int .i64 (((i1:Nat):Int)+(1:Int))))))]:List S)=[.s (.c (.d (.val (.int .i64 (((i1+1):Nat):Int)))))]
def VC_formatCommands_4 (l:List GCmd) (i1:Nat) (m:Nat):Prop:=(True/\(vcIf (decide ((0:Int) < ((((l.getD i1 (Ty.zero .cmd)).els).length:Nat):Int))) (True/\True/\(((VlL ((l.getD i1 (Ty.zero .cmd)).els))/\ndL ((l.getD i1 (Ty.zero .cmd)).els) < m)/\True/\True)/\((((⟨#[101,108,115,101,10]⟩:ByteArray).size+(cmL ((l.getD i1 (Ty.zero .cmd)).els)).size:Nat):Int)<=9223372036854775807)/\(((65:Nat)=65)/\TN/\(TF/\TF)/\(TF/\TF)/\(List.length (α:=UInt8) (((cmL (l.take i1)).data.toList) ++ ((((⟨#[105,102,32]⟩:ByteArray) ++ (if fV ((l.getD i1 (Ty.zero .cmd)).test)=true then factT ((l.getD i1 (Ty.zero .cmd)).test) else ⟨#[]⟩)) ++ (⟨#[10]⟩:ByteArray)) ++ (cmL ((l.getD i1 (Ty.zero .cmd)).body))).data.toList)+((⟨#[101,108,115,101,10]⟩:ByteArray) ++ (cmL ((l.getD i1 (Ty.zero .cmd)).els))).size<=4294967296))/\(((65:Nat)=65)/\TN/\(TF/\TF)/\(TF/\TF)/\(List.length (α:=UInt8) ((((cmL (l.take i1)).data.toList) ++ ((((⟨#[105,102,32]⟩:ByteArray) ++ (if fV ((l.getD i1 (Ty.zero .cmd)).test)=true then factT ((l.getD i1 (Ty.zero .cmd)).test) else ⟨#[]⟩)) ++ (⟨#[10]⟩:ByteArray)) ++ (cmL ((l.getD i1 (Ty.zero .cmd)).body))).data.toList) ++ ((⟨#[101,108,115,101,10]⟩:ByteArray) ++ (cmL ((l.getD i1 (Ty.zero .cmd)).els))).data.toList)+(⟨#[101,110,100,10]⟩:ByteArray).size<=4294967296))/\(inK .i64 (((i1:Nat):Int)+(1:Int)))/\True/\((i1+1)<=l.length)/\(l.length - (i1+1) < l.length - i1)/\TT/\(VC_formatCommands_1 l)/\(VC_formatCommands_3 i1)/\(RM [])/\(RM [some (.bld 65 7055360)])/\(((some (((((cmL (l.take i1)).data.toList) ++ ((((⟨#[105,102,32]⟩:ByteArray) ++ (if fV ((l.getD i1 (Ty.zero .cmd)).test)=true then factT ((l.getD i1 (Ty.zero .cmd)).test) else ⟨#[]⟩)) ++ (⟨#[10]⟩:ByteArray)) ++ (cmL ((l.getD i1 (Ty.zero .cmd)).body))).data.toList) ++ ((⟨#[101,108,115,101,10]⟩:ByteArray) ++ (cmL ((l.getD i1 (Ty.zero .cmd)).els))).data.toList) ++ (⟨#[101,110,100,10]⟩:ByteArray).data.toList):Option (List UInt8))=some ((cmL (l.take (i1+1))).data.toList))/\True)/\TT) ((((65:Nat)=65)/\TN/\(TF/\TF)/\(TF/\TF)/\(List.length (α:=UInt8) (((cmL (l.take i1)).data.toList) ++ ((((⟨#[105,102,32]⟩:ByteArray) ++ (if fV ((l.getD i1 (Ty.zero .cmd)).test)=true then factT ((l.getD i1 (Ty.zero .cmd)).test) else ⟨#[]⟩)) ++ (⟨#[10]⟩:ByteArray)) ++ (cmL ((l.getD i1 (Ty.zero .cmd)).body))).data.toList)+(⟨#[101,110,100,10]⟩:ByteArray).size<=4294967296))/\(inK .i64 (((i1:Nat):Int)+(1:Int)))/\True/\((i1+1)<=l.length)/\(l.length - (i1+1) < l.length - i1)/\TT/\(VC_formatCommands_1 l)/\(VC_formatCommands_3 i1)/\(RM [])/\(RM [some (.bld 65 7055360)])/\(((some ((((cmL (l.take i1)).data.toList) ++ ((((⟨#[105,102,32]⟩:ByteArray) ++ (if fV ((l.getD i1 (Ty.zero .cmd)).test)=true then factT ((l.getD i1 (Ty.zero .cmd)).test) else ⟨#[]⟩)) ++ (⟨#[10]⟩:ByteArray)) ++ (cmL ((l.getD i1 (Ty.zero .cmd)).body))).data.toList) ++ (⟨#[101,110,100,10]⟩:ByteArray).data.toList):Option (List UInt8))=some ((cmL (l.take (i1+1))).data.toList))/\True)/\TT)))
def VC_formatCommands_5 (l:List GCmd) (i1:Nat) (m:Nat):Prop:=((((((⟨#[119,104,105,108,101,32]⟩:ByteArray) ++ (if fV ((l.getD i1 (Ty.zero .cmd)).test)=true then factT ((l.getD i1 (Ty.zero .cmd)).test) else ⟨#[]⟩)).size+(⟨#[32,119,105,116,104,32]⟩:ByteArray).size:Nat):Int)<=9223372036854775807)/\True/\True/\((((l.getD i1 (Ty.zero .cmd)).inv).facts.length<=281474976710656/\((l.getD i1 (Ty.zero .cmd)).inv).atoms.length<=281474976710656)/\True/\True)/\((((((⟨#[119,104,105,108,101,32]⟩:ByteArray) ++ (if fV ((l.getD i1 (Ty.zero .cmd)).test)=true then factT ((l.getD i1 (Ty.zero .cmd)).test) else ⟨#[]⟩)) ++ (⟨#[32,119,105,116,104,32]⟩:ByteArray)).size+(if asV ((l.getD i1 (Ty.zero .cmd)).inv)=true then asnT ((l.getD i1 (Ty.zero .cmd)).inv) else ⟨#[]⟩).size:Nat):Int)<=9223372036854775807)/\(((((((⟨#[119,104,105,108,101,32]⟩:ByteArray) ++ (if fV ((l.getD i1 (Ty.zero .cmd)).test)=true then factT ((l.getD i1 (Ty.zero .cmd)).test) else ⟨#[]⟩)) ++ (⟨#[32,119,105,116,104,32]⟩:ByteArray)) ++ (if asV ((l.getD i1 (Ty.zero .cmd)).inv)=true then asnT ((l.getD i1 (Ty.zero .cmd)).inv) else ⟨#[]⟩)).size+(⟨#[10]⟩:ByteArray).size:Nat):Int)<=9223372036854775807)/\(((65:Nat)=65)/\TN/\(TF/\TF)/\(TF/\TF)/\(List.length (α:=UInt8) ((cmL (l.take i1)).data.toList)+(((((⟨#[119,104,105,108,101,32]⟩:ByteArray) ++ (if fV ((l.getD i1 (Ty.zero .cmd)).test)=true then factT ((l.getD i1 (Ty.zero .cmd)).test) else ⟨#[]⟩)) ++ (⟨#[32,119,105,116,104,32]⟩:ByteArray)) ++ (if asV ((l.getD i1 (Ty.zero .cmd)).inv)=true then asnT ((l.getD i1 (Ty.zero .cmd)).inv) else ⟨#[]⟩)) ++ (⟨#[10]⟩:ByteArray)).size<=4294967296))/\True/\True/\(VC_formatCommands_2 l i1 m)/\((((cmL ((l.getD i1 (Ty.zero .cmd)).body)).size+(⟨#[101,110,100,10]⟩:ByteArray).size:Nat):Int)<=9223372036854775807)/\(((65:Nat)=65)/\TN/\(TF/\TF)/\(TF/\TF)/\(List.length (α:=UInt8) (((cmL (l.take i1)).data.toList) ++ (((((⟨#[119,104,105,108,101,32]⟩:ByteArray) ++ (if fV ((l.getD i1 (Ty.zero .cmd)).test)=true then factT ((l.getD i1 (Ty.zero .cmd)).test) else ⟨#[]⟩)) ++ (⟨#[32,119,105,116,104,32]⟩:ByteArray)) ++ (if asV ((l.getD i1 (Ty.zero .cmd)).inv)=true then asnT ((l.getD i1 (Ty.zero .cmd)).inv) else ⟨#[]⟩)) ++ (⟨#[10]⟩:ByteArray)).data.toList)+((cmL ((l.getD i1 (Ty.zero .cmd)).body)) ++ (⟨#[101,110,100,10]⟩:ByteArray)).size<=4294967296))/\(inK .i64 (((i1:Nat):Int)+(1:Int)))/\True/\((i1+1)<=l.length)/\(l.length - (i1+1) < l.length - i1)/\TT/\(VC_formatCommands_1 l)/\(VC_formatCommands_3 i1)/\(RM [])/\(RM [some (.bld 65 7350272)])/\(((some ((((cmL (l.take i1)).data.toList) ++ (((((⟨#[119,104,105,108,101,32]⟩:ByteArray) ++ (if fV ((l.getD i1 (Ty.zero .cmd)).test)=true then factT ((l.getD i1 (Ty.zero .cmd)).test) else ⟨#[]⟩)) ++ (⟨#[32,119,105,116,104,32]⟩:ByteArray)) ++ (if asV ((l.getD i1 (Ty.zero .cmd)).inv)=true then asnT ((l.getD i1 (Ty.zero .cmd)).inv) else ⟨#[]⟩)) ++ (⟨#[10]⟩:ByteArray)).data.toList) ++ ((cmL ((l.getD i1 (Ty.zero .cmd)).body)) ++ (⟨#[101,110,100,10]⟩:ByteArray)).data.toList):Option (List UInt8))=some ((cmL (l.take (i1+1))).data.toList))/\True)/\TT)
def VC_formatCommands_6 (l:List GCmd) (i1:Nat) (m:Nat):Prop:=((TN/\TN/\TN/\TN/\TN/\True)/\(TF/\TF)/\True/\True/\True/\True/\(vcIf (((l.getD i1 (Ty.zero .cmd)).kind) == (6:Int)) (True/\True/\(True/\True/\True)/\((((⟨#[105,102,32]⟩:ByteArray).size+(if fV ((l.getD i1 (Ty.zero .cmd)).test)=true then factT ((l.getD i1 (Ty.zero .cmd)).test) else ⟨#[]⟩).size:Nat):Int)<=9223372036854775807)/\(((((⟨#[105,102,32]⟩:ByteArray) ++ (if fV ((l.getD i1 (Ty.zero .cmd)).test)=true then factT ((l.getD i1 (Ty.zero .cmd)).test) else ⟨#[]⟩)).size+(⟨#[10]⟩:ByteArray).size:Nat):Int)<=9223372036854775807)/\True/\True/\(VC_formatCommands_2 l i1 m)/\((((((⟨#[105,102,32]⟩:ByteArray) ++ (if fV ((l.getD i1 (Ty.zero .cmd)).test)=true then factT ((l.getD i1 (Ty.zero .cmd)).test) else ⟨#[]⟩)) ++ (⟨#[10]⟩:ByteArray)).size+(cmL ((l.getD i1 (Ty.zero .cmd)).body)).size:Nat):Int)<=9223372036854775807)/\(((65:Nat)=65)/\TN/\(TF/\TF)/\(TF/\TF)/\(List.length (α:=UInt8) ((cmL (l.take i1)).data.toList)+((((⟨#[105,102,32]⟩:ByteArray) ++ (if fV ((l.getD i1 (Ty.zero .cmd)).test)=true then factT ((l.getD i1 (Ty.zero .cmd)).test) else ⟨#[]⟩)) ++ (⟨#[10]⟩:ByteArray)) ++ (cmL ((l.getD i1 (Ty.zero .cmd)).body))).size<=4294967296))/\True/\True/\True/\(VC_formatCommands_4 l i1 m)) (True/\True/\(vcIf (((l.getD i1 (Ty.zero .cmd)).kind) == (7:Int)) (True/\True/\(True/\True/\True)/\((((⟨#[119,104,105,108,101,32]⟩:ByteArray).size+(if fV ((l.getD i1 (Ty.zero .cmd)).test)=true then factT ((l.getD i1 (Ty.zero .cmd)).test) else ⟨#[]⟩).size:Nat):Int)<=9223372036854775807)/\(VC_formatCommands_5 l i1 m)) (True/\(True/\True/\True)/\((((bscT (GCmd.mk ((l.getD i1 (Ty.zero .cmd)).kind) ((l.getD i1 (Ty.zero .cmd)).a) ((l.getD i1 (Ty.zero .cmd)).b) ((l.getD i1 (Ty.zero .cmd)).test) ((l.getD i1 (Ty.zero .cmd)).inv) ((l.getD i1 (Ty.zero .cmd)).body) ((l.getD i1 (Ty.zero .cmd)).els))).size+(⟨#[10]⟩:ByteArray).size:Nat):Int)<=9223372036854775807)/\(((65:Nat)=65)/\TN/\(TF/\TF)/\(TF/\TF)/\(List.length (α:=UInt8) ((cmL (l.take i1)).data.toList)+((bscT (GCmd.mk ((l.getD i1 (Ty.zero .cmd)).kind) ((l.getD i1 (Ty.zero .cmd)).a) ((l.getD i1 (Ty.zero .cmd)).b) ((l.getD i1 (Ty.zero .cmd)).test) ((l.getD i1 (Ty.zero .cmd)).inv) ((l.getD i1 (Ty.zero .cmd)).body) ((l.getD i1 (Ty.zero .cmd)).els))) ++ (⟨#[10]⟩:ByteArray)).size<=4294967296))/\(inK .i64 (((i1:Nat):Int)+(1:Int)))/\True/\((i1+1)<=l.length)/\(l.length - (i1+1) < l.length - i1)/\TT/\(VC_formatCommands_1 l)/\(VC_formatCommands_3 i1)/\(RM [])/\(RM [some (.bld 65 6694912)])/\(((some (((cmL (l.take i1)).data.toList) ++ ((bscT (GCmd.mk ((l.getD i1 (Ty.zero .cmd)).kind) ((l.getD i1 (Ty.zero .cmd)).a) ((l.getD i1 (Ty.zero .cmd)).b) ((l.getD i1 (Ty.zero .cmd)).test) ((l.getD i1 (Ty.zero .cmd)).inv) ((l.getD i1 (Ty.zero .cmd)).body) ((l.getD i1 (Ty.zero .cmd)).els))) ++ (⟨#[10]⟩:ByteArray)).data.toList):Option (List UInt8))=some ((cmL (l.take (i1+1))).data.toList))/\True)/\TT)))))
def VC_formatCommands (l:List GCmd) (m:Nat) (k:Nat):Prop:=True/\(TN/\TN/\True)/\True/\True/\True/\((0<=l.length)/\TT/\(VC_formatCommands_1 l)/\(([.s (.c (.d (.val (.int .i64 (0:Int)))))]:List S)=[.s (.c (.d (.val (.int .i64 ((0:Nat):Int)))))])/\(RM [])/\(RM [some (.bld 65 48)])/\(((some ([]:List UInt8):Option (List UInt8))=some ((cmL (l.take 0)).data.toList))/\True)/\TT)/\(∀ i1:Nat,(i1<=l.length)->True/\(vcIf (decide (((i1:Nat):Int) < ((l.length:Nat):Int))) ((0<=((i1:Nat):Int)/\((i1:Nat):Int) < ((l.length:Nat):Int))/\True/\(VC_formatCommands_6 l i1 m)) ((((65:Nat)=65)/\TF/\TF)/\True/\((((⟨List.toArray (α:=UInt8) ((cmL (l.take i1)).data.toList)⟩:ByteArray),()):ByteArray × Unit)=(cmL l,()))/\True/\True/\True/\True/\TF)))
theorem vcn_formatCommands (l:List GCmd) (m:Nat) (k:Nat) (hp:(VlL l)/\ndL l < m+1):VC_formatCommands l m k:=by
 unfold VC_formatCommands VC_formatCommands_6 VC_formatCommands_5 VC_formatCommands_4 VC_formatCommands_3 VC_formatCommands_2 VC_formatCommands_1
 simp only [cln,Nat.reduceEqDiff,Nat.reduceLeDiff,Nat.reduceAdd,GCmd.eta]
 have hz:=VlL.lenb hp.1
 have hb:=fun i (hi:i < l.length)=>VlL.bnd (z:=Ty.zero .cmd) hp.1 hi
 have g1:=fun i=>ff_size (l.getD i (Ty.zero .cmd)).test
 have g2:=fun i=>aa_size (l.getD i (Ty.zero .cmd)).inv
 have g3:=fun i=>bscT_size (l.getD i (Ty.zero .cmd))
 all_goals (try simp only [vcIf_iff,decide_eq_true_eq,decide_eq_false_iff_not,bne_iff_ne,ne_eq,beq_iff_eq,beq_eq_false_iff_ne,bne_eq_false_iff_eq,Bool.not_eq_true',Bool.not_eq_false',Int.ofNat_lt,Int.natCast_inj])
 all_goals (repeat' (first | apply And.intro | intro _))
 all_goals (repeat (cases ‹_/\_›))
 all_goals (first | omega | with_reducible assumption | with_reducible rfl | (with_reducible exact cmy_nil) | (with_reducible exact cm_endB ‹_› ‹_›) | skip)
 all_goals (have bb:=hb _ ‹_›;obtain ⟨b1,b2,b3,b4,b5,b6,b7,b8,b9⟩:=bb)
 all_goals (first
  | omega
  | with_reducible assumption
  | with_reducible exact cmy_ie ‹_› ‹_› ‹_› ‹_›
  | with_reducible exact cmy_in ‹_› ‹_› ‹_› ‹_›
  | with_reducible exact cmy_wh ‹_› ‹_› ‹_›
  | with_reducible exact cmy_bs ‹_› ‹_› ‹_› ‹_›
  | with_reducible exact (fok_inv ‹_› ‹_›).1
  | with_reducible exact (fok_inv ‹_› ‹_›).2
  | ((try simp only [ba_size,ba_lit,bl_len,List.length_append,List.size_toArray,List.length_cons,List.length_nil]);grind)
  | skip)
 all_goals clear hb
theorem ok_formatCommands:FnOk Tryd.prog E 20 c_formatCommands :=
 fn_rec (mu:=mu_formatCommands) (fun m ih=>fn_okQ (con:=c_formatCommands.lim mu_formatCommands (m+1)) (fn:=Tryd.f20) (l:=L_formatCommands m) (lp:=P_formatCommands) (hp:=hp_formatCommands) (gcs:=fun _=>none) (perm:=perm_formatCommands) tabOk mix ⟨ih,ok_iFormatFact,ok_iFormatAssertion,ok_formatBasic,trivial⟩ ⟨ptok_bldW,ptok_bldS,trivial⟩ Tryd.func20 rfl (by kernel_rfl) (show c_formatCommands.aks.length<=Tryd.f20.ntmps by decide) (by kernel_rfl) (anns:=fun x _=>an_formatCommands x.1) (fun ⟨l,_⟩ k hp _=>Eq.mp (by kernel_rfl) (vcn_formatCommands l m k hp)) tot_fn) ⟨_,_,Tryd.func20,by kernel_rfl,rfl⟩ tot_fn
abbrev c_iFormatProgram:Con:=⟨[.sl .cmd],[.str],fun (l,_)=>BdL l,.inl fun (l,_)=>(if prV l=true then cmL l else ⟨#[]⟩,()),fun _=>0⟩
abbrev L_iFormatProgram:List (FuncId × Con):=[(9,c_iProgramValid),(20,c_formatCommands)]
abbrev P_iFormatProgram:List (FuncId × PT):=[]
def VC_iFormatProgram (l:List GCmd) (k:Nat):Prop:=True/\True/\((BdL l)/\True/\True)/\True/\(vcIf (!(prV l)) (True/\((((⟨#[]⟩:ByteArray),()):ByteArray × Unit)=(if prV l=true then cmL l else ⟨#[]⟩,()))/\True/\True/\True/\True/\TF) (True/\((VlL l)/\True/\True)/\True/\((((cmL l),()):ByteArray × Unit)=(if prV l=true then cmL l else ⟨#[]⟩,()))/\True/\True/\True/\True/\TF))
theorem vcn_iFormatProgram (l:List GCmd) (k:Nat) (hp:BdL l):VC_iFormatProgram l k:=by
 unfold VC_iFormatProgram
 simp only [cln,Nat.reduceEqDiff,Nat.reduceLeDiff,Nat.reduceAdd]
 all_goals (try simp only [vcIf_iff,decide_eq_true_eq,decide_eq_false_iff_not,bne_iff_ne,ne_eq,beq_iff_eq,beq_eq_false_iff_ne,bne_eq_false_iff_eq,Bool.not_eq_true',Bool.not_eq_false',Int.ofNat_lt,Int.natCast_inj])
 all_goals (repeat' (first | apply And.intro | intro _))
 all_goals (repeat (cases ‹_/\_›))
 all_goals (first | omega | with_reducible assumption | with_reducible rfl | exact VlL.of ‹_› | (simp [*];done) | skip)
theorem ok_iFormatProgram:FnOk Tryd.prog E 10 c_iFormatProgram :=
 fn_okQ (l:=L_iFormatProgram) (lp:=P_iFormatProgram) (hp:=fun _=>false) (gcs:=fun _=>none) (perm:=fun _=>[]) tabOk mix ⟨ok_iProgramValid,ok_formatCommands,trivial⟩ trivial Tryd.func10 rfl (by kernel_rfl) (by decide) (by kernel_rfl) (anns:=fun x _=>fun _ _=>none) (fun ⟨l,_⟩ k hp _=>Eq.mp (by kernel_rfl) (vcn_iFormatProgram l k hp)) tot_fn
end Go.Proofs.YtkafaeeianofnaaDoor

namespace Go.Proofs.YtkafaeeianofnaaDoor
open Go.SE Go.RowKit
variable [Base]
set_option linter.unusedSectionVars false
set_option linter.unusedSimpArgs false
set_option linter.unusedVariables false
set_option maxHeartbeats 1000000
set_option maxRecDepth 100000
abbrev c_l8Count:Con:=⟨[.sl .cmd,.int],[.int],fun (l,d,_)=>BdL l/\0<=d/\d<=4/\ndL l<=1048576,.inl fun (l,d,_)=>((cnL d l:Int),()),fun _=>0⟩
abbrev mu_l8Count:Args c_l8Count.aks->Nat:=fun (l,d,_)=>ndL l
abbrev L_l8Count (m:Nat):List (FuncId × Con):=[(19,c_l8Count.lim mu_l8Count m)]
abbrev P_l8Count:List (FuncId × PT):=[]
def an_l8Count (l:List GCmd) (d:Int):Nat->St->Option Ann
 | 3,se=>some { α:=Nat,ok:=fun i=>i<=l.length/\(i=0 ∨ 1<=d),mu:=fun i=>l.length - i,i0:=fun _=>0,nx:=fun a _=>(fun i=>i+1) a,live:=[0,1,4],sets:=fun i=>[(6,sv (.int .i64 i)),(5,sv (.int .i64 (cnL d (l.take i))))],mids:=[],blks:=fun i=>[],owns:=fun i=>[],rd:=fun r _=>r,base:=100000 }
 | _,_=>none
def VC_l8Count_1 (l:List GCmd) (d:Int):Prop:=RL [.s (.c (.d (.arr .cmd l))),.s (.c (.d (.val (.int .i64 d)))),.s (.c (.d (.val (.int .i64 (0:Int)))))]
def VC_l8Count_2 (d:Int) (l:List GCmd) (i1:Nat):Prop:=True/\True/\((((cnL d (l.take i1):Int),()):Int × Unit)=((cnL d l:Int),()))/\True/\True/\True/\True/\TF
def VC_l8Count (l:List GCmd) (d:Int) (m:Nat) (k:Nat):Prop:=True/\True/\True/\((0<=l.length/\(0=0 ∨ 1<=d))/\TT/\(VC_l8Count_1 l d)/\(([.s (.c (.d (.val (.int .i64 (0:Int))))),.s (.c (.d (.val (.int .i64 (0:Int)))))]:List S)=[.s (.c (.d (.val (.int .i64 ((0:Nat):Int))))),.s (.c (.d (.val (.int .i64 (cnL d (l.take 0):Int)))))])/\(RM [])/\(RM [])/\True/\TT)/\(∀ i1:Nat,(i1<=l.length/\(i1=0 ∨ 1<=d))->True/\True/\True/\True/\True/\(vcIf (decide (((i1:Nat):Int) < ((l.length:Nat):Int))) (True/\True/\True/\(vcIf (decide ((0:Int) < d)) (True/\(inK .i64 ((cnL d (l.take i1):Int)+(1:Int)))/\True/\True/\(0<=((i1:Nat):Int)/\((i1:Nat):Int) < ((l.length:Nat):Int))/\True/\True/\True/\(inK .i64 (d - (1:Int)))/\(((BdL ((l.getD i1 (Ty.zero .cmd)).body)/\0<=(d - (1:Int))/\(d - (1:Int))<=4/\ndL ((l.getD i1 (Ty.zero .cmd)).body)<=1048576)/\ndL ((l.getD i1 (Ty.zero .cmd)).body) < m)/\True/\True)/\(inK .i64 (((cnL d (l.take i1):Int)+(1:Int))+(cnL (d - (1:Int)) ((l.getD i1 (Ty.zero .cmd)).body):Int)))/\True/\True/\(0<=((i1:Nat):Int)/\((i1:Nat):Int) < ((l.length:Nat):Int))/\True/\True/\True/\(inK .i64 (d - (1:Int)))/\(((BdL ((l.getD i1 (Ty.zero .cmd)).els)/\0<=(d - (1:Int))/\(d - (1:Int))<=4/\ndL ((l.getD i1 (Ty.zero .cmd)).els)<=1048576)/\ndL ((l.getD i1 (Ty.zero .cmd)).els) < m)/\True/\True)/\(inK .i64 ((((cnL d (l.take i1):Int)+(1:Int))+(cnL (d - (1:Int)) ((l.getD i1 (Ty.zero .cmd)).body):Int))+(cnL (d - (1:Int)) ((l.getD i1 (Ty.zero .cmd)).els):Int)))/\True/\True/\(inK .i64 (((i1:Nat):Int)+(1:Int)))/\True/\((i1+1)<=l.length/\((i1+1)=0 ∨ 1<=d))/\(l.length - (i1+1) < l.length - i1)/\TT/\(VC_l8Count_1 l d)/\(([.s (.c (.d (.val (.int .i64 (((i1:Nat):Int)+(1:Int)))))),.s (.c (.d (.val (.int .i64 ((((cnL d (l.take i1):Int)+(1:Int))+(cnL (d - (1:Int)) ((l.getD i1 (Ty.zero .cmd)).body):Int))+(cnL (d - (1:Int)) ((l.getD i1 (Ty.zero .cmd)).els):Int))))))]:List S)=[.s (.c (.d (.val (.int .i64 (((i1+1):Nat):Int))))),.s (.c (.d (.val (.int .i64 (cnL d (l.take (i1+1)):Int)))))])/\(RM [])/\(RM [])/\True/\TT) (VC_l8Count_2 d l i1))) (True/\(VC_l8Count_2 d l i1))))
theorem vcn_l8Count (l:List GCmd) (d:Int) (m:Nat) (k:Nat) (hp:(BdL l/\0<=d/\d<=4/\ndL l<=1048576)/\ndL l < m+1):VC_l8Count l d m k:=by
 unfold VC_l8Count VC_l8Count_2 VC_l8Count_1
 simp only [cln,Nat.reduceEqDiff,Nat.reduceLeDiff,Nat.reduceAdd]
 have hl:=hp.1.1.len
 have hg:∀ i,i < l.length->ndC (l.getD i (Ty.zero .cmd))<=ndL l/\BdL (l.getD i (Ty.zero .cmd)).body/\BdL (l.getD i (Ty.zero .cmd)).els :=
  fun i hi=>⟨ndL_get hi,(hp.1.1.get hi).b,(hp.1.1.get hi).e⟩
 have hn:∀ i,ndC (l.getD i (Ty.zero .cmd))=1+ndL (l.getD i (Ty.zero .cmd)).body+ndL (l.getD i (Ty.zero .cmd)).els:=fun i=>ndC_eq _
 have hs:=fun (i:Nat) (hi:i < l.length) (h1:1<=d)=>cnL_step (d:=d) (z:=Ty.zero .cmd) h1 hi
 have hc:=fun (i:Nat)=>cnC_eq d (l.getD i (Ty.zero .cmd))
 have hz:=fun (h:¬ 1<=d)=>cnL_low h l
 have hb:=fun (i:Nat)=>cnL_le (d - 1) (l.getD i (Ty.zero .cmd)).body
 have he:=fun (i:Nat)=>cnL_le (d - 1) (l.getD i (Ty.zero .cmd)).els
 have ht:=fun (i:Nat)=>cnL_le d (l.take i)
 have hu:=fun (i:Nat)=>ndL_take_le l i
 all_goals (try simp only [vcIf_iff,decide_eq_true_eq,decide_eq_false_iff_not,bne_iff_ne,ne_eq,beq_iff_eq,beq_eq_false_iff_ne,bne_eq_false_iff_eq,Bool.not_eq_true',Bool.not_eq_false',Int.ofNat_lt,Int.natCast_inj])
 all_goals (repeat' (first | apply And.intro | intro _))
 all_goals (repeat (cases ‹_/\_›))
 all_goals (first | omega | (simp_all;done) | grind [cnL_nil,List.take_length] | skip)
theorem ok_l8Count:FnOk Tryd.prog E 19 c_l8Count :=
 fn_rec (mu:=mu_l8Count) (fun m ih=>fn_okQ (con:=c_l8Count.lim mu_l8Count (m+1)) (fn:=Tryd.f19) (l:=L_l8Count m) (lp:=P_l8Count) (hp:=fun _=>false) (gcs:=fun _=>none) (perm:=fun _=>[]) tabOk mix ⟨ih,trivial⟩ trivial Tryd.func19 rfl (by kernel_rfl) (show c_l8Count.aks.length<=Tryd.f19.ntmps by decide) (by kernel_rfl) (anns:=fun x _=>an_l8Count x.1 x.2.1) (fun ⟨l,d,_⟩ k hp _=>Eq.mp (by kernel_rfl) (vcn_l8Count l d m k hp)) tot_fn) ⟨_,_,Tryd.func19,by kernel_rfl,rfl⟩ tot_fn
abbrev c_l1Is:Con:=⟨[.int],[.bool],fun _=>True,.inl fun (t,_)=>(isT t,()),fun _=>0⟩
abbrev L_l1Is:List (FuncId × Con):=[]
abbrev P_l1Is:List (FuncId × PT):=[]
def VC_l1Is (t:Int) (k:Nat):Prop:=True/\True/\True/\True/\(vcIf (decide ((0:Int)<=t)) (True/\True/\True/\True/\(((decide (t<=(8:Int)),()):Bool × Unit)=(isT t,()))/\True/\True/\True/\True/\TF) (True/\True/\(((false,()):Bool × Unit)=(isT t,()))/\True/\True/\True/\True/\TF))
theorem vcn_l1Is (t:Int) (k:Nat):VC_l1Is t k:=by
 unfold VC_l1Is
 simp only [cln,Nat.reduceEqDiff,Nat.reduceLeDiff,Nat.reduceAdd]
 cases h:decide (0<=t) <;> simp [vcIf,isT,h]
theorem ok_l1Is:FnOk Tryd.prog E 74 c_l1Is :=
 fn_okQ (l:=L_l1Is) (lp:=P_l1Is) (hp:=fun _=>false) (gcs:=fun _=>none) (perm:=fun _=>[]) tabOk mix trivial trivial Tryd.func74 rfl (by kernel_rfl) (by decide) (by kernel_rfl) (anns:=fun x _=>fun _ _=>none) (fun ⟨t,_⟩ k _ _=>Eq.mp (by kernel_rfl) (vcn_l1Is t k)) tot_fn
abbrev c_sFactValid:Con:=⟨[.fact],[.bool],fun _=>True,.inl fun (f,_)=>(fV f,()),fun _=>0⟩
abbrev L_sFactValid:List (FuncId × Con):=[(74,c_l1Is)]
abbrev P_sFactValid:List (FuncId × PT):=[]
def VC_sFactValid (f:GFact) (k:Nat):Prop:=TN/\True/\True/\True/\(True/\True/\True)/\True/\(vcIf (isT f.a) (True/\True/\(True/\True/\True)/\True/\True/\((((isT f.b),()):Bool × Unit)=(fV f,()))/\True/\True/\True/\True/\TF) (True/\True/\(((false,()):Bool × Unit)=(fV f,()))/\True/\True/\True/\True/\TF))
theorem vcn_sFactValid (f:GFact) (k:Nat):VC_sFactValid f k:=by
 unfold VC_sFactValid
 simp only [cln,Nat.reduceEqDiff,Nat.reduceLeDiff,Nat.reduceAdd]
 cases h:isT f.a <;> simp [vcIf,fV,h]
theorem ok_sFactValid:FnOk Tryd.prog E 51 c_sFactValid :=
 fn_okQ (l:=L_sFactValid) (lp:=P_sFactValid) (hp:=fun _=>false) (gcs:=fun _=>none) (perm:=fun _=>[]) tabOk mix ⟨ok_l1Is,trivial⟩ trivial Tryd.func51 rfl (by kernel_rfl) (by decide) (by kernel_rfl) (anns:=fun x _=>fun _ _=>none) (fun ⟨f,_⟩ k _ _=>Eq.mp (by kernel_rfl) (vcn_sFactValid f k)) tot_fn
abbrev c_l8NoInv:Con:=⟨[.asn],[.bool],fun (a,_)=>a.facts.length<=281474976710656/\a.atoms.length<=281474976710656,.inl fun (a,_)=>(noA a,()),fun _=>0⟩
abbrev L_l8NoInv:List (FuncId × Con):=[]
abbrev P_l8NoInv:List (FuncId × PT):=[]
def VC_l8NoInv (a:GAsn) (k:Nat):Prop:=TN/\True/\True/\True/\True/\True/\True/\(vcIf (((a.facts.length:Nat):Int) == (0:Int)) (True/\True/\True/\True/\True/\True/\(((((a.atoms.length:Nat):Int) == (0:Int),()):Bool × Unit)=(noA a,()))/\True/\True/\True/\True/\TF) (True/\True/\(((false,()):Bool × Unit)=(noA a,()))/\True/\True/\True/\True/\TF))
theorem vcn_l8NoInv (a:GAsn) (k:Nat) (hp:a.facts.length<=281474976710656/\a.atoms.length<=281474976710656):VC_l8NoInv a k:=by
 unfold VC_l8NoInv
 simp only [cln,Nat.reduceEqDiff,Nat.reduceLeDiff,Nat.reduceAdd]
 all_goals (try simp only [vcIf_iff,decide_eq_true_eq,decide_eq_false_iff_not,bne_iff_ne,ne_eq,beq_iff_eq,beq_eq_false_iff_ne,bne_eq_false_iff_eq,Bool.not_eq_true',Bool.not_eq_false',Int.ofNat_lt,Int.natCast_inj])
 all_goals (repeat' (first | apply And.intro | intro _))
 all_goals (repeat (cases ‹_/\_›))
 all_goals (first | omega | (simp_all;done) | grind [pvV,noA,fokC,fokB,prV,cvB,cvN] | skip)
theorem ok_l8NoInv:FnOk Tryd.prog E 52 c_l8NoInv :=
 fn_okQ (l:=L_l8NoInv) (lp:=P_l8NoInv) (hp:=fun _=>false) (gcs:=fun _=>none) (perm:=fun _=>[]) tabOk mix trivial trivial Tryd.func52 rfl (by kernel_rfl) (by decide) (by kernel_rfl) (anns:=fun x _=>fun _ _=>none) (fun ⟨a,_⟩ k hp _=>Eq.mp (by kernel_rfl) (vcn_l8NoInv a k hp)) tot_fn
abbrev c_l3Atom:Con:=⟨[.atom],[.bool],fun _=>True,.inl fun (x,_)=>(atV x,()),fun _=>0⟩
abbrev L_l3Atom:List (FuncId × Con):=[(74,c_l1Is)]
abbrev P_l3Atom:List (FuncId × PT):=[]
def VC_l3Atom_1 (x:GAtom):Prop:=True/\True/\(((false,()):Bool × Unit)=(atV x,()))/\True/\True/\True/\True/\TF
def VC_l3Atom_2 (x:GAtom):Prop:=True/\True/\(True/\True/\True)/\True/\True/\(vcIf (isT x.a) (True/\True/\(True/\True/\True)/\True/\True/\((((isT x.b),()):Bool × Unit)=(atV x,()))/\True/\True/\True/\True/\TF) (VC_l3Atom_1 x))
def VC_l3Atom (x:GAtom) (k:Nat):Prop:=TN/\True/\True/\True/\True/\True/\(vcIf (x.kind == (1:Int)) (True/\True/\(VC_l3Atom_2 x)) (True/\True/\True/\True/\True/\(vcIf (x.kind == (2:Int)) (VC_l3Atom_2 x) (True/\True/\(VC_l3Atom_1 x)))))
theorem vcn_l3Atom (x:GAtom) (k:Nat):VC_l3Atom x k:=by
 unfold VC_l3Atom VC_l3Atom_2 VC_l3Atom_1
 simp only [cln,Nat.reduceEqDiff,Nat.reduceLeDiff,Nat.reduceAdd]
 all_goals (try simp only [opn])
 all_goals (repeat' (first | apply And.intro | intro _))
 all_goals (first | omega | (simp_all;done) | grind [atV])
theorem ok_l3Atom:FnOk Tryd.prog E 75 c_l3Atom :=
 fn_okQ (l:=L_l3Atom) (lp:=P_l3Atom) (hp:=fun _=>false) (gcs:=fun _=>none) (perm:=fun _=>[]) tabOk mix ⟨ok_l1Is,trivial⟩ trivial Tryd.func75 rfl (by kernel_rfl) (by decide) (by kernel_rfl) (anns:=fun x _=>fun _ _=>none) (fun ⟨x,_⟩ k _ _=>Eq.mp (by kernel_rfl) (vcn_l3Atom x k)) tot_fn
abbrev c_sFactsValid:Con:=⟨[.sl .fact],[.bool],fun (l,_)=>l.length<=281474976710656,.inl fun (l,_)=>(fsV l,()),fun _=>0⟩
abbrev L_sFactsValid:List (FuncId × Con):=[(51,c_sFactValid)]
abbrev P_sFactsValid:List (FuncId × PT):=[]
def an_sFactsValid (l:List GFact):Nat->St->Option Ann
 | 2,se=>some { α:=Nat,ok:=fun i=>i<=l.length/\(l.take i).all fV=true,mu:=fun i=>l.length - i,i0:=fun _=>0,nx:=fun a _=>(fun i=>i+1) a,live:=[0],sets:=fun i=>[(3,sv (.int .i64 i))],mids:=[],blks:=fun i=>[],owns:=fun i=>[],rd:=fun r _=>r,base:=100000 }
 | _,_=>none
def VC_sFactsValid (l:List GFact) (k:Nat):Prop:=True/\True/\((0<=l.length/\(l.take 0).all fV=true)/\TT/\(RL [.s (.c (.d (.arr .fact l)))])/\(([.s (.c (.d (.val (.int .i64 (0:Int)))))]:List S)=[.s (.c (.d (.val (.int .i64 ((0:Nat):Int)))))])/\(RM [])/\(RM [])/\True/\TT)/\(∀ i1:Nat,(i1<=l.length/\(l.take i1).all fV=true)->True/\True/\True/\True/\(vcIf (decide (((i1:Nat):Int) < ((l.length:Nat):Int))) (True/\True/\(0<=((i1:Nat):Int)/\((i1:Nat):Int) < ((l.length:Nat):Int))/\True/\(True/\True/\True)/\True/\(vcIf (!(fV (l.getD i1 (⟨false,0,0⟩:GFact)))) (True/\(((false,()):Bool × Unit)=(fsV l,()))/\True/\True/\True/\True/\TF) (True/\(inK .i64 (((i1:Nat):Int)+(1:Int)))/\True/\((i1+1)<=l.length/\(l.take (i1+1)).all fV=true)/\(l.length - (i1+1) < l.length - i1)/\TT/\(RL [.s (.c (.d (.arr .fact l)))])/\(([.s (.c (.d (.val (.int .i64 (((i1:Nat):Int)+(1:Int))))))]:List S)=[.s (.c (.d (.val (.int .i64 (((i1+1):Nat):Int)))))])/\(RM [])/\(RM [])/\True/\TT))) (True/\True/\True/\True/\(((decide (((l.length:Nat):Int)<=(12:Int)),()):Bool × Unit)=(fsV l,()))/\True/\True/\True/\True/\TF)))
theorem vcn_sFactsValid (l:List GFact) (k:Nat) (hp:l.length<=281474976710656):VC_sFactsValid l k:=by
 unfold VC_sFactsValid
 simp only [cln,Nat.reduceEqDiff,Nat.reduceLeDiff,Nat.reduceAdd]
 all_goals (try simp only [opn])
 all_goals (repeat' (first | apply And.intro | intro _))
 all_goals (first | omega | (simp_all;done) | grind [fsV,take_all,all_take,take_full,Ty.zero])
theorem ok_sFactsValid:FnOk Tryd.prog E 76 c_sFactsValid :=
 fn_okQ (l:=L_sFactsValid) (lp:=P_sFactsValid) (hp:=fun _=>false) (gcs:=fun _=>none) (perm:=fun _=>[]) tabOk mix ⟨ok_sFactValid,trivial⟩ trivial Tryd.func76 rfl (by kernel_rfl) (by decide) (by kernel_rfl) (anns:=fun x _=>an_sFactsValid x.1) (fun ⟨l,_⟩ k hp _=>Eq.mp (by kernel_rfl) (vcn_sFactsValid l k hp)) tot_fn
abbrev c_sAssertionValid:Con:=⟨[.asn],[.bool],fun (a,_)=>a.facts.length<=281474976710656/\a.atoms.length<=281474976710656,.inl fun (a,_)=>(asV a,()),fun _=>0⟩
abbrev L_sAssertionValid:List (FuncId × Con):=[(75,c_l3Atom),(76,c_sFactsValid)]
abbrev P_sAssertionValid:List (FuncId × PT):=[]
def an_sAssertionValid (a:GAsn):Nat->St->Option Ann
 | 2,se=>some { α:=Nat,ok:=fun i=>i<=a.atoms.length/\(a.atoms.take i).all atV=true,mu:=fun i=>a.atoms.length - i,i0:=fun _=>0,nx:=fun a _=>(fun i=>i+1) a,live:=[1],sets:=fun i=>[(3,sv (.int .i64 i))],mids:=[31],blks:=fun i=>[],owns:=fun i=>[],rd:=fun r _=>r,base:=100000 }
 | _,_=>none
def VC_sAssertionValid_1 (a:GAsn):Prop:=(RM [some (.blk [.d (.arr .fact a.facts),.d (.arr .atom a.atoms)])])/\(RM [])/\True/\TT
def VC_sAssertionValid_2 (a:GAsn):Prop:=True/\(((false,()):Bool × Unit)=(asV a,()))/\True/\True/\True/\True/\TF
def VC_sAssertionValid (a:GAsn) (k:Nat):Prop:=TN/\True/\True/\((0<=a.atoms.length/\(a.atoms.take 0).all atV=true)/\TT/\(RL [.s (.c (.ptr 31 0))])/\(([.s (.c (.d (.val (.int .i64 (0:Int)))))]:List S)=[.s (.c (.d (.val (.int .i64 ((0:Nat):Int)))))])/\(VC_sAssertionValid_1 a))/\(∀ i1:Nat,(i1<=a.atoms.length/\(a.atoms.take i1).all atV=true)->True/\True/\True/\True/\True/\(vcIf (decide (((i1:Nat):Int) < ((a.atoms.length:Nat):Int))) (True/\True/\True/\(0<=((i1:Nat):Int)/\((i1:Nat):Int) < ((a.atoms.length:Nat):Int))/\True/\(True/\True/\True)/\True/\(vcIf (!(atV (a.atoms.getD i1 (⟨0,0,0⟩:GAtom)))) (VC_sAssertionValid_2 a) (True/\(inK .i64 (((i1:Nat):Int)+(1:Int)))/\True/\((i1+1)<=a.atoms.length/\(a.atoms.take (i1+1)).all atV=true)/\(a.atoms.length - (i1+1) < a.atoms.length - i1)/\TT/\(RL [.s (.c (.ptr 31 0))])/\(([.s (.c (.d (.val (.int .i64 (((i1:Nat):Int)+(1:Int))))))]:List S)=[.s (.c (.d (.val (.int .i64 (((i1+1):Nat):Int)))))])/\(VC_sAssertionValid_1 a)))) (True/\True/\((a.facts.length<=281474976710656)/\True/\True)/\True/\(vcIf (fsV a.facts) (True/\True/\True/\True/\True/\True/\(((decide (((a.atoms.length:Nat):Int)<=(6:Int)),()):Bool × Unit)=(asV a,()))/\True/\True/\True/\True/\TF) (True/\(VC_sAssertionValid_2 a))))))
theorem vcn_sAssertionValid (a:GAsn) (k:Nat) (hp:a.facts.length<=281474976710656/\a.atoms.length<=281474976710656):VC_sAssertionValid a k:=by
 unfold VC_sAssertionValid VC_sAssertionValid_2 VC_sAssertionValid_1
 simp only [cln,Nat.reduceEqDiff,Nat.reduceLeDiff,Nat.reduceAdd]
 all_goals (try simp only [opn])
 all_goals (repeat' (first | apply And.intro | intro _))
 all_goals (first | omega | (simp_all;done) | grind [asV,take_all,all_take,take_full,Ty.zero])
theorem ok_sAssertionValid:FnOk Tryd.prog E 53 c_sAssertionValid :=
 fn_okQ (l:=L_sAssertionValid) (lp:=P_sAssertionValid) (hp:=fun _=>false) (gcs:=fun _=>none) (perm:=fun _=>[]) tabOk mix ⟨ok_l3Atom,ok_sFactsValid,trivial⟩ trivial Tryd.func53 rfl (by kernel_rfl) (by decide) (by kernel_rfl) (anns:=fun x _=>an_sAssertionValid x.1) (fun ⟨a,_⟩ k hp _=>Eq.mp (by kernel_rfl) (vcn_sAssertionValid a k hp)) tot_fn
abbrev c_l8NoFact:Con:=⟨[.fact],[.bool],fun _=>True,.inl fun (f,_)=>(decide (f=⟨false,0,0⟩),()),fun _=>0⟩
abbrev L_l8NoFact:List (FuncId × Con):=[]
abbrev P_l8NoFact:List (FuncId × PT):=[]
def VC_l8NoFact (f:GFact) (k:Nat):Prop:=TN/\True/\True/\True/\True/\True/\((((f.eq == false) && ((f.a == (0:Int)) && ((f.b == (0:Int)) && true)),()):Bool × Unit)=(decide (f=⟨false,0,0⟩),()))/\True/\True/\True/\True/\TF
theorem vcn_l8NoFact (f:GFact) (k:Nat):VC_l8NoFact f k:=by
 unfold VC_l8NoFact
 simp only [cln,Nat.reduceEqDiff,Nat.reduceLeDiff,Nat.reduceAdd]
 exact (gf_zero' f).symm
theorem ok_l8NoFact:FnOk Tryd.prog E 77 c_l8NoFact :=
 fn_okQ (l:=L_l8NoFact) (lp:=P_l8NoFact) (hp:=fun _=>false) (gcs:=fun _=>none) (perm:=fun _=>[]) tabOk mix trivial trivial Tryd.func77 rfl (by kernel_rfl) (by decide) (by kernel_rfl) (anns:=fun x _=>fun _ _=>none) (fun ⟨f,_⟩ k _ _=>Eq.mp (by kernel_rfl) (vcn_l8NoFact f k)) tot_fn
abbrev c_l8Prog:Con:=⟨[.int],[.bool],fun _=>True,.inl fun (t,_)=>(pvV t,()),fun _=>0⟩
abbrev L_l8Prog:List (FuncId × Con):=[]
abbrev P_l8Prog:List (FuncId × PT):=[]
def VC_l8Prog (t:Int) (k:Nat):Prop:=True/\True/\True/\True/\(vcIf (decide ((1:Int)<=t)) (True/\True/\True/\True/\(((decide (t<=(4:Int)),()):Bool × Unit)=(pvV t,()))/\True/\True/\True/\True/\TF) (True/\True/\(((false,()):Bool × Unit)=(pvV t,()))/\True/\True/\True/\True/\TF))
theorem vcn_l8Prog (t:Int) (k:Nat):VC_l8Prog t k:=by
 unfold VC_l8Prog
 simp only [cln,Nat.reduceEqDiff,Nat.reduceLeDiff,Nat.reduceAdd]
 all_goals (try simp only [vcIf_iff,decide_eq_true_eq,decide_eq_false_iff_not,bne_iff_ne,ne_eq,beq_iff_eq,beq_eq_false_iff_ne,bne_eq_false_iff_eq,Bool.not_eq_true',Bool.not_eq_false',Int.ofNat_lt,Int.natCast_inj])
 all_goals (repeat' (first | apply And.intro | intro _))
 all_goals (repeat (cases ‹_/\_›))
 all_goals (first | omega | (simp_all;done) | grind [pvV,noA,fokC,fokB,prV,cvB,cvN] | skip)
theorem ok_l8Prog:FnOk Tryd.prog E 78 c_l8Prog :=
 fn_okQ (l:=L_l8Prog) (lp:=P_l8Prog) (hp:=fun _=>false) (gcs:=fun _=>none) (perm:=fun _=>[]) tabOk mix trivial trivial Tryd.func78 rfl (by kernel_rfl) (by decide) (by kernel_rfl) (anns:=fun x _=>fun _ _=>none) (fun ⟨t,_⟩ k _ _=>Eq.mp (by kernel_rfl) (vcn_l8Prog t k)) tot_fn
abbrev c_l8Basic:Con:=⟨[.cmd],[.bool],fun (c,_)=>BdC c,.inl fun (c,_)=>(fokB c,()),fun _=>0⟩
abbrev L_l8Basic:List (FuncId × Con):=[(52,c_l8NoInv),(74,c_l1Is),(77,c_l8NoFact),(78,c_l8Prog)]
abbrev P_l8Basic:List (FuncId × PT):=[]
def VC_l8Basic_1 (c:GCmd):Prop:=True/\(((false,()):Bool × Unit)=(fokB c,()))/\True/\True/\True/\True/\TF
def VC_l8Basic_2 (c:GCmd):Prop:=True/\(VC_l8Basic_1 c)
def VC_l8Basic_3 (c:GCmd):Prop:=True/\True/\(VC_l8Basic_2 c)
def VC_l8Basic_4 (c:GCmd):Prop:=True/\True/\(True/\True/\True)/\True/\True/\((((isT c.b),()):Bool × Unit)=(fokB c,()))/\True/\True/\True/\True/\TF
def VC_l8Basic_5 (c:GCmd):Prop:=True/\True/\(True/\True/\True)/\True/\(vcIf (pvV c.a) (VC_l8Basic_4 c) (VC_l8Basic_2 c))
def VC_l8Basic_6 (c:GCmd):Prop:=True/\True/\True/\True/\True/\(((c.b == (0:Int),()):Bool × Unit)=(fokB c,()))/\True/\True/\True/\True/\TF
def VC_l8Basic_7 (c:GCmd):Prop:=True/\True/\(vcIf (c.kind == (3:Int)) (True/\True/\(True/\True/\True)/\True/\(vcIf (isT c.a) (VC_l8Basic_4 c) (VC_l8Basic_2 c))) (True/\True/\(vcIf (c.kind == (4:Int)) (True/\True/\(True/\True/\True)/\True/\(vcIf (pvV c.a) (VC_l8Basic_6 c) (VC_l8Basic_2 c))) (True/\True/\(vcIf (c.kind == (5:Int)) (True/\True/\(True/\True/\True)/\True/\(vcIf (isT c.a) (VC_l8Basic_6 c) (VC_l8Basic_2 c))) (VC_l8Basic_1 c))))))
def VC_l8Basic (c:GCmd) (k:Nat):Prop:=TN/\True/\True/\True/\(True/\True/\True)/\True/\True/\(vcIf (!(decide (c.test=⟨false,0,0⟩))) (True/\True/\(VC_l8Basic_3 c)) (True/\True/\((c.inv.facts.length<=281474976710656/\c.inv.atoms.length<=281474976710656)/\True/\True)/\True/\True/\True/\(vcIf (!(noA c.inv)) (VC_l8Basic_3 c) (True/\True/\True/\True/\True/\True/\(vcIf (decide ((0:Int) < ((c.body.length:Nat):Int))) (VC_l8Basic_2 c) (True/\True/\True/\True/\True/\(vcIf (decide ((0:Int) < ((c.els.length:Nat):Int))) (VC_l8Basic_1 c) (True/\True/\True/\True/\(vcIf (c.kind == (1:Int)) (vcIf (c.kind == (1:Int)) (VC_l8Basic_5 c) (VC_l8Basic_7 c)) (True/\True/\(vcIf (c.kind == (2:Int)) (VC_l8Basic_5 c) (VC_l8Basic_7 c))))))))))))
theorem vcn_l8Basic (c:GCmd) (k:Nat) (hp:BdC c):VC_l8Basic c k:=by
 unfold VC_l8Basic VC_l8Basic_7 VC_l8Basic_6 VC_l8Basic_5 VC_l8Basic_4 VC_l8Basic_3 VC_l8Basic_2 VC_l8Basic_1
 simp only [cln,Nat.reduceEqDiff,Nat.reduceLeDiff,Nat.reduceAdd,GCmd.eta]
 have b1:=hp.f
 have b2:=hp.a
 all_goals (try simp only [vcIf_iff,decide_eq_true_eq,decide_eq_false_iff_not,bne_iff_ne,ne_eq,beq_iff_eq,beq_eq_false_iff_ne,bne_eq_false_iff_eq,Bool.not_eq_true',Bool.not_eq_false',Int.ofNat_lt,Int.natCast_inj])
 all_goals (repeat' (first | apply And.intro | intro _))
 all_goals (repeat (cases ‹_/\_›))
 all_goals (first | omega | (simp_all;done) | grind [pvV,noA,fokC,fokB,prV,cvB,cvN] | skip)
theorem ok_l8Basic:FnOk Tryd.prog E 54 c_l8Basic :=
 fn_okQ (l:=L_l8Basic) (lp:=P_l8Basic) (hp:=fun _=>false) (gcs:=fun _=>none) (perm:=fun _=>[]) tabOk mix ⟨ok_l8NoInv,ok_l1Is,ok_l8NoFact,ok_l8Prog,trivial⟩ trivial Tryd.func54 rfl (by kernel_rfl) (by decide) (by kernel_rfl) (anns:=fun x _=>fun _ _=>none) (fun ⟨c,_⟩ k hp _=>Eq.mp (by kernel_rfl) (vcn_l8Basic c k hp)) tot_fn
end Go.Proofs.YtkafaeeianofnaaDoor
