/-
  Contracts of single functions of the program, each shown by the engine: what a call returns for arguments within the contract's bounds.
-/
import Derived.Test.YtkafaeeianofnaaDoorFFnCountCmdsa
import Derived.Test.YtkafaeeianofnaaDoorFFnCountCmdsc
import Derived.Test.YtkafaeeianofnaaDoorEd
import Derived.Test.YtkafaeeianofnaaDoorEe
set_option linter.unusedSimpArgs false
set_option linter.unusedVariables false
set_option linter.unusedSectionVars false

namespace Go.Proofs.YtkafaeeianofnaaDoor
open Go.SE Go.RowKit
variable [Base] [Names]
set_option linter.unusedSectionVars false
set_option linter.unusedSimpArgs false
set_option linter.unusedVariables false
set_option maxHeartbeats 1000000
set_option maxRecDepth 100000
abbrev c_iFormatAssertion:Con:=⟨[.asn],[.str],fun (a,_)=>a.facts.length<=281474976710656/\a.atoms.length<=281474976710656,.inl fun (a,_)=>(if asV a=true then asnT a else ⟨#[]⟩,()),fun _=>0⟩
abbrev L_iFormatAssertion:List (FuncId × Con):=[(31,c_iFormatFact),(50,c_iAssertionValid),(57,c_join),(58,c_formatAtom)]
abbrev P_iFormatAssertion:List (FuncId × PT):=[]
def an_iFormatAssertion (a:GAsn):Nat->St->Option Ann
 | 7,se=>some { α:=Nat,ok:=fun i=>i<=a.facts.length/\asV a=true,mu:=fun i=>a.facts.length - i,i0:=fun _=>0,nx:=fun a _=>(fun i=>i+1) a,live:=[1,2,4,19,20],sets:=fun i=>[(21,sv (.int .i64 i))],mids:=[31],blks:=fun i=>[],owns:=fun i=>[⟨7,.slot 5,.str,(a.facts.take i).map factT⟩],rd:=fun r _=>r,base:=100000 }
 | 15,se=>some { α:=Nat,ok:=fun i=>i<=a.atoms.length/\asV a=true,mu:=fun i=>a.atoms.length - i,i0:=fun _=>0,nx:=fun a _=>(fun i=>i+1) a,live:=[2,3,38,39],sets:=fun i=>[(40,sv (.int .i64 i))],mids:=[],blks:=fun i=>[],owns:=fun i=>[⟨7,.slot 8,.str,(a.atoms.take i).map atomT⟩],rd:=fun r _=>r,base:=200000 }
 | _,_=>none
def VC_iFormatAssertion_1 (a:GAsn):Prop:=RL [.s (.c (.ptr 31 0)),.s (.c (.d (.val (.string (⟨#[]⟩:ByteArray))))),.s (.c (.d (.val (.string (⟨#[101,109,112]⟩:ByteArray))))),.s (.c (.d (.arr .fact a.facts))),.s (.c (.d (.val (.int .i64 ((a.facts.length:Nat):Int)))))]
def VC_iFormatAssertion_2 :Prop:=([.s (.c (.d (.val (.int .i64 (0:Int)))))]:List S)=[.s (.c (.d (.val (.int .i64 ((0:Nat):Int)))))]
def VC_iFormatAssertion_3 (i1:Nat):Prop:=([.s (.c (.d (.val (.int .i64 (((i1:Nat):Int)+(1:Int))))))]:List S)=[.s (.c (.d (.val (.int .i64 (((i1+1):Nat):Int)))))]
def VC_iFormatAssertion_4 (a:GAsn) (i1:Nat):Prop:=RL [.s (.c (.d (.val (.string (⟨#[]⟩:ByteArray))))),.s (.c (.d (.val (.string (joinB ((a.facts.take i1).map factT) (⟨#[32,38,32]⟩:ByteArray)))))),.s (.c (.d (.arr .atom a.atoms))),.s (.c (.d (.val (.int .i64 ((a.atoms.length:Nat):Int)))))]
def VC_iFormatAssertion_5 (a:GAsn):Prop:=VC_iFormatAssertion_2/\(RM [])/\(RM [])/\(((some ([]:List ByteArray):Option (List ByteArray))=some ((a.atoms.take 0).map atomT))/\True)/\TT
def VC_iFormatAssertion_6 (a:GAsn) (i2:Nat):Prop:=TN/\TF/\TF/\(((a.atoms.take i2).map atomT).length+([(atomT (a.atoms.getD i2 (⟨0,0,0⟩:GAtom)))]:List ByteArray).length<=4294967296)
def VC_iFormatAssertion_7 (i2:Nat) (a:GAsn):Prop:=(VC_iFormatAssertion_3 i2)/\(RM [])/\(RM [])/\(((some (((a.atoms.take i2).map atomT) ++ ([(atomT (a.atoms.getD i2 (⟨0,0,0⟩:GAtom)))]:List ByteArray)):Option (List ByteArray))=some ((a.atoms.take (i2+1)).map atomT))/\True)/\TT
def VC_iFormatAssertion_8 (a:GAsn) (i2:Nat):Prop:=(List.length (α:=ByteArray) ((a.atoms.take i2).map atomT)<=4294967296/\(joinB ((a.atoms.take i2).map atomT) (⟨#[32,42,32]⟩:ByteArray)).size<=140737488355328)/\True/\True
def VC_iFormatAssertion_9 (a:GAsn) (i1:Nat):Prop:=(((joinB ((a.facts.take i1).map factT) (⟨#[32,38,32]⟩:ByteArray)).size+(⟨#[32,124,32]⟩:ByteArray).size:Nat):Int)<=9223372036854775807
def VC_iFormatAssertion_10 (i1:Nat) (a:GAsn):Prop:=(True/\(vcIf (decide (((i1:Nat):Int) < ((a.facts.length:Nat):Int))) ((0<=((i1:Nat):Int)/\((i1:Nat):Int) < ((a.facts.length:Nat):Int))/\True/\(TN/\True)/\(TF/\TF)/\True/\True/\(True/\True/\True)/\(TN/\True)/\(TN/\TF/\TF/\(((a.facts.take i1).map factT).length+([(if fV (a.facts.getD i1 (⟨false,0,0⟩:GFact))=true then factT (a.facts.getD i1 (⟨false,0,0⟩:GFact)) else ⟨#[]⟩)]:List ByteArray).length<=4294967296))/\True/\(inK .i64 (((i1:Nat):Int)+(1:Int)))/\True/\((i1+1)<=a.facts.length/\asV a=true)/\(a.facts.length - (i1+1) < a.facts.length - i1)/\TT/\(VC_iFormatAssertion_1 a)/\(VC_iFormatAssertion_3 i1)/\(RM [some (.blk [.d (.arr .fact a.facts),.d (.arr .atom a.atoms)])])/\(RM [])/\(((some (((a.facts.take i1).map factT) ++ ([(if fV (a.facts.getD i1 (⟨false,0,0⟩:GFact))=true then factT (a.facts.getD i1 (⟨false,0,0⟩:GFact)) else ⟨#[]⟩)]:List ByteArray)):Option (List ByteArray))=some ((a.facts.take (i1+1)).map factT))/\True)/\TT) (True/\((List.length (α:=ByteArray) ((a.facts.take i1).map factT)<=4294967296/\(joinB ((a.facts.take i1).map factT) (⟨#[32,38,32]⟩:ByteArray)).size<=140737488355328)/\True/\True)/\True/\True/\True/\True/\True/\(vcIf (decide ((0:Int) < ((a.atoms.length:Nat):Int))) (TN/\True/\True/\True/\True/\((0<=a.atoms.length/\asV a=true)/\TT/\(VC_iFormatAssertion_4 a i1)/\(VC_iFormatAssertion_5 a))/\(∀ i2:Nat,(i2<=a.atoms.length/\asV a=true)->True/\(vcIf (decide (((i2:Nat):Int) < ((a.atoms.length:Nat):Int))) ((0<=((i2:Nat):Int)/\((i2:Nat):Int) < ((a.atoms.length:Nat):Int))/\True/\(TN/\True)/\(TF/\TF)/\True/\True/\(True/\True/\True)/\(TN/\True)/\(VC_iFormatAssertion_6 a i2)/\True/\(inK .i64 (((i2:Nat):Int)+(1:Int)))/\True/\((i2+1)<=a.atoms.length/\asV a=true)/\(a.atoms.length - (i2+1) < a.atoms.length - i2)/\TT/\(VC_iFormatAssertion_4 a i1)/\(VC_iFormatAssertion_7 i2 a)) (True/\(VC_iFormatAssertion_8 a i2)/\True/\True/\(VC_iFormatAssertion_9 a i1)/\True/\(((((joinB ((a.facts.take i1).map factT) (⟨#[32,38,32]⟩:ByteArray)) ++ (⟨#[32,124,32]⟩:ByteArray)).size+(joinB ((a.atoms.take i2).map atomT) (⟨#[32,42,32]⟩:ByteArray)).size:Nat):Int)<=9223372036854775807)/\True/\(((((joinB ((a.facts.take i1).map factT) (⟨#[32,38,32]⟩:ByteArray)) ++ (⟨#[32,124,32]⟩:ByteArray)) ++ (joinB ((a.atoms.take i2).map atomT) (⟨#[32,42,32]⟩:ByteArray)),()):ByteArray × Unit)=(if asV a=true then asnT a else ⟨#[]⟩,()))/\True/\True/\True/\True/\TF)))) (True/\(VC_iFormatAssertion_9 a i1)/\True/\(((((joinB ((a.facts.take i1).map factT) (⟨#[32,38,32]⟩:ByteArray)) ++ (⟨#[32,124,32]⟩:ByteArray)).size+(⟨#[101,109,112]⟩:ByteArray).size:Nat):Int)<=9223372036854775807)/\True/\(((((joinB ((a.facts.take i1).map factT) (⟨#[32,38,32]⟩:ByteArray)) ++ (⟨#[32,124,32]⟩:ByteArray)) ++ (⟨#[101,109,112]⟩:ByteArray),()):ByteArray × Unit)=(if asV a=true then asnT a else ⟨#[]⟩,()))/\True/\True/\True/\True/\TF)))))
def VC_iFormatAssertion_11 (a:GAsn):Prop:=RL [.s (.c (.d (.val (.string (⟨#[]⟩:ByteArray))))),.s (.c (.d (.val (.string (⟨#[116,114,117,101]⟩:ByteArray))))),.s (.c (.d (.arr .atom a.atoms))),.s (.c (.d (.val (.int .i64 ((a.atoms.length:Nat):Int)))))]
def VC_iFormatAssertion_12 :Prop:=(((⟨#[116,114,117,101]⟩:ByteArray).size+(⟨#[32,124,32]⟩:ByteArray).size:Nat):Int)<=9223372036854775807
def VC_iFormatAssertion (a:GAsn) (k:Nat):Prop:=TN/\True/\True/\((a.facts.length<=281474976710656/\a.atoms.length<=281474976710656)/\True/\True)/\True/\(vcIf (!(asV a)) (True/\((((⟨#[]⟩:ByteArray),()):ByteArray × Unit)=(if asV a=true then asnT a else ⟨#[]⟩,()))/\True/\True/\True/\True/\TF) (True/\True/\True/\True/\True/\True/\(vcIf (decide ((0:Int) < ((a.facts.length:Nat):Int))) (TN/\True/\True/\True/\True/\((0<=a.facts.length/\asV a=true)/\TT/\(VC_iFormatAssertion_1 a)/\VC_iFormatAssertion_2/\(RM [some (.blk [.d (.arr .fact a.facts),.d (.arr .atom a.atoms)])])/\(RM [])/\(((some ([]:List ByteArray):Option (List ByteArray))=some ((a.facts.take 0).map factT))/\True)/\TT)/\(∀ i1:Nat,(i1<=a.facts.length/\asV a=true)->(VC_iFormatAssertion_10 i1 a))) (True/\True/\True/\True/\(vcIf (decide ((0:Int) < ((a.atoms.length:Nat):Int))) (TN/\True/\True/\True/\True/\((0<=a.atoms.length/\asV a=true)/\TT/\(VC_iFormatAssertion_11 a)/\(VC_iFormatAssertion_5 a))/\(∀ i3:Nat,(i3<=a.atoms.length/\asV a=true)->True/\(vcIf (decide (((i3:Nat):Int) < ((a.atoms.length:Nat):Int))) ((0<=((i3:Nat):Int)/\((i3:Nat):Int) < ((a.atoms.length:Nat):Int))/\True/\(TN/\True)/\(TF/\TF)/\True/\True/\(True/\True/\True)/\(TN/\True)/\(VC_iFormatAssertion_6 a i3)/\True/\(inK .i64 (((i3:Nat):Int)+(1:Int)))/\True/\((i3+1)<=a.atoms.length/\asV a=true)/\(a.atoms.length - (i3+1) < a.atoms.length - i3)/\TT/\(VC_iFormatAssertion_11 a)/\(VC_iFormatAssertion_7 i3 a)) (True/\(VC_iFormatAssertion_8 a i3)/\True/\True/\VC_iFormatAssertion_12/\True/\(((((⟨#[116,114,117,101]⟩:ByteArray) ++ (⟨#[32,124,32]⟩:ByteArray)).size+(joinB ((a.atoms.take i3).map atomT) (⟨#[32,42,32]⟩:ByteArray)).size:Nat):Int)<=9223372036854775807)/\True/\(((((⟨#[116,114,117,101]⟩:ByteArray) ++ (⟨#[32,124,32]⟩:ByteArray)) ++ (joinB ((a.atoms.take i3).map atomT) (⟨#[32,42,32]⟩:ByteArray)),()):ByteArray × Unit)=(if asV a=true then asnT a else ⟨#[]⟩,()))/\True/\True/\True/\True/\TF)))) (True/\VC_iFormatAssertion_12/\True/\(((((⟨#[116,114,117,101]⟩:ByteArray) ++ (⟨#[32,124,32]⟩:ByteArray)).size+(⟨#[101,109,112]⟩:ByteArray).size:Nat):Int)<=9223372036854775807)/\True/\(((((⟨#[116,114,117,101]⟩:ByteArray) ++ (⟨#[32,124,32]⟩:ByteArray)) ++ (⟨#[101,109,112]⟩:ByteArray),()):ByteArray × Unit)=(if asV a=true then asnT a else ⟨#[]⟩,()))/\True/\True/\True/\True/\TF))))))
theorem vcn_iFormatAssertion (a:GAsn) (k:Nat) (hp:a.facts.length<=281474976710656/\a.atoms.length<=281474976710656):VC_iFormatAssertion a k:=by
 unfold VC_iFormatAssertion VC_iFormatAssertion_12 VC_iFormatAssertion_11 VC_iFormatAssertion_10 VC_iFormatAssertion_9 VC_iFormatAssertion_8 VC_iFormatAssertion_7 VC_iFormatAssertion_6 VC_iFormatAssertion_5 VC_iFormatAssertion_4 VC_iFormatAssertion_3 VC_iFormatAssertion_2 VC_iFormatAssertion_1
 simp only [cln,Nat.reduceEqDiff,Nat.reduceLeDiff,Nat.reduceAdd]
 have sz:=fun h i=>(fa_sz (a:=a) h i 0).1
 have sy:=fun h i=>(fa_sz (a:=a) h 0 i).2
 have b1:=fun h=>(asV_facts (a:=a) h).2.1
 have b2:=fun h=>(asV_facts (a:=a) h).2.2.2
 all_goals (try simp only [vcIf_iff,decide_eq_true_eq,decide_eq_false_iff_not,bne_iff_ne,ne_eq,beq_iff_eq,beq_eq_false_iff_ne,bne_eq_false_iff_eq,Bool.not_eq_true',Bool.not_eq_false',Int.ofNat_lt,Int.natCast_inj])
 all_goals (repeat' (first | apply And.intro | intro _))
 all_goals (repeat (cases ‹_/\_›))
 all_goals (first | omega | with_reducible assumption | with_reducible rfl | skip)
 all_goals (first
  | (simp only [List.length_map,List.length_take];omega)
  | exact fa_fact ‹_› ‹_›
  | exact fa_atom ‹_›
  | exact Nat.le_trans (sz ‹_› _) (by decide)
  | exact Nat.le_trans (sy ‹_› _) (by decide)
  | exact fa_all ‹_› (fa_F ‹_› ‹_› ‹_›) (fa_A ‹_› ‹_› ‹_›)
  | exact fa_all ‹_› (fa_F ‹_› ‹_› ‹_›) (fa_A0 ‹_›)
  | exact fa_all ‹_› (fa_F0 ‹_›) (fa_A ‹_› ‹_› ‹_›)
  | exact fa_all ‹_› (fa_F0 ‹_›) (fa_A0 ‹_›)
  | ((try simp only [ba_size,ba_lit,List.size_toArray,List.length_cons,List.length_nil]);grind)
  | (simp [*];done)
  | skip)
theorem ok_iFormatAssertion:FnOk Tryd.prog E 32 c_iFormatAssertion :=
 fn_okQ (l:=L_iFormatAssertion) (lp:=P_iFormatAssertion) (hp:=fun _=>false) (gcs:=fun _=>none) (perm:=fun _=>[]) tabOk mix ⟨ok_iFormatFact,ok_iAssertionValid,ok_join,ok_formatAtom,trivial⟩ trivial Tryd.func32 rfl (by kernel_rfl) (by decide) (by kernel_rfl) (anns:=fun x _=>an_iFormatAssertion x.1) (fun ⟨a,_⟩ k hp _=>Eq.mp (by kernel_rfl) (vcn_iFormatAssertion a k hp)) tot_fn
abbrev c_formatBasic:Con:=⟨[.cmd],[.str],fun _=>True,.inl fun (c,_)=>(bscT c,()),fun _=>0⟩
abbrev L_formatBasic:List (FuncId × Con):=[(56,c_iTermName)]
abbrev P_formatBasic:List (FuncId × PT):=[]
def VC_formatBasic (c:GCmd) (k:Nat):Prop:=TN/\True/\True/\True/\(True/\True/\True)/\True/\True/\(True/\True/\True)/\True/\True/\True/\True/\True/\True/\(vcIf (c.kind == (1:Int)) (True/\((((nmB c.a).size+(⟨#[58,61]⟩:ByteArray).size:Nat):Int)<=9223372036854775807)/\True/\(((((nmB c.a) ++ (⟨#[58,61]⟩:ByteArray)).size+(nmB c.b).size:Nat):Int)<=9223372036854775807)/\True/\(((((nmB c.a) ++ (⟨#[58,61]⟩:ByteArray)) ++ (nmB c.b),()):ByteArray × Unit)=(bscT c,()))/\True/\True/\True/\True/\TF) (True/\True/\(vcIf (c.kind == (2:Int)) (True/\((((nmB c.a).size+(⟨#[58,61,91]⟩:ByteArray).size:Nat):Int)<=9223372036854775807)/\True/\(((((nmB c.a) ++ (⟨#[58,61,91]⟩:ByteArray)).size+(nmB c.b).size:Nat):Int)<=9223372036854775807)/\((((((nmB c.a) ++ (⟨#[58,61,91]⟩:ByteArray)) ++ (nmB c.b)).size+(⟨#[93]⟩:ByteArray).size:Nat):Int)<=9223372036854775807)/\True/\((((((nmB c.a) ++ (⟨#[58,61,91]⟩:ByteArray)) ++ (nmB c.b)) ++ (⟨#[93]⟩:ByteArray),()):ByteArray × Unit)=(bscT c,()))/\True/\True/\True/\True/\TF) (True/\True/\(vcIf (c.kind == (3:Int)) (True/\((((⟨#[91]⟩:ByteArray).size+(nmB c.a).size:Nat):Int)<=9223372036854775807)/\(((((⟨#[91]⟩:ByteArray) ++ (nmB c.a)).size+(⟨#[93,58,61]⟩:ByteArray).size:Nat):Int)<=9223372036854775807)/\True/\((((((⟨#[91]⟩:ByteArray) ++ (nmB c.a)) ++ (⟨#[93,58,61]⟩:ByteArray)).size+(nmB c.b).size:Nat):Int)<=9223372036854775807)/\True/\((((((⟨#[91]⟩:ByteArray) ++ (nmB c.a)) ++ (⟨#[93,58,61]⟩:ByteArray)) ++ (nmB c.b),()):ByteArray × Unit)=(bscT c,()))/\True/\True/\True/\True/\TF) (True/\True/\(vcIf (c.kind == (4:Int)) (True/\((((⟨#[110,101,119,32]⟩:ByteArray).size+(nmB c.a).size:Nat):Int)<=9223372036854775807)/\True/\((((⟨#[110,101,119,32]⟩:ByteArray) ++ (nmB c.a),()):ByteArray × Unit)=(bscT c,()))/\True/\True/\True/\True/\TF) (True/\((((⟨#[102,114,101,101,32]⟩:ByteArray).size+(nmB c.a).size:Nat):Int)<=9223372036854775807)/\True/\((((⟨#[102,114,101,101,32]⟩:ByteArray) ++ (nmB c.a),()):ByteArray × Unit)=(bscT c,()))/\True/\True/\True/\True/\TF))))))))
theorem vcn_formatBasic (c:GCmd) (k:Nat):VC_formatBasic c k:=by
 unfold VC_formatBasic
 simp only [cln,Nat.reduceEqDiff,Nat.reduceLeDiff,Nat.reduceAdd,GCmd.eta]
 have n1:=nmB_size c.a
 have n2:=nmB_size c.b
 all_goals (try simp only [vcIf_iff,decide_eq_true_eq,decide_eq_false_iff_not,bne_iff_ne,ne_eq,beq_iff_eq,beq_eq_false_iff_ne,bne_eq_false_iff_eq,Bool.not_eq_true',Bool.not_eq_false',Int.ofNat_lt,Int.natCast_inj])
 all_goals (repeat' (first | apply And.intro | intro _))
 all_goals (repeat (cases ‹_/\_›))
 all_goals (first | omega | with_reducible assumption | with_reducible rfl | (simp only [ba_size,ba_lit,List.size_toArray,List.length_cons,List.length_nil];omega) | skip)
 all_goals (first | (simp [bscT, *];done) | skip)
theorem ok_formatBasic:FnOk Tryd.prog E 33 c_formatBasic :=
 fn_okQ (l:=L_formatBasic) (lp:=P_formatBasic) (hp:=fun _=>false) (gcs:=fun _=>none) (perm:=fun _=>[]) tabOk mix ⟨ok_iTermName,trivial⟩ trivial Tryd.func33 rfl (by kernel_rfl) (by decide) (by kernel_rfl) (anns:=fun x _=>fun _ _=>none) (fun ⟨c,_⟩ k _ _=>Eq.mp (by kernel_rfl) (vcn_formatBasic c k)) tot_fn
end Go.Proofs.YtkafaeeianofnaaDoor

namespace Go.Proofs.YtkafaeeianofnaaDoor
open Go.SE Go.RowKit
variable [Base]
set_option linter.unusedSectionVars false
set_option linter.unusedSimpArgs false
set_option linter.unusedVariables false
set_option maxHeartbeats 1000000
set_option maxRecDepth 100000
abbrev pt_bldS:PT:=ptBS 65
theorem ptok_bldS:PTOk Tryd.prog E 34 pt_bldS:=ptBS_ok (P:=Tryd.prog) (ρ:=Tryd.lays156_ren) { Tryd.lays156 with } Tryd.Builder_Extra_156 rfl
end Go.Proofs.YtkafaeeianofnaaDoor

namespace Go.Proofs.YtkafaeeianofnaaDoor
open Go.SE Go.RowKit
variable [Base] [Names]
set_option linter.unusedSectionVars false
set_option linter.unusedSimpArgs false
set_option linter.unusedVariables false
set_option maxHeartbeats 1000000
set_option maxRecDepth 100000
abbrev c_formatCommands:Con:=⟨[.sl .cmd],[.str],fun (l,_)=>VlL l,.inl fun (l,_)=>(cmL l,()),fun _=>0⟩
abbrev mu_formatCommands:Args c_formatCommands.aks->Nat:=fun (l,_)=>ndL l
abbrev L_formatCommands (m:Nat):List (FuncId × Con):=[(20,c_formatCommands.lim mu_formatCommands m),(31,c_iFormatFact),(32,c_iFormatAssertion),(33,c_formatBasic)]
abbrev P_formatCommands:List (FuncId × PT):=[(30,pt_bldW),(34,pt_bldS)]
def an_formatCommands (l:List GCmd):Nat->St->Option Ann
 | 3,se=>some { α:=Nat,ok:=fun i=>i<=l.length,mu:=fun i=>l.length - i,i0:=fun _=>0,nx:=fun a _=>(fun i=>i+1) a,live:=[2,3,6,7],sets:=fun i=>[(8,sv (.int .i64 i))],mids:=[],blks:=fun i=>[(63,.bld 65 7)],owns:=fun i=>[⟨7,.cell 63 0,.u8,(cmL (l.take i)).data.toList⟩],rd:=fun r _=>r,base:=100000 }
 | _,_=>none
def perm_formatCommands:Nat->List (List Nat)
 | 8=>[[]]
 | 13=>[[]]
 | _=>[]
def hp_formatCommands:Nat->Bool
 | 6=>true
 | 8=>true
 | 10=>true
 | 11=>true
 | 13=>true
 | 14=>true
 | 16=>true
 | _=>false
def VC_formatCommands_1 (l:List GCmd):Prop:=RL [.s (.c (.d (.val (.string (⟨#[]⟩:ByteArray))))),.s (.c (.ptr 63 0)),.s (.c (.d (.arr .cmd l))),.s (.c (.d (.val (.int .i64 ((l.length:Nat):Int)))))]
def VC_formatCommands_2 (l:List GCmd) (i1:Nat) (m:Nat):Prop:=((VlL ((l.getD i1 (Ty.zero .cmd)).body))/\ndL ((l.getD i1 (Ty.zero .cmd)).body) < m)/\True/\True
def VC_formatCommands_3 (i1:Nat):Prop:=([.s (.c (.d (.val (.int .i64 (((i1:Nat):Int)+(1:Int))))))]:List S)=[.s (.c (.d (.val (.int .i64 (((i1+1):Nat):Int)))))]
def VC_formatCommands_4 (l:List GCmd) (i1:Nat) (m:Nat):Prop:=(True/\(vcIf (decide ((0:Int) < ((((l.getD i1 (Ty.zero .cmd)).els).length:Nat):Int))) (True/\True/\(((VlL ((l.getD i1 (Ty.zero .cmd)).els))/\ndL ((l.getD i1 (Ty.zero .cmd)).els) < m)/\True/\True)/\((((⟨#[101,108,115,101,10]⟩:ByteArray).size+(cmL ((l.getD i1 (Ty.zero .cmd)).els)).size:Nat):Int)<=9223372036854775807)/\(((65:Nat)=65)/\TN/\(TF/\TF)/\(TF/\TF)/\(List.length (α:=UInt8) (((cmL (l.take i1)).data.toList) ++ ((((⟨#[105,102,32]⟩:ByteArray) ++ (if fV ((l.getD i1 (Ty.zero .cmd)).test)=true then factT ((l.getD i1 (Ty.zero .cmd)).test) else ⟨#[]⟩)) ++ (⟨#[10]⟩:ByteArray)) ++ (cmL ((l.getD i1 (Ty.zero .cmd)).body))).data.toList)+((⟨#[101,108,115,101,10]⟩:ByteArray) ++ (cmL ((l.getD i1 (Ty.zero .cmd)).els))).size<=4294967296))/\(((65:Nat)=65)/\TN/\(TF/\TF)/\(TF/\TF)/\(List.length (α:=UInt8) ((((cmL (l.take i1)).data.toList) ++ ((((⟨#[105,102,32]⟩:ByteArray) ++ (if fV ((l.getD i1 (Ty.zero .cmd)).test)=true then factT ((l.getD i1 (Ty.zero .cmd)).test) else ⟨#[]⟩)) ++ (⟨#[10]⟩:ByteArray)) ++ (cmL ((l.getD i1 (Ty.zero .cmd)).body))).data.toList) ++ ((⟨#[101,108,115,101,10]⟩:ByteArray) ++ (cmL ((l.getD i1 (Ty.zero .cmd)).els))).data.toList)+(⟨#[101,110,100,10]⟩:ByteArray).size<=4294967296))/\(inK .i64 (((i1:Nat):Int)+(1:Int)))/\True/\((i1+1)<=l.length)/\(l.length - (i1+1) < l.length - i1)/\TT/\(VC_formatCommands_1 l)/\(VC_formatCommands_3 i1)/\(RM [])/\(RM [some (.bld 65 7055360)])/\(((some (((((cmL (l.take i1)).data.toList) ++ ((((⟨#[105,102,32]⟩:ByteArray) ++ (if fV ((l.getD i1 (Ty.zero .cmd)).test)=true then factT ((l.getD i1 (Ty.zero .cmd)).test) else ⟨#[]⟩)) ++ (⟨#[10]⟩:ByteArray)) ++ (cmL ((l.getD i1 (Ty.zero .cmd)).body))).data.toList) ++ ((⟨#[101,108,115,101,10]⟩:ByteArray) ++ (cmL ((l.getD i1 (Ty.zero .cmd)).els))).data.toList) ++ (⟨#[101,110,100,10]⟩:ByteArray).data.toList):Option (List UInt8))=some ((cmL (l.take (i1+1))).data.toList))/\True)/\TT) ((((65:Nat)=65)/\TN/\(TF/\TF)/\(TF/\TF)/\(List.length (α:=UInt8) (((cmL (l.take i1)).data.toList) ++ ((((⟨#[105,102,32]⟩:ByteArray) ++ (if fV ((l.getD i1 (Ty.zero .cmd)).test)=true then factT ((l.getD i1 (Ty.zero .cmd)).test) else ⟨#[]⟩)) ++ (⟨#[10]⟩:ByteArray)) ++ (cmL ((l.getD i1 (Ty.zero .cmd)).body))).data.toList)+(⟨#[101,110,100,10]⟩:ByteArray).size<=4294967296))/\(inK .i64 (((i1:Nat):Int)+(1:Int)))/\True/\((i1+1)<=l.length)/\(l.length - (i1+1) < l.length - i1)/\TT/\(VC_formatCommands_1 l)/\(VC_formatCommands_3 i1)/\(RM [])/\(RM [some (.bld 65 7055360)])/\(((some ((((cmL (l.take i1)).data.toList) ++ ((((⟨#[105,102,32]⟩:ByteArray) ++ (if fV ((l.getD i1 (Ty.zero .cmd)).test)=true then factT ((l.getD i1 (Ty.zero .cmd)).test) else ⟨#[]⟩)) ++ (⟨#[10]⟩:ByteArray)) ++ (cmL ((l.getD i1 (Ty.zero .cmd)).body))).data.toList) ++ (⟨#[101,110,100,10]⟩:ByteArray).data.toList):Option (List UInt8))=some ((cmL (l.take (i1+1))).data.toList))/\True)/\TT)))
def VC_formatCommands_5 (l:List GCmd) (i1:Nat) (m:Nat):Prop:=((((((⟨#[119,104,105,108,101,32]⟩:ByteArray) ++ (if fV ((l.getD i1 (Ty.zero .cmd)).test)=true then factT ((l.getD i1 (Ty.zero .cmd)).test) else ⟨#[]⟩)).size+(⟨#[32,119,105,116,104,32]⟩:ByteArray).size:Nat):Int)<=9223372036854775807)/\True/\True/\((((l.getD i1 (Ty.zero .cmd)).inv).facts.length<=281474976710656/\((l.getD i1 (Ty.zero .cmd)).inv).atoms.length<=281474976710656)/\True/\True)/\((((((⟨#[119,104,105,108,101,32]⟩:ByteArray) ++ (if fV ((l.getD i1 (Ty.zero .cmd)).test)=true then factT ((l.getD i1 (Ty.zero .cmd)).test) else ⟨#[]⟩)) ++ (⟨#[32,119,105,116,104,32]⟩:ByteArray)).size+(if asV ((l.getD i1 (Ty.zero .cmd)).inv)=true then asnT ((l.getD i1 (Ty.zero .cmd)).inv) else ⟨#[]⟩).size:Nat):Int)<=9223372036854775807)/\(((((((⟨#[119,104,105,108,101,32]⟩:ByteArray) ++ (if fV ((l.getD i1 (Ty.zero .cmd)).test)=true then factT ((l.getD i1 (Ty.zero .cmd)).test) else ⟨#[]⟩)) ++ (⟨#[32,119,105,116,104,32]⟩:ByteArray)) ++ (if asV ((l.getD i1 (Ty.zero .cmd)).inv)=true then asnT ((l.getD i1 (Ty.zero .cmd)).inv) else ⟨#[]⟩)).size+(⟨#[10]⟩:ByteArray).size:Nat):Int)<=9223372036854775807)/\(((65:Nat)=65)/\TN/\(TF/\TF)/\(TF/\TF)/\(List.length (α:=UInt8) ((cmL (l.take i1)).data.toList)+(((((⟨#[119,104,105,108,101,32]⟩:ByteArray) ++ (if fV ((l.getD i1 (Ty.zero .cmd)).test)=true then factT ((l.getD i1 (Ty.zero .cmd)).test) else ⟨#[]⟩)) ++ (⟨#[32,119,105,116,104,32]⟩:ByteArray)) ++ (if asV ((l.getD i1 (Ty.zero .cmd)).inv)=true then asnT ((l.getD i1 (Ty.zero .cmd)).inv) else ⟨#[]⟩)) ++ (⟨#[10]⟩:ByteArray)).size<=4294967296))/\True/\True/\(VC_formatCommands_2 l i1 m)/\((((cmL ((l.getD i1 (Ty.zero .cmd)).body)).size+(⟨#[101,110,100,10]⟩:ByteArray).size:Nat):Int)<=9223372036854775807)/\(((65:Nat)=65)/\TN/\(TF/\TF)/\(TF/\TF)/\(List.length (α:=UInt8) (((cmL (l.take i1)).data.toList) ++ (((((⟨#[119,104,105,108,101,32]⟩:ByteArray) ++ (if fV ((l.getD i1 (Ty.zero .cmd)).test)=true then factT ((l.getD i1 (Ty.zero .cmd)).test) else ⟨#[]⟩)) ++ (⟨#[32,119,105,116,104,32]⟩:ByteArray)) ++ (if asV ((l.getD i1 (Ty.zero .cmd)).inv)=true then asnT ((l.getD i1 (Ty.zero .cmd)).inv) else ⟨#[]⟩)) ++ (⟨#[10]⟩:ByteArray)).data.toList)+((cmL ((l.getD i1 (Ty.zero .cmd)).body)) ++ (⟨#[101,110,100,10]⟩:ByteArray)).size<=4294967296))/\(inK .i64 (((i1:Nat):Int)+(1:Int)))/\True/\((i1+1)<=l.length)/\(l.length - (i1+1) < l.length - i1)/\TT/\(VC_formatCommands_1 l)/\(VC_formatCommands_3 i1)/\(RM [])/\(RM [some (.bld 65 7350272)])/\(((some ((((cmL (l.take i1)).data.toList) ++ (((((⟨#[119,104,105,108,101,32]⟩:ByteArray) ++ (if fV ((l.getD i1 (Ty.zero .cmd)).test)=true then factT ((l.getD i1 (Ty.zero .cmd)).test) else ⟨#[]⟩)) ++ (⟨#[32,119,105,116,104,32]⟩:ByteArray)) ++ (if asV ((l.getD i1 (Ty.zero .cmd)).inv)=true then asnT ((l.getD i1 (Ty.zero .cmd)).inv) else ⟨#[]⟩)) ++ (⟨#[10]⟩:ByteArray)).data.toList) ++ ((cmL ((l.getD i1 (Ty.zero .cmd)).body)) ++ (⟨#[101,110,100,10]⟩:ByteArray)).data.toList):Option (List UInt8))=some ((cmL (l.take (i1+1))).data.toList))/\True)/\TT)
def VC_formatCommands_6 (l:List GCmd) (i1:Nat) (m:Nat):Prop:=((TN/\TN/\TN/\TN/\TN/\True)/\(TF/\TF)/\True/\True/\True/\True/\(vcIf (((l.getD i1 (Ty.zero .cmd)).kind) == (6:Int)) (True/\True/\(True/\True/\True)/\((((⟨#[105,102,32]⟩:ByteArray).size+(if fV ((l.getD i1 (Ty.zero .cmd)).test)=true then factT ((l.getD i1 (Ty.zero .cmd)).test) else ⟨#[]⟩).size:Nat):Int)<=9223372036854775807)/\(((((⟨#[105,102,32]⟩:ByteArray) ++ (if fV ((l.getD i1 (Ty.zero .cmd)).test)=true then factT ((l.getD i1 (Ty.zero .cmd)).test) else ⟨#[]⟩)).size+(⟨#[10]⟩:ByteArray).size:Nat):Int)<=9223372036854775807)/\True/\True/\(VC_formatCommands_2 l i1 m)/\((((((⟨#[105,102,32]⟩:ByteArray) ++ (if fV ((l.getD i1 (Ty.zero .cmd)).test)=true then factT ((l.getD i1 (Ty.zero .cmd)).test) else ⟨#[]⟩)) ++ (⟨#[10]⟩:ByteArray)).size+(cmL ((l.getD i1 (Ty.zero .cmd)).body)).size:Nat):Int)<=9223372036854775807)/\(((65:Nat)=65)/\TN/\(TF/\TF)/\(TF/\TF)/\(List.length (α:=UInt8) ((cmL (l.take i1)).data.toList)+((((⟨#[105,102,32]⟩:ByteArray) ++ (if fV ((l.getD i1 (Ty.zero .cmd)).test)=true then factT ((l.getD i1 (Ty.zero .cmd)).test) else ⟨#[]⟩)) ++ (⟨#[10]⟩:ByteArray)) ++ (cmL ((l.getD i1 (Ty.zero .cmd)).body))).size<=4294967296))/\True/\True/\True/\(VC_formatCommands_4 l i1 m)) (True/\True/\(vcIf (((l.getD i1 (Ty.zero .cmd)).kind) == (7:Int)) (True/\True/\(True/\True/\True)/\((((⟨#[119,104,105,108,101,32]⟩:ByteArray).size+(if fV ((l.getD i1 (Ty.zero .cmd)).test)=true then factT ((l.getD i1 (Ty.zero .cmd)).test) else ⟨#[]⟩).size:Nat):Int)<=9223372036854775807)/\(VC_formatCommands_5 l i1 m)) (True/\(True/\True/\True)/\((((bscT (GCmd.mk ((l.getD i1 (Ty.zero .cmd)).kind) ((l.getD i1 (Ty.zero .cmd)).a) ((l.getD i1 (Ty.zero .cmd)).b) ((l.getD i1 (Ty.zero .cmd)).test) ((l.getD i1 (Ty.zero .cmd)).inv) ((l.getD i1 (Ty.zero .cmd)).body) ((l.getD i1 (Ty.zero .cmd)).els))).size+(⟨#[10]⟩:ByteArray).size:Nat):Int)<=9223372036854775807)/\(((65:Nat)=65)/\TN/\(TF/\TF)/\(TF/\TF)/\(List.length (α:=UInt8) ((cmL (l.take i1)).data.toList)+((bscT (GCmd.mk ((l.getD i1 (Ty.zero .cmd)).kind) ((l.getD i1 (Ty.zero .cmd)).a) ((l.getD i1 (Ty.zero .cmd)).b) ((l.getD i1 (Ty.zero .cmd)).test) ((l.getD i1 (Ty.zero .cmd)).inv) ((l.getD i1 (Ty.zero .cmd)).body) ((l.getD i1 (Ty.zero .cmd)).els))) ++ (⟨#[10]⟩:ByteArray)).size<=4294967296))/\(inK .i64 (((i1:Nat):Int)+(1:Int)))/\True/\((i1+1)<=l.length)/\(l.length - (i1+1) < l.length - i1)/\TT/\(VC_formatCommands_1 l)/\(VC_formatCommands_3 i1)/\(RM [])/\(RM [some (.bld 65 6694912)])/\(((some (((cmL (l.take i1)).data.toList) ++ ((bscT (GCmd.mk ((l.getD i1 (Ty.zero .cmd)).kind) ((l.getD i1 (Ty.zero .cmd)).a) ((l.getD i1 (Ty.zero .cmd)).b) ((l.getD i1 (Ty.zero .cmd)).test) ((l.getD i1 (Ty.zero .cmd)).inv) ((l.getD i1 (Ty.zero .cmd)).body) ((l.getD i1 (Ty.zero .cmd)).els))) ++ (⟨#[10]⟩:ByteArray)).data.toList):Option (List UInt8))=some ((cmL (l.take (i1+1))).data.toList))/\True)/\TT)))))
def VC_formatCommands (l:List GCmd) (m:Nat) (k:Nat):Prop:=True/\(TN/\TN/\True)/\True/\True/\True/\((0<=l.length)/\TT/\(VC_formatCommands_1 l)/\(([.s (.c (.d (.val (.int .i64 (0:Int)))))]:List S)=[.s (.c (.d (.val (.int .i64 ((0:Nat):Int)))))])/\(RM [])/\(RM [some (.bld 65 48)])/\(((some ([]:List UInt8):Option (List UInt8))=some ((cmL (l.take 0)).data.toList))/\True)/\TT)/\(∀ i1:Nat,(i1<=l.length)->True/\(vcIf (decide (((i1:Nat):Int) < ((l.length:Nat):Int))) ((0<=((i1:Nat):Int)/\((i1:Nat):Int) < ((l.length:Nat):Int))/\True/\(VC_formatCommands_6 l i1 m)) ((((65:Nat)=65)/\TF/\TF)/\True/\((((⟨List.toArray (α:=UInt8) ((cmL (l.take i1)).data.toList)⟩:ByteArray),()):ByteArray × Unit)=(cmL l,()))/\True/\True/\True/\True/\TF)))
theorem vcn_formatCommands (l:List GCmd) (m:Nat) (k:Nat) (hp:(VlL l)/\ndL l < m+1):VC_formatCommands l m k:=by
 unfold VC_formatCommands VC_formatCommands_6 VC_formatCommands_5 VC_formatCommands_4 VC_formatCommands_3 VC_formatCommands_2 VC_formatCommands_1
 simp only [cln,Nat.reduceEqDiff,Nat.reduceLeDiff,Nat.reduceAdd,GCmd.eta]
 have hz:=VlL.lenb hp.1
 have hb:=fun i (hi:i < l.length)=>VlL.bnd (z:=Ty.zero .cmd) hp.1 hi
 have g1:=fun i=>ff_size (l.getD i (Ty.zero .cmd)).test
 have g2:=fun i=>aa_size (l.getD i (Ty.zero .cmd)).inv
 have g3:=fun i=>bscT_size (l.getD i (Ty.zero .cmd))
 all_goals (try simp only [vcIf_iff,decide_eq_true_eq,decide_eq_false_iff_not,bne_iff_ne,ne_eq,beq_iff_eq,beq_eq_false_iff_ne,bne_eq_false_iff_eq,Bool.not_eq_true',Bool.not_eq_false',Int.ofNat_lt,Int.natCast_inj])
 all_goals (repeat' (first | apply And.intro | intro _))
 all_goals (repeat (cases ‹_/\_›))
 all_goals (first | omega | with_reducible assumption | with_reducible rfl | (with_reducible exact cmy_nil) | (with_reducible exact cm_endB ‹_› ‹_›) | skip)
 all_goals (have bb:=hb _ ‹_›;obtain ⟨b1,b2,b3,b4,b5,b6,b7,b8,b9⟩:=bb)
 all_goals (first
  | omega
  | with_reducible assumption
  | with_reducible exact cmy_ie ‹_› ‹_› ‹_› ‹_›
  | with_reducible exact cmy_in ‹_› ‹_› ‹_› ‹_›
  | with_reducible exact cmy_wh ‹_› ‹_› ‹_›
  | with_reducible exact cmy_bs ‹_› ‹_› ‹_› ‹_›
  | with_reducible exact (fok_inv ‹_› ‹_›).1
  | with_reducible exact (fok_inv ‹_› ‹_›).2
  | ((try simp only [ba_size,ba_lit,bl_len,List.length_append,List.size_toArray,List.length_cons,List.length_nil]);grind)
  | skip)
 all_goals clear hb
theorem ok_formatCommands:FnOk Tryd.prog E 20 c_formatCommands :=
 fn_rec (mu:=mu_formatCommands) (fun m ih=>fn_okQ (con:=c_formatCommands.lim mu_formatCommands (m+1)) (fn:=Tryd.f20) (l:=L_formatCommands m) (lp:=P_formatCommands) (hp:=hp_formatCommands) (gcs:=fun _=>none) (perm:=perm_formatCommands) tabOk mix ⟨ih,ok_iFormatFact,ok_iFormatAssertion,ok_formatBasic,trivial⟩ ⟨ptok_bldW,ptok_bldS,trivial⟩ Tryd.func20 rfl (by kernel_rfl) (show c_formatCommands.aks.length<=Tryd.f20.ntmps by decide) (by kernel_rfl) (anns:=fun x _=>an_formatCommands x.1) (fun ⟨l,_⟩ k hp _=>Eq.mp (by kernel_rfl) (vcn_formatCommands l m k hp)) tot_fn) ⟨_,_,Tryd.func20,by kernel_rfl,rfl⟩ tot_fn
abbrev c_iFormatProgram:Con:=⟨[.sl .cmd],[.str],fun (l,_)=>BdL l,.inl fun (l,_)=>(if prV l=true then cmL l else ⟨#[]⟩,()),fun _=>0⟩
abbrev L_iFormatProgram:List (FuncId × Con):=[(9,c_iProgramValid),(20,c_formatCommands)]
abbrev P_iFormatProgram:List (FuncId × PT):=[]
def VC_iFormatProgram (l:List GCmd) (k:Nat):Prop:=True/\True/\((BdL l)/\True/\True)/\True/\(vcIf (!(prV l)) (True/\((((⟨#[]⟩:ByteArray),()):ByteArray × Unit)=(if prV l=true then cmL l else ⟨#[]⟩,()))/\True/\True/\True/\True/\TF) (True/\((VlL l)/\True/\True)/\True/\((((cmL l),()):ByteArray × Unit)=(if prV l=true then cmL l else ⟨#[]⟩,()))/\True/\True/\True/\True/\TF))
theorem vcn_iFormatProgram (l:List GCmd) (k:Nat) (hp:BdL l):VC_iFormatProgram l k:=by
 unfold VC_iFormatProgram
 simp only [cln,Nat.reduceEqDiff,Nat.reduceLeDiff,Nat.reduceAdd]
 all_goals (try simp only [vcIf_iff,decide_eq_true_eq,decide_eq_false_iff_not,bne_iff_ne,ne_eq,beq_iff_eq,beq_eq_false_iff_ne,bne_eq_false_iff_eq,Bool.not_eq_true',Bool.not_eq_false',Int.ofNat_lt,Int.natCast_inj])
 all_goals (repeat' (first | apply And.intro | intro _))
 all_goals (repeat (cases ‹_/\_›))
 all_goals (first | omega | with_reducible assumption | with_reducible rfl | exact VlL.of ‹_› | (simp [*];done) | skip)
theorem ok_iFormatProgram:FnOk Tryd.prog E 10 c_iFormatProgram :=
 fn_okQ (l:=L_iFormatProgram) (lp:=P_iFormatProgram) (hp:=fun _=>false) (gcs:=fun _=>none) (perm:=fun _=>[]) tabOk mix ⟨ok_iProgramValid,ok_formatCommands,trivial⟩ trivial Tryd.func10 rfl (by kernel_rfl) (by decide) (by kernel_rfl) (anns:=fun x _=>fun _ _=>none) (fun ⟨l,_⟩ k hp _=>Eq.mp (by kernel_rfl) (vcn_iFormatProgram l k hp)) tot_fn
abbrev c_FnCountCmds:Con:=⟨[.sl .u8],[.bool],fun (code,_)=>code.length<=281474976710656,.inl fun (code,_)=>(true,()),fun _=>0⟩
abbrev L_FnCountCmds:List (FuncId × Con):=[(6,c_DrawCountCmds),(7,c_iCountCmds),(8,c_sCountCmds),(9,c_iProgramValid),(10,c_iFormatProgram)]
abbrev P_FnCountCmds:List (FuncId × PT):=[]
def an_FnCountCmds (code:List UInt8):Nat->St->Option Ann
 | 10,se=>some { α:=Nat,ok:=fun i=>i<=(strAt se 6).size,mu:=fun i=>(strAt se 6).size - i,i0:=fun _=>0,nx:=fun a _=>(fun i=>i+1) a,live:=[2,3,4,6],sets:=fun i=>[(7,sv (.int .i64 i)),(5,sv (.int .i64 (nlN ((strAt se 6).data.toList.take i))))],mids:=[],blks:=fun i=>[],owns:=fun i=>[],rd:=fun r _=>r,base:=100000 }
 | 16,se=>some { α:=Nat,ok:=fun i=>i<=(cmdsAt se 3).length,mu:=fun i=>(cmdsAt se 3).length - i,i0:=fun _=>0,nx:=fun a _=>(fun i=>i+1) a,live:=[2,3,4,5],sets:=fun i=>[(9,sv (.int .i64 i)),(8,sv (.int .i64 (ndL ((cmdsAt se 3).take i))))],mids:=[],blks:=fun i=>[],owns:=fun i=>[],rd:=fun r _=>r,base:=200000 }
 | _,_=>none
def VC_FnCountCmds_1 (r1:(List GCmd) × Unit):Prop:=True/\True/\((BdL r1.1/\ndL r1.1<=1048576)/\True/\True)/\True/\True/\((((if prV r1.1 then (ndL r1.1:Int) else 0) == (if prV r1.1 then (ndL r1.1:Int) else 0),()):Bool × Unit)=(true,()))/\True/\True/\True/\True/\TF
def VC_FnCountCmds_2 (r1:(List GCmd) × Unit):Prop:=RL [.s (.c (.d (.val (.bool false)))),.s (.c (.d (.arr .cmd r1.1))),.s (.c (.d (.val (.int .i64 (if prV r1.1 then (ndL r1.1:Int) else 0))))),.s (.c (.d (.val (.string (if prV r1.1=true then cmL r1.1 else ⟨#[]⟩)))))]
def VC_FnCountCmds_3 (r1:(List GCmd) × Unit) (i2:Nat):Prop:=((if prV r1.1=true then cmL r1.1 else ⟨#[]⟩)).size - (i2+1) < ((if prV r1.1=true then cmL r1.1 else ⟨#[]⟩)).size - i2
def VC_FnCountCmds_4 (r1:(List GCmd) × Unit) (i2:Nat):Prop:=RL [.s (.c (.d (.val (.bool false)))),.s (.c (.d (.arr .cmd r1.1))),.s (.c (.d (.val (.int .i64 (if prV r1.1 then (ndL r1.1:Int) else 0))))),.s (.c (.d (.val (.int .i64 (nlN (((if prV r1.1=true then cmL r1.1 else ⟨#[]⟩)).data.toList.take i2):Int)))))]
def VC_FnCountCmds_5 :Prop:=True/\True/\(((false,()):Bool × Unit)=(true,()))/\True/\True/\True/\True/\TF
def VC_FnCountCmds_6 (i2:Nat) (r1:(List GCmd) × Unit):Prop:=(True/\(vcIf (decide (((i2:Nat):Int) < (((if prV r1.1=true then cmL r1.1 else ⟨#[]⟩).size:Nat):Int))) (True/\True/\(0<=((i2:Nat):Int)/\((i2:Nat):Int) < (((if prV r1.1=true then cmL r1.1 else ⟨#[]⟩).size:Nat):Int))/\True/\(vcIf ((((if prV r1.1=true then cmL r1.1 else ⟨#[]⟩).data.toList.getD i2 0).toNat:Int) == (10:Int)) (True/\(inK .i64 ((nlN (((if prV r1.1=true then cmL r1.1 else ⟨#[]⟩)).data.toList.take i2):Int)+(1:Int)))/\True/\True/\(inK .i64 (((i2:Nat):Int)+(1:Int)))/\True/\((i2+1)<=((if prV r1.1=true then cmL r1.1 else ⟨#[]⟩)).size)/\(VC_FnCountCmds_3 r1 i2)/\TT/\(VC_FnCountCmds_2 r1)/\(([.s (.c (.d (.val (.int .i64 (((i2:Nat):Int)+(1:Int)))))),.s (.c (.d (.val (.int .i64 ((nlN (((if prV r1.1=true then cmL r1.1 else ⟨#[]⟩)).data.toList.take i2):Int)+(1:Int))))))]:List S)=[.s (.c (.d (.val (.int .i64 (((i2+1):Nat):Int))))),.s (.c (.d (.val (.int .i64 (nlN (((if prV r1.1=true then cmL r1.1 else ⟨#[]⟩)).data.toList.take (i2+1)):Int)))))])/\(RM [])/\(RM [])/\True/\TT) (True/\(inK .i64 (((i2:Nat):Int)+(1:Int)))/\True/\((i2+1)<=((if prV r1.1=true then cmL r1.1 else ⟨#[]⟩)).size)/\(VC_FnCountCmds_3 r1 i2)/\TT/\(VC_FnCountCmds_2 r1)/\(([.s (.c (.d (.val (.int .i64 (((i2:Nat):Int)+(1:Int)))))),.s (.c (.d (.val (.int .i64 (nlN (((if prV r1.1=true then cmL r1.1 else ⟨#[]⟩)).data.toList.take i2):Int)))))]:List S)=[.s (.c (.d (.val (.int .i64 (((i2+1):Nat):Int))))),.s (.c (.d (.val (.int .i64 (nlN (((if prV r1.1=true then cmL r1.1 else ⟨#[]⟩)).data.toList.take (i2+1)):Int)))))])/\(RM [])/\(RM [])/\True/\TT))) (True/\True/\((0<=(r1.1).length)/\TT/\(VC_FnCountCmds_4 r1 i2)/\(([.s (.c (.d (.val (.int .i64 (0:Int))))),.s (.c (.d (.val (.int .i64 (0:Int)))))]:List S)=[.s (.c (.d (.val (.int .i64 ((0:Nat):Int))))),.s (.c (.d (.val (.int .i64 (ndL ((r1.1).take 0):Int)))))])/\(RM [])/\(RM [])/\True/\TT)/\(∀ i3:Nat,(i3<=(r1.1).length)->True/\True/\True/\True/\(vcIf (decide (((i3:Nat):Int) < ((r1.1.length:Nat):Int))) (True/\True/\True/\True/\(inK .i64 (((i3:Nat):Int)+(1:Int)))/\((0<=((i3:Nat):Int))/\(((i3:Nat):Int)<=(((i3:Nat):Int)+(1:Int)))/\((((i3:Nat):Int)+(1:Int))<=((r1.1.length:Nat):Int)))/\((BdL ((r1.1.drop i3).take ((((i3:Nat):Int)+(1:Int)).toNat - i3)))/\True/\True)/\(inK .i64 ((ndL ((r1.1).take i3):Int)+(if prV ((r1.1.drop i3).take ((((i3:Nat):Int)+(1:Int)).toNat - i3)) then (ndL ((r1.1.drop i3).take ((((i3:Nat):Int)+(1:Int)).toNat - i3)):Int) else 0)))/\True/\True/\(inK .i64 (((i3:Nat):Int)+(1:Int)))/\True/\((i3+1)<=(r1.1).length)/\((r1.1).length - (i3+1) < (r1.1).length - i3)/\TT/\(VC_FnCountCmds_4 r1 i2)/\(([.s (.c (.d (.val (.int .i64 (((i3:Nat):Int)+(1:Int)))))),.s (.c (.d (.val (.int .i64 ((ndL ((r1.1).take i3):Int)+(if prV ((r1.1.drop i3).take ((((i3:Nat):Int)+(1:Int)).toNat - i3)) then (ndL ((r1.1.drop i3).take ((((i3:Nat):Int)+(1:Int)).toNat - i3)):Int) else 0))))))]:List S)=[.s (.c (.d (.val (.int .i64 (((i3+1):Nat):Int))))),.s (.c (.d (.val (.int .i64 (ndL ((r1.1).take (i3+1)):Int)))))])/\(RM [])/\(RM [])/\True/\TT) (True/\True/\True/\True/\(vcIf (decide ((if prV r1.1 then (ndL r1.1:Int) else 0)<=(nlN (((if prV r1.1=true then cmL r1.1 else ⟨#[]⟩)).data.toList.take i2):Int))) (True/\True/\True/\True/\True/\(vcIf ((ndL ((r1.1).take i3):Int) == (if prV r1.1 then (ndL r1.1:Int) else 0)) (True/\True/\True/\True/\(((decide ((if prV r1.1 then (ndL r1.1:Int) else 0)<=(16:Int)),()):Bool × Unit)=(true,()))/\True/\True/\True/\True/\TF) VC_FnCountCmds_5)) (True/\True/\VC_FnCountCmds_5))))))))
def VC_FnCountCmds (code:List UInt8) (k:Nat):Prop:=True/\True/\True/\True/\(vcIf (decide ((1048576:Int) < ((code.length:Nat):Int))) (True/\(((true,()):Bool × Unit)=(true,()))/\True/\True/\True/\True/\TF) (True/\(True/\True/\True/\True)/\(∀ r1:(List GCmd) × Unit,(r1.1.length+wcL r1.1<=20100)->True/\True/\((BdL r1.1)/\True/\True)/\True/\True/\True/\((BdL r1.1/\ndL r1.1<=1048576)/\True/\True)/\True/\True/\(vcIf ((if prV r1.1 then (ndL r1.1:Int) else 0) != (if prV r1.1 then (ndL r1.1:Int) else 0)) (True/\(VC_FnCountCmds_1 r1)) (True/\((BdL r1.1)/\True/\True)/\True/\True/\(vcIf (!(prV r1.1)) (VC_FnCountCmds_1 r1) (True/\True/\((BdL r1.1)/\True/\True)/\True/\True/\((0<=((if prV r1.1=true then cmL r1.1 else ⟨#[]⟩)).size)/\TT/\(VC_FnCountCmds_2 r1)/\(([.s (.c (.d (.val (.int .i64 (0:Int))))),.s (.c (.d (.val (.int .i64 (0:Int)))))]:List S)=[.s (.c (.d (.val (.int .i64 ((0:Nat):Int))))),.s (.c (.d (.val (.int .i64 (nlN (((if prV r1.1=true then cmL r1.1 else ⟨#[]⟩)).data.toList.take 0):Int)))))])/\(RM [])/\(RM [])/\True/\TT)/\(∀ i2:Nat,(i2<=((if prV r1.1=true then cmL r1.1 else ⟨#[]⟩)).size)->True/\True/\True/\(VC_FnCountCmds_6 i2 r1)))))))))
theorem vcn_FnCountCmds (code:List UInt8) (k:Nat) (hp:code.length<=281474976710656):VC_FnCountCmds code k:=by
 unfold VC_FnCountCmds VC_FnCountCmds_6 VC_FnCountCmds_5 VC_FnCountCmds_4 VC_FnCountCmds_3 VC_FnCountCmds_2 VC_FnCountCmds_1
 simp only [cln,Nat.reduceEqDiff,Nat.reduceLeDiff,Nat.reduceAdd,bne_self_eq_false,beq_self_eq_true,decide_true,eq_self,Bool.not_true,Bool.not_false,vcIf_true,vcIf_false,Bool.false_and,Bool.true_and,Bool.or_false,Bool.or_true,GCmd.eta]
 all_goals (try simp only [vcIf_iff,decide_eq_true_eq,decide_eq_false_iff_not,bne_iff_ne,ne_eq,beq_iff_eq,beq_eq_false_iff_ne,bne_eq_false_iff_eq,Bool.not_eq_true',Bool.not_eq_false',Int.ofNat_lt,Int.natCast_inj])
 all_goals (repeat' (first | apply And.intro | intro _))
 all_goals (repeat (cases ‹_/\_›))
 all_goals (first | omega | with_reducible assumption | with_reducible rfl | with_reducible exact True.intro | exact small_bdL (by omega) | exact Nat.le_trans (ndL_wt _) (by omega) | skip)
 all_goals (first
  | with_reducible exact nl_b _ _
  | with_reducible exact nl_i ‹_›
  | with_reducible exact nl_y ‹_› ‹_›
  | with_reducible exact nl_n ‹_› ‹_›
  | with_reducible exact cc_one ‹_› ‹_›
  | with_reducible exact (cc_i ‹_› ‹_›).1
  | with_reducible exact (cc_i ‹_› ‹_›).2
  | with_reducible exact cc_sum ‹_› ‹_›
  | with_reducible exact cc_16 ‹_›
  | (exfalso;exact ‹¬ ((ndL (List.take _ _):Nat):Int)=_› (cc_all ‹_› ‹_› ‹_›))
  | (exfalso;exact ‹¬ _<=((nlN _:Nat):Int)› (nl_end ‹_› ‹_›))
  | rfl
  | skip)
theorem ok_FnCountCmds:FnOk Tryd.prog E 3 c_FnCountCmds :=
 fn_okQ (l:=L_FnCountCmds) (lp:=P_FnCountCmds) (hp:=fun _=>false) (gcs:=fun _=>none) (perm:=fun _=>[]) tabOk mix ⟨ok_DrawCountCmds,ok_iCountCmds,ok_sCountCmds,ok_iProgramValid,ok_iFormatProgram,trivial⟩ trivial Tryd.func3 rfl (by kernel_rfl) (by decide) (by kernel_rfl) (anns:=fun x _=>an_FnCountCmds x.1) (fun ⟨code,_⟩ k hp _=>Eq.mp (by kernel_rfl) (vcn_FnCountCmds code k hp)) tot_fn
end Go.Proofs.YtkafaeeianofnaaDoor
