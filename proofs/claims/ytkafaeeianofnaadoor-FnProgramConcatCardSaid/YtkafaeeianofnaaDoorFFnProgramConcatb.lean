/-
  Contracts of single functions of the program, each shown by the engine: what a call returns for arguments within the contract's bounds.
-/
import Derived.Test.YtkafaeeianofnaaDoorFFnProgramConcata
import Derived.Test.YtkafaeeianofnaaDoorEd
import Derived.Test.YtkafaeeianofnaaDoorEc
set_option linter.unusedSimpArgs false
set_option linter.unusedVariables false
set_option linter.unusedSectionVars false

namespace Go.Proofs.YtkafaeeianofnaaDoor
open Go.SE Go.RowKit
variable [Base] [Names]
set_option linter.unusedSectionVars false
set_option linter.unusedSimpArgs false
set_option linter.unusedVariables false
set_option maxHeartbeats 1000000
set_option maxRecDepth 100000
abbrev c_iFormatAssertion:Con:=⟨[.asn],[.str],fun (a,_)=>a.facts.length<=281474976710656/\a.atoms.length<=281474976710656,.inl fun (a,_)=>(if asV a=true then asnT a else ⟨#[]⟩,()),fun _=>0⟩
abbrev L_iFormatAssertion:List (FuncId × Con):=[(31,c_iFormatFact),(50,c_iAssertionValid),(57,c_join),(58,c_formatAtom)]
abbrev P_iFormatAssertion:List (FuncId × PT):=[]
def an_iFormatAssertion (a:GAsn):Nat->St->Option Ann
 | 7,se=>some { α:=Nat,ok:=fun i=>i<=a.facts.length/\asV a=true,mu:=fun i=>a.facts.length - i,i0:=fun _=>0,nx:=fun a _=>(fun i=>i+1) a,live:=[1,2,4,19,20],sets:=fun i=>[(21,sv (.int .i64 i))],mids:=[31],blks:=fun i=>[],owns:=fun i=>[⟨7,.slot 5,.str,(a.facts.take i).map factT⟩],rd:=fun r _=>r,base:=100000 }
 | 15,se=>some { α:=Nat,ok:=fun i=>i<=a.atoms.length/\asV a=true,mu:=fun i=>a.atoms.length - i,i0:=fun _=>0,nx:=fun a _=>(fun i=>i+1) a,live:=[2,3,38,39],sets:=fun i=>[(40,sv (.int .i64 i))],mids:=[],blks:=fun i=>[],owns:=fun i=>[⟨7,.slot 8,.str,(a.atoms.take i).map atomT⟩],rd:=fun r _=>r,base:=200000 }
 | _,_=>none
def VC_iFormatAssertion_1 (a:GAsn):Prop:=RL [.s (.c (.ptr 31 0)),.s (.c (.d (.val (.string (⟨#[]⟩:ByteArray))))),.s (.c (.d (.val (.string (⟨#[101,109,112]⟩:ByteArray))))),.s (.c (.d (.arr .fact a.facts))),.s (.c (.d (.val (.int .i64 ((a.facts.length:Nat):Int)))))]
def VC_iFormatAssertion_2 :Prop:=([.s (.c (.d (.val (.int .i64 (0:Int)))))]:List S)=[.s (.c (.d (.val (.int .i64 ((0:Nat):Int)))))]
def VC_iFormatAssertion_3 (i1:Nat):Prop:=([.s (.c (.d (.val (.int .i64 (((i1:Nat):Int)+(1:Int))))))]:List S)=[.s (.c (.d (.val (.int .i64 (((i1+1):Nat):Int)))))]
def VC_iFormatAssertion_4 (a:GAsn) (i1:Nat):Prop:=RL [.s (.c (.d (.val (.string (⟨#[]⟩:ByteArray))))),.s (.c (.d (.val (.string (joinB ((a.facts.take i1).map factT) (⟨#[32,38,32]⟩:ByteArray)))))),.s (.c (.d (.arr .atom a.atoms))),.s (.c (.d (.val (.int .i64 ((a.atoms.length:Nat):Int)))))]
def VC_iFormatAssertion_5 (a:GAsn):Prop:=VC_iFormatAssertion_2/\(RM [])/\(RM [])/\(((some ([]:List ByteArray):Option (List ByteArray))=some ((a.atoms.take 0).map atomT))/\True)/\TT
def VC_iFormatAssertion_6 (a:GAsn) (i2:Nat):Prop:=TN/\TF/\TF/\(((a.atoms.take i2).map atomT).length+([(atomT (a.atoms.getD i2 (⟨0,0,0⟩:GAtom)))]:List ByteArray).length<=4294967296)
def VC_iFormatAssertion_7 (i2:Nat) (a:GAsn):Prop:=(VC_iFormatAssertion_3 i2)/\(RM [])/\(RM [])/\(((some (((a.atoms.take i2).map atomT) ++ ([(atomT (a.atoms.getD i2 (⟨0,0,0⟩:GAtom)))]:List ByteArray)):Option (List ByteArray))=some ((a.atoms.take (i2+1)).map atomT))/\True)/\TT
def VC_iFormatAssertion_8 (a:GAsn) (i2:Nat):Prop:=(List.length (α:=ByteArray) ((a.atoms.take i2).map atomT)<=4294967296/\(joinB ((a.atoms.take i2).map atomT) (⟨#[32,42,32]⟩:ByteArray)).size<=140737488355328)/\True/\True
def VC_iFormatAssertion_9 (a:GAsn) (i1:Nat):Prop:=(((joinB ((a.facts.take i1).map factT) (⟨#[32,38,32]⟩:ByteArray)).size+(⟨#[32,124,32]⟩:ByteArray).size:Nat):Int)<=9223372036854775807
def VC_iFormatAssertion_10 (i1:Nat) (a:GAsn):Prop:=(True/\(vcIf (decide (((i1:Nat):Int) < ((a.facts.length:Nat):Int))) ((0<=((i1:Nat):Int)/\((i1:Nat):Int) < ((a.facts.length:Nat):Int))/\True/\(TN/\True)/\(TF/\TF)/\True/\True/\(True/\True/\True)/\(TN/\True)/\(TN/\TF/\TF/\(((a.facts.take i1).map factT).length+([(if fV (a.facts.getD i1 (⟨false,0,0⟩:GFact))=true then factT (a.facts.getD i1 (⟨false,0,0⟩:GFact)) else ⟨#[]⟩)]:List ByteArray).length<=4294967296))/\True/\(inK .i64 (((i1:Nat):Int)+(1:Int)))/\True/\((i1+1)<=a.facts.length/\asV a=true)/\(a.facts.length - (i1+1) < a.facts.length - i1)/\TT/\(VC_iFormatAssertion_1 a)/\(VC_iFormatAssertion_3 i1)/\(RM [some (.blk [.d (.arr .fact a.facts),.d (.arr .atom a.atoms)])])/\(RM [])/\(((some (((a.facts.take i1).map factT) ++ ([(if fV (a.facts.getD i1 (⟨false,0,0⟩:GFact))=true then factT (a.facts.getD i1 (⟨false,0,0⟩:GFact)) else ⟨#[]⟩)]:List ByteArray)):Option (List ByteArray))=some ((a.facts.take (i1+1)).map factT))/\True)/\TT) (True/\((List.length (α:=ByteArray) ((a.facts.take i1).map factT)<=4294967296/\(joinB ((a.facts.take i1).map factT) (⟨#[32,38,32]⟩:ByteArray)).size<=140737488355328)/\True/\True)/\True/\True/\True/\True/\True/\(vcIf (decide ((0:Int) < ((a.atoms.length:Nat):Int))) (TN/\True/\True/\True/\True/\((0<=a.atoms.length/\asV a=true)/\TT/\(VC_iFormatAssertion_4 a i1)/\(VC_iFormatAssertion_5 a))/\(∀ i2:Nat,(i2<=a.atoms.length/\asV a=true)->True/\(vcIf (decide (((i2:Nat):Int) < ((a.atoms.length:Nat):Int))) ((0<=((i2:Nat):Int)/\((i2:Nat):Int) < ((a.atoms.length:Nat):Int))/\True/\(TN/\True)/\(TF/\TF)/\True/\True/\(True/\True/\True)/\(TN/\True)/\(VC_iFormatAssertion_6 a i2)/\True/\(inK .i64 (((i2:Nat):Int)+(1:Int)))/\True/\((i2+1)<=a.atoms.length/\asV a=true)/\(a.atoms.length - (i2+1) < a.atoms.length - i2)/\TT/\(VC_iFormatAssertion_4 a i1)/\(VC_iFormatAssertion_7 i2 a)) (True/\(VC_iFormatAssertion_8 a i2)/\True/\True/\(VC_iFormatAssertion_9 a i1)/\True/\(((((joinB ((a.facts.take i1).map factT) (⟨#[32,38,32]⟩:ByteArray)) ++ (⟨#[32,124,32]⟩:ByteArray)).size+(joinB ((a.atoms.take i2).map atomT) (⟨#[32,42,32]⟩:ByteArray)).size:Nat):Int)<=9223372036854775807)/\True/\(((((joinB ((a.facts.take i1).map factT) (⟨#[32,38,32]⟩:ByteArray)) ++ (⟨#[32,124,32]⟩:ByteArray)) ++ (joinB ((a.atoms.take i2).map atomT) (⟨#[32,42,32]⟩:ByteArray)),()):ByteArray × Unit)=(if asV a=true then asnT a else ⟨#[]⟩,()))/\True/\True/\True/\True/\TF)))) (True/\(VC_iFormatAssertion_9 a i1)/\True/\(((((joinB ((a.facts.take i1).map factT) (⟨#[32,38,32]⟩:ByteArray)) ++ (⟨#[32,124,32]⟩:ByteArray)).size+(⟨#[101,109,112]⟩:ByteArray).size:Nat):Int)<=9223372036854775807)/\True/\(((((joinB ((a.facts.take i1).map factT) (⟨#[32,38,32]⟩:ByteArray)) ++ (⟨#[32,124,32]⟩:ByteArray)) ++ (⟨#[101,109,112]⟩:ByteArray),()):ByteArray × Unit)=(if asV a=true then asnT a else ⟨#[]⟩,()))/\True/\True/\True/\True/\TF)))))
def VC_iFormatAssertion_11 (a:GAsn):Prop:=RL [.s (.c (.d (.val (.string (⟨#[]⟩:ByteArray))))),.s (.c (.d (.val (.string (⟨#[116,114,117,101]⟩:ByteArray))))),.s (.c (.d (.arr .atom a.atoms))),.s (.c (.d (.val (.int .i64 ((a.atoms.length:Nat):Int)))))]
def VC_iFormatAssertion_12 :Prop:=(((⟨#[116,114,117,101]⟩:ByteArray).size+(⟨#[32,124,32]⟩:ByteArray).size:Nat):Int)<=9223372036854775807
def VC_iFormatAssertion (a:GAsn) (k:Nat):Prop:=TN/\True/\True/\((a.facts.length<=281474976710656/\a.atoms.length<=281474976710656)/\True/\True)/\True/\(vcIf (!(asV a)) (True/\((((⟨#[]⟩:ByteArray),()):ByteArray × Unit)=(if asV a=true then asnT a else ⟨#[]⟩,()))/\True/\True/\True/\True/\TF) (True/\True/\True/\True/\True/\True/\(vcIf (decide ((0:Int) < ((a.facts.length:Nat):Int))) (TN/\True/\True/\True/\True/\((0<=a.facts.length/\asV a=true)/\TT/\(VC_iFormatAssertion_1 a)/\VC_iFormatAssertion_2/\(RM [some (.blk [.d (.arr .fact a.facts),.d (.arr .atom a.atoms)])])/\(RM [])/\(((some ([]:List ByteArray):Option (List ByteArray))=some ((a.facts.take 0).map factT))/\True)/\TT)/\(∀ i1:Nat,(i1<=a.facts.length/\asV a=true)->(VC_iFormatAssertion_10 i1 a))) (True/\True/\True/\True/\(vcIf (decide ((0:Int) < ((a.atoms.length:Nat):Int))) (TN/\True/\True/\True/\True/\((0<=a.atoms.length/\asV a=true)/\TT/\(VC_iFormatAssertion_11 a)/\(VC_iFormatAssertion_5 a))/\(∀ i3:Nat,(i3<=a.atoms.length/\asV a=true)->True/\(vcIf (decide (((i3:Nat):Int) < ((a.atoms.length:Nat):Int))) ((0<=((i3:Nat):Int)/\((i3:Nat):Int) < ((a.atoms.length:Nat):Int))/\True/\(TN/\True)/\(TF/\TF)/\True/\True/\(True/\True/\True)/\(TN/\True)/\(VC_iFormatAssertion_6 a i3)/\True/\(inK .i64 (((i3:Nat):Int)+(1:Int)))/\True/\((i3+1)<=a.atoms.length/\asV a=true)/\(a.atoms.length - (i3+1) < a.atoms.length - i3)/\TT/\(VC_iFormatAssertion_11 a)/\(VC_iFormatAssertion_7 i3 a)) (True/\(VC_iFormatAssertion_8 a i3)/\True/\True/\VC_iFormatAssertion_12/\True/\(((((⟨#[116,114,117,101]⟩:ByteArray) ++ (⟨#[32,124,32]⟩:ByteArray)).size+(joinB ((a.atoms.take i3).map atomT) (⟨#[32,42,32]⟩:ByteArray)).size:Nat):Int)<=9223372036854775807)/\True/\(((((⟨#[116,114,117,101]⟩:ByteArray) ++ (⟨#[32,124,32]⟩:ByteArray)) ++ (joinB ((a.atoms.take i3).map atomT) (⟨#[32,42,32]⟩:ByteArray)),()):ByteArray × Unit)=(if asV a=true then asnT a else ⟨#[]⟩,()))/\True/\True/\True/\True/\TF)))) (True/\VC_iFormatAssertion_12/\True/\(((((⟨#[116,114,117,101]⟩:ByteArray) ++ (⟨#[32,124,32]⟩:ByteArray)).size+(⟨#[101,109,112]⟩:ByteArray).size:Nat):Int)<=9223372036854775807)/\True/\(((((⟨#[116,114,117,101]⟩:ByteArray) ++ (⟨#[32,124,32]⟩:ByteArray)) ++ (⟨#[101,109,112]⟩:ByteArray),()):ByteArray × Unit)=(if asV a=true then asnT a else ⟨#[]⟩,()))/\True/\True/\True/\True/\TF))))))
theorem vcn_iFormatAssertion (a:GAsn) (k:Nat) (hp:a.facts.length<=281474976710656/\a.atoms.length<=281474976710656):VC_iFormatAssertion a k:=by
 unfold VC_iFormatAssertion VC_iFormatAssertion_12 VC_iFormatAssertion_11 VC_iFormatAssertion_10 VC_iFormatAssertion_9 VC_iFormatAssertion_8 VC_iFormatAssertion_7 VC_iFormatAssertion_6 VC_iFormatAssertion_5 VC_iFormatAssertion_4 VC_iFormatAssertion_3 VC_iFormatAssertion_2 VC_iFormatAssertion_1
 simp only [cln,Nat.reduceEqDiff,Nat.reduceLeDiff,Nat.reduceAdd]
 have sz:=fun h i=>(fa_sz (a:=a) h i 0).1
 have sy:=fun h i=>(fa_sz (a:=a) h 0 i).2
 have b1:=fun h=>(asV_facts (a:=a) h).2.1
 have b2:=fun h=>(asV_facts (a:=a) h).2.2.2
 all_goals (try simp only [vcIf_iff,decide_eq_true_eq,decide_eq_false_iff_not,bne_iff_ne,ne_eq,beq_iff_eq,beq_eq_false_iff_ne,bne_eq_false_iff_eq,Bool.not_eq_true',Bool.not_eq_false',Int.ofNat_lt,Int.natCast_inj])
 all_goals (repeat' (first | apply And.intro | intro _))
 all_goals (repeat (cases ‹_/\_›))
 all_goals (first | omega | with_reducible assumption | with_reducible rfl | skip)
 all_goals (first
  | (simp only [List.length_map,List.length_take];omega)
  | exact fa_fact ‹_› ‹_›
  | exact fa_atom ‹_›
  | exact Nat.le_trans (sz ‹_› _) (by decide)
  | exact Nat.le_trans (sy ‹_› _) (by decide)
  | exact fa_all ‹_› (fa_F ‹_› ‹_› ‹_›) (fa_A ‹_› ‹_› ‹_›)
  | exact fa_all ‹_› (fa_F ‹_› ‹_› ‹_›) (fa_A0 ‹_›)
  | exact fa_all ‹_› (fa_F0 ‹_›) (fa_A ‹_› ‹_› ‹_›)
  | exact fa_all ‹_› (fa_F0 ‹_›) (fa_A0 ‹_›)
  | ((try simp only [ba_size,ba_lit,List.size_toArray,List.length_cons,List.length_nil]);grind)
  | (simp [*];done)
  | skip)
theorem ok_iFormatAssertion:FnOk Tryd.prog E 32 c_iFormatAssertion :=
 fn_okQ (l:=L_iFormatAssertion) (lp:=P_iFormatAssertion) (hp:=fun _=>false) (gcs:=fun _=>none) (perm:=fun _=>[]) tabOk mix ⟨ok_iFormatFact,ok_iAssertionValid,ok_join,ok_formatAtom,trivial⟩ trivial Tryd.func32 rfl (by kernel_rfl) (by decide) (by kernel_rfl) (anns:=fun x _=>an_iFormatAssertion x.1) (fun ⟨a,_⟩ k hp _=>Eq.mp (by kernel_rfl) (vcn_iFormatAssertion a k hp)) tot_fn
abbrev c_formatBasic:Con:=⟨[.cmd],[.str],fun _=>True,.inl fun (c,_)=>(bscT c,()),fun _=>0⟩
abbrev L_formatBasic:List (FuncId × Con):=[(56,c_iTermName)]
abbrev P_formatBasic:List (FuncId × PT):=[]
def VC_formatBasic (c:GCmd) (k:Nat):Prop:=TN/\True/\True/\True/\(True/\True/\True)/\True/\True/\(True/\True/\True)/\True/\True/\True/\True/\True/\True/\(vcIf (c.kind == (1:Int)) (True/\((((nmB c.a).size+(⟨#[58,61]⟩:ByteArray).size:Nat):Int)<=9223372036854775807)/\True/\(((((nmB c.a) ++ (⟨#[58,61]⟩:ByteArray)).size+(nmB c.b).size:Nat):Int)<=9223372036854775807)/\True/\(((((nmB c.a) ++ (⟨#[58,61]⟩:ByteArray)) ++ (nmB c.b),()):ByteArray × Unit)=(bscT c,()))/\True/\True/\True/\True/\TF) (True/\True/\(vcIf (c.kind == (2:Int)) (True/\((((nmB c.a).size+(⟨#[58,61,91]⟩:ByteArray).size:Nat):Int)<=9223372036854775807)/\True/\(((((nmB c.a) ++ (⟨#[58,61,91]⟩:ByteArray)).size+(nmB c.b).size:Nat):Int)<=9223372036854775807)/\((((((nmB c.a) ++ (⟨#[58,61,91]⟩:ByteArray)) ++ (nmB c.b)).size+(⟨#[93]⟩:ByteArray).size:Nat):Int)<=9223372036854775807)/\True/\((((((nmB c.a) ++ (⟨#[58,61,91]⟩:ByteArray)) ++ (nmB c.b)) ++ (⟨#[93]⟩:ByteArray),()):ByteArray × Unit)=(bscT c,()))/\True/\True/\True/\True/\TF) (True/\True/\(vcIf (c.kind == (3:Int)) (True/\((((⟨#[91]⟩:ByteArray).size+(nmB c.a).size:Nat):Int)<=9223372036854775807)/\(((((⟨#[91]⟩:ByteArray) ++ (nmB c.a)).size+(⟨#[93,58,61]⟩:ByteArray).size:Nat):Int)<=9223372036854775807)/\True/\((((((⟨#[91]⟩:ByteArray) ++ (nmB c.a)) ++ (⟨#[93,58,61]⟩:ByteArray)).size+(nmB c.b).size:Nat):Int)<=9223372036854775807)/\True/\((((((⟨#[91]⟩:ByteArray) ++ (nmB c.a)) ++ (⟨#[93,58,61]⟩:ByteArray)) ++ (nmB c.b),()):ByteArray × Unit)=(bscT c,()))/\True/\True/\True/\True/\TF) (True/\True/\(vcIf (c.kind == (4:Int)) (True/\((((⟨#[110,101,119,32]⟩:ByteArray).size+(nmB c.a).size:Nat):Int)<=9223372036854775807)/\True/\((((⟨#[110,101,119,32]⟩:ByteArray) ++ (nmB c.a),()):ByteArray × Unit)=(bscT c,()))/\True/\True/\True/\True/\TF) (True/\((((⟨#[102,114,101,101,32]⟩:ByteArray).size+(nmB c.a).size:Nat):Int)<=9223372036854775807)/\True/\((((⟨#[102,114,101,101,32]⟩:ByteArray) ++ (nmB c.a),()):ByteArray × Unit)=(bscT c,()))/\True/\True/\True/\True/\TF))))))))
theorem vcn_formatBasic (c:GCmd) (k:Nat):VC_formatBasic c k:=by
 unfold VC_formatBasic
 simp only [cln,Nat.reduceEqDiff,Nat.reduceLeDiff,Nat.reduceAdd,GCmd.eta]
 have n1:=nmB_size c.a
 have n2:=nmB_size c.b
 all_goals (try simp only [vcIf_iff,decide_eq_true_eq,decide_eq_false_iff_not,bne_iff_ne,ne_eq,beq_iff_eq,beq_eq_false_iff_ne,bne_eq_false_iff_eq,Bool.not_eq_true',Bool.not_eq_false',Int.ofNat_lt,Int.natCast_inj])
 all_goals (repeat' (first | apply And.intro | intro _))
 all_goals (repeat (cases ‹_/\_›))
 all_goals (first | omega | with_reducible assumption | with_reducible rfl | (simp only [ba_size,ba_lit,List.size_toArray,List.length_cons,List.length_nil];omega) | skip)
 all_goals (first | (simp [bscT, *];done) | skip)
theorem ok_formatBasic:FnOk Tryd.prog E 33 c_formatBasic :=
 fn_okQ (l:=L_formatBasic) (lp:=P_formatBasic) (hp:=fun _=>false) (gcs:=fun _=>none) (perm:=fun _=>[]) tabOk mix ⟨ok_iTermName,trivial⟩ trivial Tryd.func33 rfl (by kernel_rfl) (by decide) (by kernel_rfl) (anns:=fun x _=>fun _ _=>none) (fun ⟨c,_⟩ k _ _=>Eq.mp (by kernel_rfl) (vcn_formatBasic c k)) tot_fn
end Go.Proofs.YtkafaeeianofnaaDoor

namespace Go.Proofs.YtkafaeeianofnaaDoor
open Go.SE Go.RowKit
variable [Base]
set_option linter.unusedSectionVars false
set_option linter.unusedSimpArgs false
set_option linter.unusedVariables false
set_option maxHeartbeats 1000000
set_option maxRecDepth 100000
abbrev pt_bldS:PT:=ptBS 65
theorem ptok_bldS:PTOk Tryd.prog E 34 pt_bldS:=ptBS_ok (P:=Tryd.prog) (ρ:=Tryd.lays156_ren) { Tryd.lays156 with } Tryd.Builder_Extra_156 rfl
end Go.Proofs.YtkafaeeianofnaaDoor

namespace Go.Proofs.YtkafaeeianofnaaDoor
open Go.SE Go.RowKit
variable [Base] [Names]
set_option linter.unusedSectionVars false
set_option linter.unusedSimpArgs false
set_option linter.unusedVariables false
set_option maxHeartbeats 1000000
set_option maxRecDepth 100000
abbrev c_formatCommands:Con:=⟨[.sl .cmd],[.str],fun (l,_)=>VlL l,.inl fun (l,_)=>(cmL l,()),fun _=>0⟩
abbrev mu_formatCommands:Args c_formatCommands.aks->Nat:=fun (l,_)=>ndL l
abbrev L_formatCommands (m:Nat):List (FuncId × Con):=[(20,c_formatCommands.lim mu_formatCommands m),(31,c_iFormatFact),(32,c_iFormatAssertion),(33,c_formatBasic)]
abbrev P_formatCommands:List (FuncId × PT):=[(30,pt_bldW),(34,pt_bldS)]
def an_formatCommands (l:List GCmd):Nat->St->Option Ann
 | 3,se=>some { α:=Nat,ok:=fun i=>i<=l.length,mu:=fun i=>l.length - i,i0:=fun _=>0,nx:=fun a _=>(fun i=>i+1) a,live:=[2,3,6,7],sets:=fun i=>[(8,sv (.int .i64 i))],mids:=[],blks:=fun i=>[(63,.bld 65 7)],owns:=fun i=>[⟨7,.cell 63 0,.u8,(cmL (l.take i)).data.toList⟩],rd:=fun r _=>r,base:=100000 }
 | _,_=>none
def perm_formatCommands:Nat->List (List Nat)
 | 8=>[[]]
 | 13=>[[]]
 | _=>[]
def hp_formatCommands:Nat->Bool
 | 6=>true
 | 8=>true
 | 10=>true
 | 11=>true
 | 13=>true
 | 14=>true
 | 16=>true
 | _=>false
def VC_formatCommands_1 (l:List GCmd):Prop:=RL [.s (.c (.d (.val (.string (⟨#[]⟩:ByteArray))))),.s (.c (.ptr 63 0)),.s (.c (.d (.arr .cmd l))),.s (.c (.d (.val (.int .i64 ((l.length:Nat):Int)))))]
def VC_formatCommands_2 (l:List GCmd) (i1:Nat) (m:Nat):Prop:=((VlL ((l.getD i1 (Ty.zero .cmd)).body))/\ndL ((l.getD i1 (Ty.zero .cmd)).body) < m)/\True/\True
def VC_formatCommands_3 (i1:Nat):Prop:=([.s (.c (.d (.val (.int .i64 (((i1:Nat):Int)+(1:Int))))))]:List S)=[.s (.c (.d (.val (.int .i64 (((i1+1):Nat):Int)))))]
def VC_formatCommands_4 (l:List GCmd) (i1:Nat) (m:Nat):Prop:=(True/\(vcIf (decide ((0:Int) < ((((l.getD i1 (Ty.zero .cmd)).els).length:Nat):Int))) (True/\True/\(((VlL ((l.getD i1 (Ty.zero .cmd)).els))/\ndL ((l.getD i1 (Ty.zero .cmd)).els) < m)/\True/\True)/\((((⟨#[101,108,115,101,10]⟩:ByteArray).size+(cmL ((l.getD i1 (Ty.zero .cmd)).els)).size:Nat):Int)<=9223372036854775807)/\(((65:Nat)=65)/\TN/\(TF/\TF)/\(TF/\TF)/\(List.length (α:=UInt8) (((cmL (l.take i1)).data.toList) ++ ((((⟨#[105,102,32]⟩:ByteArray) ++ (if fV ((l.getD i1 (Ty.zero .cmd)).test)=true then factT ((l.getD i1 (Ty.zero .cmd)).test) else ⟨#[]⟩)) ++ (⟨#[10]⟩:ByteArray)) ++ (cmL ((l.getD i1 (Ty.zero .cmd)).body))).data.toList)+((⟨#[101,108,115,101,10]⟩:ByteArray) ++ (cmL ((l.getD i1 (Ty.zero .cmd)).els))).size<=4294967296))/\(((65:Nat)=65)/\TN/\(TF/\TF)/\(TF/\TF)/\(List.length (α:=UInt8) ((((cmL (l.take i1)).data.toList) ++ ((((⟨#[105,102,32]⟩:ByteArray) ++ (if fV ((l.getD i1 (Ty.zero .cmd)).test)=true then factT ((l.getD i1 (Ty.zero .cmd)).test) else ⟨#[]⟩)) ++ (⟨#[10]⟩:ByteArray)) ++ (cmL ((l.getD i1 (Ty.zero .cmd)).body))).data.toList) ++ ((⟨#[101,108,115,101,10]⟩:ByteArray) ++ (cmL ((l.getD i1 (Ty.zero .cmd)).els))).data.toList)+(⟨#[101,110,100,10]⟩:ByteArray).size<=4294967296))/\(inK .i64 (((i1:Nat):Int)+(1:Int)))/\True/\((i1+1)<=l.length)/\(l.length - (i1+1) < l.length - i1)/\TT/\(VC_formatCommands_1 l)/\(VC_formatCommands_3 i1)/\(RM [])/\(RM [some (.bld 65 7055360)])/\(((some (((((cmL (l.take i1)).data.toList) ++ ((((⟨#[105,102,32]⟩:ByteArray) ++ (if fV ((l.getD i1 (Ty.zero .cmd)).test)=true then factT ((l.getD i1 (Ty.zero .cmd)).test) else ⟨#[]⟩)) ++ (⟨#[10]⟩:ByteArray)) ++ (cmL ((l.getD i1 (Ty.zero .cmd)).body))).data.toList) ++ ((⟨#[101,108,115,101,10]⟩:ByteArray) ++ (cmL ((l.getD i1 (Ty.zero .cmd)).els))).data.toList) ++ (⟨#[101,110,100,10]⟩:ByteArray).data.toList):Option (List UInt8))=some ((cmL (l.take (i1+1))).data.toList))/\True)/\TT) ((((65:Nat)=65)/\TN/\(TF/\TF)/\(TF/\TF)/\(List.length (α:=UInt8) (((cmL (l.take i1)).data.toList) ++ ((((⟨#[105,102,32]⟩:ByteArray) ++ (if fV ((l.getD i1 (Ty.zero .cmd)).test)=true then factT ((l.getD i1 (Ty.zero .cmd)).test) else ⟨#[]⟩)) ++ (⟨#[10]⟩:ByteArray)) ++ (cmL ((l.getD i1 (Ty.zero .cmd)).body))).data.toList)+(⟨#[101,110,100,10]⟩:ByteArray).size<=4294967296))/\(inK .i64 (((i1:Nat):Int)+(1:Int)))/\True/\((i1+1)<=l.length)/\(l.length - (i1+1) < l.length - i1)/\TT/\(VC_formatCommands_1 l)/\(VC_formatCommands_3 i1)/\(RM [])/\(RM [some (.bld 65 7055360)])/\(((some ((((cmL (l.take i1)).data.toList) ++ ((((⟨#[105,102,32]⟩:ByteArray) ++ (if fV ((l.getD i1 (Ty.zero .cmd)).test)=true then factT ((l.getD i1 (Ty.zero .cmd)).test) else ⟨#[]⟩)) ++ (⟨#[10]⟩:ByteArray)) ++ (cmL ((l.getD i1 (Ty.zero .cmd)).body))).data.toList) ++ (⟨#[101,110,100,10]⟩:ByteArray).data.toList):Option (List UInt8))=some ((cmL (l.take (i1+1))).data.toList))/\True)/\TT)))
def VC_formatCommands_5 (l:List GCmd) (i1:Nat) (m:Nat):Prop:=((((((⟨#[119,104,105,108,101,32]⟩:ByteArray) ++ (if fV ((l.getD i1 (Ty.zero .cmd)).test)=true then factT ((l.getD i1 (Ty.zero .cmd)).test) else ⟨#[]⟩)).size+(⟨#[32,119,105,116,104,32]⟩:ByteArray).size:Nat):Int)<=9223372036854775807)/\True/\True/\((((l.getD i1 (Ty.zero .cmd)).inv).facts.length<=281474976710656/\((l.getD i1 (Ty.zero .cmd)).inv).atoms.length<=281474976710656)/\True/\True)/\((((((⟨#[119,104,105,108,101,32]⟩:ByteArray) ++ (if fV ((l.getD i1 (Ty.zero .cmd)).test)=true then factT ((l.getD i1 (Ty.zero .cmd)).test) else ⟨#[]⟩)) ++ (⟨#[32,119,105,116,104,32]⟩:ByteArray)).size+(if asV ((l.getD i1 (Ty.zero .cmd)).inv)=true then asnT ((l.getD i1 (Ty.zero .cmd)).inv) else ⟨#[]⟩).size:Nat):Int)<=9223372036854775807)/\(((((((⟨#[119,104,105,108,101,32]⟩:ByteArray) ++ (if fV ((l.getD i1 (Ty.zero .cmd)).test)=true then factT ((l.getD i1 (Ty.zero .cmd)).test) else ⟨#[]⟩)) ++ (⟨#[32,119,105,116,104,32]⟩:ByteArray)) ++ (if asV ((l.getD i1 (Ty.zero .cmd)).inv)=true then asnT ((l.getD i1 (Ty.zero .cmd)).inv) else ⟨#[]⟩)).size+(⟨#[10]⟩:ByteArray).size:Nat):Int)<=9223372036854775807)/\(((65:Nat)=65)/\TN/\(TF/\TF)/\(TF/\TF)/\(List.length (α:=UInt8) ((cmL (l.take i1)).data.toList)+(((((⟨#[119,104,105,108,101,32]⟩:ByteArray) ++ (if fV ((l.getD i1 (Ty.zero .cmd)).test)=true then factT ((l.getD i1 (Ty.zero .cmd)).test) else ⟨#[]⟩)) ++ (⟨#[32,119,105,116,104,32]⟩:ByteArray)) ++ (if asV ((l.getD i1 (Ty.zero .cmd)).inv)=true then asnT ((l.getD i1 (Ty.zero .cmd)).inv) else ⟨#[]⟩)) ++ (⟨#[10]⟩:ByteArray)).size<=4294967296))/\True/\True/\(VC_formatCommands_2 l i1 m)/\((((cmL ((l.getD i1 (Ty.zero .cmd)).body)).size+(⟨#[101,110,100,10]⟩:ByteArray).size:Nat):Int)<=9223372036854775807)/\(((65:Nat)=65)/\TN/\(TF/\TF)/\(TF/\TF)/\(List.length (α:=UInt8) (((cmL (l.take i1)).data.toList) ++ (((((⟨#[119,104,105,108,101,32]⟩:ByteArray) ++ (if fV ((l.getD i1 (Ty.zero .cmd)).test)=true then factT ((l.getD i1 (Ty.zero .cmd)).test) else ⟨#[]⟩)) ++ (⟨#[32,119,105,116,104,32]⟩:ByteArray)) ++ (if asV ((l.getD i1 (Ty.zero .cmd)).inv)=true then asnT ((l.getD i1 (Ty.zero .cmd)).inv) else ⟨#[]⟩)) ++ (⟨#[10]⟩:ByteArray)).data.toList)+((cmL ((l.getD i1 (Ty.zero .cmd)).body)) ++ (⟨#[101,110,100,10]⟩:ByteArray)).size<=4294967296))/\(inK .i64 (((i1:Nat):Int)+(1:Int)))/\True/\((i1+1)<=l.length)/\(l.length - (i1+1) < l.length - i1)/\TT/\(VC_formatCommands_1 l)/\(VC_formatCommands_3 i1)/\(RM [])/\(RM [some (.bld 65 7350272)])/\(((some ((((cmL (l.take i1)).data.toList) ++ (((((⟨#[119,104,105,108,101,32]⟩:ByteArray) ++ (if fV ((l.getD i1 (Ty.zero .cmd)).test)=true then factT ((l.getD i1 (Ty.zero .cmd)).test) else ⟨#[]⟩)) ++ (⟨#[32,119,105,116,104,32]⟩:ByteArray)) ++ (if asV ((l.getD i1 (Ty.zero .cmd)).inv)=true then asnT ((l.getD i1 (Ty.zero .cmd)).inv) else ⟨#[]⟩)) ++ (⟨#[10]⟩:ByteArray)).data.toList) ++ ((cmL ((l.getD i1 (Ty.zero .cmd)).body)) ++ (⟨#[101,110,100,10]⟩:ByteArray)).data.toList):Option (List UInt8))=some ((cmL (l.take (i1+1))).data.toList))/\True)/\TT)
def VC_formatCommands_6 (l:List GCmd) (i1:Nat) (m:Nat):Prop:=((TN/\TN/\TN/\TN/\TN/\True)/\(TF/\TF)/\True/\True/\True/\True/\(vcIf (((l.getD i1 (Ty.zero .cmd)).kind) == (6:Int)) (True/\True/\(True/\True/\True)/\((((⟨#[105,102,32]⟩:ByteArray).size+(if fV ((l.getD i1 (Ty.zero .cmd)).test)=true then factT ((l.getD i1 (Ty.zero .cmd)).test) else ⟨#[]⟩).size:Nat):Int)<=9223372036854775807)/\(((((⟨#[105,102,32]⟩:ByteArray) ++ (if fV ((l.getD i1 (Ty.zero .cmd)).test)=true then factT ((l.getD i1 (Ty.zero .cmd)).test) else ⟨#[]⟩)).size+(⟨#[10]⟩:ByteArray).size:Nat):Int)<=9223372036854775807)/\True/\True/\(VC_formatCommands_2 l i1 m)/\((((((⟨#[105,102,32]⟩:ByteArray) ++ (if fV ((l.getD i1 (Ty.zero .cmd)).test)=true then factT ((l.getD i1 (Ty.zero .cmd)).test) else ⟨#[]⟩)) ++ (⟨#[10]⟩:ByteArray)).size+(cmL ((l.getD i1 (Ty.zero .cmd)).body)).size:Nat):Int)<=9223372036854775807)/\(((65:Nat)=65)/\TN/\(TF/\TF)/\(TF/\TF)/\(List.length (α:=UInt8) ((cmL (l.take i1)).data.toList)+((((⟨#[105,102,32]⟩:ByteArray) ++ (if fV ((l.getD i1 (Ty.zero .cmd)).test)=true then factT ((l.getD i1 (Ty.zero .cmd)).test) else ⟨#[]⟩)) ++ (⟨#[10]⟩:ByteArray)) ++ (cmL ((l.getD i1 (Ty.zero .cmd)).body))).size<=4294967296))/\True/\True/\True/\(VC_formatCommands_4 l i1 m)) (True/\True/\(vcIf (((l.getD i1 (Ty.zero .cmd)).kind) == (7:Int)) (True/\True/\(True/\True/\True)/\((((⟨#[119,104,105,108,101,32]⟩:ByteArray).size+(if fV ((l.getD i1 (Ty.zero .cmd)).test)=true then factT ((l.getD i1 (Ty.zero .cmd)).test) else ⟨#[]⟩).size:Nat):Int)<=9223372036854775807)/\(VC_formatCommands_5 l i1 m)) (True/\(True/\True/\True)/\((((bscT (GCmd.mk ((l.getD i1 (Ty.zero .cmd)).kind) ((l.getD i1 (Ty.zero .cmd)).a) ((l.getD i1 (Ty.zero .cmd)).b) ((l.getD i1 (Ty.zero .cmd)).test) ((l.getD i1 (Ty.zero .cmd)).inv) ((l.getD i1 (Ty.zero .cmd)).body) ((l.getD i1 (Ty.zero .cmd)).els))).size+(⟨#[10]⟩:ByteArray).size:Nat):Int)<=9223372036854775807)/\(((65:Nat)=65)/\TN/\(TF/\TF)/\(TF/\TF)/\(List.length (α:=UInt8) ((cmL (l.take i1)).data.toList)+((bscT (GCmd.mk ((l.getD i1 (Ty.zero .cmd)).kind) ((l.getD i1 (Ty.zero .cmd)).a) ((l.getD i1 (Ty.zero .cmd)).b) ((l.getD i1 (Ty.zero .cmd)).test) ((l.getD i1 (Ty.zero .cmd)).inv) ((l.getD i1 (Ty.zero .cmd)).body) ((l.getD i1 (Ty.zero .cmd)).els))) ++ (⟨#[10]⟩:ByteArray)).size<=4294967296))/\(inK .i64 (((i1:Nat):Int)+(1:Int)))/\True/\((i1+1)<=l.length)/\(l.length - (i1+1) < l.length - i1)/\TT/\(VC_formatCommands_1 l)/\(VC_formatCommands_3 i1)/\(RM [])/\(RM [some (.bld 65 6694912)])/\(((some (((cmL (l.take i1)).data.toList) ++ ((bscT (GCmd.mk ((l.getD i1 (Ty.zero .cmd)).kind) ((l.getD i1 (Ty.zero .cmd)).a) ((l.getD i1 (Ty.zero .cmd)).b) ((l.getD i1 (Ty.zero .cmd)).test) ((l.getD i1 (Ty.zero .cmd)).inv) ((l.getD i1 (Ty.zero .cmd)).body) ((l.getD i1 (Ty.zero .cmd)).els))) ++ (⟨#[10]⟩:ByteArray)).data.toList):Option (List UInt8))=some ((cmL (l.take (i1+1))).data.toList))/\True)/\TT)))))
def VC_formatCommands (l:List GCmd) (m:Nat) (k:Nat):Prop:=True/\(TN/\TN/\True)/\True/\True/\True/\((0<=l.length)/\TT/\(VC_formatCommands_1 l)/\(([.s (.c (.d (.val (.int .i64 (0:Int)))))]:List S)=[.s (.c (.d (.val (.int .i64 ((0:Nat):Int)))))])/\(RM [])/\(RM [some (.bld 65 48)])/\(((some ([]:List UInt8):Option (List UInt8))=some ((cmL (l.take 0)).data.toList))/\True)/\TT)/\(∀ i1:Nat,(i1<=l.length)->True/\(vcIf (decide (((i1:Nat):Int) < ((l.length:Nat):Int))) ((0<=((i1:Nat):Int)/\((i1:Nat):Int) < ((l.length:Nat):Int))/\True/\(VC_formatCommands_6 l i1 m)) ((((65:Nat)=65)/\TF/\TF)/\True/\((((⟨List.toArray (α:=UInt8) ((cmL (l.take i1)).data.toList)⟩:ByteArray),()):ByteArray × Unit)=(cmL l,()))/\True/\True/\True/\True/\TF)))
theorem vcn_formatCommands (l:List GCmd) (m:Nat) (k:Nat) (hp:(VlL l)/\ndL l < m+1):VC_formatCommands l m k:=by
 unfold VC_formatCommands VC_formatCommands_6 VC_formatCommands_5 VC_formatCommands_4 VC_formatCommands_3 VC_formatCommands_2 VC_formatCommands_1
 simp only [cln,Nat.reduceEqDiff,Nat.reduceLeDiff,Nat.reduceAdd,GCmd.eta]
 have hz:=VlL.lenb hp.1
 have hb:=fun i (hi:i < l.length)=>VlL.bnd (z:=Ty.zero .cmd) hp.1 hi
 have g1:=fun i=>ff_size (l.getD i (Ty.zero .cmd)).test
 have g2:=fun i=>aa_size (l.getD i (Ty.zero .cmd)).inv
 have g3:=fun i=>bscT_size (l.getD i (Ty.zero .cmd))
 all_goals (try simp only [vcIf_iff,decide_eq_true_eq,decide_eq_false_iff_not,bne_iff_ne,ne_eq,beq_iff_eq,beq_eq_false_iff_ne,bne_eq_false_iff_eq,Bool.not_eq_true',Bool.not_eq_false',Int.ofNat_lt,Int.natCast_inj])
 all_goals (repeat' (first | apply And.intro | intro _))
 all_goals (repeat (cases ‹_/\_›))
 all_goals (first | omega | with_reducible assumption | with_reducible rfl | (with_reducible exact cmy_nil) | (with_reducible exact cm_endB ‹_› ‹_›) | skip)
 all_goals (have bb:=hb _ ‹_›;obtain ⟨b1,b2,b3,b4,b5,b6,b7,b8,b9⟩:=bb)
 all_goals (first
  | omega
  | with_reducible assumption
  | with_reducible exact cmy_ie ‹_› ‹_› ‹_› ‹_›
  | with_reducible exact cmy_in ‹_› ‹_› ‹_› ‹_›
  | with_reducible exact cmy_wh ‹_› ‹_› ‹_›
  | with_reducible exact cmy_bs ‹_› ‹_› ‹_› ‹_›
  | with_reducible exact (fok_inv ‹_› ‹_›).1
  | with_reducible exact (fok_inv ‹_› ‹_›).2
  | ((try simp only [ba_size,ba_lit,bl_len,List.length_append,List.size_toArray,List.length_cons,List.length_nil]);grind)
  | skip)
 all_goals clear hb
theorem ok_formatCommands:FnOk Tryd.prog E 20 c_formatCommands :=
 fn_rec (mu:=mu_formatCommands) (fun m ih=>fn_okQ (con:=c_formatCommands.lim mu_formatCommands (m+1)) (fn:=Tryd.f20) (l:=L_formatCommands m) (lp:=P_formatCommands) (hp:=hp_formatCommands) (gcs:=fun _=>none) (perm:=perm_formatCommands) tabOk mix ⟨ih,ok_iFormatFact,ok_iFormatAssertion,ok_formatBasic,trivial⟩ ⟨ptok_bldW,ptok_bldS,trivial⟩ Tryd.func20 rfl (by kernel_rfl) (show c_formatCommands.aks.length<=Tryd.f20.ntmps by decide) (by kernel_rfl) (anns:=fun x _=>an_formatCommands x.1) (fun ⟨l,_⟩ k hp _=>Eq.mp (by kernel_rfl) (vcn_formatCommands l m k hp)) tot_fn) ⟨_,_,Tryd.func20,by kernel_rfl,rfl⟩ tot_fn
abbrev c_iFormatProgram:Con:=⟨[.sl .cmd],[.str],fun (l,_)=>BdL l,.inl fun (l,_)=>(if prV l=true then cmL l else ⟨#[]⟩,()),fun _=>0⟩
abbrev L_iFormatProgram:List (FuncId × Con):=[(9,c_iProgramValid),(20,c_formatCommands)]
abbrev P_iFormatProgram:List (FuncId × PT):=[]
def VC_iFormatProgram (l:List GCmd) (k:Nat):Prop:=True/\True/\((BdL l)/\True/\True)/\True/\(vcIf (!(prV l)) (True/\((((⟨#[]⟩:ByteArray),()):ByteArray × Unit)=(if prV l=true then cmL l else ⟨#[]⟩,()))/\True/\True/\True/\True/\TF) (True/\((VlL l)/\True/\True)/\True/\((((cmL l),()):ByteArray × Unit)=(if prV l=true then cmL l else ⟨#[]⟩,()))/\True/\True/\True/\True/\TF))
theorem vcn_iFormatProgram (l:List GCmd) (k:Nat) (hp:BdL l):VC_iFormatProgram l k:=by
 unfold VC_iFormatProgram
 simp only [cln,Nat.reduceEqDiff,Nat.reduceLeDiff,Nat.reduceAdd]
 all_goals (try simp only [vcIf_iff,decide_eq_true_eq,decide_eq_false_iff_not,bne_iff_ne,ne_eq,beq_iff_eq,beq_eq_false_iff_ne,bne_eq_false_iff_eq,Bool.not_eq_true',Bool.not_eq_false',Int.ofNat_lt,Int.natCast_inj])
 all_goals (repeat' (first | apply And.intro | intro _))
 all_goals (repeat (cases ‹_/\_›))
 all_goals (first | omega | with_reducible assumption | with_reducible rfl | exact VlL.of ‹_› | (simp [*];done) | skip)
theorem ok_iFormatProgram:FnOk Tryd.prog E 10 c_iFormatProgram :=
 fn_okQ (l:=L_iFormatProgram) (lp:=P_iFormatProgram) (hp:=fun _=>false) (gcs:=fun _=>none) (perm:=fun _=>[]) tabOk mix ⟨ok_iProgramValid,ok_formatCommands,trivial⟩ trivial Tryd.func10 rfl (by kernel_rfl) (by decide) (by kernel_rfl) (anns:=fun x _=>fun _ _=>none) (fun ⟨l,_⟩ k hp _=>Eq.mp (by kernel_rfl) (vcn_iFormatProgram l k hp)) tot_fn
end Go.Proofs.YtkafaeeianofnaaDoor

namespace Go.Proofs.YtkafaeeianofnaaDoor
open Go.SE Go.RowKit
variable [Base]
set_option linter.unusedSectionVars false
set_option linter.unusedSimpArgs false
set_option linter.unusedVariables false
set_option maxHeartbeats 1000000
set_option maxRecDepth 100000
theorem vc_l18Open (code:List UInt8):vc tab (lookF []) (fun _=>none) (fun _=>[]) (bodyOf Tryd.f25) (entry [.c (.d (.arr .u8 code))] none) openQ:=by
 dsimp only [bodyOf,Tryd.f25]
 simp only [openQ,pickK,openE,openM,true_and,and_true,SE.lookF,tab2,tab3,tab4,tab5,tab7,tab9,tab12,tab13,tab21,tab22,tab23,tab30,tab39,tab40,tab41,tab42,tab43,tab44,tab45,tab46,tab47,tab48,tab49,tab50,tab51,tab52,tab53,tab61,tab65,tab79,tab80,tab84,tab91,tab93,tab94,tab111,tab114,tab125,tab135,SE.entry,SE.envOf,SE.rdOf,Option.get_some,SE.vc,SE.vcReg,SE.vcLoop,SE.condK,SE.seqK,SE.blockK,SE.vcOps,SE.vcStep,SE.vcOp,SE.vcTr,SE.vcDet_some,SE.vcDet_none,SE.vcIf_true,SE.vcIf_false,SE.vcEach,SE.pickOps,SE.gslot,SE.trOp,SE.moveId,SE.trMove,SE.trPick,SE.trAlloc,SE.trBox,SE.trBuild,SE.trBuildSlice,SE.trLoad,SE.trStore,SE.trNilCheck,SE.trBin,SE.trUn,SE.trConvert,SE.trFieldAddr,SE.trField,SE.trIndexAddr,SE.trIndex,SE.trSlice,SE.trMakeSlice,SE.trExtract,SE.trLen,SE.trAppend,SE.trCopy,SE.trFn,SE.trCall,SE.argsS,SE.ev,SE.constS,SE.junk,SE.sv,SE.upd_app,SE.adds,SE.sets,SE.nid,SE.St.app,SE.St.put,SE.free,SE.freeL,SE.allFree,SE.rids,SE.AK.rids,SE.castL,SE.rdl,SE.AK.dec,SE.decs,SE.AK.enc,SE.encs,SE.AK.res,SE.ress,SE.pack1,SE.zcells,SE.zeroOf,SE.partCells,SE.putc,SE.fills,SE.datas,SE.ownDC,SE.wkDC,SE.wkS,SE.xfix,SE.tightM,SE.rdn,SE.rdnC,SE.elemOf,SE.elemsOf,SE.elemX,SE.zeroC,SE.notSpent,SE.cellsAt,SE.weak,SE.dcellsAt,SE.slAt,SE.rdPlus,SE.intAt,SE.updElem,SE.kill,SE.noJunk,SE.inK,SE.binI,SE.shf,SE.isShift,SE.eqCells,SE.aggS,SE.intOp,SE.nested,SE.hasRdr,SE.refsC,SE.refsCs,SE.ownsC,SE.refsAr,SE.rdFits,SE.costIf,SE.Con.post,SE.Con.det,SE.Ty.cells,SE.Ty.sz,SE.Ty.zero,SE.Ty.flat,SE.Ty.dec,SE.retOk,SE.loadsS,SE.loadS,SE.decRs,SE.decR,SE.outC,SE.rdC,SE.allDiff,SE.notIn,SE.notFrozen,SE.apartL,SE.rdEnd,SE.firstReg,SE.headC,SE.fitsC,SE.idsC,SE.keepE,SE.keepM,SE.keepB,SE.inL,SE.puts,SE.ownRes,SE.ownEnv,SE.renL,SE.srcId,SE.lookR,SE.envSame,SE.envSets,SE.memSame,SE.memBlks,SE.memOwns,SE.famsOf,SE.allIn,SE.closedE,SE.closedV,SE.closedM,SE.closedR,SE.rdLe,SE.S.refs,SE.S0.refs,SE.CV.refs,SE.refsL,SE.refsT,SE.S.ren,SE.S0.ren,SE.CV.ren,SE.Res.refs,SE.Res.ren,min_i64,max_i64,min_u16,max_u16,min_u8,max_u8,min_u64,max_u64,S.s.injEq,S0.c.injEq,CV.d.injEq,DC.val.injEq,Value.int.injEq,Value.bool.injEq,Value.string.injEq,eta_fact,eta_atom,eta_asn,eta_state,List.mem_cons,List.mem_nil_iff,or_false,false_or,or_true,true_or,List.map_cons,List.map_nil,Option.map_some,Option.map_none,Option.bind_some,Option.getD_some,Option.getD_none,Nat.reduceEqDiff,Nat.reduceAdd,Nat.reduceMul,Nat.reduceLeDiff,↓reduceIte,reduceCtorEq,true_and,and_true,and_self,forall_const,implies_true,true_implies,List.getElem?_toArray,List.getElem?_cons_succ,List.getElem?_cons_zero,List.append_nil,List.nil_append,List.cons_append,List.length_cons,List.length_nil,List.take_succ_cons,List.take_zero,List.drop_succ_cons,List.drop_zero,List.set_cons_zero,List.set_cons_succ,List.map_cons,List.map_nil,Nat.add_zero,Nat.zero_add,forall_eq,Prod.forall,Bool.not_true,Bool.not_false,Nat.lt_irrefl,Nat.zero_lt_succ,List.singleton_append,Prod.mk.injEq,Nat.zero_mul,Nat.one_mul,Nat.reducePow,Option.some.injEq,not_false_eq_true,Int.toNat_natCast,Nat.sub_zero,Nat.le_refl,Bool.or_false,Bool.false_or,Bool.or_true,Bool.true_or,Bool.and_true,Bool.true_and,Bool.and_false,Bool.false_and,Bool.or_self,Bool.and_self,List.append_eq,and_false,false_and]
 all_goals (try simp only [vcIf_iff,decide_eq_true_eq,decide_eq_false_iff_not])
 all_goals (repeat' (first | apply And.intro | intro _))
 all_goals (first | omega | (simp_all;done) | grind)
theorem open_l18Open:OpenOk Tryd.prog 25 :=
 open_ok tabOk mix (perm:=fun _=>[]) Tryd.func25 (by kernel_rfl) (by kernel_rfl) (by decide) (by kernel_rfl) vc_l18Open
theorem fn_l18Open : ∃ fn c, Tryd.prog.funcs[25]? = some fn /\ (fn.name == "runtime.NumGoroutine") = false /\ fn.body = some c := ⟨_, _, Tryd.func25, by kernel_rfl, rfl⟩
abbrev c_l3Star:Con:=⟨[.lasn,.asn],[.asn],fun (a,b,_)=>a.facts.length<=1048576/\a.atoms.length<=1048576/\b.facts.length<=1048576/\b.atoms.length<=1048576,.inl fun (a,b,_)=>(⟨a.facts ++ b.facts,a.atoms ++ b.atoms⟩,()),fun _=>0⟩
abbrev L_l3Star:List (FuncId × Con):=[]
abbrev P_l3Star:List (FuncId × PT):=[]
def VC_l3Star (a:GAsn) (b:GAsn) (k:Nat):Prop:=TN/\TN/\(TN/\TN/\TN/\True)/\(TN/\True)/\True/\True/\(TN/\TF/\TF/\(([]:List GFact).length+a.facts.length<=4294967296))/\True/\True/\(TN/\TF/\TF/\((([]:List GFact) ++ a.facts).length+b.facts.length<=4294967296))/\(TN/\True)/\True/\True/\(TN/\TF/\TF/\(([]:List GAtom).length+a.atoms.length<=4294967296))/\True/\True/\(TN/\TF/\TF/\((([]:List GAtom) ++ a.atoms).length+b.atoms.length<=4294967296))/\(TN/\TN/\True)/\(TF/\TF)/\((((⟨(([]:List GFact) ++ a.facts) ++ b.facts,(([]:List GAtom) ++ a.atoms) ++ b.atoms⟩:GAsn),()):GAsn × Unit)=(⟨a.facts ++ b.facts,a.atoms ++ b.atoms⟩,()))/\((((176:Nat) ≠ 288)/\True)/\True/\True)/\((TF/\TF)/\(TF/\TF)/\True)/\True/\(True/\True/\True)/\TF
theorem vcn_l3Star (a:GAsn) (b:GAsn) (k:Nat) (hp:a.facts.length<=1048576/\a.atoms.length<=1048576/\b.facts.length<=1048576/\b.atoms.length<=1048576):VC_l3Star a b k:=by
 unfold VC_l3Star
 simp only [cln,Nat.reduceEqDiff,Nat.reduceLeDiff,Nat.reduceAdd]
 all_goals (try simp only [opn])
 all_goals (repeat' (first | apply And.intro | intro _))
 all_goals (first | omega | (simp_all;done) | grind [])
theorem ok_l3Star:FnOk Tryd.prog E 83 c_l3Star :=
 fn_okQ (l:=L_l3Star) (lp:=P_l3Star) (hp:=fun _=>false) (gcs:=fun _=>none) (perm:=fun _=>[]) tabOk mix trivial trivial Tryd.func83 rfl (by kernel_rfl) (by decide) (by kernel_rfl) (anns:=fun x _=>fun _ _=>none) (fun ⟨a,b,_⟩ k hp _=>Eq.mp (by kernel_rfl) (vcn_l3Star a b k hp)) tot_fn
abbrev c_l3Copy:Con:=⟨[.lasn],[.asn],fun (a,_)=>a.facts.length<=1048576/\a.atoms.length<=1048576,.inl fun (a,_)=>(a,()),fun _=>0⟩
abbrev L_l3Copy:List (FuncId × Con):=[(83,c_l3Star)]
abbrev P_l3Copy:List (FuncId × PT):=[]
def VC_l3Copy (a:GAsn) (k:Nat):Prop:=TN/\(TN/\TN/\TN/\True)/\True/\(TN/\TN/\True)/\((a.facts.length<=1048576/\a.atoms.length<=1048576/\(⟨([]:List GFact),([]:List GAtom)⟩:GAsn).facts.length<=1048576/\(⟨([]:List GFact),([]:List GAtom)⟩:GAsn).atoms.length<=1048576)/\True/\TN/\TN/\True)/\(TF/\TF)/\((((⟨(a.facts ++ (⟨([]:List GFact),([]:List GAtom)⟩:GAsn).facts),(a.atoms ++ (⟨([]:List GFact),([]:List GAtom)⟩:GAsn).atoms)⟩:GAsn),()):GAsn × Unit)=(a,()))/\((((80:Nat) ≠ 81)/\True)/\True/\True)/\((TF/\TF)/\(TF/\TF)/\True)/\True/\(True/\True/\True)/\TF
theorem vcn_l3Copy (a:GAsn) (k:Nat) (hp:a.facts.length<=1048576/\a.atoms.length<=1048576):VC_l3Copy a k:=by
 unfold VC_l3Copy
 simp only [cln,Nat.reduceEqDiff,Nat.reduceLeDiff,Nat.reduceAdd]
 all_goals (try simp only [opn])
 all_goals (repeat' (first | apply And.intro | intro _))
 all_goals (first | omega | (simp_all;done) | grind [])
theorem ok_l3Copy:FnOk Tryd.prog E 68 c_l3Copy :=
 fn_okQ (l:=L_l3Copy) (lp:=P_l3Copy) (hp:=fun _=>false) (gcs:=fun _=>none) (perm:=fun _=>[]) tabOk mix ⟨ok_l3Star,trivial⟩ trivial Tryd.func68 rfl (by kernel_rfl) (by decide) (by kernel_rfl) (anns:=fun x _=>fun _ _=>none) (fun ⟨a,_⟩ k hp _=>Eq.mp (by kernel_rfl) (vcn_l3Copy a k hp)) tot_fn
abbrev c_l8Copy:Con:=⟨[.sl .lcmd],[.sl .cmd],fun (l,_)=>l.length+wcL l<=1048576,.inl fun (l,_)=>(l,()),fun _=>0⟩
abbrev mu_l8Copy:Args c_l8Copy.aks->Nat:=fun (l,_)=>ndL l
abbrev L_l8Copy (m:Nat):List (FuncId × Con):=[(41,c_l8Copy.lim mu_l8Copy m),(68,c_l3Copy)]
abbrev P_l8Copy:List (FuncId × PT):=[]
def an_l8Copy (l:List GCmd):Nat->St->Option Ann
 | 3,se=>some { α:=Nat,ok:=fun i=>i<=l.length,mu:=fun i=>l.length - i,i0:=fun _=>0,nx:=fun a _=>(fun i=>i+1) a,live:=[0,2],sets:=fun i=>[(4,sv (.int .i64 i))],mids:=[32],blks:=fun i=>[],owns:=fun i=>[⟨7,.slot 3,.cmd,l.take i⟩],rd:=fun r _=>r,base:=100000 }
 | _,_=>none
def VC_l8Copy (l:List GCmd) (m:Nat) (k:Nat):Prop:=TN/\(TN/\True)/\True/\True/\((0<=l.length)/\TT/\(RL [.s (.c (.d (.arr .lcmd l))),.s (.c (.own 32))])/\(([.s (.c (.d (.val (.int .i64 (0:Int)))))]:List S)=[.s (.c (.d (.val (.int .i64 ((0:Nat):Int)))))])/\(RM [some (.sl 32 .cmd ([]:List GCmd))])/\(RM [])/\(((some ([]:List GCmd):Option (List GCmd))=some (l.take 0))/\True)/\TT)/\(∀ i1:Nat,(i1<=l.length)->True/\True/\True/\True/\(vcIf (decide (((i1:Nat):Int) < ((l.length:Nat):Int))) (True/\True/\(0<=((i1:Nat):Int)/\((i1:Nat):Int) < ((l.length:Nat):Int))/\True/\(TN/\TN/\TN/\TN/\TN/\True)/\(TF/\TF)/\True/\True/\((((l.getD i1 (Ty.zero .lcmd)).inv).facts.length<=1048576/\((l.getD i1 (Ty.zero .lcmd)).inv).atoms.length<=1048576)/\True/\TN/\TN/\True)/\True/\(TF/\TF)/\True/\True/\(((((l.getD i1 (Ty.zero .lcmd)).body).length+wcL ((l.getD i1 (Ty.zero .lcmd)).body)<=1048576)/\ndL ((l.getD i1 (Ty.zero .lcmd)).body) < m)/\True/\True/\TN/\True)/\True/\(TF/\TF)/\True/\True/\(((((l.getD i1 (Ty.zero .lcmd)).els).length+wcL ((l.getD i1 (Ty.zero .lcmd)).els)<=1048576)/\ndL ((l.getD i1 (Ty.zero .lcmd)).els) < m)/\True/\True/\TN/\True)/\True/\(TF/\TF)/\True/\True/\(TN/\TF/\TF/\TF/\TF/\True)/\(TN/\TF/\TF/\((l.take i1).length+([(GCmd.mk ((l.getD i1 (Ty.zero .lcmd)).kind) ((l.getD i1 (Ty.zero .lcmd)).a) ((l.getD i1 (Ty.zero .lcmd)).b) ((l.getD i1 (Ty.zero .lcmd)).test) ((l.getD i1 (Ty.zero .lcmd)).inv) ((l.getD i1 (Ty.zero .lcmd)).body) ((l.getD i1 (Ty.zero .lcmd)).els))]:List GCmd).length<=4294967296))/\True/\True/\(inK .i64 (((i1:Nat):Int)+(1:Int)))/\True/\((i1+1)<=l.length)/\(l.length - (i1+1) < l.length - i1)/\TT/\(RL [.s (.c (.d (.arr .lcmd l))),.s (.c (.own 32))])/\(([.s (.c (.d (.val (.int .i64 (((i1:Nat):Int)+(1:Int))))))]:List S)=[.s (.c (.d (.val (.int .i64 (((i1+1):Nat):Int)))))])/\(RM [some (.sl 32 .cmd ([]:List GCmd))])/\(RM [])/\(((some ((l.take i1) ++ ([(GCmd.mk ((l.getD i1 (Ty.zero .lcmd)).kind) ((l.getD i1 (Ty.zero .lcmd)).a) ((l.getD i1 (Ty.zero .lcmd)).b) ((l.getD i1 (Ty.zero .lcmd)).test) ((l.getD i1 (Ty.zero .lcmd)).inv) ((l.getD i1 (Ty.zero .lcmd)).body) ((l.getD i1 (Ty.zero .lcmd)).els))]:List GCmd)):Option (List GCmd))=some (l.take (i1+1)))/\True)/\TT) (True/\True/\(((l.take i1,()):(List GCmd) × Unit)=(l,()))/\(True/\True)/\((TF/\TF)/\True)/\True/\(True/\True)/\TF)))
theorem vcn_l8Copy (l:List GCmd) (m:Nat) (k:Nat) (hp:(l.length+wcL l<=1048576)/\ndL l < m+1):VC_l8Copy l m k:=by
 unfold VC_l8Copy
 simp only [cln,Nat.reduceEqDiff,Nat.reduceLeDiff,Nat.reduceAdd,GCmd.eta]
 have hg:∀ i,i < l.length->ndC (l.getD i (Ty.zero .cmd))<=ndL l/\wtC (l.getD i (Ty.zero .cmd))<=wcL l/\ndC (l.getD i (Ty.zero .cmd))=1+ndL (l.getD i (Ty.zero .cmd)).body+ndL (l.getD i (Ty.zero .cmd)).els:=fun i hi=>⟨ndL_get hi,wcL_get hi,ndC_eq _⟩
 have hw:=fun i=>wtC_eq (l.getD i (Ty.zero .cmd))
 have ht:=fun (i:Nat) (hi:i < l.length)=>take_step (d:=Ty.zero .cmd) hi
 all_goals (try simp only [vcIf_iff,decide_eq_true_eq,decide_eq_false_iff_not,bne_iff_ne,ne_eq,beq_iff_eq,beq_eq_false_iff_ne,bne_eq_false_iff_eq,Bool.not_eq_true',Bool.not_eq_false',Int.ofNat_lt,Int.natCast_inj])
 all_goals (repeat' (first | apply And.intro | intro _))
 all_goals (repeat (cases ‹_/\_›))
 all_goals (first | omega | with_reducible assumption | with_reducible rfl | skip)
 all_goals (first | (simp_all;done) | grind [List.take_length] | skip)
theorem ok_l8Copy:FnOk Tryd.prog E 41 c_l8Copy :=
 fn_rec (mu:=mu_l8Copy) (fun m ih=>fn_okQ (con:=c_l8Copy.lim mu_l8Copy (m+1)) (fn:=Tryd.f41) (l:=L_l8Copy m) (lp:=P_l8Copy) (hp:=fun _=>false) (gcs:=fun _=>none) (perm:=fun _=>[]) tabOk mix ⟨ih,ok_l3Copy,trivial⟩ trivial Tryd.func41 rfl (by kernel_rfl) (show c_l8Copy.aks.length<=Tryd.f41.ntmps by decide) (by kernel_rfl) (anns:=fun x _=>an_l8Copy x.1) (fun ⟨l,_⟩ k hp _=>Eq.mp (by kernel_rfl) (vcn_l8Copy l m k hp)) tot_fn) ⟨_,_,Tryd.func41,by kernel_rfl,rfl⟩ tot_fn
abbrev c_pick:Con:=⟨[.rdr,.int],[.int],fun _=>True,.inr fun (_,n,_) (r,_)=>pickP n r,fun _=>1⟩
theorem vc_pick (code:List UInt8) (v:Value) (p n:Int) (k:Nat) (h1:code.length<=2000) (h2:0<=p) (h3:p<=k) (h4:k+1<=rdLimit):vc tab (lookF []) (fun _=>none) (fun _=>[]) (bodyOf Tryd.f42) (pickSt code v p n) (pickQ code v p n):=by
 have h5:p<=1099511627776:=by have:k+1<=1099511627776:=h4;omega
 dsimp only [bodyOf,Tryd.f42,rdOf]
 simp only [pickSt,pickQ,pickK,pickM,pickR,pickP,true_and,and_true,SE.lookF,tab2,tab3,tab4,tab5,tab7,tab9,tab12,tab13,tab21,tab22,tab23,tab30,tab39,tab40,tab41,tab42,tab43,tab44,tab45,tab46,tab47,tab48,tab49,tab50,tab51,tab52,tab53,tab61,tab65,tab79,tab80,tab84,tab91,tab93,tab94,tab111,tab114,tab125,tab135,SE.entry,SE.envOf,SE.rdOf,Option.get_some,SE.vc,SE.vcReg,SE.vcLoop,SE.condK,SE.seqK,SE.blockK,SE.vcOps,SE.vcStep,SE.vcOp,SE.vcTr,SE.vcDet_some,SE.vcDet_none,SE.vcIf_true,SE.vcIf_false,SE.vcEach,SE.pickOps,SE.gslot,SE.trOp,SE.moveId,SE.trMove,SE.trPick,SE.trAlloc,SE.trBox,SE.trBuild,SE.trBuildSlice,SE.trLoad,SE.trStore,SE.trNilCheck,SE.trBin,SE.trUn,SE.trConvert,SE.trFieldAddr,SE.trField,SE.trIndexAddr,SE.trIndex,SE.trSlice,SE.trMakeSlice,SE.trExtract,SE.trLen,SE.trAppend,SE.trCopy,SE.trFn,SE.trCall,SE.argsS,SE.ev,SE.constS,SE.junk,SE.sv,SE.upd_app,SE.adds,SE.sets,SE.nid,SE.St.app,SE.St.put,SE.free,SE.freeL,SE.allFree,SE.rids,SE.AK.rids,SE.castL,SE.rdl,SE.AK.dec,SE.decs,SE.AK.enc,SE.encs,SE.AK.res,SE.ress,SE.pack1,SE.zcells,SE.zeroOf,SE.partCells,SE.putc,SE.fills,SE.datas,SE.ownDC,SE.wkDC,SE.wkS,SE.xfix,SE.tightM,SE.rdn,SE.rdnC,SE.elemOf,SE.elemsOf,SE.elemX,SE.zeroC,SE.notSpent,SE.cellsAt,SE.weak,SE.dcellsAt,SE.slAt,SE.rdPlus,SE.intAt,SE.updElem,SE.kill,SE.noJunk,SE.inK,SE.binI,SE.shf,SE.isShift,SE.eqCells,SE.aggS,SE.intOp,SE.nested,SE.hasRdr,SE.refsC,SE.refsCs,SE.ownsC,SE.refsAr,SE.rdFits,SE.costIf,SE.Con.post,SE.Con.det,SE.Ty.cells,SE.Ty.sz,SE.Ty.zero,SE.Ty.flat,SE.Ty.dec,SE.retOk,SE.loadsS,SE.loadS,SE.decRs,SE.decR,SE.outC,SE.rdC,SE.allDiff,SE.notIn,SE.notFrozen,SE.apartL,SE.rdEnd,SE.firstReg,SE.headC,SE.fitsC,SE.idsC,SE.keepE,SE.keepM,SE.keepB,SE.inL,SE.puts,SE.ownRes,SE.ownEnv,SE.renL,SE.srcId,SE.lookR,SE.envSame,SE.envSets,SE.memSame,SE.memBlks,SE.memOwns,SE.famsOf,SE.allIn,SE.closedE,SE.closedV,SE.closedM,SE.closedR,SE.rdLe,SE.S.refs,SE.S0.refs,SE.CV.refs,SE.refsL,SE.refsT,SE.S.ren,SE.S0.ren,SE.CV.ren,SE.Res.refs,SE.Res.ren,min_i64,max_i64,min_u16,max_u16,min_u8,max_u8,min_u64,max_u64,S.s.injEq,S0.c.injEq,CV.d.injEq,DC.val.injEq,Value.int.injEq,Value.bool.injEq,Value.string.injEq,eta_fact,eta_atom,eta_asn,eta_state,List.mem_cons,List.mem_nil_iff,or_false,false_or,or_true,true_or,List.map_cons,List.map_nil,Option.map_some,Option.map_none,Option.bind_some,Option.getD_some,Option.getD_none,Nat.reduceEqDiff,Nat.reduceAdd,Nat.reduceMul,Nat.reduceLeDiff,↓reduceIte,reduceCtorEq,true_and,and_true,and_self,forall_const,implies_true,true_implies,List.getElem?_toArray,List.getElem?_cons_succ,List.getElem?_cons_zero,List.append_nil,List.nil_append,List.cons_append,List.length_cons,List.length_nil,List.take_succ_cons,List.take_zero,List.drop_succ_cons,List.drop_zero,List.set_cons_zero,List.set_cons_succ,List.map_cons,List.map_nil,Nat.add_zero,Nat.zero_add,forall_eq,Prod.forall,Bool.not_true,Bool.not_false,Nat.lt_irrefl,Nat.zero_lt_succ,List.singleton_append,Prod.mk.injEq,Nat.zero_mul,Nat.one_mul,Nat.reducePow,Option.some.injEq,not_false_eq_true,Int.toNat_natCast,Nat.sub_zero,Nat.le_refl,Bool.or_false,Bool.false_or,Bool.or_true,Bool.true_or,Bool.and_true,Bool.true_and,Bool.and_false,Bool.false_and,Bool.or_self,Bool.and_self,List.append_eq,and_false,false_and]
 all_goals (try simp only [vcIf_iff,decide_eq_true_eq,decide_eq_false_iff_not,bne_iff_ne,ne_eq,beq_iff_eq,beq_eq_false_iff_ne])
 have hq:p+1 - 1=p:=by omega
 simp only [hq]
 have hA:=byte_bd code
 generalize hL:(code.length:Int)=L at *
 have hL0:0<=L:=by omega
 have hm:∀ x:Int,0<=x->¬ L=0->0<=x.tmod L/\x.tmod L < L:=fun x h0 h1=>tmod_bd h0 (by omega)
 refine ⟨by omega,fun _ _=>by omega,fun hn=>⟨fun _ _=>by omega,fun hl=>⟨by omega,fun hpl=>?_,fun hpl=>?_⟩⟩⟩
 ·have a1:=hA p.toNat
  have m1:=tmod_bd (n:=n) a1.1 (by omega)
  generalize ((code.getD p.toNat 0).toNat:Int)=A at *
  exact ⟨by omega,by omega,by omega,fun _=>m1,fun h=>by omega⟩
 ·have m1:=hm p h2 hl
  have m2:=hm (p * 7+3) (by omega) hl
  have a1:=hA (p.tmod L).toNat
  have a2:=hA ((p * 7+3).tmod L).toNat
  have d1:=tdiv_bd (x:=p) (n:=L) h2 (by omega)
  generalize ((code.getD (p.tmod L).toNat 0).toNat:Int)=A at *
  generalize ((code.getD ((p * 7+3).tmod L).toNat 0).toNat:Int)=B at *
  generalize p.tdiv L=D at *
  have d2:=tdiv_bd (x:=A * 131+B * 1117+p * 29+D * 53) (n:=64) (by omega) (by omega)
  have x1:=xor_i64_pos (a:=A * 131+B * 1117+p * 29+D * 53) (b:=(A * 131+B * 1117+p * 29+D * 53).tdiv 64) (by omega) (by omega) d2.1 (by omega)
  have m3:=tmod_bd (n:=n) x1 (by omega)
  repeat' (first | apply And.intro | intro _)
  all_goals (first | assumption | omega | exact m3.1 | exact m3.2)
theorem ok_pick:FnOk Tryd.prog E 42 c_pick :=
 pick_ok tabOk mix (perm:=fun _=>[]) Tryd.func42 (by kernel_rfl) (by decide) (by kernel_rfl) (by decide) (by kernel_rfl) (fun code v p n k h1 h2 h3 h4=>vc_pick code v p n k h1 h2 h3 h4)
abbrev c_num:Con:=⟨[.rdr,.sl .int],[.int],fun (rr,l,_)=>0 < l.length/\l.length<=1000,.inr fun (rr,l,_) r=>r.1 ∈ l,fun (rr,l,_)=>1⟩
abbrev L_num:List (FuncId × Con):=[(42,c_pick)]
abbrev P_num:List (FuncId × PT):=[]
def VC_num (rr:Unit) (l:List Int) (k:Nat):Prop:=True/\True/\True/\True/\True/\(True/\(k+1<=1099511627776)/\True)/\(∀ r1:Int × Unit,(pickP ((l.length:Nat):Int) r1.1)->(0<=r1.1/\r1.1 < ((l.length:Nat):Int))/\True/\True/\((l.getD r1.1.toNat (0:Int)) ∈ l)/\True/\True/\True/\True/\(k+1<=k+1))
theorem vcn_num (rr:Unit) (l:List Int) (k:Nat) (hp:0 < l.length/\l.length<=1000) (hk:k+(1)<=1099511627776):VC_num rr l k:=by
 unfold VC_num
 simp only [cln,Nat.reduceEqDiff,Nat.reduceLeDiff,Nat.reduceAdd]
 all_goals (try simp only [opn])
 all_goals (repeat' (first | apply And.intro | intro _))
 all_goals (first | omega | (simp_all;done) | grind [getD_mem,pickP])
theorem ok_num:FnOk Tryd.prog E 43 c_num :=
 fn_okQ (l:=L_num) (lp:=P_num) (hp:=fun _=>false) (gcs:=fun _=>none) (perm:=fun _=>[]) tabOk mix ⟨ok_pick,trivial⟩ trivial Tryd.func43 rfl (by kernel_rfl) (by decide) (by kernel_rfl) (anns:=fun x _=>fun _ _=>none) (fun ⟨rr,l,_⟩ k hp hk=>Eq.mp (by kernel_rfl) (vcn_num rr l k hp (hk rfl))) (fun ⟨_,l,_⟩ hp=>⟨(l.getD 0 0,()),getD_mem hp.1⟩)
end Go.Proofs.YtkafaeeianofnaaDoor
