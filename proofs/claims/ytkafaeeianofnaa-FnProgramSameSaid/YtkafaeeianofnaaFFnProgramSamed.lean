/-
  Contracts of single functions of the program, each shown by the engine: what a call returns for arguments within the contract's bounds.
-/
import Derived.Test.YtkafaeeianofnaaFFnProgramSamea
import Derived.Test.YtkafaeeianofnaaFFnProgramSamec
import Derived.Test.YtkafaeeianofnaaEd
set_option linter.unusedSimpArgs false
set_option linter.unusedVariables false
set_option linter.unusedSectionVars false

namespace Go.Proofs.Ytkafaeeianofnaa
open Go.SE Go.RowKit
variable [Base]
set_option linter.unusedSectionVars false
set_option linter.unusedSimpArgs false
set_option linter.unusedVariables false
set_option maxHeartbeats 1000000
set_option maxRecDepth 100000
abbrev c_sProgramSame:Con:=⟨[.sl .cmd,.sl .cmd],[.bool],fun (a,b,_)=>BdL a/\BdL b,.inl fun (a,b,_)=>(decide (a=b),()),fun _=>0⟩
abbrev mu_sProgramSame:Args c_sProgramSame.aks->Nat:=fun (a,b,_)=>ndL a
abbrev L_sProgramSame (m:Nat):List (FuncId × Con):=[(14,c_sProgramSame.lim mu_sProgramSame m),(46,c_sAssertionSame)]
abbrev P_sProgramSame:List (FuncId × PT):=[]
def an_sProgramSame (a:List GCmd) (b:List GCmd):Nat->St->Option Ann
 | 4,se=>some { α:=Nat,ok:=fun i=>i<=a.length/\a.length=b.length/\a.take i=b.take i,mu:=fun i=>a.length - i,i0:=fun _=>0,nx:=fun a _=>(fun i=>i+1) a,live:=[0,1],sets:=fun i=>[(5,sv (.int .i64 i))],mids:=[],blks:=fun i=>[],owns:=fun i=>[],rd:=fun r _=>r,base:=100000 }
 | _,_=>none
def VC_sProgramSame_1 (a:List GCmd) (b:List GCmd):Prop:=True/\(((false,()):Bool × Unit)=(decide (a=b),()))/\True/\True/\True/\True/\TF
def VC_sProgramSame_2 (a:List GCmd) (b:List GCmd):Prop:=True/\(VC_sProgramSame_1 a b)
def VC_sProgramSame_3 (a:List GCmd) (b:List GCmd):Prop:=True/\True/\(VC_sProgramSame_2 a b)
def VC_sProgramSame_4 (a:List GCmd) (b:List GCmd):Prop:=True/\True/\(VC_sProgramSame_3 a b)
def VC_sProgramSame_5 (a:List GCmd) (b:List GCmd) (m:Nat):Prop:=(((0<=a.length/\a.length=b.length/\a.take 0=b.take 0)/\TT/\(RL [.s (.c (.d (.arr .cmd a))),.s (.c (.d (.arr .cmd b)))])/\(([.s (.c (.d (.val (.int .i64 (0:Int)))))]:List S)=[.s (.c (.d (.val (.int .i64 ((0:Nat):Int)))))])/\(RM [])/\(RM [])/\True/\TT)/\(∀ i1:Nat,(i1<=a.length/\a.length=b.length/\a.take i1=b.take i1)->True/\True/\True/\True/\(vcIf (decide (((i1:Nat):Int) < ((a.length:Nat):Int))) (True/\True/\(0<=((i1:Nat):Int)/\((i1:Nat):Int) < ((a.length:Nat):Int))/\True/\(TN/\TN/\TN/\TN/\TN/\True)/\(TF/\TF)/\True/\True/\(0<=((i1:Nat):Int)/\((i1:Nat):Int) < ((b.length:Nat):Int))/\True/\(TN/\TN/\TN/\TN/\TN/\True)/\(TF/\TF)/\True/\True/\True/\True/\True/\True/\(vcIf (((a.getD i1 (Ty.zero .cmd)).kind) != ((b.getD i1 (Ty.zero .cmd)).kind)) (True/\True/\(VC_sProgramSame_4 a b)) (True/\True/\True/\True/\True/\True/\True/\(vcIf (((a.getD i1 (Ty.zero .cmd)).a) != ((b.getD i1 (Ty.zero .cmd)).a)) (VC_sProgramSame_4 a b) (True/\True/\True/\True/\True/\True/\True/\(vcIf (((a.getD i1 (Ty.zero .cmd)).b) != ((b.getD i1 (Ty.zero .cmd)).b)) (VC_sProgramSame_3 a b) (True/\True/\True/\True/\True/\True/\True/\(vcIf (!(((((a.getD i1 (Ty.zero .cmd)).test).eq) == (((b.getD i1 (Ty.zero .cmd)).test).eq)) && (((((a.getD i1 (Ty.zero .cmd)).test).a) == (((b.getD i1 (Ty.zero .cmd)).test).a)) && (((((a.getD i1 (Ty.zero .cmd)).test).b) == (((b.getD i1 (Ty.zero .cmd)).test).b)) && true)))) (VC_sProgramSame_2 a b) (True/\True/\True/\True/\((((a.getD i1 (Ty.zero .cmd)).inv).facts.length<=281474976710656/\((a.getD i1 (Ty.zero .cmd)).inv).atoms.length<=281474976710656/\((b.getD i1 (Ty.zero .cmd)).inv).facts.length<=281474976710656/\((b.getD i1 (Ty.zero .cmd)).inv).atoms.length<=281474976710656)/\True/\True)/\True/\True/\(vcIf (!(decide (((a.getD i1 (Ty.zero .cmd)).inv)=((b.getD i1 (Ty.zero .cmd)).inv)))) (VC_sProgramSame_1 a b) (True/\True/\True/\True/\(((BdL ((a.getD i1 (Ty.zero .cmd)).body)/\BdL ((b.getD i1 (Ty.zero .cmd)).body))/\ndL ((a.getD i1 (Ty.zero .cmd)).body) < m)/\True/\True)/\True/\True/\(vcIf (!(decide (((a.getD i1 (Ty.zero .cmd)).body)=((b.getD i1 (Ty.zero .cmd)).body)))) (VC_sProgramSame_2 a b) (True/\True/\True/\True/\(((BdL ((a.getD i1 (Ty.zero .cmd)).els)/\BdL ((b.getD i1 (Ty.zero .cmd)).els))/\ndL ((a.getD i1 (Ty.zero .cmd)).els) < m)/\True/\True)/\True/\True/\(vcIf (!(decide (((a.getD i1 (Ty.zero .cmd)).els)=((b.getD i1 (Ty.zero .cmd)).els)))) (VC_sProgramSame_1 a b) (True/\(inK .i64 (((i1:Nat):Int)+(1:Int)))/\True/\((i1+1)<=a.length/\a.length=b.length/\a.take (i1+1)=b.take (i1+1))/\(a.length - (i1+1) < a.length - i1)/\TT/\(RL [.s (.c (.d (.arr .cmd a))),.s (.c (.d (.arr .cmd b)))])/\(([.s (.c (.d (.val (.int .i64 (((i1:Nat):Int)+(1:Int))))))]:List S)=[.s (.c (.d (.val (.int .i64 (((i1+1):Nat):Int)))))])/\(RM [])/\(RM [])/\True/\TT))))))))))))))) (True/\(((true,()):Bool × Unit)=(decide (a=b),()))/\True/\True/\True/\True/\TF))))
def VC_sProgramSame (a:List GCmd) (b:List GCmd) (m:Nat) (k:Nat):Prop:=True/\True/\True/\True/\True/\True/\(vcIf (((a.length:Nat):Int) != ((b.length:Nat):Int)) (VC_sProgramSame_1 a b) (True/\(VC_sProgramSame_5 a b m)))
theorem vcn_sProgramSame (a:List GCmd) (b:List GCmd) (m:Nat) (k:Nat) (hp:(BdL a/\BdL b)/\ndL a < m+1):VC_sProgramSame a b m k:=by
 unfold VC_sProgramSame VC_sProgramSame_5 VC_sProgramSame_4 VC_sProgramSame_3 VC_sProgramSame_2 VC_sProgramSame_1
 simp only [cln,Nat.reduceEqDiff,Nat.reduceLeDiff,Nat.reduceAdd,GCmd.eta,fact_beq]
 have hg:∀ i,i < a.length->a.length=b.length->BdL (a.getD i (Ty.zero .cmd)).body/\BdL (b.getD i (Ty.zero .cmd)).body/\BdL (a.getD i (Ty.zero .cmd)).els/\BdL (b.getD i (Ty.zero .cmd)).els/\ndL (a.getD i (Ty.zero .cmd)).body < ndL a/\ndL (a.getD i (Ty.zero .cmd)).els < ndL a :=
  fun i hi he=>⟨(hp.1.1.get hi).b,(hp.1.2.get (he ▸ hi)).b,(hp.1.1.get hi).e,(hp.1.2.get (he ▸ hi)).e,by have h1:=ndL_get (d:=Ty.zero .cmd) hi;have h2:=ndC_eq (a.getD i (Ty.zero .cmd));omega,by have h1:=ndL_get (d:=Ty.zero .cmd) hi;have h2:=ndC_eq (a.getD i (Ty.zero .cmd));omega⟩
 have hf:∀ i,i < a.length->a.length=b.length->(a.getD i (Ty.zero .cmd)).inv.facts.length<=281474976710656/\(a.getD i (Ty.zero .cmd)).inv.atoms.length<=281474976710656/\(b.getD i (Ty.zero .cmd)).inv.facts.length<=281474976710656/\(b.getD i (Ty.zero .cmd)).inv.atoms.length<=281474976710656 :=
  fun i hi he=>⟨(hp.1.1.get hi).f,(hp.1.1.get hi).a,(hp.1.2.get (he ▸ hi)).f,(hp.1.2.get (he ▸ hi)).a⟩
 have hl1:=hp.1.1.len
 have hl2:=hp.1.2.len
 all_goals (try simp only [vcIf_iff,decide_eq_true_eq,decide_eq_false_iff_not,bne_iff_ne,ne_eq,beq_iff_eq,beq_eq_false_iff_ne,bne_eq_false_iff_eq,Bool.not_eq_true',Bool.not_eq_false',Int.ofNat_lt,Int.natCast_inj])
 all_goals (repeat' (first | apply And.intro | intro _))
 all_goals (first | omega | (simp_all;done) | grind [same_step,same_not,take_full,GCmd.ext_iff])
theorem ok_sProgramSame:FnOk Try.prog E 14 c_sProgramSame :=
 fn_rec (mu:=mu_sProgramSame) (fun m ih=>fn_okQ (con:=c_sProgramSame.lim mu_sProgramSame (m+1)) (fn:=Try.f14) (l:=L_sProgramSame m) (lp:=P_sProgramSame) (hp:=fun _=>false) (gcs:=fun _=>none) (perm:=fun _=>[]) tabOk mix ⟨ih,ok_sAssertionSame,trivial⟩ trivial Try.func14 rfl (by kernel_rfl) (show c_sProgramSame.aks.length<=Try.f14.ntmps by decide) (by kernel_rfl) (anns:=fun x _=>an_sProgramSame x.1 x.2.1) (fun ⟨a,b,_⟩ k hp _=>Eq.mp (by kernel_rfl) (vcn_sProgramSame a b m k hp)) tot_fn) ⟨_,_,Try.func14,by kernel_rfl,rfl⟩ tot_fn
abbrev c_FnProgramSame:Con:=⟨[.sl .u8],[.bool],fun (code,_)=>code.length<=281474976710656,.inl fun (code,_)=>(true,()),fun _=>0⟩
abbrev L_FnProgramSame:List (FuncId × Con):=[(12,c_DrawProgramSame),(13,c_iProgramSame),(14,c_sProgramSame)]
abbrev P_FnProgramSame:List (FuncId × PT):=[]
def VC_FnProgramSame_1 :Prop:=True/\True/\(((false,()):Bool × Unit)=(true,()))/\True/\True/\True/\True/\TF
def VC_FnProgramSame (code:List UInt8) (k:Nat):Prop:=True/\True/\True/\True/\(vcIf (decide ((1048576:Int) < ((code.length:Nat):Int))) (True/\(((true,()):Bool × Unit)=(true,()))/\True/\True/\True/\True/\TF) (True/\(True/\True/\True/\True)/\(∀ r1:(List GCmd) × (List GCmd) × Unit,(r1.1.length+wcL r1.1<=20100/\r1.2.1.length+wcL r1.2.1<=20100)->True/\True/\True/\True/\True/\True/\True/\((BdL r1.1/\BdL r1.2.1/\ndL r1.1<=1048576)/\True/\True)/\True/\True/\True/\True/\((BdL r1.1/\BdL r1.2.1)/\True/\True)/\True/\True/\(vcIf ((decide (r1.1=r1.2.1)) == (decide (r1.1=r1.2.1))) (True/\True/\True/\((BdL r1.2.1/\BdL r1.1/\ndL r1.2.1<=1048576)/\True/\True)/\True/\True/\True/\(vcIf ((decide (r1.1=r1.2.1)) == (decide (r1.2.1=r1.1))) (True/\True/\((BdL r1.1/\BdL r1.1/\ndL r1.1<=1048576)/\True/\True)/\True/\True/\((((decide (r1.1=r1.1)),()):Bool × Unit)=(true,()))/\True/\True/\True/\True/\TF) VC_FnProgramSame_1)) (True/\True/\VC_FnProgramSame_1)))))
theorem vcn_FnProgramSame (code:List UInt8) (k:Nat) (hp:code.length<=281474976710656):VC_FnProgramSame code k:=by
 unfold VC_FnProgramSame VC_FnProgramSame_1
 simp only [cln,Nat.reduceEqDiff,Nat.reduceLeDiff,Nat.reduceAdd,bne_self_eq_false,beq_self_eq_true,decide_true,eq_self,Bool.not_true,Bool.not_false,vcIf_true,vcIf_false,Bool.false_and,Bool.true_and,Bool.or_false,Bool.or_true,GCmd.eta]
 all_goals (try simp only [vcIf_iff,decide_eq_true_eq,decide_eq_false_iff_not,bne_iff_ne,ne_eq,beq_iff_eq,beq_eq_false_iff_ne,bne_eq_false_iff_eq,Bool.not_eq_true',Bool.not_eq_false',Int.ofNat_lt,Int.natCast_inj,List.mem_cons,List.mem_nil_iff,List.not_mem_nil,or_false])
 all_goals (repeat' (first | apply And.intro | intro _))
 all_goals (repeat (cases ‹_/\_›))
 all_goals (first | omega | with_reducible assumption | with_reducible rfl | rfl | with_reducible exact True.intro | skip)
 all_goals (try (first
  | exact small_bdL (by omega)
  | exact Nat.le_trans (ndL_wt _) (by omega)
  | (exfalso;exact ‹¬ decide _=decide _› (decide_eq_decide.2 ⟨Eq.symm,Eq.symm⟩))
  | (exfalso;simp_all;done)
  | (simp_all;done)))
theorem ok_FnProgramSame:FnOk Try.prog E 3 c_FnProgramSame :=
 fn_okQ (l:=L_FnProgramSame) (lp:=P_FnProgramSame) (hp:=fun _=>false) (gcs:=fun _=>none) (perm:=fun _=>[]) tabOk mix ⟨ok_DrawProgramSame,ok_iProgramSame,ok_sProgramSame,trivial⟩ trivial Try.func3 rfl (by kernel_rfl) (by decide) (by kernel_rfl) (anns:=fun x _=>fun _ _=>none) (fun ⟨code,_⟩ k hp _=>Eq.mp (by kernel_rfl) (vcn_FnProgramSame code k hp)) tot_fn
end Go.Proofs.Ytkafaeeianofnaa
