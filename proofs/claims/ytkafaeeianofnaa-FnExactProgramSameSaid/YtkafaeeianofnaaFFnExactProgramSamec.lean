/-
  Contracts of single functions of the program, each shown by the engine: what a call returns for arguments within the contract's bounds.
-/
import Derived.Test.YtkafaeeianofnaaFFnExactProgramSamea
import Derived.Test.YtkafaeeianofnaaFFnExactProgramSameb
import Derived.Test.YtkafaeeianofnaaEd
import Derived.Test.YtkafaeeianofnaaEc
set_option linter.unusedSimpArgs false
set_option linter.unusedVariables false
set_option linter.unusedSectionVars false

namespace Go.Proofs.Ytkafaeeianofnaa
open Go.SE Go.RowKit
variable [Base]
set_option linter.unusedSectionVars false
set_option linter.unusedSimpArgs false
set_option linter.unusedVariables false
set_option maxHeartbeats 1000000
set_option maxRecDepth 100000
abbrev c_FnExactProgramSame:Con:=⟨[.sl .lcmd,.sl .lcmd],[.bool],fun (a,b,_)=>BdL a/\BdL b,.inl fun (a,b,_)=>(true,()),fun _=>0⟩
abbrev L_FnExactProgramSame:List (FuncId × Con):=[(13,c_iProgramSame),(14,c_sProgramSame),(15,c_szCmdS),(16,c_toCmdS),(17,c_eqCmdS)]
abbrev P_FnExactProgramSame:List (FuncId × PT):=[]
def VC_FnExactProgramSame_1 :Prop:=True/\(((true,()):Bool × Unit)=(true,()))/\True/\True/\True/\True/\TF
def VC_FnExactProgramSame_2 :Prop:=True/\(((false,()):Bool × Unit)=(true,()))/\True/\True/\True/\True/\TF
def VC_FnExactProgramSame (a:List GCmd) (b:List GCmd) (k:Nat):Prop:=True/\True/\True/\True/\((BdL a/\0<=(1048576:Int)/\(1048576:Int)<=1048576)/\True/\True)/\True/\True/\True/\(vcIf (decide ((sz1 (1048576:Int) (a.length+wcL a)) < (0:Int))) VC_FnExactProgramSame_1 (True/\True/\((BdL b/\0<=(sz1 (1048576:Int) (a.length+wcL a))/\(sz1 (1048576:Int) (a.length+wcL a))<=1048576)/\True/\True)/\True/\True/\True/\(vcIf (decide ((sz1 (sz1 (1048576:Int) (a.length+wcL a)) (b.length+wcL b)) < (0:Int))) VC_FnExactProgramSame_1 (True/\((a.length+wcL a<=1048576)/\True/\True/\TN/\True)/\True/\((b.length+wcL b<=1048576)/\True/\True/\TN/\True)/\((BdL a/\BdL b)/\True/\True)/\True/\True/\((a.length+wcL a<=1048576)/\True/\True/\TN/\True)/\True/\True/\((b.length+wcL b<=1048576)/\True/\True/\TN/\True)/\True/\True/\True/\((BdL a/\BdL b/\ndL a<=1048576)/\True/\True)/\True/\True/\True/\True/\(vcIf ((decide (a=b)) != (decide (a=b))) VC_FnExactProgramSame_2 (True/\True/\((a.length+wcL a<=1048576)/\True/\True/\TN/\True)/\((BdL a/\BdL a)/\True/\True)/\True/\(vcIf (!(decide (a=a))) VC_FnExactProgramSame_2 (True/\True/\((b.length+wcL b<=1048576)/\True/\True/\TN/\True)/\((BdL b/\BdL b)/\True/\True)/\True/\(vcIf (!(decide (b=b))) VC_FnExactProgramSame_2 VC_FnExactProgramSame_1)))))))))
theorem vcn_FnExactProgramSame (a:List GCmd) (b:List GCmd) (k:Nat) (hp:BdL a/\BdL b):VC_FnExactProgramSame a b k:=by
 unfold VC_FnExactProgramSame VC_FnExactProgramSame_2 VC_FnExactProgramSame_1
 simp only [cln,Nat.reduceEqDiff,Nat.reduceLeDiff,Nat.reduceAdd,bne_self_eq_false,beq_self_eq_true,decide_true,eq_self,Bool.not_true,Bool.not_false,vcIf_true,vcIf_false,Bool.false_and,Bool.true_and,Bool.or_false,Bool.or_true]
 have hn:=ndL_wt a
 have hn2:=ndL_wt b
 have hb:=fun h=>small_bdL (l:=a) h
 have hb2:=fun h=>small_bdL (l:=b) h
 all_goals (try simp only [vcIf_iff,decide_eq_true_eq,decide_eq_false_iff_not,bne_iff_ne,ne_eq,beq_iff_eq,beq_eq_false_iff_ne,bne_eq_false_iff_eq,Bool.not_eq_true',Bool.not_eq_false',Int.ofNat_lt,Int.natCast_inj])
 all_goals (repeat' (first | apply And.intro | intro _))
 all_goals (repeat (cases ‹_/\_›))
 all_goals (first | omega | (simp_all;done) | grind [sz1] | skip)
theorem ok_FnExactProgramSame:FnOk Try.prog E 4 c_FnExactProgramSame :=
 fn_okQ (l:=L_FnExactProgramSame) (lp:=P_FnExactProgramSame) (hp:=fun _=>false) (gcs:=fun _=>none) (perm:=fun _=>[]) tabOk mix ⟨ok_iProgramSame,ok_sProgramSame,ok_szCmdS,ok_toCmdS,ok_eqCmdS,trivial⟩ trivial Try.func4 rfl (by kernel_rfl) (by decide) (by kernel_rfl) (anns:=fun x _=>fun _ _=>none) (fun ⟨a,b,_⟩ k hp _=>Eq.mp (by kernel_rfl) (vcn_FnExactProgramSame a b k hp)) tot_fn
end Go.Proofs.Ytkafaeeianofnaa
