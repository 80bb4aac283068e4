/-
  Contracts of single functions of the program, each shown by the engine: what a call returns for arguments within the contract's bounds.
-/
import Derived.Test.YtfoioficiffgkaaFFnEntailsa
import Derived.Test.YtfoioficiffgkaaFFnEntailsb
import Derived.Test.YtfoioficiffgkaaFFnEntailsc
import Derived.Test.YtfoioficiffgkaaFFnEntailsd
import Derived.Test.YtfoioficiffgkaaFFnEntailsf
import Derived.Test.YtfoioficiffgkaaFFnEntailsg
import Derived.Test.YtfoioficiffgkaaEd
import Derived.Test.YtfoioficiffgkaaEe
import Derived.Test.YtfoioficiffgkaaEf
set_option linter.unusedSimpArgs false
set_option linter.unusedVariables false
set_option linter.unusedSectionVars false

namespace Go.Proofs.Ytfoioficiffgkaa
open Go.SE Go.RowKit
set_option linter.unusedSimpArgs false
set_option linter.unusedVariables false
set_option maxHeartbeats 1000000
set_option maxRecDepth 100000
abbrev c_FnEntails:Con:=⟨[.sl .u8,.sl .u8],[.bool],fun (code,more,_)=>code.length<=281474976710656/\more.length<=281474976710656,.inl fun (code,more,_)=>(true,()),fun _=>0⟩
abbrev L_FnEntails:List (FuncId × Con):=[(19,c_DrawHolds),(20,c_iModelOf),(21,c_iHolds),(30,c_DrawEntails),(31,c_iEntails),(32,c_sEntails)]
abbrev P_FnEntails:List (FuncId × PT):=[]
def VC_FnEntails_1 :Prop:=True/\(((true,()):Bool × Unit)=(true,()))/\True/\True/\True/\True/\TF
def VC_FnEntails_2 :Prop:=True/\VC_FnEntails_1
def VC_FnEntails_3 (r1:GAsn × GAsn × Unit):Prop:=(r1.1.facts.length<=281474976710656/\r1.1.atoms.length<=281474976710656/\r1.2.1.facts.length<=281474976710656/\r1.2.1.atoms.length<=281474976710656)/\True/\True
def VC_FnEntails_4 (r1:GAsn × GAsn × Unit):Prop:=True/\True/\True/\(VC_FnEntails_3 r1)/\True/\True/\((((ENT r1.1 r1.2.1) == (ENT r1.1 r1.2.1),()):Bool × Unit)=(true,()))/\True/\True/\True/\True/\TF
def VC_FnEntails_5 (r2:GState × GAsn × Unit) (r1:GAsn × GAsn × Unit):Prop:=True/\True/\((r2.1.vals.length<=281474976710656/\r2.1.heap.length<=281474976710656/\r1.1.facts.length<=281474976710656/\r1.1.atoms.length<=281474976710656)/\True/\True)/\True/\True/\(vcIf (!(HOL r2.1 r1.1)) (True/\VC_FnEntails_2) (True/\True/\((r2.1.vals.length<=281474976710656/\r2.1.heap.length<=281474976710656/\r1.2.1.facts.length<=281474976710656/\r1.2.1.atoms.length<=281474976710656)/\True/\True)/\True/\True/\True/\((((HOL r2.1 r1.2.1),()):Bool × Unit)=(true,()))/\True/\True/\True/\True/\TF))
def VC_FnEntails (code:List UInt8) (more:List UInt8) (k:Nat):Prop:=True/\True/\True/\True/\True/\(vcIf (decide ((1048576:Int) < ((code.length:Nat):Int))) VC_FnEntails_2 (True/\True/\True/\True/\(vcIf (decide ((1048576:Int) < ((more.length:Nat):Int))) VC_FnEntails_1 (True/\(True/\True/\TN/\TN/\TN/\TN/\True)/\(∀ r1:GAsn × GAsn × Unit,(r1.1.facts.length<=40/\r1.1.atoms.length<=40/\r1.2.1.facts.length<=40/\r1.2.1.atoms.length<=40)->True/\True/\True/\(TN/\TN/\TN/\True)/\(TN/\TN/\TN/\True)/\(TF/\TF)/\(TF/\TF)/\True/\True/\(VC_FnEntails_3 r1)/\True/\True/\True/\True/\(VC_FnEntails_3 r1)/\True/\True/\(vcIf ((ENT r1.1 r1.2.1) != (ENT r1.1 r1.2.1)) (True/\(VC_FnEntails_4 r1)) (True/\True/\True/\(vcIf (!(ENT r1.1 r1.2.1)) (VC_FnEntails_4 r1) (True/\((r1.1.facts.length<=281474976710656/\r1.1.atoms.length<=281474976710656)/\True/\TN/\TN/\True)/\True/\True/\True/\(TN/\TN/\TN/\True)/\(TF/\TF)/\True/\True/\(True/\True/\TN/\TN/\TN/\TN/\True)/\(∀ r2:GState × GAsn × Unit,(r2.1.vals.length<=8/\r2.1.heap.length<=9/\r2.2.1.facts.length<=40/\r2.2.1.atoms.length<=40)->True/\True/\True/\(TN/\TN/\TN/\True)/\(TN/\TN/\TN/\True)/\(TF/\TF)/\(TF/\TF)/\True/\True/\True/\(vcIf (!(asV r1.1 && !(casesF r1.1).isEmpty)) (True/\True/\(VC_FnEntails_5 r2 r1)) (True/\True/\(((mdL r1.1).vals.length<=281474976710656/\(mdL r1.1).heap.length<=281474976710656/\r1.2.1.facts.length<=281474976710656/\r1.2.1.atoms.length<=281474976710656)/\True/\True)/\True/\True/\(vcIf (HOL (mdL r1.1) r1.2.1) (VC_FnEntails_5 r2 r1) (True/\True/\(((false,()):Bool × Unit)=(true,()))/\True/\True/\True/\True/\TF))))))))))))))
theorem vcn_FnEntails (code:List UInt8) (more:List UInt8) (k:Nat) (hp:code.length<=281474976710656/\more.length<=281474976710656):VC_FnEntails code more k:=by
 unfold VC_FnEntails VC_FnEntails_5 VC_FnEntails_4 VC_FnEntails_3 VC_FnEntails_2 VC_FnEntails_1
 simp only [cln,Nat.reduceEqDiff,Nat.reduceLeDiff,Nat.reduceAdd,bne_self_eq_false,beq_self_eq_true,decide_true,eq_self,Bool.not_true,Bool.not_false,vcIf_true,vcIf_false,Bool.false_and,Bool.true_and,Bool.or_false,Bool.or_true]
 all_goals (try simp only [opn])
 all_goals (repeat' (first | apply And.intro | intro _))
 all_goals (repeat (cases ‹_/\_›))
 all_goals (first | trivial | (exfalso;contradiction) | omega | with_reducible assumption | with_reducible rfl | skip)
 all_goals (first
  | (with_reducible refine Nat.le_trans (m:=200) ?_ (by decide);first
   | with_reducible exact starL_one (by omega) | with_reducible exact starL_oneA (by omega)
   | with_reducible exact starL_bdF (by omega) (by omega) | with_reducible exact starL_bdA (by omega) (by omega)
   | with_reducible exact sub1F (by omega) | with_reducible exact sub1A (by omega)
   | with_reducible exact subL200F (by omega) | with_reducible exact subL200A (by omega)
   | with_reducible exact nf200F (by omega) | with_reducible exact nf200A (by omega)
   | with_reducible exact md200V | with_reducible exact md200H | with_reducible exact rev200 (by omega)
   | with_reducible exact fc200F (by omega) | with_reducible exact fc200A (by omega))
  | with_reducible exact (en_cons ‹_› ‹_› ‹_›).elim | with_reducible exact (en_none ‹_› ‹_› ‹_› ‹_›).elim
  | with_reducible exact en_star ‹_› ‹_› ‹_›
  | with_reducible exact en_fact1 ‹_› ‹_› ‹_› | with_reducible exact en_fact0 ‹_› ‹_› ‹_›
  | with_reducible exact en_sub ‹_› ‹_› ‹_›
  | with_reducible exact en_refl | with_reducible exact (en_refl0 ‹_› ‹_›).elim
  | with_reducible exact rev_step ‹_› | with_reducible exact (rev_no ‹_› ‹_› ‹_›).elim
  | with_reducible exact en_nf ‹_›
  | with_reducible exact ent_hol ‹_› ‹_› | with_reducible exact (en_mdN ‹_› ‹_› ‹_›).elim
  | (simp_all;done)
  | skip)
theorem ok_FnEntails:FnOk Try.prog E 10 c_FnEntails :=
 fn_okQ (l:=L_FnEntails) (lp:=P_FnEntails) (hp:=fun _=>false) (gcs:=fun _=>none) (perm:=fun _=>[]) tabOk mix ⟨ok_DrawHolds,ok_iModelOf,ok_iHolds,ok_DrawEntails,ok_iEntails,ok_sEntails,trivial⟩ trivial Try.func10 rfl (by kernel_rfl) (by decide) (by kernel_rfl) (anns:=fun x _=>fun _ _=>none) (fun ⟨code,more,_⟩ k hp _=>Eq.mp (by kernel_rfl) (vcn_FnEntails code more k hp)) tot_fn
end Go.Proofs.Ytfoioficiffgkaa
