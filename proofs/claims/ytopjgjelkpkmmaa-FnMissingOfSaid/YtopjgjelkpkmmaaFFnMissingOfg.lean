/-
  Contracts of single functions of the program, each shown by the engine: what a call returns for arguments within the contract's bounds.
-/
import Derived.Test.YtopjgjelkpkmmaaFFnMissingOfa
import Derived.Test.YtopjgjelkpkmmaaFFnMissingOfb
import Derived.Test.YtopjgjelkpkmmaaFFnMissingOfc
import Derived.Test.YtopjgjelkpkmmaaFFnMissingOfd
import Derived.Test.YtopjgjelkpkmmaaFFnMissingOfe
import Derived.Test.YtopjgjelkpkmmaaFFnMissingOff
import Derived.Test.YtopjgjelkpkmmaaEd
import Derived.Test.YtopjgjelkpkmmaaEe
import Derived.Test.YtopjgjelkpkmmaaEf
set_option linter.unusedSimpArgs false
set_option linter.unusedVariables false
set_option linter.unusedSectionVars false

namespace Go.Proofs.Ytopjgjelkpkmmaa
open Go.SE Go.RowKit
set_option linter.unusedSimpArgs false
set_option linter.unusedVariables false
set_option maxHeartbeats 1000000
set_option maxRecDepth 100000
abbrev c_FnMissingOf:Con:=⟨[.sl .u8],[.bool],fun (code,_)=>code.length<=281474976710656,.inl fun (code,_)=>(true,()),fun _=>0⟩
abbrev L_FnMissingOf:List (FuncId × Con):=[(20,c_iEntails),(31,c_iAssertionSame),(32,c_iStarAssertions),(41,c_DrawMissingOf),(42,c_iMissingOf),(43,c_sMissingOf),(44,c_iConsistent)]
abbrev P_FnMissingOf:List (FuncId × PT):=[]
def VC_FnMissingOf_1 (r1:GAsn × GAsn × Unit):Prop:=(r1.1.facts.length<=281474976710656/\r1.1.atoms.length<=281474976710656/\r1.2.1.facts.length<=281474976710656/\r1.2.1.atoms.length<=281474976710656)/\True/\TN/\TN/\TN/\TN/\True
def VC_FnMissingOf_2 (r1:GAsn × GAsn × Unit):Prop:=((miL r1.1 r1.2.1).facts.length<=281474976710656/\(miL r1.1 r1.2.1).atoms.length<=281474976710656/\(miL r1.1 r1.2.1).facts.length<=281474976710656/\(miL r1.1 r1.2.1).atoms.length<=281474976710656)/\True/\True
def VC_FnMissingOf_3 (r1:GAsn × GAsn × Unit):Prop:=((miF r1.1 r1.2.1).facts.length<=281474976710656/\(miF r1.1 r1.2.1).atoms.length<=281474976710656/\(miF r1.1 r1.2.1).facts.length<=281474976710656/\(miF r1.1 r1.2.1).atoms.length<=281474976710656)/\True/\True
def VC_FnMissingOf_4 :Prop:=True/\True/\(((false,()):Bool × Unit)=(true,()))/\True/\True/\True/\True/\TF
def VC_FnMissingOf_5 :Prop:=True/\True/\VC_FnMissingOf_4
def VC_FnMissingOf_6 (r1:GAsn × GAsn × Unit):Prop:=True/\True/\True/\True/\(vcIf ((miB r1.1 r1.2.1) == (miB r1.1 r1.2.1)) (True/\True/\(VC_FnMissingOf_2 r1)/\True/\True/\(vcIf (decide ((miL r1.1 r1.2.1)=(miL r1.1 r1.2.1))) (True/\True/\(VC_FnMissingOf_3 r1)/\True/\True/\((((decide ((miF r1.1 r1.2.1)=(miF r1.1 r1.2.1))),()):Bool × Unit)=(true,()))/\True/\True/\True/\True/\TF) VC_FnMissingOf_4)) VC_FnMissingOf_5)
def VC_FnMissingOf_7 (r1:GAsn × GAsn × Unit):Prop:=True/\(VC_FnMissingOf_6 r1)
def VC_FnMissingOf_8 (r1:GAsn × GAsn × Unit):Prop:=True/\True/\(VC_FnMissingOf_7 r1)
def VC_FnMissingOf (code:List UInt8) (k:Nat):Prop:=True/\True/\True/\True/\(vcIf (decide ((1048576:Int) < ((code.length:Nat):Int))) (True/\(((true,()):Bool × Unit)=(true,()))/\True/\True/\True/\True/\TF) (True/\(True/\True/\TN/\TN/\TN/\TN/\True)/\(∀ r1:GAsn × GAsn × Unit,(r1.1.facts.length<=40/\r1.1.atoms.length<=40/\r1.2.1.facts.length<=40/\r1.2.1.atoms.length<=40)->True/\True/\True/\(TN/\TN/\TN/\True)/\(TN/\TN/\TN/\True)/\(TF/\TF)/\(TF/\TF)/\True/\True/\(VC_FnMissingOf_1 r1)/\True/\True/\True/\True/\(TN/\TN/\TN/\True)/\(TN/\TN/\TN/\True)/\(TF/\TF)/\(TF/\TF)/\True/\True/\True/\(VC_FnMissingOf_1 r1)/\True/\True/\True/\True/\(TN/\TN/\TN/\True)/\(TN/\TN/\TN/\True)/\(TF/\TF)/\(TF/\TF)/\True/\True/\True/\True/\True/\(vcIf ((miB r1.1 r1.2.1) != (miB r1.1 r1.2.1)) (True/\True/\(VC_FnMissingOf_8 r1)) (True/\True/\(VC_FnMissingOf_2 r1)/\True/\True/\True/\(vcIf (!(decide ((miL r1.1 r1.2.1)=(miL r1.1 r1.2.1)))) (VC_FnMissingOf_8 r1) (True/\True/\(VC_FnMissingOf_3 r1)/\True/\True/\True/\(vcIf (!(decide ((miF r1.1 r1.2.1)=(miF r1.1 r1.2.1)))) (VC_FnMissingOf_7 r1) (True/\True/\True/\(vcIf (!(miB r1.1 r1.2.1)) (VC_FnMissingOf_6 r1) (True/\True/\((r1.1.facts.length<=1048576/\r1.1.atoms.length<=1048576/\(miL r1.1 r1.2.1).facts.length<=1048576/\(miL r1.1 r1.2.1).atoms.length<=1048576)/\True/\TN/\TN/\True)/\True/\True/\True/\(TN/\TN/\TN/\True)/\(TF/\TF)/\True/\True/\True/\((r1.2.1.facts.length<=1048576/\r1.2.1.atoms.length<=1048576/\(miF r1.1 r1.2.1).facts.length<=1048576/\(miF r1.1 r1.2.1).atoms.length<=1048576)/\True/\TN/\TN/\True)/\True/\True/\True/\(TN/\TN/\TN/\True)/\(TF/\TF)/\True/\True/\True/\(vcIf (starOk r1.1 (miL r1.1 r1.2.1)) (True/\True/\True/\(vcIf (starOk r1.2.1 (miF r1.1 r1.2.1)) (True/\(((starL r1.1 (miL r1.1 r1.2.1)).facts.length<=281474976710656/\(starL r1.1 (miL r1.1 r1.2.1)).atoms.length<=281474976710656)/\True/\True)/\True/\True/\(vcIf (asV (starL r1.1 (miL r1.1 r1.2.1)) && !(casesF (starL r1.1 (miL r1.1 r1.2.1))).isEmpty) (True/\True/\(((starL r1.1 (miL r1.1 r1.2.1)).facts.length<=281474976710656/\(starL r1.1 (miL r1.1 r1.2.1)).atoms.length<=281474976710656/\(starL r1.2.1 (miF r1.1 r1.2.1)).facts.length<=281474976710656/\(starL r1.2.1 (miF r1.1 r1.2.1)).atoms.length<=281474976710656)/\True/\True)/\True/\True/\((((ENT (starL r1.1 (miL r1.1 r1.2.1)) (starL r1.2.1 (miF r1.1 r1.2.1))),()):Bool × Unit)=(true,()))/\True/\True/\True/\True/\TF) VC_FnMissingOf_4)) VC_FnMissingOf_5)) (True/\True/\VC_FnMissingOf_5)))))))))))))
theorem vcn_FnMissingOf (code:List UInt8) (k:Nat) (hp:code.length<=281474976710656):VC_FnMissingOf code k:=by
 unfold VC_FnMissingOf VC_FnMissingOf_8 VC_FnMissingOf_7 VC_FnMissingOf_6 VC_FnMissingOf_5 VC_FnMissingOf_4 VC_FnMissingOf_3 VC_FnMissingOf_2 VC_FnMissingOf_1
 simp only [cln,Nat.reduceEqDiff,Nat.reduceLeDiff,Nat.reduceAdd,bne_self_eq_false,beq_self_eq_true,decide_true,eq_self,Bool.not_true,Bool.not_false,vcIf_true,vcIf_false,Bool.false_and,Bool.true_and,Bool.or_false,Bool.or_true]
 all_goals (try simp only [opn])
 all_goals (repeat' (first | apply And.intro | intro _))
 all_goals (repeat (cases ‹_/\_›))
 all_goals (first | with_reducible exact True.intro | (exfalso;contradiction) | omega | with_reducible assumption | with_reducible rfl | skip)
 all_goals (first
  | (with_reducible refine Nat.le_trans (m:=200) ?_ (by decide);first
   | with_reducible exact ml200F | with_reducible exact ml200A (by omega) | with_reducible exact mf200F | with_reducible exact mf200A (by first | omega | exact Nat.zero_le _) (by omega)
   | with_reducible exact mfb200 (by omega) | with_reducible exact msl200F (by omega) | with_reducible exact msl200A (by omega) (by omega) | with_reducible exact msf200F (by omega) | with_reducible exact msf200A (by omega) (by omega)
   | with_reducible exact frm200F | with_reducible exact frm200A (by omega))
  | with_reducible exact (ms_1 ‹_› ‹_›).elim | with_reducible exact (ms_2 ‹_› ‹_›).elim | with_reducible exact (ms_3 ‹_› ‹_›).elim | with_reducible exact ms_4 ‹_›
  | with_reducible exact (ma_1 ‹_› ‹_›).elim | with_reducible exact (ma_2 ‹_› ‹_›).elim | with_reducible exact ma_3 ‹_›
  | with_reducible exact (mn_1 ‹_› ‹_› ‹_›).elim | with_reducible exact (mn_2 ‹_› ‹_› ‹_›).elim | with_reducible exact (mn_3 ‹_› ‹_› ‹_›).elim | with_reducible exact mn_4 ‹_› ‹_› | with_reducible exact (mn_5 ‹_›).elim | with_reducible exact cv_le ‹_›
  | skip)
theorem ok_FnMissingOf:FnOk Try.prog E 8 c_FnMissingOf :=
 fn_okQ (l:=L_FnMissingOf) (lp:=P_FnMissingOf) (hp:=fun _=>false) (gcs:=fun _=>none) (perm:=fun _=>[]) tabOk mix ⟨ok_iEntails,ok_iAssertionSame,ok_iStarAssertions,ok_DrawMissingOf,ok_iMissingOf,ok_sMissingOf,ok_iConsistent,trivial⟩ trivial Try.func8 rfl (by kernel_rfl) (by decide) (by kernel_rfl) (anns:=fun x _=>fun _ _=>none) (fun ⟨code,_⟩ k hp _=>Eq.mp (by kernel_rfl) (vcn_FnMissingOf code k hp)) tot_fn
end Go.Proofs.Ytopjgjelkpkmmaa
