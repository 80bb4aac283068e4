/-
  Contracts of single functions of the program, each shown by the engine: what a call returns for arguments within the contract's bounds.
-/
import Derived.Test.YtkafaeeianofnaaFFnRunNewFreea
import Derived.Test.YtkafaeeianofnaaFFnRunNewFreeb
import Derived.Test.YtkafaeeianofnaaFFnRunNewFreec
import Derived.Test.YtkafaeeianofnaaEd
import Derived.Test.YtkafaeeianofnaaEe
set_option linter.unusedSimpArgs false
set_option linter.unusedVariables false
set_option linter.unusedSectionVars false

namespace Go.Proofs.Ytkafaeeianofnaa
open Go.SE Go.RowKit
set_option linter.unusedSimpArgs false
set_option linter.unusedVariables false
set_option maxHeartbeats 1000000
set_option maxRecDepth 100000
abbrev c_FnRunNewFree:Con:=⟨[.sl .u8],[.bool],fun (code,_)=>code.length<=281474976710656,.inl fun (code,_)=>(true,()),fun _=>0⟩
abbrev L_FnRunNewFree:List (FuncId × Con):=[(22,c_slInts),(27,c_DrawRunBasic),(28,c_iRunBasic),(29,c_sRunBasic),(30,c_StateSame)]
abbrev P_FnRunNewFree:List (FuncId × PT):=[]
def VC_FnRunNewFree_1 (r1:GState × GCmd × Unit):Prop:=(r1.1.vals.length<=1048576/\r1.1.heap.length<=1048576/\BdC (GCmd.mk r1.2.1.kind r1.2.1.a r1.2.1.b r1.2.1.test r1.2.1.inv r1.2.1.body r1.2.1.els))/\True/\TN/\TN/\True
def VC_FnRunNewFree_2 (r1:GState × GCmd × Unit):Prop:=((rbS r1.1 (GCmd.mk r1.2.1.kind r1.2.1.a r1.2.1.b r1.2.1.test r1.2.1.inv r1.2.1.body r1.2.1.els)).vals.length<=281474976710656/\(rbS r1.1 (GCmd.mk r1.2.1.kind r1.2.1.a r1.2.1.b r1.2.1.test r1.2.1.inv r1.2.1.body r1.2.1.els)).heap.length<=281474976710656/\(rbS r1.1 (GCmd.mk r1.2.1.kind r1.2.1.a r1.2.1.b r1.2.1.test r1.2.1.inv r1.2.1.body r1.2.1.els)).vals.length<=281474976710656/\(rbS r1.1 (GCmd.mk r1.2.1.kind r1.2.1.a r1.2.1.b r1.2.1.test r1.2.1.inv r1.2.1.body r1.2.1.els)).heap.length<=281474976710656)/\True/\True
def VC_FnRunNewFree_3 :Prop:=True/\True/\(((false,()):Bool × Unit)=(true,()))/\True/\True/\True/\True/\TF
def VC_FnRunNewFree_4 (r1:GState × GCmd × Unit):Prop:=True/\True/\True/\True/\(vcIf ((rbK r1.1 (GCmd.mk r1.2.1.kind r1.2.1.a r1.2.1.b r1.2.1.test r1.2.1.inv r1.2.1.body r1.2.1.els)) == (rbK r1.1 (GCmd.mk r1.2.1.kind r1.2.1.a r1.2.1.b r1.2.1.test r1.2.1.inv r1.2.1.body r1.2.1.els))) (True/\True/\(VC_FnRunNewFree_2 r1)/\True/\True/\((((decide ((rbS r1.1 (GCmd.mk r1.2.1.kind r1.2.1.a r1.2.1.b r1.2.1.test r1.2.1.inv r1.2.1.body r1.2.1.els))=(rbS r1.1 (GCmd.mk r1.2.1.kind r1.2.1.a r1.2.1.b r1.2.1.test r1.2.1.inv r1.2.1.body r1.2.1.els)))),()):Bool × Unit)=(true,()))/\True/\True/\True/\True/\TF) VC_FnRunNewFree_3)
def VC_FnRunNewFree_5 (r1:GState × GCmd × Unit):Prop:=True/\(VC_FnRunNewFree_4 r1)
def VC_FnRunNewFree_6 (r1:GState × GCmd × Unit):Prop:=True/\True/\(VC_FnRunNewFree_5 r1)
def VC_FnRunNewFree_7 (code:List UInt8):Prop:=(True/\(vcIf (decide ((1048576:Int) < ((code.length:Nat):Int))) (True/\(((true,()):Bool × Unit)=(true,()))/\True/\True/\True/\True/\TF) (True/\(True/\True/\True/\TN/\TN/\True)/\(∀ r1:GState × GCmd × Unit,(r1.1.vals.length<=8/\r1.1.heap.length<=9/\wtC r1.2.1<=1000)->True/\True/\True/\(TN/\TN/\TN/\True)/\(TN/\TN/\TN/\TN/\TN/\True)/\(TF/\TF)/\(TF/\TF)/\True/\True/\(VC_FnRunNewFree_1 r1)/\True/\True/\True/\(TN/\TN/\TN/\True)/\(TF/\TF)/\True/\True/\True/\(VC_FnRunNewFree_1 r1)/\True/\True/\True/\(TN/\TN/\TN/\True)/\(TF/\TF)/\True/\True/\True/\True/\True/\(vcIf ((rbK r1.1 (GCmd.mk r1.2.1.kind r1.2.1.a r1.2.1.b r1.2.1.test r1.2.1.inv r1.2.1.body r1.2.1.els)) != (rbK r1.1 (GCmd.mk r1.2.1.kind r1.2.1.a r1.2.1.b r1.2.1.test r1.2.1.inv r1.2.1.body r1.2.1.els))) (True/\True/\(VC_FnRunNewFree_6 r1)) (True/\True/\(VC_FnRunNewFree_2 r1)/\True/\True/\True/\(vcIf (!(decide ((rbS r1.1 (GCmd.mk r1.2.1.kind r1.2.1.a r1.2.1.b r1.2.1.test r1.2.1.inv r1.2.1.body r1.2.1.els))=(rbS r1.1 (GCmd.mk r1.2.1.kind r1.2.1.a r1.2.1.b r1.2.1.test r1.2.1.inv r1.2.1.body r1.2.1.els))))) (VC_FnRunNewFree_6 r1) (True/\True/\True/\True/\(vcIf ((rbK r1.1 (GCmd.mk r1.2.1.kind r1.2.1.a r1.2.1.b r1.2.1.test r1.2.1.inv r1.2.1.body r1.2.1.els)) != (0:Int)) (VC_FnRunNewFree_5 r1) (True/\True/\True/\True/\(vcIf (r1.2.1.kind != (4:Int)) (VC_FnRunNewFree_4 r1) (True/\True/\True/\(TN/\TN/\TN/\TN/\True)/\(((rbS r1.1 (GCmd.mk r1.2.1.kind r1.2.1.a r1.2.1.b r1.2.1.test r1.2.1.inv r1.2.1.body r1.2.1.els)).vals.length<=1048576/\(rbS r1.1 (GCmd.mk r1.2.1.kind r1.2.1.a r1.2.1.b r1.2.1.test r1.2.1.inv r1.2.1.body r1.2.1.els)).heap.length<=1048576/\BdC (GCmd.mk (5:Int) r1.2.1.a (0:Int) (⟨false,(0:Int),(0:Int)⟩:GFact) (⟨([]:List GFact),([]:List GAtom)⟩:GAsn) ([]:List GCmd) ([]:List GCmd)))/\True/\TN/\TN/\True)/\True/\True/\True/\(TN/\TN/\TN/\True)/\(TF/\TF)/\True/\True/\True/\True/\(vcIf ((rbK (rbS r1.1 (GCmd.mk r1.2.1.kind r1.2.1.a r1.2.1.b r1.2.1.test r1.2.1.inv r1.2.1.body r1.2.1.els)) (GCmd.mk (5:Int) r1.2.1.a (0:Int) (⟨false,(0:Int),(0:Int)⟩:GFact) (⟨([]:List GFact),([]:List GAtom)⟩:GAsn) ([]:List GCmd) ([]:List GCmd))) == (0:Int)) (True/\True/\True/\True/\((((rbS (rbS r1.1 (GCmd.mk r1.2.1.kind r1.2.1.a r1.2.1.b r1.2.1.test r1.2.1.inv r1.2.1.body r1.2.1.els)) (GCmd.mk (5:Int) r1.2.1.a (0:Int) (⟨false,(0:Int),(0:Int)⟩:GFact) (⟨([]:List GFact),([]:List GAtom)⟩:GAsn) ([]:List GCmd) ([]:List GCmd))).heap).length<=281474976710656/\r1.1.heap.length<=281474976710656)/\True/\True)/\True/\True/\((((decide (((rbS (rbS r1.1 (GCmd.mk r1.2.1.kind r1.2.1.a r1.2.1.b r1.2.1.test r1.2.1.inv r1.2.1.body r1.2.1.els)) (GCmd.mk (5:Int) r1.2.1.a (0:Int) (⟨false,(0:Int),(0:Int)⟩:GFact) (⟨([]:List GFact),([]:List GAtom)⟩:GAsn) ([]:List GCmd) ([]:List GCmd))).heap)=r1.1.heap)),()):Bool × Unit)=(true,()))/\True/\True/\True/\True/\TF) VC_FnRunNewFree_3)))))))))))))
def VC_FnRunNewFree (code:List UInt8) (k:Nat):Prop:=True/\True/\True/\(VC_FnRunNewFree_7 code)
theorem vcn_FnRunNewFree (code:List UInt8) (k:Nat) (hp:code.length<=281474976710656):VC_FnRunNewFree code k:=by
 unfold VC_FnRunNewFree VC_FnRunNewFree_7 VC_FnRunNewFree_6 VC_FnRunNewFree_5 VC_FnRunNewFree_4 VC_FnRunNewFree_3 VC_FnRunNewFree_2 VC_FnRunNewFree_1
 simp only [cln,Nat.reduceEqDiff,Nat.reduceLeDiff,Nat.reduceAdd,bne_self_eq_false,beq_self_eq_true,decide_true,eq_self,Bool.not_true,Bool.not_false,vcIf_true,vcIf_false,Bool.false_and,Bool.true_and,Bool.or_false,Bool.or_true,GCmd.eta]
 all_goals (try simp only [vcIf_iff,decide_eq_true_eq,decide_eq_false_iff_not,bne_iff_ne,ne_eq,beq_iff_eq,beq_eq_false_iff_ne,bne_eq_false_iff_eq,Bool.not_eq_true',Bool.not_eq_false',Int.ofNat_lt,Int.natCast_inj])
 all_goals (repeat' (first | apply And.intro | intro _))
 all_goals (repeat (cases ‹_/\_›))
 all_goals (first | omega | with_reducible assumption | with_reducible rfl | with_reducible exact True.intro | skip)
 all_goals (first
  | exact Nat.le_trans (rb_len _ _).1 (by decide) | exact Nat.le_trans (rb_len _ _).2 (by decide)
  | exact small_bdC (by omega) | exact BdC_zc _ _ _
  | with_reducible exact (self_set ‹_› ‹_›).2 | (exfalso;exact ‹¬ rbK _ (GCmd.mk 1 _ _ _ _ _ _)=0› (self_set ‹_› ‹_›).1)
  | (exfalso;exact ‹¬ rbS (rbS _ _) _=_› (self_store ‹_› ‹_› ‹_›).2) | (exfalso;exact ‹¬ rbK (rbS _ _) _=0› (self_store ‹_› ‹_› ‹_›).1)
  | with_reducible exact (new_free ‹_› ‹_›).2 | exact absurd (new_free ‹_› ‹_›).1 ‹_›
  | skip)
theorem ok_FnRunNewFree:FnOk Try.prog E 10 c_FnRunNewFree :=
 fn_okQ (l:=L_FnRunNewFree) (lp:=P_FnRunNewFree) (hp:=fun _=>false) (gcs:=fun _=>none) (perm:=fun _=>[]) tabOk mix ⟨ok_slInts,ok_DrawRunBasic,ok_iRunBasic,ok_sRunBasic,ok_StateSame,trivial⟩ trivial Try.func10 rfl (by kernel_rfl) (by decide) (by kernel_rfl) (anns:=fun x _=>fun _ _=>none) (fun ⟨code,_⟩ k hp _=>Eq.mp (by kernel_rfl) (vcn_FnRunNewFree code k hp)) tot_fn
end Go.Proofs.Ytkafaeeianofnaa
