/-
  Contracts of single functions of the program, each shown by the engine: what a call returns for arguments within the contract's bounds.
-/
import Derived.Test.YtopjgjelkpkmmaaFFnMissingAlla
import Derived.Test.YtopjgjelkpkmmaaFFnMissingAllb
import Derived.Test.YtopjgjelkpkmmaaFFnMissingAlld
import Derived.Test.YtopjgjelkpkmmaaEd
import Derived.Test.YtopjgjelkpkmmaaEe
import Derived.Test.YtopjgjelkpkmmaaEf
import Derived.Test.YtopjgjelkpkmmaaEc
set_option linter.unusedSimpArgs false
set_option linter.unusedVariables false
set_option linter.unusedSectionVars false

namespace Go.Proofs.Ytopjgjelkpkmmaa
open Go.SE Go.RowKit
set_option linter.unusedSimpArgs false
set_option linter.unusedVariables false
set_option maxHeartbeats 1000000
set_option maxRecDepth 100000
abbrev c_iMissingOf:Con:=⟨[.asn,.asn],[.asn,.asn,.bool],fun (a,b,_)=>a.facts.length<=281474976710656/\a.atoms.length<=281474976710656/\b.facts.length<=281474976710656/\b.atoms.length<=281474976710656,.inl fun (a,b,_)=>(miL a b,miF a b,miB a b,()),fun _=>0⟩
abbrev L_iMissingOf:List (FuncId × Con):=[(37,c_iAssertionValid)]
abbrev P_iMissingOf:List (FuncId × PT):=[(81,ptLMW 88 cw_miAcc)]
def perm_iMissingOf:Nat->List (List Nat)
 | 5=>[[0,1,2,3,4,5,6,7],[0,1,2,4,3,5,6,7],[0,1,4,2,3,5,6,7],[0,2,1,3,4,5,6,7],[0,2,1,4,3,5,6,7],[0,2,3,1,4,5,6,7],[0,2,3,4,1,5,6,7],[0,2,4,1,3,5,6,7],[0,2,4,3,1,5,6,7],[0,4,1,2,3,5,6,7],[0,4,2,1,3,5,6,7],[0,4,2,3,1,5,6,7],[2,0,1,3,4,5,6,7],[2,0,1,4,3,5,6,7],[2,0,3,1,4,5,6,7],[2,0,3,4,1,5,6,7],[2,0,4,1,3,5,6,7],[2,0,4,3,1,5,6,7],[2,3,0,1,4,5,6,7],[2,3,0,4,1,5,6,7],[2,3,4,0,1,5,6,7],[2,4,0,1,3,5,6,7],[2,4,0,3,1,5,6,7],[2,4,3,0,1,5,6,7],[4,0,1,2,3,5,6,7],[4,0,2,1,3,5,6,7],[4,0,2,3,1,5,6,7],[4,2,0,1,3,5,6,7],[4,2,0,3,1,5,6,7],[4,2,3,0,1,5,6,7],[0,1,2,3,5,4,6,7],[0,1,2,4,5,3,6,7],[0,1,4,2,5,3,6,7],[0,2,1,3,5,4,6,7],[0,2,1,4,5,3,6,7],[0,2,3,1,5,4,6,7],[0,2,4,1,5,3,6,7],[0,4,1,2,5,3,6,7],[0,4,2,1,5,3,6,7],[2,0,1,3,5,4,6,7],[2,0,1,4,5,3,6,7],[2,0,3,1,5,4,6,7],[2,0,4,1,5,3,6,7],[2,3,0,1,5,4,6,7],[2,4,0,1,5,3,6,7],[4,0,1,2,5,3,6,7],[4,0,2,1,5,3,6,7],[4,2,0,1,5,3,6,7],[0,1,2,3,5,6,4,7],[0,2,1,3,5,6,4,7],[0,2,3,1,5,6,4,7],[2,0,1,3,5,6,4,7],[2,0,3,1,5,6,4,7],[2,3,0,1,5,6,4,7],[0,1,2,5,3,4,6,7],[0,1,2,5,4,3,6,7],[0,1,4,5,2,3,6,7],[0,2,1,5,3,4,6,7],[0,2,1,5,4,3,6,7],[0,4,1,5,2,3,6,7],[2,0,1,5,3,4,6,7],[2,0,1,5,4,3,6,7],[4,0,1,5,2,3,6,7],[0,1,2,5,3,6,4,7],[0,2,1,5,3,6,4,7],[2,0,1,5,3,6,4,7],[0,1,5,2,3,4,6,7],[0,1,5,2,4,3,6,7],[0,1,5,4,2,3,6,7],[0,1,5,2,3,6,4,7]]
 | _=>[]
def hp_iMissingOf:Nat->Bool
 | 4=>true
 | _=>false
def VC_iMissingOf_1 (a:GAsn) (b:GAsn):Prop:=(((⟨([]:List GFact),([]:List GAtom)⟩:GAsn),(⟨([]:List GFact),([]:List GAtom)⟩:GAsn),false,()):GAsn × GAsn × Bool × Unit)=(miL a b,miF a b,miB a b,())
def VC_iMissingOf_2 :Prop:=((TF/\TF)/\(TF/\TF)/\(TF/\TF)/\(TF/\TF)/\True)/\True/\(True/\True/\True/\True/\True)/\TF
def VC_iMissingOf_3 (a:GAsn) (b:GAsn):Prop:=(TN/\TN/\True)/\(TN/\TN/\True)/\(TF/\TF)/\(TF/\TF)/\True/\(VC_iMissingOf_1 a b)/\((((288:Nat) ≠ 289)/\((288:Nat) ≠ 304)/\((288:Nat) ≠ 305)/\True)/\(((289:Nat) ≠ 304)/\((289:Nat) ≠ 305)/\True)/\(((304:Nat) ≠ 305)/\True)/\True/\True)/\VC_iMissingOf_2
def VC_iMissingOf_4 (a:GAsn) (b:GAsn):Prop:=True/\(VC_iMissingOf_1 a b)/\((((112:Nat) ≠ 113)/\((112:Nat) ≠ 114)/\((112:Nat) ≠ 115)/\True)/\(((113:Nat) ≠ 114)/\((113:Nat) ≠ 115)/\True)/\(((114:Nat) ≠ 115)/\True)/\True/\True)/\VC_iMissingOf_2
def VC_iMissingOf_5 (a:GAsn) (b:GAsn):Prop:=(TF/\TF)/\(VC_iMissingOf_4 a b)
def VC_iMissingOf_6 (a:GAsn) (b:GAsn):Prop:=True/\True/\True/\True/\True/\(TF/\TF)/\(VC_iMissingOf_5 a b)
def VC_iMissingOf_7 (a:GAsn) (b:GAsn):Prop:=True/\(VC_iMissingOf_5 a b)
def VC_iMissingOf_8 (a:GAsn) (b:GAsn):Prop:=True/\True/\True/\True/\(TF/\TF)/\(VC_iMissingOf_7 a b)
def VC_iMissingOf_9 (a:GAsn) (b:GAsn):Prop:=(TF/\TF)/\True/\(VC_iMissingOf_4 a b)
def VC_iMissingOf_10 (a:GAsn) (b:GAsn):Prop:=True/\True/\True/\True/\(TF/\TF)/\(VC_iMissingOf_9 a b)
def VC_iMissingOf_11 (a:GAsn) (b:GAsn):Prop:=True/\(VC_iMissingOf_7 a b)
def VC_iMissingOf_12 (a:GAsn) (b:GAsn):Prop:=True/\True/\True/\(TF/\TF)/\(VC_iMissingOf_11 a b)
def VC_iMissingOf_13 (a:GAsn) (b:GAsn):Prop:=True/\(VC_iMissingOf_9 a b)
def VC_iMissingOf_14 (a:GAsn) (b:GAsn):Prop:=True/\True/\True/\(TF/\TF)/\(VC_iMissingOf_13 a b)
def VC_iMissingOf_15 (a:GAsn) (b:GAsn):Prop:=True/\True/\(TF/\TF)/\True/\(VC_iMissingOf_11 a b)
def VC_iMissingOf_16 (a:GAsn) (b:GAsn):Prop:=True/\((((⟨[],pkA (lmI (fun m1=>mxB a b m1) ((b.atoms.length:Nat):Int)) b.atoms⟩:GAsn),(frmL (mxS a b (lmI (fun m1=>mxB a b m1) ((b.atoms.length:Nat):Int))) b),true,()):GAsn × GAsn × Bool × Unit)=(miL a b,miF a b,miB a b,()))/\((((27525120:Nat) ≠ 27525121)/\((27525120:Nat) ≠ 27525122)/\((27525120:Nat) ≠ 27525123)/\True)/\(((27525121:Nat) ≠ 27525122)/\((27525121:Nat) ≠ 27525123)/\True)/\(((27525122:Nat) ≠ 27525123)/\True)/\True/\True)/\VC_iMissingOf_2
def VC_iMissingOf_17 (a:GAsn) (b:GAsn):Prop:=(TF/\TF)/\(VC_iMissingOf_16 a b)
def VC_iMissingOf_18 (a:GAsn) (b:GAsn):Prop:=True/\True/\True/\True/\True/\(TF/\TF)/\(VC_iMissingOf_17 a b)
def VC_iMissingOf_19 (a:GAsn) (b:GAsn):Prop:=True/\(VC_iMissingOf_17 a b)
def VC_iMissingOf_20 (a:GAsn) (b:GAsn):Prop:=True/\True/\True/\True/\(TF/\TF)/\(VC_iMissingOf_19 a b)
def VC_iMissingOf_21 (a:GAsn) (b:GAsn):Prop:=(TF/\TF)/\True/\(VC_iMissingOf_16 a b)
def VC_iMissingOf_22 (a:GAsn) (b:GAsn):Prop:=True/\True/\True/\True/\(TF/\TF)/\(VC_iMissingOf_21 a b)
def VC_iMissingOf_23 (a:GAsn) (b:GAsn):Prop:=True/\(VC_iMissingOf_19 a b)
def VC_iMissingOf_24 (a:GAsn) (b:GAsn):Prop:=True/\True/\True/\(TF/\TF)/\(VC_iMissingOf_23 a b)
def VC_iMissingOf_25 (a:GAsn) (b:GAsn):Prop:=True/\(VC_iMissingOf_21 a b)
def VC_iMissingOf_26 (a:GAsn) (b:GAsn):Prop:=True/\True/\True/\(TF/\TF)/\(VC_iMissingOf_25 a b)
def VC_iMissingOf_27 (a:GAsn) (b:GAsn):Prop:=True/\True/\(TF/\TF)/\True/\(VC_iMissingOf_23 a b)
def VC_iMissingOf_28 (a:GAsn) (b:GAsn):Prop:=(((lmB (fun m1=>mxB a b m1) ((b.atoms.length:Nat):Int)=false)->True/\True/\True/\True/\True/\(VC_iMissingOf_6 a b)/\(VC_iMissingOf_6 a b)/\(VC_iMissingOf_6 a b)/\(VC_iMissingOf_6 a b)/\(VC_iMissingOf_6 a b)/\(VC_iMissingOf_6 a b)/\(VC_iMissingOf_6 a b)/\(VC_iMissingOf_6 a b)/\(VC_iMissingOf_6 a b)/\(VC_iMissingOf_6 a b)/\(VC_iMissingOf_6 a b)/\(VC_iMissingOf_6 a b)/\(VC_iMissingOf_6 a b)/\(VC_iMissingOf_6 a b)/\(VC_iMissingOf_6 a b)/\(VC_iMissingOf_6 a b)/\(VC_iMissingOf_6 a b)/\(VC_iMissingOf_6 a b)/\(VC_iMissingOf_6 a b)/\(VC_iMissingOf_6 a b)/\(VC_iMissingOf_6 a b)/\(VC_iMissingOf_6 a b)/\(VC_iMissingOf_6 a b)/\(VC_iMissingOf_6 a b)/\(VC_iMissingOf_6 a b)/\(VC_iMissingOf_6 a b)/\(VC_iMissingOf_6 a b)/\(VC_iMissingOf_6 a b)/\(VC_iMissingOf_6 a b)/\(VC_iMissingOf_6 a b)/\(VC_iMissingOf_8 a b)/\(VC_iMissingOf_8 a b)/\(VC_iMissingOf_8 a b)/\(VC_iMissingOf_8 a b)/\(VC_iMissingOf_8 a b)/\(VC_iMissingOf_8 a b)/\(VC_iMissingOf_8 a b)/\(VC_iMissingOf_8 a b)/\(VC_iMissingOf_8 a b)/\(VC_iMissingOf_8 a b)/\(VC_iMissingOf_8 a b)/\(VC_iMissingOf_8 a b)/\(VC_iMissingOf_8 a b)/\(VC_iMissingOf_8 a b)/\(VC_iMissingOf_8 a b)/\(VC_iMissingOf_8 a b)/\(VC_iMissingOf_8 a b)/\(VC_iMissingOf_8 a b)/\(VC_iMissingOf_10 a b)/\(VC_iMissingOf_10 a b)/\(VC_iMissingOf_10 a b)/\(VC_iMissingOf_10 a b)/\(VC_iMissingOf_10 a b)/\(VC_iMissingOf_10 a b)/\(VC_iMissingOf_12 a b)/\(VC_iMissingOf_12 a b)/\(VC_iMissingOf_12 a b)/\(VC_iMissingOf_12 a b)/\(VC_iMissingOf_12 a b)/\(VC_iMissingOf_12 a b)/\(VC_iMissingOf_12 a b)/\(VC_iMissingOf_12 a b)/\(VC_iMissingOf_12 a b)/\(VC_iMissingOf_14 a b)/\(VC_iMissingOf_14 a b)/\(VC_iMissingOf_14 a b)/\(VC_iMissingOf_15 a b)/\(VC_iMissingOf_15 a b)/\(VC_iMissingOf_15 a b)/\(True/\True/\(TF/\TF)/\True/\(VC_iMissingOf_13 a b))/\True)/\((lmB (fun m1=>mxB a b m1) ((b.atoms.length:Nat):Int)=true)->True/\True/\True/\True/\True/\(VC_iMissingOf_18 a b)/\(VC_iMissingOf_18 a b)/\(VC_iMissingOf_18 a b)/\(VC_iMissingOf_18 a b)/\(VC_iMissingOf_18 a b)/\(VC_iMissingOf_18 a b)/\(VC_iMissingOf_18 a b)/\(VC_iMissingOf_18 a b)/\(VC_iMissingOf_18 a b)/\(VC_iMissingOf_18 a b)/\(VC_iMissingOf_18 a b)/\(VC_iMissingOf_18 a b)/\(VC_iMissingOf_18 a b)/\(VC_iMissingOf_18 a b)/\(VC_iMissingOf_18 a b)/\(VC_iMissingOf_18 a b)/\(VC_iMissingOf_18 a b)/\(VC_iMissingOf_18 a b)/\(VC_iMissingOf_18 a b)/\(VC_iMissingOf_18 a b)/\(VC_iMissingOf_18 a b)/\(VC_iMissingOf_18 a b)/\(VC_iMissingOf_18 a b)/\(VC_iMissingOf_18 a b)/\(VC_iMissingOf_18 a b)/\(VC_iMissingOf_18 a b)/\(VC_iMissingOf_18 a b)/\(VC_iMissingOf_18 a b)/\(VC_iMissingOf_18 a b)/\(VC_iMissingOf_18 a b)/\(VC_iMissingOf_20 a b)/\(VC_iMissingOf_20 a b)/\(VC_iMissingOf_20 a b)/\(VC_iMissingOf_20 a b)/\(VC_iMissingOf_20 a b)/\(VC_iMissingOf_20 a b)/\(VC_iMissingOf_20 a b)/\(VC_iMissingOf_20 a b)/\(VC_iMissingOf_20 a b)/\(VC_iMissingOf_20 a b)/\(VC_iMissingOf_20 a b)/\(VC_iMissingOf_20 a b)/\(VC_iMissingOf_20 a b)/\(VC_iMissingOf_20 a b)/\(VC_iMissingOf_20 a b)/\(VC_iMissingOf_20 a b)/\(VC_iMissingOf_20 a b)/\(VC_iMissingOf_20 a b)/\(VC_iMissingOf_22 a b)/\(VC_iMissingOf_22 a b)/\(VC_iMissingOf_22 a b)/\(VC_iMissingOf_22 a b)/\(VC_iMissingOf_22 a b)/\(VC_iMissingOf_22 a b)/\(VC_iMissingOf_24 a b)/\(VC_iMissingOf_24 a b)/\(VC_iMissingOf_24 a b)/\(VC_iMissingOf_24 a b)/\(VC_iMissingOf_24 a b)/\(VC_iMissingOf_24 a b)/\(VC_iMissingOf_24 a b)/\(VC_iMissingOf_24 a b)/\(VC_iMissingOf_24 a b)/\(VC_iMissingOf_26 a b)/\(VC_iMissingOf_26 a b)/\(VC_iMissingOf_26 a b)/\(VC_iMissingOf_27 a b)/\(VC_iMissingOf_27 a b)/\(VC_iMissingOf_27 a b)/\(True/\True/\(TF/\TF)/\True/\(VC_iMissingOf_25 a b))/\True))
def VC_iMissingOf (a:GAsn) (b:GAsn) (k:Nat):Prop:=TN/\TN/\(TN/\TN/\TN/\True)/\(TN/\TN/\TN/\True)/\True/\True/\((a.facts.length<=281474976710656/\a.atoms.length<=281474976710656)/\True/\True)/\True/\True/\(vcIf (!(asV a)) (True/\(VC_iMissingOf_3 a b)) (True/\((b.facts.length<=281474976710656/\b.atoms.length<=281474976710656)/\True/\True)/\True/\True/\(vcIf (!(asV b)) (VC_iMissingOf_3 a b) ((TN/\TN/\TN/\TN/\TN/\True)/\True/\True/\True/\True/\((88:Nat)=88)/\((47:Nat) ≠ 127)/\((63:Nat) ≠ 127)/\((none:Option Nat)=none)/\(0<=((b.atoms.length:Nat):Int)/\((b.atoms.length:Nat):Int)<=62)/\TF/\TF/\(TN/\TN/\TN/\TN/\True)/\(∀ m1:Int,(0:Int)<=m1->m1 < (2:Int) ^ (((b.atoms.length:Nat):Int)).toNat->asV a=true/\asV b=true/\0<=m1/\m1 < pkTop b)/\(VC_iMissingOf_28 a b)))))
theorem vcn_iMissingOf (a:GAsn) (b:GAsn) (k:Nat) (hp:a.facts.length<=281474976710656/\a.atoms.length<=281474976710656/\b.facts.length<=281474976710656/\b.atoms.length<=281474976710656):VC_iMissingOf a b k:=by
 simp only [VC_iMissingOf,VC_iMissingOf_28,VC_iMissingOf_27,VC_iMissingOf_26,VC_iMissingOf_25,VC_iMissingOf_24,VC_iMissingOf_23,VC_iMissingOf_22,VC_iMissingOf_21,VC_iMissingOf_20,VC_iMissingOf_19,VC_iMissingOf_18,VC_iMissingOf_17,VC_iMissingOf_16,VC_iMissingOf_15,VC_iMissingOf_14,VC_iMissingOf_13,VC_iMissingOf_12,VC_iMissingOf_11,VC_iMissingOf_10,VC_iMissingOf_9,VC_iMissingOf_8,VC_iMissingOf_7,VC_iMissingOf_6,VC_iMissingOf_5,VC_iMissingOf_4,VC_iMissingOf_3,VC_iMissingOf_2,VC_iMissingOf_1,and_self,and_self_left]
 simp only [cln,Nat.reduceEqDiff,Nat.reduceLeDiff,Nat.reduceAdd]
 all_goals (try simp only [opn])
 all_goals (repeat' (first | apply And.intro | intro _))
 all_goals (repeat (cases ‹_/\_›))
 all_goals (first | with_reducible exact True.intro | (exfalso;contradiction) | omega | with_reducible assumption | with_reducible rfl | skip)
 all_goals (first
  | with_reducible exact (mi_n1 ‹_›).1 | with_reducible exact (mi_n1 ‹_›).2.1 | with_reducible exact (mi_n1 ‹_›).2.2 | with_reducible exact (mi_n2 ‹_›).1 | with_reducible exact (mi_n2 ‹_›).2.1 | with_reducible exact (mi_n2 ‹_›).2.2
  | with_reducible exact (mi_lf ‹_›).1 | with_reducible exact (mi_lf ‹_›).2.1 | with_reducible exact (mi_lf ‹_›).2.2
  | with_reducible exact (mi_lt ‹_› ‹_› ‹_›).1 | with_reducible exact (mi_lt ‹_› ‹_› ‹_›).2.1 | with_reducible exact (mi_lt ‹_› ‹_› ‹_›).2.2.1 | with_reducible exact (mi_lt ‹_› ‹_› ‹_›).2.2.2
  | with_reducible exact mi_pre ‹_› ‹_› | exact mi_pre ‹_› ‹_›
  | (have h9:=fo_len6 ‹asV b=true›;omega)
  | skip)
theorem ok_iMissingOf:FnOk Try.prog E 42 c_iMissingOf :=
 fn_okQ (l:=L_iMissingOf) (lp:=P_iMissingOf) (hp:=hp_iMissingOf) (gcs:=fun _=>none) (perm:=perm_iMissingOf) tabOk mix ⟨ok_iAssertionValid,trivial⟩ ⟨(ptok_lmW (c:=cw_miAcc) ptok_miAcc),trivial⟩ Try.func42 rfl (by kernel_rfl) (by decide) (by kernel_rfl) (anns:=fun x _=>fun _ _=>none) (fun ⟨a,b,_⟩ k hp _=>Eq.mp (by kernel_rfl) (vcn_iMissingOf a b k hp)) tot_fn
abbrev c_l1Is:Con:=⟨[.int],[.bool],fun _=>True,.inl fun (t,_)=>(isT t,()),fun _=>0⟩
abbrev L_l1Is:List (FuncId × Con):=[]
abbrev P_l1Is:List (FuncId × PT):=[]
def VC_l1Is (t:Int) (k:Nat):Prop:=True/\True/\True/\True/\(vcIf (decide ((0:Int)<=t)) (True/\True/\True/\True/\(((decide (t<=(8:Int)),()):Bool × Unit)=(isT t,()))/\True/\True/\True/\True/\TF) (True/\True/\(((false,()):Bool × Unit)=(isT t,()))/\True/\True/\True/\True/\TF))
theorem vcn_l1Is (t:Int) (k:Nat):VC_l1Is t k:=by
 unfold VC_l1Is
 simp only [cln,Nat.reduceEqDiff,Nat.reduceLeDiff,Nat.reduceAdd]
 cases h:decide (0<=t) <;> simp [vcIf,isT,h]
theorem ok_l1Is:FnOk Try.prog E 151 c_l1Is :=
 fn_okQ (l:=L_l1Is) (lp:=P_l1Is) (hp:=fun _=>false) (gcs:=fun _=>none) (perm:=fun _=>[]) tabOk mix trivial trivial Try.func151 rfl (by kernel_rfl) (by decide) (by kernel_rfl) (anns:=fun x _=>fun _ _=>none) (fun ⟨t,_⟩ k _ _=>Eq.mp (by kernel_rfl) (vcn_l1Is t k)) tot_fn
abbrev c_l3Atom:Con:=⟨[.atom],[.bool],fun _=>True,.inl fun (x,_)=>(atV x,()),fun _=>0⟩
abbrev L_l3Atom:List (FuncId × Con):=[(151,c_l1Is)]
abbrev P_l3Atom:List (FuncId × PT):=[]
def VC_l3Atom_1 (x:GAtom):Prop:=True/\True/\(((false,()):Bool × Unit)=(atV x,()))/\True/\True/\True/\True/\TF
def VC_l3Atom_2 (x:GAtom):Prop:=True/\True/\(True/\True/\True)/\True/\True/\(vcIf (isT x.a) (True/\True/\(True/\True/\True)/\True/\True/\((((isT x.b),()):Bool × Unit)=(atV x,()))/\True/\True/\True/\True/\TF) (VC_l3Atom_1 x))
def VC_l3Atom (x:GAtom) (k:Nat):Prop:=TN/\True/\True/\True/\True/\True/\(vcIf (x.kind == (1:Int)) (True/\True/\(VC_l3Atom_2 x)) (True/\True/\True/\True/\True/\(vcIf (x.kind == (2:Int)) (VC_l3Atom_2 x) (True/\True/\(VC_l3Atom_1 x)))))
theorem vcn_l3Atom (x:GAtom) (k:Nat):VC_l3Atom x k:=by
 unfold VC_l3Atom VC_l3Atom_2 VC_l3Atom_1
 simp only [cln,Nat.reduceEqDiff,Nat.reduceLeDiff,Nat.reduceAdd]
 all_goals (try simp only [opn])
 all_goals (repeat' (first | apply And.intro | intro _))
 all_goals (first | omega | (simp_all;done) | grind [atV])
theorem ok_l3Atom:FnOk Try.prog E 122 c_l3Atom :=
 fn_okQ (l:=L_l3Atom) (lp:=P_l3Atom) (hp:=fun _=>false) (gcs:=fun _=>none) (perm:=fun _=>[]) tabOk mix ⟨ok_l1Is,trivial⟩ trivial Try.func122 rfl (by kernel_rfl) (by decide) (by kernel_rfl) (anns:=fun x _=>fun _ _=>none) (fun ⟨x,_⟩ k _ _=>Eq.mp (by kernel_rfl) (vcn_l3Atom x k)) tot_fn
abbrev c_sFactValid:Con:=⟨[.fact],[.bool],fun _=>True,.inl fun (f,_)=>(fV f,()),fun _=>0⟩
abbrev L_sFactValid:List (FuncId × Con):=[(151,c_l1Is)]
abbrev P_sFactValid:List (FuncId × PT):=[]
def VC_sFactValid (f:GFact) (k:Nat):Prop:=TN/\True/\True/\True/\(True/\True/\True)/\True/\(vcIf (isT f.a) (True/\True/\(True/\True/\True)/\True/\True/\((((isT f.b),()):Bool × Unit)=(fV f,()))/\True/\True/\True/\True/\TF) (True/\True/\(((false,()):Bool × Unit)=(fV f,()))/\True/\True/\True/\True/\TF))
theorem vcn_sFactValid (f:GFact) (k:Nat):VC_sFactValid f k:=by
 unfold VC_sFactValid
 simp only [cln,Nat.reduceEqDiff,Nat.reduceLeDiff,Nat.reduceAdd]
 cases h:isT f.a <;> simp [vcIf,fV,h]
theorem ok_sFactValid:FnOk Try.prog E 152 c_sFactValid :=
 fn_okQ (l:=L_sFactValid) (lp:=P_sFactValid) (hp:=fun _=>false) (gcs:=fun _=>none) (perm:=fun _=>[]) tabOk mix ⟨ok_l1Is,trivial⟩ trivial Try.func152 rfl (by kernel_rfl) (by decide) (by kernel_rfl) (anns:=fun x _=>fun _ _=>none) (fun ⟨f,_⟩ k _ _=>Eq.mp (by kernel_rfl) (vcn_sFactValid f k)) tot_fn
abbrev c_sFactsValid:Con:=⟨[.sl .fact],[.bool],fun (l,_)=>l.length<=281474976710656,.inl fun (l,_)=>(fsV l,()),fun _=>0⟩
abbrev L_sFactsValid:List (FuncId × Con):=[(152,c_sFactValid)]
abbrev P_sFactsValid:List (FuncId × PT):=[]
def an_sFactsValid (l:List GFact):Nat->St->Option Ann
 | 2,se=>some { α:=Nat,ok:=fun i=>i<=l.length/\(l.take i).all fV=true,mu:=fun i=>l.length - i,i0:=fun _=>0,nx:=fun a _=>(fun i=>i+1) a,live:=[0],sets:=fun i=>[(3,sv (.int .i64 i))],mids:=[],blks:=fun i=>[],owns:=fun i=>[],rd:=fun r _=>r,base:=100000 }
 | _,_=>none
def VC_sFactsValid (l:List GFact) (k:Nat):Prop:=True/\True/\((0<=l.length/\(l.take 0).all fV=true)/\TT/\(RL [.s (.c (.d (.arr .fact l)))])/\(([.s (.c (.d (.val (.int .i64 (0:Int)))))]:List S)=[.s (.c (.d (.val (.int .i64 ((0:Nat):Int)))))])/\(RM [])/\(RM [])/\True/\TT)/\(∀ i1:Nat,(i1<=l.length/\(l.take i1).all fV=true)->True/\True/\True/\True/\(vcIf (decide (((i1:Nat):Int) < ((l.length:Nat):Int))) (True/\True/\(0<=((i1:Nat):Int)/\((i1:Nat):Int) < ((l.length:Nat):Int))/\True/\(True/\True/\True)/\True/\(vcIf (!(fV (l.getD i1 (⟨false,0,0⟩:GFact)))) (True/\(((false,()):Bool × Unit)=(fsV l,()))/\True/\True/\True/\True/\TF) (True/\(inK .i64 (((i1:Nat):Int)+(1:Int)))/\True/\((i1+1)<=l.length/\(l.take (i1+1)).all fV=true)/\(l.length - (i1+1) < l.length - i1)/\TT/\(RL [.s (.c (.d (.arr .fact l)))])/\(([.s (.c (.d (.val (.int .i64 (((i1:Nat):Int)+(1:Int))))))]:List S)=[.s (.c (.d (.val (.int .i64 (((i1+1):Nat):Int)))))])/\(RM [])/\(RM [])/\True/\TT))) (True/\True/\True/\True/\(((decide (((l.length:Nat):Int)<=(12:Int)),()):Bool × Unit)=(fsV l,()))/\True/\True/\True/\True/\TF)))
theorem vcn_sFactsValid (l:List GFact) (k:Nat) (hp:l.length<=281474976710656):VC_sFactsValid l k:=by
 unfold VC_sFactsValid
 simp only [cln,Nat.reduceEqDiff,Nat.reduceLeDiff,Nat.reduceAdd]
 all_goals (try simp only [opn])
 all_goals (repeat' (first | apply And.intro | intro _))
 all_goals (first | omega | (simp_all;done) | grind [fsV,take_all,all_take,take_full,Ty.zero])
theorem ok_sFactsValid:FnOk Try.prog E 123 c_sFactsValid :=
 fn_okQ (l:=L_sFactsValid) (lp:=P_sFactsValid) (hp:=fun _=>false) (gcs:=fun _=>none) (perm:=fun _=>[]) tabOk mix ⟨ok_sFactValid,trivial⟩ trivial Try.func123 rfl (by kernel_rfl) (by decide) (by kernel_rfl) (anns:=fun x _=>an_sFactsValid x.1) (fun ⟨l,_⟩ k hp _=>Eq.mp (by kernel_rfl) (vcn_sFactsValid l k hp)) tot_fn
abbrev c_sAssertionValid:Con:=⟨[.asn],[.bool],fun (a,_)=>a.facts.length<=281474976710656/\a.atoms.length<=281474976710656,.inl fun (a,_)=>(asV a,()),fun _=>0⟩
abbrev L_sAssertionValid:List (FuncId × Con):=[(122,c_l3Atom),(123,c_sFactsValid)]
abbrev P_sAssertionValid:List (FuncId × PT):=[]
def an_sAssertionValid (a:GAsn):Nat->St->Option Ann
 | 2,se=>some { α:=Nat,ok:=fun i=>i<=a.atoms.length/\(a.atoms.take i).all atV=true,mu:=fun i=>a.atoms.length - i,i0:=fun _=>0,nx:=fun a _=>(fun i=>i+1) a,live:=[1],sets:=fun i=>[(3,sv (.int .i64 i))],mids:=[31],blks:=fun i=>[],owns:=fun i=>[],rd:=fun r _=>r,base:=100000 }
 | _,_=>none
def VC_sAssertionValid_1 (a:GAsn):Prop:=(RM [some (.blk [.d (.arr .fact a.facts),.d (.arr .atom a.atoms)])])/\(RM [])/\True/\TT
def VC_sAssertionValid_2 (a:GAsn):Prop:=True/\(((false,()):Bool × Unit)=(asV a,()))/\True/\True/\True/\True/\TF
def VC_sAssertionValid (a:GAsn) (k:Nat):Prop:=TN/\True/\True/\((0<=a.atoms.length/\(a.atoms.take 0).all atV=true)/\TT/\(RL [.s (.c (.ptr 31 0))])/\(([.s (.c (.d (.val (.int .i64 (0:Int)))))]:List S)=[.s (.c (.d (.val (.int .i64 ((0:Nat):Int)))))])/\(VC_sAssertionValid_1 a))/\(∀ i1:Nat,(i1<=a.atoms.length/\(a.atoms.take i1).all atV=true)->True/\True/\True/\True/\True/\(vcIf (decide (((i1:Nat):Int) < ((a.atoms.length:Nat):Int))) (True/\True/\True/\(0<=((i1:Nat):Int)/\((i1:Nat):Int) < ((a.atoms.length:Nat):Int))/\True/\(True/\True/\True)/\True/\(vcIf (!(atV (a.atoms.getD i1 (⟨0,0,0⟩:GAtom)))) (VC_sAssertionValid_2 a) (True/\(inK .i64 (((i1:Nat):Int)+(1:Int)))/\True/\((i1+1)<=a.atoms.length/\(a.atoms.take (i1+1)).all atV=true)/\(a.atoms.length - (i1+1) < a.atoms.length - i1)/\TT/\(RL [.s (.c (.ptr 31 0))])/\(([.s (.c (.d (.val (.int .i64 (((i1:Nat):Int)+(1:Int))))))]:List S)=[.s (.c (.d (.val (.int .i64 (((i1+1):Nat):Int)))))])/\(VC_sAssertionValid_1 a)))) (True/\True/\((a.facts.length<=281474976710656)/\True/\True)/\True/\(vcIf (fsV a.facts) (True/\True/\True/\True/\True/\True/\(((decide (((a.atoms.length:Nat):Int)<=(6:Int)),()):Bool × Unit)=(asV a,()))/\True/\True/\True/\True/\TF) (True/\(VC_sAssertionValid_2 a))))))
theorem vcn_sAssertionValid (a:GAsn) (k:Nat) (hp:a.facts.length<=281474976710656/\a.atoms.length<=281474976710656):VC_sAssertionValid a k:=by
 unfold VC_sAssertionValid VC_sAssertionValid_2 VC_sAssertionValid_1
 simp only [cln,Nat.reduceEqDiff,Nat.reduceLeDiff,Nat.reduceAdd]
 all_goals (try simp only [opn])
 all_goals (repeat' (first | apply And.intro | intro _))
 all_goals (first | omega | (simp_all;done) | grind [asV,take_all,all_take,take_full,Ty.zero])
theorem ok_sAssertionValid:FnOk Try.prog E 74 c_sAssertionValid :=
 fn_okQ (l:=L_sAssertionValid) (lp:=P_sAssertionValid) (hp:=fun _=>false) (gcs:=fun _=>none) (perm:=fun _=>[]) tabOk mix ⟨ok_l3Atom,ok_sFactsValid,trivial⟩ trivial Try.func74 rfl (by kernel_rfl) (by decide) (by kernel_rfl) (anns:=fun x _=>an_sAssertionValid x.1) (fun ⟨a,_⟩ k hp _=>Eq.mp (by kernel_rfl) (vcn_sAssertionValid a k hp)) tot_fn
abbrev c_l5Open:Con:=⟨[],[.sl .int],fun _=>True,.inl fun _=>(opens,()),fun _=>0⟩
abbrev L_l5Open:List (FuncId × Con):=[]
abbrev P_l5Open:List (FuncId × PT):=[]
def an_l5Open :Nat->St->Option Ann
 | 2,se=>some { α:=Nat,ok:=fun i=>i<=8,mu:=fun i=>8 - i,i0:=fun _=>0,nx:=fun a _=>(fun i=>i+1) a,live:=[0],sets:=fun i=>[],mids:=[0],blks:=fun i=>[],owns:=fun i=>[⟨7,.slot 1,.int,0 :: List.replicate i (-1)⟩],rd:=fun r _=>r,base:=100000 }
 | _,_=>none
def VC_l5Open (k:Nat):Prop:=TN/\(TN/\True)/\True/\((0<=8)/\TT/\(RL [.s (.c (.own 0))])/\(RL [])/\(RM [some (.sl 0 .int ([]:List Int))])/\(RM [])/\(((some ([(0:Int)]:List Int):Option (List Int))=some (0 :: List.replicate 0 (-1)))/\True)/\TT)/\(∀ i1:Nat,(i1<=8)->True/\True/\True/\(vcIf (decide ((((0 :: List.replicate i1 (-1)).length:Nat):Int)<=(8:Int))) (True/\(TN/\True)/\(TN/\TF/\TF/\((0 :: List.replicate i1 (-1)).length+([(-1:Int)]:List Int).length<=4294967296))/\True/\((i1+1)<=8)/\(8 - (i1+1) < 8 - i1)/\TT/\(RL [.s (.c (.own 0))])/\(RL [])/\(RM [some (.sl 0 .int ([]:List Int))])/\(RM [])/\(((some ((0 :: List.replicate i1 (-1)) ++ ([(-1:Int)]:List Int)):Option (List Int))=some (0 :: List.replicate (i1+1) (-1)))/\True)/\TT) (True/\True/\(((0 :: List.replicate i1 (-1),()):(List Int) × Unit)=(opens,()))/\(True/\True)/\((TF/\TF)/\True)/\True/\(True/\True)/\TF)))
theorem vcn_l5Open  (k:Nat):VC_l5Open  k:=by
 unfold VC_l5Open
 simp only [cln,Nat.reduceEqDiff,Nat.reduceLeDiff,Nat.reduceAdd]
 all_goals (try simp only [opn])
 all_goals (repeat' (first | apply And.intro | intro _))
 all_goals (repeat (cases ‹_/\_›))
 all_goals (first | omega | rfl | assumption | (simp_all;done) | skip)
 all_goals (first
  | exact open_lt ‹_› | (have h1:=open_lt ‹_›;omega) | (rw [List.replicate_succ'];rfl) | exact open_end ‹_› ‹_› | skip)
theorem ok_l5Open:FnOk Try.prog E 129 c_l5Open :=
 fn_okQ (l:=L_l5Open) (lp:=P_l5Open) (hp:=fun _=>false) (gcs:=fun _=>none) (perm:=fun _=>[]) tabOk mix trivial trivial Try.func129 rfl (by kernel_rfl) (by decide) (by kernel_rfl) (anns:=fun x _=>an_l5Open ) (fun _ k _ _=>Eq.mp (by kernel_rfl) (vcn_l5Open  k)) tot_fn
abbrev c_l5Filled:Con:=⟨[.sl .atom,.sl .int],[.sl .atom],fun (l,c,_)=>l.length<=1048576/\l.all atV=true/\c.length=9,.inl fun (l,c,_)=>(fL c l,()),fun _=>0⟩
abbrev L_l5Filled:List (FuncId × Con):=[]
abbrev P_l5Filled:List (FuncId × PT):=[]
def an_l5Filled (l:List GAtom) (c:List Int):Nat->St->Option Ann
 | 3,se=>some { α:=Nat,ok:=fun i=>i<=l.length,mu:=fun i=>l.length - i,i0:=fun _=>0,nx:=fun a _=>(fun i=>i+1) a,live:=[0,1,4],sets:=fun i=>[(6,sv (.int .i64 i))],mids:=[64],blks:=fun i=>[],owns:=fun i=>[⟨7,.slot 5,.atom,fL c (l.take i)⟩],rd:=fun r _=>r,base:=100000 }
 | _,_=>none
def VC_l5Filled_1 (i1:Nat):Prop:=([.s (.c (.d (.val (.int .i64 (((i1:Nat):Int)+(1:Int))))))]:List S)=[.s (.c (.d (.val (.int .i64 (((i1+1):Nat):Int)))))]
def VC_l5Filled_2 (c:List Int) (l:List GAtom) (i1:Nat):Prop:=True/\True/\(TN/\True)/\(TN/\TF/\TF/\((fL c (l.take i1)).length+([(⟨(l.getD i1 (⟨0,0,0⟩:GAtom)).kind,(c.getD ((l.getD i1 (⟨0,0,0⟩:GAtom)).a).toNat (0:Int)),(c.getD ((l.getD i1 (⟨0,0,0⟩:GAtom)).b).toNat (0:Int))⟩:GAtom)]:List GAtom).length<=4294967296))/\True/\True/\(inK .i64 (((i1:Nat):Int)+(1:Int)))/\True/\((i1+1)<=l.length)/\(l.length - (i1+1) < l.length - i1)/\TT/\(RL [.s (.c (.d (.arr .atom l))),.s (.c (.d (.arr .int c))),.s (.c (.own 64))])/\(VC_l5Filled_1 i1)/\(RM [some (.sl 64 .atom ([]:List GAtom))])/\(RM [])/\(((some ((fL c (l.take i1)) ++ ([(⟨(l.getD i1 (⟨0,0,0⟩:GAtom)).kind,(c.getD ((l.getD i1 (⟨0,0,0⟩:GAtom)).a).toNat (0:Int)),(c.getD ((l.getD i1 (⟨0,0,0⟩:GAtom)).b).toNat (0:Int))⟩:GAtom)]:List GAtom)):Option (List GAtom))=some (fL c (l.take (i1+1))))/\True)/\TT
def VC_l5Filled (l:List GAtom) (c:List Int) (k:Nat):Prop:=TN/\(TN/\True)/\True/\True/\((0<=l.length)/\TT/\(RL [.s (.c (.d (.arr .atom l))),.s (.c (.d (.arr .int c))),.s (.c (.own 64))])/\(([.s (.c (.d (.val (.int .i64 (0:Int)))))]:List S)=[.s (.c (.d (.val (.int .i64 ((0:Nat):Int)))))])/\(RM [some (.sl 64 .atom ([]:List GAtom))])/\(RM [])/\(((some ([]:List GAtom):Option (List GAtom))=some (fL c (l.take 0)))/\True)/\TT)/\(∀ i1:Nat,(i1<=l.length)->True/\True/\True/\True/\(vcIf (decide (((i1:Nat):Int) < ((l.length:Nat):Int))) (True/\True/\(0<=((i1:Nat):Int)/\((i1:Nat):Int) < ((l.length:Nat):Int))/\True/\True/\True/\True/\True/\(0<=((i1:Nat):Int)/\((i1:Nat):Int) < ((l.length:Nat):Int))/\True/\True/\(0<=((l.getD i1 (⟨0,0,0⟩:GAtom)).a)/\((l.getD i1 (⟨0,0,0⟩:GAtom)).a) < ((c.length:Nat):Int))/\True/\True/\True/\True/\(0<=((i1:Nat):Int)/\((i1:Nat):Int) < ((l.length:Nat):Int))/\True/\True/\(0<=((l.getD i1 (⟨0,0,0⟩:GAtom)).b)/\((l.getD i1 (⟨0,0,0⟩:GAtom)).b) < ((c.length:Nat):Int))/\True/\True/\(TN/\True)/\(TF/\TF)/\True/\True/\True/\True/\(vcIf (((l.getD i1 (⟨0,0,0⟩:GAtom)).kind) == (1:Int)) (True/\(VC_l5Filled_2 c l i1)) (True/\True/\True/\True/\True/\True/\(vcIf ((c.getD ((l.getD i1 (⟨0,0,0⟩:GAtom)).a).toNat (0:Int)) != (c.getD ((l.getD i1 (⟨0,0,0⟩:GAtom)).b).toNat (0:Int))) (VC_l5Filled_2 c l i1) (True/\(inK .i64 (((i1:Nat):Int)+(1:Int)))/\True/\((i1+1)<=l.length)/\(l.length - (i1+1) < l.length - i1)/\TT/\(RL [.s (.c (.d (.arr .atom l))),.s (.c (.d (.arr .int c))),.s (.c (.own 64))])/\(VC_l5Filled_1 i1)/\(RM [some (.sl 64 .atom ([]:List GAtom))])/\(RM [])/\(((some (fL c (l.take i1)):Option (List GAtom))=some (fL c (l.take (i1+1))))/\True)/\TT))))) (True/\True/\(((fL c (l.take i1),()):(List GAtom) × Unit)=(fL c l,()))/\(True/\True)/\((TF/\TF)/\True)/\True/\(True/\True)/\TF)))
theorem vcn_l5Filled (l:List GAtom) (c:List Int) (k:Nat) (hp:l.length<=1048576/\l.all atV=true/\c.length=9):VC_l5Filled l c k:=by
 unfold VC_l5Filled VC_l5Filled_2 VC_l5Filled_1
 simp only [cln,Nat.reduceEqDiff,Nat.reduceLeDiff,Nat.reduceAdd]
 have hV:=hp.2.1
 have hL:∀ i,(fL c (l.take i)).length<=1048576:=fun i=>Nat.le_trans (fL_len _ _) (by simp;omega)
 all_goals (try simp only [opn])
 all_goals (repeat' (first | apply And.intro | intro _))
 all_goals (repeat (cases ‹_/\_›))
 all_goals (first | omega | rfl | assumption | (simp_all;done) | skip)
 all_goals (first
  | (have h1:=atom_idx (l:=l) hV ‹_›;omega)
  | exact Nat.le_trans (hL _) (by decide)
  | (rw [fL_step (d:=⟨0,0,0⟩) ‹_›];unfold filB cl;simp_all;done)
  | (rw [fL_step (d:=⟨0,0,0⟩) ‹_›];unfold filB cl;rw [beq_eq_false_iff_ne.2 (by assumption:¬ (_:GAtom).kind=1),beq_eq_false_iff_ne.2 ‹_›];rfl)
  | (rw [fL_step (d:=⟨0,0,0⟩) ‹_›];unfold filB cl;rw [beq_eq_false_iff_ne.2 (by assumption:¬ (_:GAtom).kind=1),beq_iff_eq.2 ‹_›];rfl)
  | (rw [take_full (l:=l) ‹_›];done) | skip)
theorem ok_l5Filled:FnOk Try.prog E 107 c_l5Filled :=
 fn_okQ (l:=L_l5Filled) (lp:=P_l5Filled) (hp:=fun _=>false) (gcs:=fun _=>none) (perm:=fun _=>[]) tabOk mix trivial trivial Try.func107 rfl (by kernel_rfl) (by decide) (by kernel_rfl) (anns:=fun x _=>an_l5Filled x.1 x.2.1) (fun ⟨l,c,_⟩ k hp _=>Eq.mp (by kernel_rfl) (vcn_l5Filled l c k hp)) tot_fn
abbrev c_l5Fits:Con:=⟨[.sl .fact,.sl .int],[.bool],fun (l,c,_)=>l.length<=1048576/\l.all fV=true/\c.length=9,.inl fun (l,c,_)=>(sFit l c,()),fun _=>0⟩
abbrev L_l5Fits:List (FuncId × Con):=[]
abbrev P_l5Fits:List (FuncId × PT):=[]
def an_l5Fits (l:List GFact) (c:List Int):Nat->St->Option Ann
 | 2,se=>some { α:=Nat,ok:=fun i=>i<=l.length/\sFit (l.take i) c=true,mu:=fun i=>l.length - i,i0:=fun _=>0,nx:=fun a _=>(fun i=>i+1) a,live:=[0,1],sets:=fun i=>[(5,sv (.int .i64 i))],mids:=[],blks:=fun i=>[],owns:=fun i=>[],rd:=fun r _=>r,base:=100000 }
 | _,_=>none
def VC_l5Fits_1 (i1:Nat) (l:List GFact) (c:List Int):Prop:=True/\(inK .i64 (((i1:Nat):Int)+(1:Int)))/\True/\((i1+1)<=l.length/\sFit (l.take (i1+1)) c=true)/\(l.length - (i1+1) < l.length - i1)/\TT/\(RL [.s (.c (.d (.arr .fact l))),.s (.c (.d (.arr .int c)))])/\(([.s (.c (.d (.val (.int .i64 (((i1:Nat):Int)+(1:Int))))))]:List S)=[.s (.c (.d (.val (.int .i64 (((i1+1):Nat):Int)))))])/\(RM [])/\(RM [])/\True/\TT
def VC_l5Fits_2 (i1:Nat) (l:List GFact) (c:List Int):Prop:=True/\(VC_l5Fits_1 i1 l c)
def VC_l5Fits (l:List GFact) (c:List Int) (k:Nat):Prop:=True/\True/\((0<=l.length/\sFit (l.take 0) c=true)/\TT/\(RL [.s (.c (.d (.arr .fact l))),.s (.c (.d (.arr .int c)))])/\(([.s (.c (.d (.val (.int .i64 (0:Int)))))]:List S)=[.s (.c (.d (.val (.int .i64 ((0:Nat):Int)))))])/\(RM [])/\(RM [])/\True/\TT)/\(∀ i1:Nat,(i1<=l.length/\sFit (l.take i1) c=true)->True/\True/\True/\True/\(vcIf (decide (((i1:Nat):Int) < ((l.length:Nat):Int))) (True/\True/\True/\(0<=((i1:Nat):Int)/\((i1:Nat):Int) < ((l.length:Nat):Int))/\True/\True/\(0<=((l.getD i1 (⟨false,0,0⟩:GFact)).a)/\((l.getD i1 (⟨false,0,0⟩:GFact)).a) < ((c.length:Nat):Int))/\True/\True/\True/\True/\True/\(0<=((i1:Nat):Int)/\((i1:Nat):Int) < ((l.length:Nat):Int))/\True/\True/\(0<=((l.getD i1 (⟨false,0,0⟩:GFact)).b)/\((l.getD i1 (⟨false,0,0⟩:GFact)).b) < ((c.length:Nat):Int))/\True/\True/\True/\True/\True/\(vcIf (decide ((0:Int)<=(c.getD ((l.getD i1 (⟨false,0,0⟩:GFact)).a).toNat (0:Int)))) (True/\True/\True/\True/\(vcIf (decide ((0:Int)<=(c.getD ((l.getD i1 (⟨false,0,0⟩:GFact)).b).toNat (0:Int)))) (True/\True/\True/\True/\True/\(0<=((i1:Nat):Int)/\((i1:Nat):Int) < ((l.length:Nat):Int))/\True/\True/\True/\True/\(vcIf (((c.getD ((l.getD i1 (⟨false,0,0⟩:GFact)).a).toNat (0:Int)) == (c.getD ((l.getD i1 (⟨false,0,0⟩:GFact)).b).toNat (0:Int))) != ((l.getD i1 (⟨false,0,0⟩:GFact)).eq)) (True/\(((false,()):Bool × Unit)=(sFit l c,()))/\True/\True/\True/\True/\TF) (VC_l5Fits_1 i1 l c))) (VC_l5Fits_2 i1 l c))) (True/\True/\(VC_l5Fits_2 i1 l c)))) (True/\(((true,()):Bool × Unit)=(sFit l c,()))/\True/\True/\True/\True/\TF)))
theorem vcn_l5Fits (l:List GFact) (c:List Int) (k:Nat) (hp:l.length<=1048576/\l.all fV=true/\c.length=9):VC_l5Fits l c k:=by
 unfold VC_l5Fits VC_l5Fits_2 VC_l5Fits_1
 simp only [cln,Nat.reduceEqDiff,Nat.reduceLeDiff,Nat.reduceAdd]
 have hV:=hp.2.1
 all_goals (try simp only [opn])
 all_goals (repeat' (first | apply And.intro | intro _))
 all_goals (repeat (cases ‹_/\_›))
 all_goals (first | omega | rfl | assumption | (simp_all;done) | skip)
 all_goals (first
  | (have h1:=fact_idx (l:=l) hV ‹_›;omega)
  | (symm;exact sFit_no ‹_› ‹_› ‹_› (by unfold fh cl;rw [beq_eq_false_iff_ne];assumption))
  | (rw [sFit_step (d:=⟨false,0,0⟩) ‹_›];unfold fh cl;simp_all;done)
  | (rw [take_full (l:=l) ‹_›] at *;simp_all;done) | skip)
theorem ok_l5Fits:FnOk Try.prog E 153 c_l5Fits :=
 fn_okQ (l:=L_l5Fits) (lp:=P_l5Fits) (hp:=fun _=>false) (gcs:=fun _=>none) (perm:=fun _=>[]) tabOk mix trivial trivial Try.func153 rfl (by kernel_rfl) (by decide) (by kernel_rfl) (anns:=fun x _=>an_l5Fits x.1 x.2.1) (fun ⟨l,c,_⟩ k hp _=>Eq.mp (by kernel_rfl) (vcn_l5Fits l c k hp)) tot_fn
abbrev c_l5Early:Con:=⟨[.sl .atom,.sl .int],[.bool],fun (l,c,_)=>l.length<=1048576/\l.all atV=true/\c.length=9/\le8 c=true,.inl fun (l,c,_)=>(sEarly l c,()),fun _=>0⟩
abbrev L_l5Early:List (FuncId × Con):=[]
abbrev P_l5Early:List (FuncId × PT):=[]
def an_l5Early (l:List GAtom) (c:List Int):Nat->St->Option Ann
 | 3,se=>some { α:=Nat,ok:=fun i=>i<=l.length/\okS [] (est c (l.take i))=true,mu:=fun i=>l.length - i,i0:=fun _=>0,nx:=fun a _=>(fun i=>i+1) a,live:=[0,1],sets:=fun i=>[(6,sv (.int .i64 i))],mids:=[],blks:=fun i=>[],owns:=fun i=>[⟨7,.slot 5,.bool,fl9 (fun t=>(est c (l.take i)).contains t)⟩],rd:=fun r _=>r,base:=100000 }
 | _,_=>none
def VC_l5Early_1 (i1:Nat):Prop:=([.s (.c (.d (.val (.int .i64 (((i1:Nat):Int)+(1:Int))))))]:List S)=[.s (.c (.d (.val (.int .i64 (((i1+1):Nat):Int)))))]
def VC_l5Early_2 (i1:Nat) (l:List GAtom) (c:List Int):Prop:=True/\(inK .i64 (((i1:Nat):Int)+(1:Int)))/\True/\((i1+1)<=l.length/\okS [] (est c (l.take (i1+1)))=true)/\(l.length - (i1+1) < l.length - i1)/\TT/\(RL [.s (.c (.d (.arr .atom l))),.s (.c (.d (.arr .int c)))])/\(VC_l5Early_1 i1)/\(RM [])/\(RM [])/\(((some (fl9 (fun t=>(est c (l.take i1)).contains t)):Option (List Bool))=some (fl9 (fun t=>(est c (l.take (i1+1))).contains t)))/\True)/\TT
def VC_l5Early_3 (l:List GAtom) (c:List Int):Prop:=True/\(((false,()):Bool × Unit)=(sEarly l c,()))/\True/\True/\True/\True/\TF
def VC_l5Early_4 (c:List Int) (l:List GAtom) (i1:Nat):Prop:=0<=(c.getD ((l.getD i1 (⟨0,0,0⟩:GAtom)).a).toNat (0:Int))/\(c.getD ((l.getD i1 (⟨0,0,0⟩:GAtom)).a).toNat (0:Int)) < (((fl9 (fun t=>(est c (l.take i1)).contains t)).length:Nat):Int)
def VC_l5Early (l:List GAtom) (c:List Int) (k:Nat):Prop:=True/\(TN/\(0<=(9:Int)/\(9:Int)<=(9:Int)/\(9:Int)<=4294967296))/\True/\True/\((0<=l.length/\okS [] (est c (l.take 0))=true)/\TT/\(RL [.s (.c (.d (.arr .atom l))),.s (.c (.d (.arr .int c)))])/\(([.s (.c (.d (.val (.int .i64 (0:Int)))))]:List S)=[.s (.c (.d (.val (.int .i64 ((0:Nat):Int)))))])/\(RM [])/\(RM [])/\(((some (List.replicate 9 false):Option (List Bool))=some (fl9 (fun t=>(est c (l.take 0)).contains t)))/\True)/\TT)/\(∀ i1:Nat,(i1<=l.length/\okS [] (est c (l.take i1))=true)->True/\True/\True/\True/\(vcIf (decide (((i1:Nat):Int) < ((l.length:Nat):Int))) (True/\True/\True/\(0<=((i1:Nat):Int)/\((i1:Nat):Int) < ((l.length:Nat):Int))/\True/\True/\(0<=((l.getD i1 (⟨0,0,0⟩:GAtom)).a)/\((l.getD i1 (⟨0,0,0⟩:GAtom)).a) < ((c.length:Nat):Int))/\True/\True/\True/\True/\(0<=((i1:Nat):Int)/\((i1:Nat):Int) < ((l.length:Nat):Int))/\True/\True/\True/\True/\(vcIf (((l.getD i1 (⟨0,0,0⟩:GAtom)).kind) != (1:Int)) (True/\(VC_l5Early_2 i1 l c)) (True/\True/\True/\(vcIf (decide ((c.getD ((l.getD i1 (⟨0,0,0⟩:GAtom)).a).toNat (0:Int)) < (0:Int))) (VC_l5Early_2 i1 l c) (True/\True/\True/\(vcIf ((c.getD ((l.getD i1 (⟨0,0,0⟩:GAtom)).a).toNat (0:Int)) == (0:Int)) (True/\(VC_l5Early_3 l c)) (True/\True/\(VC_l5Early_4 c l i1)/\True/\True/\(vcIf ((fl9 (fun t=>(est c (l.take i1)).contains t)).getD (c.getD ((l.getD i1 (⟨0,0,0⟩:GAtom)).a).toNat (0:Int)).toNat false) (VC_l5Early_3 l c) (True/\True/\(VC_l5Early_4 c l i1)/\(TF/\TF/\True/\((7:Nat) ∉ ([]:List Nat)))/\True/\(inK .i64 (((i1:Nat):Int)+(1:Int)))/\True/\((i1+1)<=l.length/\okS [] (est c (l.take (i1+1)))=true)/\(l.length - (i1+1) < l.length - i1)/\TT/\(RL [.s (.c (.d (.arr .atom l))),.s (.c (.d (.arr .int c)))])/\(VC_l5Early_1 i1)/\(RM [])/\(RM [])/\(((some ((fl9 (fun t=>(est c (l.take i1)).contains t)).set (c.getD ((l.getD i1 (⟨0,0,0⟩:GAtom)).a).toNat (0:Int)).toNat true):Option (List Bool))=some (fl9 (fun t=>(est c (l.take (i1+1))).contains t)))/\True)/\TT))))))))) (True/\(((true,()):Bool × Unit)=(sEarly l c,()))/\True/\True/\True/\True/\TF)))
theorem vcn_l5Early (l:List GAtom) (c:List Int) (k:Nat) (hp:l.length<=1048576/\l.all atV=true/\c.length=9/\le8 c=true):VC_l5Early l c k:=by
 unfold VC_l5Early VC_l5Early_4 VC_l5Early_3 VC_l5Early_2 VC_l5Early_1
 simp only [cln,Nat.reduceEqDiff,Nat.reduceLeDiff,Nat.reduceAdd]
 have h8:=le8_get hp.2.2.2
 have hV:=hp.2.1
 all_goals (try simp only [opn])
 all_goals (repeat' (first | apply And.intro | intro _))
 all_goals (repeat (cases ‹_/\_›))
 all_goals (first | omega | rfl | assumption | (simp_all;done) | skip)
 all_goals (first
  | (have h1:=atom_idx (l:=l) hV ‹_›;omega)
  | (rw [early_skip (d:=⟨0,0,0⟩) ‹_› (.inl ‹_›)];done)
  | (rw [early_skip (d:=⟨0,0,0⟩) ‹_› (.inl ‹_›)];assumption)
  | (rw [early_skip (d:=⟨0,0,0⟩) ‹_› (.inr ‹_›)];done)
  | (rw [early_skip (d:=⟨0,0,0⟩) ‹_› (.inr ‹_›)];assumption)
  | exact early_no (d:=⟨0,0,0⟩) ‹_› ‹_› ‹_› ‹_› (.inl ‹_›)
  | exact early_no (d:=⟨0,0,0⟩) ‹_› ‹_› ‹_› ‹_› (.inr ‹_›)
  | exact (early_go (d:=⟨0,0,0⟩) ‹_› ‹_› ‹_› ‹_› ‹_› ‹_› ‹_›).1
  | exact (early_go (d:=⟨0,0,0⟩) ‹_› ‹_› ‹_› ‹_› ‹_› ‹_› ‹_›).2
  | (rw [fl9_len];exact Int.lt_of_le_of_lt (h8 _) (by decide))
  | (unfold sEarly;rw [take_full (l:=l) ‹_›] at *;simp_all;done) | skip)
theorem ok_l5Early:FnOk Try.prog E 154 c_l5Early :=
 fn_okQ (l:=L_l5Early) (lp:=P_l5Early) (hp:=fun _=>false) (gcs:=fun _=>none) (perm:=fun _=>[]) tabOk mix trivial trivial Try.func154 rfl (by kernel_rfl) (by decide) (by kernel_rfl) (anns:=fun x _=>an_l5Early x.1 x.2.1) (fun ⟨l,c,_⟩ k hp _=>Eq.mp (by kernel_rfl) (vcn_l5Early l c k hp)) tot_fn
abbrev c_l5Apart:Con:=⟨[.sl .atom],[.bool],fun (l,_)=>l.length<=1048576,.inl fun (l,_)=>(sApart l,()),fun _=>0⟩
abbrev L_l5Apart:List (FuncId × Con):=[]
abbrev P_l5Apart:List (FuncId × PT):=[]
def an_l5Apart (l:List GAtom):Nat->St->Option Ann
 | 2,se=>some { α:=Nat,ok:=fun i=>i<=l.length/\sApart (l.take i)=true,mu:=fun i=>l.length - i,i0:=fun _=>0,nx:=fun a _=>(fun i=>i+1) a,live:=[0],sets:=fun i=>[(3,sv (.int .i64 i))],mids:=[],blks:=fun i=>[],owns:=fun i=>[],rd:=fun r _=>r,base:=100000 }
 | 7,se=>some { α:=Nat,ok:=fun j=>(j:Int)<=intAt se 3/\((l.take j).all fun x=>!(x.a == (l.getD (intAt se 3).toNat ⟨0,0,0⟩).a))=true,mu:=fun j=>(intAt se 3).toNat - j,i0:=fun _=>0,nx:=fun a _=>(fun j=>j+1) a,live:=[0,3],sets:=fun j=>[(4,sv (.int .i64 j))],mids:=[],blks:=fun j=>[],owns:=fun j=>[],rd:=fun r _=>r,base:=200000 }
 | _,_=>none
def VC_l5Apart_1 :Prop:=(([.s (.c (.d (.val (.int .i64 (0:Int)))))]:List S)=[.s (.c (.d (.val (.int .i64 ((0:Nat):Int)))))])/\(RM [])/\(RM [])/\True/\TT
def VC_l5Apart_2 (l:List GAtom):Prop:=True/\(((false,()):Bool × Unit)=(sApart l,()))/\True/\True/\True/\True/\TF
def VC_l5Apart_3 (j2:Nat):Prop:=(([.s (.c (.d (.val (.int .i64 (((j2:Nat):Int)+(1:Int))))))]:List S)=[.s (.c (.d (.val (.int .i64 (((j2+1):Nat):Int)))))])/\(RM [])/\(RM [])/\True/\TT
def VC_l5Apart (l:List GAtom) (k:Nat):Prop:=True/\True/\((0<=l.length/\sApart (l.take 0)=true)/\TT/\(RL [.s (.c (.d (.arr .atom l)))])/\VC_l5Apart_1)/\(∀ i1:Nat,(i1<=l.length/\sApart (l.take i1)=true)->True/\True/\True/\True/\(vcIf (decide (((i1:Nat):Int) < ((l.length:Nat):Int))) (True/\True/\(0<=((i1:Nat):Int)/\((i1:Nat):Int) < ((l.length:Nat):Int))/\True/\True/\True/\(vcIf (((l.getD i1 (⟨0,0,0⟩:GAtom)).a) == (0:Int)) (VC_l5Apart_2 l) (True/\(((0:Int)<=((i1:Nat):Int)/\((l.take 0).all fun x=>!(x.a == (l.getD (((i1:Nat):Int)).toNat ⟨0,0,0⟩).a))=true)/\TT/\(RL [.s (.c (.d (.arr .atom l))),.s (.c (.d (.val (.int .i64 ((i1:Nat):Int)))))])/\VC_l5Apart_1)/\(∀ j2:Nat,((j2:Int)<=((i1:Nat):Int)/\((l.take j2).all fun x=>!(x.a == (l.getD (((i1:Nat):Int)).toNat ⟨0,0,0⟩).a))=true)->True/\True/\True/\(vcIf (decide (((j2:Nat):Int) < ((i1:Nat):Int))) (True/\True/\(0<=((j2:Nat):Int)/\((j2:Nat):Int) < ((l.length:Nat):Int))/\True/\True/\True/\True/\(0<=((i1:Nat):Int)/\((i1:Nat):Int) < ((l.length:Nat):Int))/\True/\True/\True/\(vcIf (((l.getD j2 (⟨0,0,0⟩:GAtom)).a) == ((l.getD i1 (⟨0,0,0⟩:GAtom)).a)) (VC_l5Apart_2 l) (True/\(inK .i64 (((j2:Nat):Int)+(1:Int)))/\True/\(((j2+1):Int)<=((i1:Nat):Int)/\((l.take (j2+1)).all fun x=>!(x.a == (l.getD (((i1:Nat):Int)).toNat ⟨0,0,0⟩).a))=true)/\((((i1:Nat):Int)).toNat - (j2+1) < (((i1:Nat):Int)).toNat - j2)/\TT/\(RL [.s (.c (.d (.arr .atom l))),.s (.c (.d (.val (.int .i64 ((i1:Nat):Int)))))])/\(VC_l5Apart_3 j2)))) (True/\(inK .i64 (((i1:Nat):Int)+(1:Int)))/\True/\((i1+1)<=l.length/\sApart (l.take (i1+1))=true)/\(l.length - (i1+1) < l.length - i1)/\TT/\(RL [.s (.c (.d (.arr .atom l)))])/\(VC_l5Apart_3 i1))))))) (True/\(((true,()):Bool × Unit)=(sApart l,()))/\True/\True/\True/\True/\TF)))
theorem vcn_l5Apart (l:List GAtom) (k:Nat) (hp:l.length<=1048576):VC_l5Apart l k:=by
 unfold VC_l5Apart VC_l5Apart_3 VC_l5Apart_2 VC_l5Apart_1
 simp only [cln,Nat.reduceEqDiff,Nat.reduceLeDiff,Nat.reduceAdd]
 all_goals (try simp only [opn])
 all_goals (repeat' (first | apply And.intro | intro _))
 all_goals (repeat (cases ‹_/\_›))
 all_goals (first | omega | rfl | assumption | (simp_all;done) | skip)
 all_goals (first
  | (symm;exact sApart_zero (d:=⟨0,0,0⟩) ‹_› ‹_›)
  | (symm;exact sApart_two (d:=⟨0,0,0⟩) (h:=by assumption) (hj:=by assumption) (h0:=by assumption))
  | exact apart_in (by omega) ‹_› ‹_›
  | exact apart_fin ‹_› ‹_› ‹_› ‹_› ‹_› ‹_›
  | (rw [take_full (l:=l) ‹_›] at *;simp_all;done) | skip)
theorem ok_l5Apart:FnOk Try.prog E 155 c_l5Apart :=
 fn_okQ (l:=L_l5Apart) (lp:=P_l5Apart) (hp:=fun _=>false) (gcs:=fun _=>none) (perm:=fun _=>[]) tabOk mix trivial trivial Try.func155 rfl (by kernel_rfl) (by decide) (by kernel_rfl) (anns:=fun x _=>an_l5Apart x.1) (fun ⟨l,_⟩ k hp _=>Eq.mp (by kernel_rfl) (vcn_l5Apart l k hp)) tot_fn
abbrev c_l6Find:Con:=⟨[.sl .atom,.sl .bool,.int],[.int],fun (l,u,q,_)=>l.length<=1048576/\u.length=l.length,.inl fun (l,u,q,_)=>(fdI l u q,()),fun _=>0⟩
abbrev L_l6Find:List (FuncId × Con):=[]
abbrev P_l6Find:List (FuncId × PT):=[]
def an_l6Find (l:List GAtom) (u:List Bool) (q:Int):Nat->St->Option Ann
 | 2,se=>some { α:=Nat,ok:=fun i=>i<=l.length/\uaN l u q i=true,mu:=fun i=>l.length - i,i0:=fun _=>0,nx:=fun a _=>(fun i=>i+1) a,live:=[0,1,2],sets:=fun i=>[(7,sv (.int .i64 i))],mids:=[],blks:=fun i=>[],owns:=fun i=>[],rd:=fun r _=>r,base:=100000 }
 | _,_=>none
def VC_l6Find_1 (l:List GAtom) (u:List Bool) (q:Int):Prop:=RL [.s (.c (.d (.arr .atom l))),.s (.c (.d (.arr .bool u))),.s (.c (.d (.val (.int .i64 q))))]
def VC_l6Find_2 (i1:Nat) (l:List GAtom) (u:List Bool) (q:Int):Prop:=True/\(inK .i64 (((i1:Nat):Int)+(1:Int)))/\True/\((i1+1)<=l.length/\uaN l u q (i1+1)=true)/\(l.length - (i1+1) < l.length - i1)/\TT/\(VC_l6Find_1 l u q)/\(([.s (.c (.d (.val (.int .i64 (((i1:Nat):Int)+(1:Int))))))]:List S)=[.s (.c (.d (.val (.int .i64 (((i1+1):Nat):Int)))))])/\(RM [])/\(RM [])/\True/\TT
def VC_l6Find (l:List GAtom) (u:List Bool) (q:Int) (k:Nat):Prop:=True/\True/\((0<=l.length/\uaN l u q 0=true)/\TT/\(VC_l6Find_1 l u q)/\(([.s (.c (.d (.val (.int .i64 (0:Int)))))]:List S)=[.s (.c (.d (.val (.int .i64 ((0:Nat):Int)))))])/\(RM [])/\(RM [])/\True/\TT)/\(∀ i1:Nat,(i1<=l.length/\uaN l u q i1=true)->True/\True/\True/\True/\(vcIf (decide (((i1:Nat):Int) < ((l.length:Nat):Int))) (True/\True/\(0<=((i1:Nat):Int)/\((i1:Nat):Int) < ((u.length:Nat):Int))/\True/\True/\True/\(vcIf (!(u.getD i1 false)) (True/\True/\(0<=((i1:Nat):Int)/\((i1:Nat):Int) < ((l.length:Nat):Int))/\True/\True/\True/\True/\True/\(vcIf (((l.getD i1 (⟨0,0,0⟩:GAtom)).a) == q) (True/\True/\(((((i1:Nat):Int),()):Int × Unit)=(fdI l u q,()))/\True/\True/\True/\True/\TF) (VC_l6Find_2 i1 l u q))) (True/\(VC_l6Find_2 i1 l u q)))) (True/\((((-1:Int),()):Int × Unit)=(fdI l u q,()))/\True/\True/\True/\True/\TF)))
theorem vcn_l6Find (l:List GAtom) (u:List Bool) (q:Int) (k:Nat) (hp:l.length<=1048576/\u.length=l.length):VC_l6Find l u q k:=by
 unfold VC_l6Find VC_l6Find_2 VC_l6Find_1
 simp only [cln,Nat.reduceEqDiff,Nat.reduceLeDiff,Nat.reduceAdd]
 all_goals (try simp only [opn])
 all_goals (repeat' (first | apply And.intro | intro _))
 all_goals (repeat (cases ‹_/\_›))
 all_goals (first | omega | rfl | assumption | (simp_all;done) | skip)
 all_goals (first
  | exact fd_hit ‹_› ‹_› ‹_› ‹_›
  | exact fd_miss ‹_› ‹_› ‹_›
  | exact uaN_s1 ‹_› ‹_›
  | exact uaN_s3 ‹_› ‹_›
  | skip)
theorem ok_l6Find:FnOk Try.prog E 167 c_l6Find :=
 fn_okQ (l:=L_l6Find) (lp:=P_l6Find) (hp:=fun _=>false) (gcs:=fun _=>none) (perm:=fun _=>[]) tabOk mix trivial trivial Try.func167 rfl (by kernel_rfl) (by decide) (by kernel_rfl) (anns:=fun x _=>an_l6Find x.1 x.2.1 x.2.2.1) (fun ⟨l,u,q,_⟩ k hp _=>Eq.mp (by kernel_rfl) (vcn_l6Find l u q k hp)) tot_fn
abbrev c_l5Begins:Con:=⟨[.sl .atom,.int],[.bool],fun (l,c,_)=>l.length<=1048576,.inl fun (l,c,_)=>(bgn l c,()),fun _=>0⟩
abbrev L_l5Begins:List (FuncId × Con):=[]
abbrev P_l5Begins:List (FuncId × PT):=[]
def an_l5Begins (l:List GAtom) (c:Int):Nat->St->Option Ann
 | 2,se=>some { α:=Nat,ok:=fun i=>i<=l.length/\bgn (l.take i) c=false,mu:=fun i=>l.length - i,i0:=fun _=>0,nx:=fun a _=>(fun i=>i+1) a,live:=[0,1],sets:=fun i=>[(5,sv (.int .i64 i))],mids:=[],blks:=fun i=>[],owns:=fun i=>[],rd:=fun r _=>r,base:=100000 }
 | _,_=>none
def VC_l5Begins (l:List GAtom) (c:Int) (k:Nat):Prop:=True/\True/\((0<=l.length/\bgn (l.take 0) c=false)/\TT/\(RL [.s (.c (.d (.arr .atom l))),.s (.c (.d (.val (.int .i64 c))))])/\(([.s (.c (.d (.val (.int .i64 (0:Int)))))]:List S)=[.s (.c (.d (.val (.int .i64 ((0:Nat):Int)))))])/\(RM [])/\(RM [])/\True/\TT)/\(∀ i1:Nat,(i1<=l.length/\bgn (l.take i1) c=false)->True/\True/\True/\True/\(vcIf (decide (((i1:Nat):Int) < ((l.length:Nat):Int))) (True/\True/\(0<=((i1:Nat):Int)/\((i1:Nat):Int) < ((l.length:Nat):Int))/\True/\True/\True/\True/\(vcIf (((l.getD i1 (⟨0,0,0⟩:GAtom)).a) == c) (True/\(((true,()):Bool × Unit)=(bgn l c,()))/\True/\True/\True/\True/\TF) (True/\(inK .i64 (((i1:Nat):Int)+(1:Int)))/\True/\((i1+1)<=l.length/\bgn (l.take (i1+1)) c=false)/\(l.length - (i1+1) < l.length - i1)/\TT/\(RL [.s (.c (.d (.arr .atom l))),.s (.c (.d (.val (.int .i64 c))))])/\(([.s (.c (.d (.val (.int .i64 (((i1:Nat):Int)+(1:Int))))))]:List S)=[.s (.c (.d (.val (.int .i64 (((i1+1):Nat):Int)))))])/\(RM [])/\(RM [])/\True/\TT))) (True/\(((false,()):Bool × Unit)=(bgn l c,()))/\True/\True/\True/\True/\TF)))
theorem vcn_l5Begins (l:List GAtom) (c:Int) (k:Nat) (hp:l.length<=1048576):VC_l5Begins l c k:=by
 unfold VC_l5Begins
 simp only [cln,Nat.reduceEqDiff,Nat.reduceLeDiff,Nat.reduceAdd]
 all_goals (try simp only [opn])
 all_goals (repeat' (first | apply And.intro | intro _))
 all_goals (repeat (cases ‹_/\_›))
 all_goals (first | omega | rfl | assumption | (simp_all;done) | skip)
 all_goals (first
  | exact (bgn_yes ‹_› ‹_›).symm
  | exact bgn_step ‹_› ‹_› ‹_›
  | exact (bgn_end ‹_› ‹_›).symm
  | skip)
theorem ok_l5Begins:FnOk Try.prog E 168 c_l5Begins :=
 fn_okQ (l:=L_l5Begins) (lp:=P_l5Begins) (hp:=fun _=>false) (gcs:=fun _=>none) (perm:=fun _=>[]) tabOk mix trivial trivial Try.func168 rfl (by kernel_rfl) (by decide) (by kernel_rfl) (anns:=fun x _=>an_l5Begins x.1 x.2.1) (fun ⟨l,c,_⟩ k hp _=>Eq.mp (by kernel_rfl) (vcn_l5Begins l c k hp)) tot_fn
abbrev m_l6Chain:MCon:=⟨[.sl .atom],.bool,[.int,.int],fun (l,_) u (q,y,_)=>l.length<=6/\u.length=l.length,fun (l,_) u (q,y,_)=>.bool (rchB l u q y),fun (l,_) u (q,y,_)=>rchU l u q y⟩
abbrev pt_l6Chain:PT:=ptM m_l6Chain
abbrev L_l6Chain:List (FuncId × Con):=[(167,c_l6Find),(168,c_l5Begins)]
abbrev P_l6Chain:List (FuncId × PT):=[]
def an_l6Chain (l:List GAtom) (u:List Bool) (q:Int) (y:Int):Nat->St->Option Ann
 | 1,se=>some { α:=Nat × List Bool × Int,ok:=fun p=>rcI l u q y p.1 p.2.1 p.2.2,mu:=fun p=>7 - p.1,i0:=fun st=>(0,slAt .bool st (.slot 1),intAt st 2),nx:=fun p st=>(p.1+1,slAt .bool st (.slot 1),intAt st 2),live:=[0,3],sets:=fun p=>[(2,sv (.int .i64 p.2.2))],mids:=[],blks:=fun p=>[],owns:=fun p=>[⟨7,.slot 1,.bool,p.2.1⟩],rd:=fun r _=>r,base:=100000 }
 | _,_=>none
def VC_l6Chain_1 (l:List GAtom) (u:List Bool) (q:Int) (y:Int) (p1:Nat × List Bool × Int):Prop:=True/\((some [.c (.d (.val (.bool false)))]:Option (List S0))=some [.c (.d (.val (.bool (rchB l u q y))))])/\((some p1.2.1:Option (List Bool))=some (rchU l u q y))
def VC_l6Chain_2 (l:List GAtom) (p1:Nat × List Bool × Int):Prop:=0<=(fdI l p1.2.1 (p1.2.2:Int))/\(fdI l p1.2.1 (p1.2.2:Int)) < ((l.length:Nat):Int)
def VC_l6Chain_3 (l:List GAtom) (p1:Nat × List Bool × Int) (u:List Bool) (q:Int) (y:Int):Prop:=True/\True/\(0<=(fdI l p1.2.1 (p1.2.2:Int))/\(fdI l p1.2.1 (p1.2.2:Int)) < ((p1.2.1.length:Nat):Int))/\(TF/\TF/\True/\((7:Nat) ∉ ([]:List Nat)))/\True/\True/\(VC_l6Chain_2 l p1)/\True/\True/\True/\(rcI l u q y (p1.1+1,(p1.2.1.set (fdI l p1.2.1 (p1.2.2:Int)).toNat true),((l.getD (fdI l p1.2.1 (p1.2.2:Int)).toNat (⟨0,0,0⟩:GAtom)).b)).1 (p1.1+1,(p1.2.1.set (fdI l p1.2.1 (p1.2.2:Int)).toNat true),((l.getD (fdI l p1.2.1 (p1.2.2:Int)).toNat (⟨0,0,0⟩:GAtom)).b)).2.1 (p1.1+1,(p1.2.1.set (fdI l p1.2.1 (p1.2.2:Int)).toNat true),((l.getD (fdI l p1.2.1 (p1.2.2:Int)).toNat (⟨0,0,0⟩:GAtom)).b)).2.2)/\(7 - (p1.1+1,(p1.2.1.set (fdI l p1.2.1 (p1.2.2:Int)).toNat true),((l.getD (fdI l p1.2.1 (p1.2.2:Int)).toNat (⟨0,0,0⟩:GAtom)).b)).1 < 7 - p1.1)/\TT/\(RL [.s (.c (.d (.arr .atom l))),.s (.c (.d (.val (.int .i64 y))))])/\(([.s (.c (.d (.val (.int .i64 ((l.getD (fdI l p1.2.1 (p1.2.2:Int)).toNat (⟨0,0,0⟩:GAtom)).b)))))]:List S)=[.s (.c (.d (.val (.int .i64 ((p1.1+1,(p1.2.1.set (fdI l p1.2.1 (p1.2.2:Int)).toNat true),((l.getD (fdI l p1.2.1 (p1.2.2:Int)).toNat (⟨0,0,0⟩:GAtom)).b)).2.2:Int)))))])/\(RM [])/\(RM [])/\(((some (p1.2.1.set (fdI l p1.2.1 (p1.2.2:Int)).toNat true):Option (List Bool))=some ((p1.1+1,(p1.2.1.set (fdI l p1.2.1 (p1.2.2:Int)).toNat true),((l.getD (fdI l p1.2.1 (p1.2.2:Int)).toNat (⟨0,0,0⟩:GAtom)).b)).2.1))/\True)/\TT
def VC_l6Chain_4 (l:List GAtom) (p1:Nat × List Bool × Int) (u:List Bool) (q:Int) (y:Int):Prop:=True/\(VC_l6Chain_3 l p1 u q y)
def VC_l6Chain_5 (l:List GAtom) (p1:Nat × List Bool × Int) (u:List Bool) (q:Int) (y:Int):Prop:=True/\True/\(VC_l6Chain_4 l p1 u q y)
def VC_l6Chain (l:List GAtom) (u:List Bool) (q:Int) (y:Int) (k:Nat):Prop:=True/\((rcI l u q y (0,u,q).1 (0,u,q).2.1 (0,u,q).2.2)/\TT/\(RL [.s (.c (.d (.arr .atom l))),.s (.c (.d (.val (.int .i64 y))))])/\(([.s (.c (.d (.val (.int .i64 q))))]:List S)=[.s (.c (.d (.val (.int .i64 ((0,u,q).2.2:Int)))))])/\(RM [])/\(RM [])/\(((some u:Option (List Bool))=some ((0,u,q).2.1))/\True)/\TT)/\(∀ p1:Nat × List Bool × Int,(rcI l u q y p1.1 p1.2.1 p1.2.2)->True/\True/\True/\(vcIf ((p1.2.2:Int) != y) (True/\True/\True/\((l.length<=1048576/\p1.2.1.length=l.length)/\True/\True)/\True/\True/\True/\(vcIf (decide ((fdI l p1.2.1 (p1.2.2:Int)) < (0:Int))) (VC_l6Chain_1 l u q y p1) (True/\True/\(VC_l6Chain_2 l p1)/\True/\True/\True/\True/\(vcIf (((l.getD (fdI l p1.2.1 (p1.2.2:Int)).toNat (⟨0,0,0⟩:GAtom)).kind) == (2:Int)) (True/\True/\(VC_l6Chain_2 l p1)/\True/\True/\True/\True/\True/\True/\(vcIf (((l.getD (fdI l p1.2.1 (p1.2.2:Int)).toNat (⟨0,0,0⟩:GAtom)).b) != y) (True/\True/\True/\True/\(vcIf (y != (0:Int)) (True/\True/\((l.length<=1048576)/\True/\True)/\True/\True/\(vcIf (!(bgn l y)) (VC_l6Chain_1 l u q y p1) (VC_l6Chain_3 l p1 u q y))) (VC_l6Chain_4 l p1 u q y))) (VC_l6Chain_5 l p1 u q y))) (True/\True/\(VC_l6Chain_5 l p1 u q y)))))) (True/\((some [.c (.d (.val (.bool true)))]:Option (List S0))=some [.c (.d (.val (.bool (rchB l u q y))))])/\((some p1.2.1:Option (List Bool))=some (rchU l u q y)))))
theorem vcn_l6Chain (l:List GAtom) (u:List Bool) (q:Int) (y:Int) (k:Nat) (hp:l.length<=6/\u.length=l.length):VC_l6Chain l u q y k:=by
 unfold VC_l6Chain VC_l6Chain_5 VC_l6Chain_4 VC_l6Chain_3 VC_l6Chain_2 VC_l6Chain_1
 simp only [cln,Nat.reduceEqDiff,Nat.reduceLeDiff,Nat.reduceAdd]
 have hl:=hp.1
 all_goals (try simp only [opn])
 all_goals (repeat' (first | apply And.intro | intro _))
 all_goals (try (have h7:=‹rcI _ _ _ _ _ _ _›))
 all_goals (first | omega | rfl | assumption | exact rcI_zero hp.2 | exact h7.len | (simp_all;done) | skip)
 all_goals (first
  | exact (rc_end h7 hl ‹_›).1.symm | exact (rc_end h7 hl ‹_›).2.symm
  | exact (rc_no h7 hl ‹_› ‹_›).1.symm | exact (rc_no h7 hl ‹_› ‹_›).2.symm
  | exact (rc_open h7 hl ‹_› ‹_› ‹_› ‹_› (cl3 ‹_› ‹_›)).1.symm
  | exact (rc_open h7 hl ‹_› ‹_› ‹_› ‹_› (cl3 ‹_› ‹_›)).2.symm
  | exact (rc_go h7 hl ‹_› ‹_› (.inr (.inl ‹_›))).1
  | exact (rc_go h7 hl ‹_› ‹_› (.inl ‹_›)).1
  | exact (rc_go h7 hl ‹_› ‹_› (.inr (.inr (cl1 ‹_›)))).1
  | exact (rc_go h7 hl ‹_› ‹_› (.inr (.inr (cl2 ‹_›)))).1
  | (have h:=(rc_go h7 hl ‹_› ‹_› (.inr (.inl ‹_›))).2;omega)
  | (have h:=(rc_go h7 hl ‹_› ‹_› (.inl ‹_›)).2;omega)
  | (have h:=(rc_go h7 hl ‹_› ‹_› (.inr (.inr (cl1 ‹_›)))).2;omega)
  | (have h:=(rc_go h7 hl ‹_› ‹_› (.inr (.inr (cl2 ‹_›)))).2;omega)
  | (have h9:=fd_bd ‹¬ fdI _ _ _ < 0›;have h10:=h7.len;omega)
  | skip)
theorem ptok_l6Chain:PTOk Try.prog E 166 pt_l6Chain :=
 mut_ok (l:=L_l6Chain) (lp:=P_l6Chain) (hp:=fun _=>false) (perm:=fun _=>[]) tabOk mix ⟨ok_l6Find,ok_l5Begins,trivial⟩ trivial Try.func166 rfl (by kernel_rfl) rfl (by decide) (by kernel_rfl) (anns:=fun x l y=>an_l6Chain x.1 l y.1 y.2.1) (fun ⟨l,_⟩ u ⟨q,y,_⟩ hp=>Eq.mp (by kernel_rfl) (vcn_l6Chain l u q y 0 hp))
end Go.Proofs.Ytopjgjelkpkmmaa
