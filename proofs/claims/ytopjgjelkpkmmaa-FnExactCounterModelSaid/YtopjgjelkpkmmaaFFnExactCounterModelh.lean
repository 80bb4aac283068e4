/-
  Contracts of single functions of the program, each shown by the engine: what a call returns for arguments within the contract's bounds.
-/
import Derived.Test.YtopjgjelkpkmmaaFFnExactCounterModela
import Derived.Test.YtopjgjelkpkmmaaFFnExactCounterModeld
import Derived.Test.YtopjgjelkpkmmaaFFnExactCounterModelf
import Derived.Test.YtopjgjelkpkmmaaFFnExactCounterModelg
import Derived.Test.YtopjgjelkpkmmaaEd
import Derived.Test.YtopjgjelkpkmmaaEe
set_option linter.unusedSimpArgs false
set_option linter.unusedVariables false
set_option linter.unusedSectionVars false

namespace Go.Proofs.Ytopjgjelkpkmmaa
open Go.SE Go.RowKit
set_option linter.unusedSimpArgs false
set_option linter.unusedVariables false
set_option maxHeartbeats 1000000
set_option maxRecDepth 100000
abbrev c_FnExactCounterModel:Con:=⟨[.asn,.asn],[.bool],fun (a,b,_)=>a.facts.length<=281474976710656/\a.atoms.length<=281474976710656/\b.facts.length<=281474976710656/\b.atoms.length<=281474976710656,.inl fun (a,b,_)=>(true,()),fun _=>0⟩
abbrev L_FnExactCounterModel:List (FuncId × Con):=[(16,c_iCounterModel),(17,c_sCounterModel),(21,c_szAssertion),(22,c_toAssertion),(23,c_eqState),(24,c_eqAssertion),(27,c_heldState)]
abbrev P_FnExactCounterModel:List (FuncId × PT):=[(25,pt_markAssertion),(26,pt_markState)]
def hp_FnExactCounterModel:Nat->Bool
 | 19=>true
 | 20=>true
 | 24=>true
 | _=>false
def VC_FnExactCounterModel_1 :Prop:=True/\(((true,()):Bool × Unit)=(true,()))/\True/\True/\True/\True/\TF
def VC_FnExactCounterModel_2 (a:GAsn) (b:GAsn):Prop:=(a.facts.length<=281474976710656/\a.atoms.length<=281474976710656/\b.facts.length<=281474976710656/\b.atoms.length<=281474976710656)/\True/\TN/\TN/\True
def VC_FnExactCounterModel_3 (a:GAsn) (b:GAsn):Prop:=((cmL a b).vals.length<=281474976710656/\(cmL a b).heap.length<=281474976710656/\(cmL a b).vals.length<=281474976710656/\(cmL a b).heap.length<=281474976710656)/\True/\True
def VC_FnExactCounterModel_4 :Prop:=True/\(((false,()):Bool × Unit)=(true,()))/\True/\True/\True/\True/\TF
def VC_FnExactCounterModel_5 :Prop:=True/\VC_FnExactCounterModel_4
def VC_FnExactCounterModel_6 (a:GAsn):Prop:=(a.facts.length<=281474976710656/\a.atoms.length<=281474976710656/\a.facts.length<=281474976710656/\a.atoms.length<=281474976710656)/\True/\True
def VC_FnExactCounterModel_7 (a:GAsn) (b:GAsn):Prop:=((⟨mkI ((cmL a b).vals) (1:Int),mkI ((cmL a b).heap) ((1:Int)+(((cmL a b).vals).length:Int))⟩:GState).vals.length<=281474976710656/\(⟨mkI ((cmL a b).vals) (1:Int),mkI ((cmL a b).heap) ((1:Int)+(((cmL a b).vals).length:Int))⟩:GState).heap.length<=281474976710656/\0<=(1:Int)/\(1:Int)<=2305843009213693952)/\True/\True
def VC_FnExactCounterModel_8 (a:GAsn) (b:GAsn):Prop:=((0<=(((1:Int)+3 * (a.facts.length:Int))+3 * (a.atoms.length:Int))/\(((1:Int)+3 * (a.facts.length:Int))+3 * (a.atoms.length:Int))<=4611686018427387904/\b.facts.length<=281474976710656)/\True/\True/\True/\True/\TF/\TF/\True/\True/\(0<=((((1:Int)+3 * (a.facts.length:Int))+3 * (a.atoms.length:Int))+3 * (b.facts.length:Int))/\((((1:Int)+3 * (a.facts.length:Int))+3 * (a.atoms.length:Int))+3 * (b.facts.length:Int))<=4611686018427387904/\b.atoms.length<=281474976710656)/\True/\True/\True/\True/\True/\True/\True/\(vcIf (decide ((((((1:Int)+3 * (a.facts.length:Int))+3 * (a.atoms.length:Int))+3 * (b.facts.length:Int))+3 * (b.atoms.length:Int)) < (0:Int))) (True/\True/\VC_FnExactCounterModel_5) (True/\True/\(VC_FnExactCounterModel_3 a b)/\True/\True/\True/\(vcIf (!(decide ((cmL a b)=(cmL a b)))) VC_FnExactCounterModel_5 (True/\True/\True/\True/\(vcIf ((cmB a b) != (cmB a b)) VC_FnExactCounterModel_4 (True/\True/\True/\((2:Nat)<=14)/\TN/\True/\True/\True/\True/\TF/\TF/\True/\True/\(0<=(1:Int)/\(1:Int)<=4611686018427387904/\((cmL a b).vals).length<=281474976710656)/\True/\True/\True/\True/\TF/\TF/\True/\True/\(0<=((1:Int)+(((cmL a b).vals).length:Int))/\((1:Int)+(((cmL a b).vals).length:Int))<=4611686018427387904/\((cmL a b).heap).length<=281474976710656)/\True/\True/\True/\True/\True/\True/\True/\(VC_FnExactCounterModel_7 a b)/\True/\True/\True/\(vcIf (decide ((hdS (⟨mkI ((cmL a b).vals) (1:Int),mkI ((cmL a b).heap) ((1:Int)+(((cmL a b).vals).length:Int))⟩:GState) (1:Int)) < (0:Int))) VC_FnExactCounterModel_4 (True/\True/\True/\(vcIf ((hdS (⟨mkI ((cmL a b).vals) (1:Int),mkI ((cmL a b).heap) ((1:Int)+(((cmL a b).vals).length:Int))⟩:GState) (1:Int)) != (((1:Int)+(((cmL a b).vals).length:Int))+(((cmL a b).heap).length:Int))) VC_FnExactCounterModel_4 (True/\((a.facts.length<=1048576/\a.atoms.length<=1048576)/\True/\TN/\TN/\True)/\True/\((b.facts.length<=1048576/\b.atoms.length<=1048576)/\True/\TN/\TN/\True)/\(VC_FnExactCounterModel_2 a b)/\True/\True/\True/\(TN/\TN/\TN/\True)/\(TF/\TF)/\True/\True/\True/\(VC_FnExactCounterModel_3 a b)/\True/\True/\(vcIf (!(decide ((cmL a b)=(cmL a b)))) VC_FnExactCounterModel_5 (True/\True/\True/\True/\(vcIf ((cmB a b) != (cmB a b)) VC_FnExactCounterModel_4 (True/\True/\True/\(VC_FnExactCounterModel_7 a b)/\True/\True/\True/\(vcIf (decide ((hdS (⟨mkI ((cmL a b).vals) (1:Int),mkI ((cmL a b).heap) ((1:Int)+(((cmL a b).vals).length:Int))⟩:GState) (1:Int)) < (0:Int))) VC_FnExactCounterModel_4 (True/\True/\True/\(vcIf ((hdS (⟨mkI ((cmL a b).vals) (1:Int),mkI ((cmL a b).heap) ((1:Int)+(((cmL a b).vals).length:Int))⟩:GState) (1:Int)) != (((1:Int)+(((cmL a b).vals).length:Int))+(((cmL a b).heap).length:Int))) VC_FnExactCounterModel_4 VC_FnExactCounterModel_1))))))))))))))))))
def VC_FnExactCounterModel (a:GAsn) (b:GAsn) (k:Nat):Prop:=TN/\TN/\True/\True/\True/\True/\((a.facts.length<=281474976710656/\a.atoms.length<=281474976710656/\0<=(1048576:Int)/\(1048576:Int)<=1048576)/\True/\True)/\True/\True/\True/\(vcIf (decide ((szA a (1048576:Int)) < (0:Int))) VC_FnExactCounterModel_1 (True/\True/\((b.facts.length<=281474976710656/\b.atoms.length<=281474976710656/\0<=(szA a (1048576:Int))/\(szA a (1048576:Int))<=1048576)/\True/\True)/\True/\True/\True/\(vcIf (decide ((szA b (szA a (1048576:Int))) < (0:Int))) VC_FnExactCounterModel_1 (True/\((a.facts.length<=1048576/\a.atoms.length<=1048576)/\True/\TN/\TN/\True)/\True/\((b.facts.length<=1048576/\b.atoms.length<=1048576)/\True/\TN/\TN/\True)/\(VC_FnExactCounterModel_2 a b)/\True/\True/\True/\(TN/\TN/\TN/\True)/\(TF/\TF)/\True/\True/\((a.facts.length<=1048576/\a.atoms.length<=1048576)/\True/\TN/\TN/\True)/\(TN/\TN/\TN/\True)/\(TF/\TF)/\True/\((b.facts.length<=1048576/\b.atoms.length<=1048576)/\True/\TN/\TN/\True)/\(TN/\TN/\TN/\True)/\(TF/\TF)/\True/\True/\(VC_FnExactCounterModel_2 a b)/\True/\True/\True/\(TN/\TN/\TN/\True)/\(TF/\TF)/\True/\True/\True/\(VC_FnExactCounterModel_3 a b)/\True/\True/\(vcIf (!(decide ((cmL a b)=(cmL a b)))) VC_FnExactCounterModel_5 (True/\True/\True/\True/\(vcIf ((cmB a b) != (cmB a b)) VC_FnExactCounterModel_4 (True/\True/\((a.facts.length<=1048576/\a.atoms.length<=1048576)/\True/\TN/\TN/\True)/\(VC_FnExactCounterModel_6 a)/\True/\(vcIf (!(decide (a=a))) VC_FnExactCounterModel_4 (True/\True/\((b.facts.length<=1048576/\b.atoms.length<=1048576)/\True/\TN/\TN/\True)/\(VC_FnExactCounterModel_6 b)/\True/\(vcIf (!(decide (b=b))) VC_FnExactCounterModel_4 (True/\True/\True/\((2:Nat)<=14)/\TN/\True/\True/\True/\True/\TF/\TF/\True/\True/\(0<=(1:Int)/\(1:Int)<=4611686018427387904/\a.facts.length<=281474976710656)/\True/\True/\True/\True/\TF/\TF/\True/\True/\(0<=((1:Int)+3 * (a.facts.length:Int))/\((1:Int)+3 * (a.facts.length:Int))<=4611686018427387904/\a.atoms.length<=281474976710656)/\True/\True/\True/\True/\True/\True/\((2:Nat)<=14)/\TN/\True/\True/\True/\True/\TF/\TF/\True/\True/\(VC_FnExactCounterModel_8 a b)))))))))))))
theorem vcn_FnExactCounterModel (a:GAsn) (b:GAsn) (k:Nat) (hp:a.facts.length<=281474976710656/\a.atoms.length<=281474976710656/\b.facts.length<=281474976710656/\b.atoms.length<=281474976710656):VC_FnExactCounterModel a b k:=by
 unfold VC_FnExactCounterModel VC_FnExactCounterModel_8 VC_FnExactCounterModel_7 VC_FnExactCounterModel_6 VC_FnExactCounterModel_5 VC_FnExactCounterModel_4 VC_FnExactCounterModel_3 VC_FnExactCounterModel_2 VC_FnExactCounterModel_1
 simp only [cln,Nat.reduceEqDiff,Nat.reduceLeDiff,Nat.reduceAdd,bne_self_eq_false,beq_self_eq_true,decide_true,eq_self,Bool.not_true,Bool.not_false,vcIf_true,vcIf_false,Bool.false_and,Bool.true_and,Bool.or_false,Bool.or_true]
 have hk:=cmL_len a b
 have hm:=hdS_mk (cmL a b).vals (cmL a b).heap 1 (by omega)
 all_goals (try simp only [vcIf_iff,decide_eq_true_eq,decide_eq_false_iff_not,bne_iff_ne,ne_eq,beq_iff_eq,beq_eq_false_iff_ne,bne_eq_false_iff_eq,Bool.not_eq_true',Bool.not_eq_false',Int.ofNat_lt,Int.natCast_inj])
 all_goals (repeat' (first | apply And.intro | intro _))
 all_goals (first | omega | (simp_all;done) | grind [szA,sz1,mkF_len,mkG_len,mkI_len,hdS_mk])
theorem ok_FnExactCounterModel:FnOk Try.prog E 4 c_FnExactCounterModel :=
 fn_okQ (l:=L_FnExactCounterModel) (lp:=P_FnExactCounterModel) (hp:=hp_FnExactCounterModel) (gcs:=fun _=>none) (perm:=fun _=>[]) tabOk mix ⟨ok_iCounterModel,ok_sCounterModel,ok_szAssertion,ok_toAssertion,ok_eqState,ok_eqAssertion,ok_heldState,trivial⟩ ⟨ptok_markAssertion,ptok_markState,trivial⟩ Try.func4 rfl (by kernel_rfl) (by decide) (by kernel_rfl) (anns:=fun x _=>fun _ _=>none) (fun ⟨a,b,_⟩ k hp _=>Eq.mp (by kernel_rfl) (vcn_FnExactCounterModel a b k hp)) tot_fn
end Go.Proofs.Ytopjgjelkpkmmaa
