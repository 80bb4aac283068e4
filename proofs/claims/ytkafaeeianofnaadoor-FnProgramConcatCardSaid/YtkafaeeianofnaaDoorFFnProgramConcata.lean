/-
  Contracts of single functions of the program, each shown by the engine: what a call returns for arguments within the contract's bounds.
-/
import Derived.Stop.Joined
import Derived.Test.YtkafaeeianofnaaDoorRows
import Derived.Test.YtkafaeeianofnaaDoorProg
import Derived.KernelRfl
import Derived.Shelf.Strings.OnBuilder
import Derived.Test.YtkafaeeianofnaaDoorS
import Derived.Test.YtkafaeeianofnaaDoorEd
set_option linter.unusedSimpArgs false
set_option linter.unusedVariables false
set_option linter.unusedSectionVars false

namespace Go.Proofs.YtkafaeeianofnaaDoor
open Go.SE Go.RowKit
theorem door_met (os:Os) (args:Array Value):laidMetH Tryd.prog Rows.fnCountCmdsRow.laid ((World.doorLaid Tryd.prog 14 os).forCall (fun _ _=>0) ⟨#[],args,[]⟩).memory :=
 laidMetH_of_parts3 (fuel:=8) (laidMet_of_run' 8 (by kernel_rfl) (by kernel_rfl)) (by kernel_rfl) (by kernel_rfl)
theorem names_at {W:World} (h:laidMetH Tryd.prog Rows.fnCountCmdsRow.laid W):∃ (ty:TypeId) (fz:Nat × Nat),W.heap[0]?=some (.cells (names9.map Value.string).toArray ty fz) :=
 names_row (T:=111) (S:=9) rfl (by kernel_rfl) (by kernel_rfl) Tryd.underlying111 Tryd.underlying9 (by kernel_rfl) (by kernel_rfl) (by kernel_rfl) h
end Go.Proofs.YtkafaeeianofnaaDoor

namespace Go.Proofs.YtkafaeeianofnaaDoor
open Go.SE Go.RowKit
variable [Base]
def E:Ty->TypeId
 | .int=>3
 | .bool=>4
 | .u8=>5
 | .fact=>47
 | .atom=>94
 | .cmd=>53
 | .ints=>84
 | .asn=>0
 | .cmds=>23
 | .cpair=>0
 | .lcmd=>0
 | .xcmd=>0
 | .lfact=>0
 | .latom=>0
 | .str=>9
def tabL:List (TypeId × TI):=[
 (2,⟨1,8,.sc (.int .i64 0)⟩),
 (3,⟨1,8,.sc (.int .i64 0)⟩),
 (4,⟨1,1,.sc (.bool false)⟩),
 (5,⟨1,1,.sc (.int .u8 0)⟩),
 (7,⟨4,24,.st [.sc (.int .i64 0),.sc (.int .i64 0),.sc (.bool false),.sc (.int .u8 0)] [(0,1,false),(1,1,false),(2,1,false),(3,1,false)]⟩),
 (9,⟨1,16,.sc (.string ⟨#[]⟩)⟩),
 (12,⟨1,8,.sc (.int .u64 0)⟩),
 (13,⟨2,24,.st [.sc (.string ⟨#[]⟩),.sc (.int .u64 0)] [(0,1,false),(1,1,false)]⟩),
 (21,⟨1,4,.sc (.int .i32 0)⟩),
 (22,⟨1,24,.sl true 5 .u8⟩),
 (23,⟨1,24,.sl true 53 .cmd⟩),
 (30,⟨1,24,.sl false 46 .lcmd⟩),
 (39,⟨3,24,.st [.sc (.bool false),.sc (.int .i64 0),.sc (.int .i64 0)] [(0,1,false),(1,1,false),(2,1,false)]⟩),
 (40,⟨3,24,.st [.sc (.bool false),.sc (.int .i64 0),.sc (.int .i64 0)] [(0,1,false),(1,1,false),(2,1,false)]⟩),
 (41,⟨1,24,.sl false 40 .lfact⟩),
 (42,⟨1,24,.sl false 114 .latom⟩),
 (43,⟨2,48,.st [.sl .lfact,.sl .latom] [(0,1,false),(1,1,false)]⟩),
 (44,⟨2,48,.st [.sl .lfact,.sl .latom] [(0,1,false),(1,1,false)]⟩),
 (45,⟨10,144,.st [.sc (.int .i64 0),.sc (.int .i64 0),.sc (.int .i64 0),.sc (.bool false),.sc (.int .i64 0),.sc (.int .i64 0),.sl .lfact,.sl .latom,.sl .lcmd,.sl .lcmd] [(0,1,false),(1,1,false),(2,1,false),(3,3,true),(6,2,true),(8,1,false),(9,1,false)]⟩),
 (46,⟨10,144,.st [.sc (.int .i64 0),.sc (.int .i64 0),.sc (.int .i64 0),.sc (.bool false),.sc (.int .i64 0),.sc (.int .i64 0),.sl .lfact,.sl .latom,.sl .lcmd,.sl .lcmd] [(0,1,false),(1,1,false),(2,1,false),(3,3,true),(6,2,true),(8,1,false),(9,1,false)]⟩),
 (47,⟨3,24,.st [.sc (.bool false),.sc (.int .i64 0),.sc (.int .i64 0)] [(0,1,false),(1,1,false),(2,1,false)]⟩),
 (48,⟨1,24,.sl true 47 .fact⟩),
 (49,⟨1,24,.sl true 94 .atom⟩),
 (50,⟨2,48,.st [.sl .fact,.sl .atom] [(0,1,false),(1,1,false)]⟩),
 (51,⟨2,48,.st [.sl .fact,.sl .atom] [(0,1,false),(1,1,false)]⟩),
 (52,⟨10,144,.st [.sc (.int .i64 0),.sc (.int .i64 0),.sc (.int .i64 0),.sc (.bool false),.sc (.int .i64 0),.sc (.int .i64 0),.sl .fact,.sl .atom,.sl .cmd,.sl .cmd] [(0,1,false),(1,1,false),(2,1,false),(3,3,true),(6,2,true),(8,1,false),(9,1,false)]⟩),
 (53,⟨10,144,.st [.sc (.int .i64 0),.sc (.int .i64 0),.sc (.int .i64 0),.sc (.bool false),.sc (.int .i64 0),.sc (.int .i64 0),.sl .fact,.sl .atom,.sl .cmd,.sl .cmd] [(0,1,false),(1,1,false),(2,1,false),(3,3,true),(6,2,true),(8,1,false),(9,1,false)]⟩),
 (61,⟨2,48,.ar 2 23 .cmds⟩),
 (65,⟨2,32,.bld 65⟩),
 (79,⟨2,32,.st [.sl .u8,.sc (.int .i64 0)] [(0,1,false),(1,1,false)]⟩),
 (80,⟨2,32,.st [.sl .u8,.sc (.int .i64 0)] [(0,1,false),(1,1,false)]⟩),
 (84,⟨1,24,.sl true 3 .int⟩),
 (91,⟨1,24,.sl true 9 .str⟩),
 (93,⟨3,24,.st [.sc (.int .i64 0),.sc (.int .i64 0),.sc (.int .i64 0)] [(0,1,false),(1,1,false),(2,1,false)]⟩),
 (94,⟨3,24,.st [.sc (.int .i64 0),.sc (.int .i64 0),.sc (.int .i64 0)] [(0,1,false),(1,1,false),(2,1,false)]⟩),
 (111,⟨9,144,.ar 9 9 .str⟩),
 (114,⟨3,24,.st [.sc (.int .i64 0),.sc (.int .i64 0),.sc (.int .i64 0)] [(0,1,false),(1,1,false),(2,1,false)]⟩),
 (125,⟨1,4,.sc (.int .u32 0)⟩),
 (135,⟨1,8,.sc (.int .u64 0)⟩)]
def tab:TypeId->Option TI:=lookT tabL
theorem tab2:tab 2=some ⟨1,8,.sc (.int .i64 0)⟩:=rfl
theorem tab3:tab 3=some ⟨1,8,.sc (.int .i64 0)⟩:=rfl
theorem tab4:tab 4=some ⟨1,1,.sc (.bool false)⟩:=rfl
theorem tab5:tab 5=some ⟨1,1,.sc (.int .u8 0)⟩:=rfl
theorem tab7:tab 7=some ⟨4,24,.st [.sc (.int .i64 0),.sc (.int .i64 0),.sc (.bool false),.sc (.int .u8 0)] [(0,1,false),(1,1,false),(2,1,false),(3,1,false)]⟩:=rfl
theorem tab9:tab 9=some ⟨1,16,.sc (.string ⟨#[]⟩)⟩:=rfl
theorem tab12:tab 12=some ⟨1,8,.sc (.int .u64 0)⟩:=rfl
theorem tab13:tab 13=some ⟨2,24,.st [.sc (.string ⟨#[]⟩),.sc (.int .u64 0)] [(0,1,false),(1,1,false)]⟩:=rfl
theorem tab21:tab 21=some ⟨1,4,.sc (.int .i32 0)⟩:=rfl
theorem tab22:tab 22=some ⟨1,24,.sl true 5 .u8⟩:=rfl
theorem tab23:tab 23=some ⟨1,24,.sl true 53 .cmd⟩:=rfl
theorem tab30:tab 30=some ⟨1,24,.sl false 46 .lcmd⟩:=rfl
theorem tab39:tab 39=some ⟨3,24,.st [.sc (.bool false),.sc (.int .i64 0),.sc (.int .i64 0)] [(0,1,false),(1,1,false),(2,1,false)]⟩:=rfl
theorem tab40:tab 40=some ⟨3,24,.st [.sc (.bool false),.sc (.int .i64 0),.sc (.int .i64 0)] [(0,1,false),(1,1,false),(2,1,false)]⟩:=rfl
theorem tab41:tab 41=some ⟨1,24,.sl false 40 .lfact⟩:=rfl
theorem tab42:tab 42=some ⟨1,24,.sl false 114 .latom⟩:=rfl
theorem tab43:tab 43=some ⟨2,48,.st [.sl .lfact,.sl .latom] [(0,1,false),(1,1,false)]⟩:=rfl
theorem tab44:tab 44=some ⟨2,48,.st [.sl .lfact,.sl .latom] [(0,1,false),(1,1,false)]⟩:=rfl
theorem tab45:tab 45=some ⟨10,144,.st [.sc (.int .i64 0),.sc (.int .i64 0),.sc (.int .i64 0),.sc (.bool false),.sc (.int .i64 0),.sc (.int .i64 0),.sl .lfact,.sl .latom,.sl .lcmd,.sl .lcmd] [(0,1,false),(1,1,false),(2,1,false),(3,3,true),(6,2,true),(8,1,false),(9,1,false)]⟩:=rfl
theorem tab46:tab 46=some ⟨10,144,.st [.sc (.int .i64 0),.sc (.int .i64 0),.sc (.int .i64 0),.sc (.bool false),.sc (.int .i64 0),.sc (.int .i64 0),.sl .lfact,.sl .latom,.sl .lcmd,.sl .lcmd] [(0,1,false),(1,1,false),(2,1,false),(3,3,true),(6,2,true),(8,1,false),(9,1,false)]⟩:=rfl
theorem tab47:tab 47=some ⟨3,24,.st [.sc (.bool false),.sc (.int .i64 0),.sc (.int .i64 0)] [(0,1,false),(1,1,false),(2,1,false)]⟩:=rfl
theorem tab48:tab 48=some ⟨1,24,.sl true 47 .fact⟩:=rfl
theorem tab49:tab 49=some ⟨1,24,.sl true 94 .atom⟩:=rfl
theorem tab50:tab 50=some ⟨2,48,.st [.sl .fact,.sl .atom] [(0,1,false),(1,1,false)]⟩:=rfl
theorem tab51:tab 51=some ⟨2,48,.st [.sl .fact,.sl .atom] [(0,1,false),(1,1,false)]⟩:=rfl
theorem tab52:tab 52=some ⟨10,144,.st [.sc (.int .i64 0),.sc (.int .i64 0),.sc (.int .i64 0),.sc (.bool false),.sc (.int .i64 0),.sc (.int .i64 0),.sl .fact,.sl .atom,.sl .cmd,.sl .cmd] [(0,1,false),(1,1,false),(2,1,false),(3,3,true),(6,2,true),(8,1,false),(9,1,false)]⟩:=rfl
theorem tab53:tab 53=some ⟨10,144,.st [.sc (.int .i64 0),.sc (.int .i64 0),.sc (.int .i64 0),.sc (.bool false),.sc (.int .i64 0),.sc (.int .i64 0),.sl .fact,.sl .atom,.sl .cmd,.sl .cmd] [(0,1,false),(1,1,false),(2,1,false),(3,3,true),(6,2,true),(8,1,false),(9,1,false)]⟩:=rfl
theorem tab61:tab 61=some ⟨2,48,.ar 2 23 .cmds⟩:=rfl
theorem tab65:tab 65=some ⟨2,32,.bld 65⟩:=rfl
theorem tab79:tab 79=some ⟨2,32,.st [.sl .u8,.sc (.int .i64 0)] [(0,1,false),(1,1,false)]⟩:=rfl
theorem tab80:tab 80=some ⟨2,32,.st [.sl .u8,.sc (.int .i64 0)] [(0,1,false),(1,1,false)]⟩:=rfl
theorem tab84:tab 84=some ⟨1,24,.sl true 3 .int⟩:=rfl
theorem tab91:tab 91=some ⟨1,24,.sl true 9 .str⟩:=rfl
theorem tab93:tab 93=some ⟨3,24,.st [.sc (.int .i64 0),.sc (.int .i64 0),.sc (.int .i64 0)] [(0,1,false),(1,1,false),(2,1,false)]⟩:=rfl
theorem tab94:tab 94=some ⟨3,24,.st [.sc (.int .i64 0),.sc (.int .i64 0),.sc (.int .i64 0)] [(0,1,false),(1,1,false),(2,1,false)]⟩:=rfl
theorem tab111:tab 111=some ⟨9,144,.ar 9 9 .str⟩:=rfl
theorem tab114:tab 114=some ⟨3,24,.st [.sc (.int .i64 0),.sc (.int .i64 0),.sc (.int .i64 0)] [(0,1,false),(1,1,false),(2,1,false)]⟩:=rfl
theorem tab125:tab 125=some ⟨1,4,.sc (.int .u32 0)⟩:=rfl
theorem tab135:tab 135=some ⟨1,8,.sc (.int .u64 0)⟩:=rfl
theorem tabOk:TabOk Tryd.prog E tab:=tab_ok (by kernel_rfl)
theorem mix:Tryd.prog.follows .mixedOrders=true:=by kernel_rfl
end Go.Proofs.YtkafaeeianofnaaDoor

namespace Go.Proofs.YtkafaeeianofnaaDoor
open Go.SE Go.RowKit
variable [Base]
set_option linter.unusedSectionVars false
set_option linter.unusedSimpArgs false
set_option linter.unusedVariables false
set_option maxHeartbeats 1000000
set_option maxRecDepth 100000
abbrev c_isBasic:Con:=⟨[.cmd],[.bool],fun _=>True,.inl fun (c,_)=>(decide (1<=c.kind) && decide (c.kind<=5),()),fun _=>0⟩
abbrev L_isBasic:List (FuncId × Con):=[]
abbrev P_isBasic:List (FuncId × PT):=[]
def VC_isBasic (c:GCmd) (k:Nat):Prop:=TN/\True/\True/\True/\True/\True/\(vcIf (decide ((1:Int)<=c.kind)) (True/\True/\True/\True/\True/\(((decide (c.kind<=(5:Int)),()):Bool × Unit)=(decide (1<=c.kind) && decide (c.kind<=5),()))/\True/\True/\True/\True/\TF) (True/\True/\(((false,()):Bool × Unit)=(decide (1<=c.kind) && decide (c.kind<=5),()))/\True/\True/\True/\True/\TF))
theorem vcn_isBasic (c:GCmd) (k:Nat):VC_isBasic c k:=by
 unfold VC_isBasic
 simp only [cln,Nat.reduceEqDiff,Nat.reduceLeDiff,Nat.reduceAdd]
 all_goals (try simp only [vcIf_iff,decide_eq_true_eq,decide_eq_false_iff_not,bne_iff_ne,ne_eq,beq_iff_eq,beq_eq_false_iff_ne,bne_eq_false_iff_eq,Bool.not_eq_true',Bool.not_eq_false',Int.ofNat_lt,Int.natCast_inj])
 all_goals (repeat' (first | apply And.intro | intro _))
 all_goals (repeat (cases ‹_/\_›))
 all_goals (first | omega | (simp_all;done) | grind [pvV,noA,fokC,fokB,prV,cvB,cvN] | skip)
theorem ok_isBasic:FnOk Tryd.prog E 45 c_isBasic :=
 fn_okQ (l:=L_isBasic) (lp:=P_isBasic) (hp:=fun _=>false) (gcs:=fun _=>none) (perm:=fun _=>[]) tabOk mix trivial trivial Tryd.func45 rfl (by kernel_rfl) (by decide) (by kernel_rfl) (anns:=fun x _=>fun _ _=>none) (fun ⟨c,_⟩ k _ _=>Eq.mp (by kernel_rfl) (vcn_isBasic c k)) tot_fn
abbrev c_noAssn:Con:=⟨[.asn],[.bool],fun (a,_)=>a.facts.length<=281474976710656/\a.atoms.length<=281474976710656,.inl fun (a,_)=>(noA a,()),fun _=>0⟩
abbrev L_noAssn:List (FuncId × Con):=[]
abbrev P_noAssn:List (FuncId × PT):=[]
def VC_noAssn (a:GAsn) (k:Nat):Prop:=TN/\True/\True/\True/\True/\True/\True/\(vcIf (((a.facts.length:Nat):Int) == (0:Int)) (True/\True/\True/\True/\True/\True/\(((((a.atoms.length:Nat):Int) == (0:Int),()):Bool × Unit)=(noA a,()))/\True/\True/\True/\True/\TF) (True/\True/\(((false,()):Bool × Unit)=(noA a,()))/\True/\True/\True/\True/\TF))
theorem vcn_noAssn (a:GAsn) (k:Nat) (hp:a.facts.length<=281474976710656/\a.atoms.length<=281474976710656):VC_noAssn a k:=by
 unfold VC_noAssn
 simp only [cln,Nat.reduceEqDiff,Nat.reduceLeDiff,Nat.reduceAdd]
 all_goals (try simp only [vcIf_iff,decide_eq_true_eq,decide_eq_false_iff_not,bne_iff_ne,ne_eq,beq_iff_eq,beq_eq_false_iff_ne,bne_eq_false_iff_eq,Bool.not_eq_true',Bool.not_eq_false',Int.ofNat_lt,Int.natCast_inj])
 all_goals (repeat' (first | apply And.intro | intro _))
 all_goals (repeat (cases ‹_/\_›))
 all_goals (first | omega | (simp_all;done) | grind [pvV,noA,fokC,fokB,prV,cvB,cvN] | skip)
theorem ok_noAssn:FnOk Tryd.prog E 46 c_noAssn :=
 fn_okQ (l:=L_noAssn) (lp:=P_noAssn) (hp:=fun _=>false) (gcs:=fun _=>none) (perm:=fun _=>[]) tabOk mix trivial trivial Tryd.func46 rfl (by kernel_rfl) (by decide) (by kernel_rfl) (anns:=fun x _=>fun _ _=>none) (fun ⟨a,_⟩ k hp _=>Eq.mp (by kernel_rfl) (vcn_noAssn a k hp)) tot_fn
abbrev c_isPV:Con:=⟨[.int],[.bool],fun _=>True,.inl fun (t,_)=>(pvV t,()),fun _=>0⟩
abbrev L_isPV:List (FuncId × Con):=[]
abbrev P_isPV:List (FuncId × PT):=[]
def VC_isPV (t:Int) (k:Nat):Prop:=True/\True/\True/\True/\(vcIf (decide ((1:Int)<=t)) (True/\True/\True/\True/\(((decide (t<=(4:Int)),()):Bool × Unit)=(pvV t,()))/\True/\True/\True/\True/\TF) (True/\True/\(((false,()):Bool × Unit)=(pvV t,()))/\True/\True/\True/\True/\TF))
theorem vcn_isPV (t:Int) (k:Nat):VC_isPV t k:=by
 unfold VC_isPV
 simp only [cln,Nat.reduceEqDiff,Nat.reduceLeDiff,Nat.reduceAdd]
 all_goals (try simp only [vcIf_iff,decide_eq_true_eq,decide_eq_false_iff_not,bne_iff_ne,ne_eq,beq_iff_eq,beq_eq_false_iff_ne,bne_eq_false_iff_eq,Bool.not_eq_true',Bool.not_eq_false',Int.ofNat_lt,Int.natCast_inj])
 all_goals (repeat' (first | apply And.intro | intro _))
 all_goals (repeat (cases ‹_/\_›))
 all_goals (first | omega | (simp_all;done) | grind [pvV,noA,fokC,fokB,prV,cvB,cvN] | skip)
theorem ok_isPV:FnOk Tryd.prog E 47 c_isPV :=
 fn_okQ (l:=L_isPV) (lp:=P_isPV) (hp:=fun _=>false) (gcs:=fun _=>none) (perm:=fun _=>[]) tabOk mix trivial trivial Tryd.func47 rfl (by kernel_rfl) (by decide) (by kernel_rfl) (anns:=fun x _=>fun _ _=>none) (fun ⟨t,_⟩ k _ _=>Eq.mp (by kernel_rfl) (vcn_isPV t k)) tot_fn
abbrev c_isTerm:Con:=⟨[.int],[.bool],fun _=>True,.inl fun (t,_)=>(isT t,()),fun _=>0⟩
abbrev L_isTerm:List (FuncId × Con):=[]
abbrev P_isTerm:List (FuncId × PT):=[]
def VC_isTerm (t:Int) (k:Nat):Prop:=True/\True/\True/\True/\(vcIf (decide ((0:Int)<=t)) (True/\True/\True/\True/\(((decide (t<=(8:Int)),()):Bool × Unit)=(isT t,()))/\True/\True/\True/\True/\TF) (True/\True/\(((false,()):Bool × Unit)=(isT t,()))/\True/\True/\True/\True/\TF))
theorem vcn_isTerm (t:Int) (k:Nat):VC_isTerm t k:=by
 unfold VC_isTerm
 simp only [cln,Nat.reduceEqDiff,Nat.reduceLeDiff,Nat.reduceAdd]
 cases h:decide (0<=t) <;> simp [vcIf,isT,h]
theorem ok_isTerm:FnOk Tryd.prog E 48 c_isTerm :=
 fn_okQ (l:=L_isTerm) (lp:=P_isTerm) (hp:=fun _=>false) (gcs:=fun _=>none) (perm:=fun _=>[]) tabOk mix trivial trivial Tryd.func48 rfl (by kernel_rfl) (by decide) (by kernel_rfl) (anns:=fun x _=>fun _ _=>none) (fun ⟨t,_⟩ k _ _=>Eq.mp (by kernel_rfl) (vcn_isTerm t k)) tot_fn
abbrev c_iFactValid:Con:=⟨[.fact],[.bool],fun _=>True,.inl fun (f,_)=>(fV f,()),fun _=>0⟩
abbrev L_iFactValid:List (FuncId × Con):=[(48,c_isTerm)]
abbrev P_iFactValid:List (FuncId × PT):=[]
def VC_iFactValid (f:GFact) (k:Nat):Prop:=TN/\True/\True/\True/\(True/\True/\True)/\True/\(vcIf (isT f.a) (True/\True/\(True/\True/\True)/\True/\True/\((((isT f.b),()):Bool × Unit)=(fV f,()))/\True/\True/\True/\True/\TF) (True/\True/\(((false,()):Bool × Unit)=(fV f,()))/\True/\True/\True/\True/\TF))
theorem vcn_iFactValid (f:GFact) (k:Nat):VC_iFactValid f k:=by
 unfold VC_iFactValid
 simp only [cln,Nat.reduceEqDiff,Nat.reduceLeDiff,Nat.reduceAdd]
 cases h:isT f.a <;> simp [vcIf,fV,h]
theorem ok_iFactValid:FnOk Tryd.prog E 49 c_iFactValid :=
 fn_okQ (l:=L_iFactValid) (lp:=P_iFactValid) (hp:=fun _=>false) (gcs:=fun _=>none) (perm:=fun _=>[]) tabOk mix ⟨ok_isTerm,trivial⟩ trivial Tryd.func49 rfl (by kernel_rfl) (by decide) (by kernel_rfl) (anns:=fun x _=>fun _ _=>none) (fun ⟨f,_⟩ k _ _=>Eq.mp (by kernel_rfl) (vcn_iFactValid f k)) tot_fn
abbrev c_iFactsValid:Con:=⟨[.sl .fact],[.bool],fun (l,_)=>l.length<=281474976710656,.inl fun (l,_)=>(fsV l,()),fun _=>0⟩
abbrev L_iFactsValid:List (FuncId × Con):=[(49,c_iFactValid)]
abbrev P_iFactsValid:List (FuncId × PT):=[]
def an_iFactsValid (l:List GFact):Nat->St->Option Ann
 | 4,se=>some { α:=Nat,ok:=fun i=>i<=l.length/\l.length<=12/\(l.take i).all fV=true,mu:=fun i=>l.length - i,i0:=fun _=>0,nx:=fun a _=>(fun i=>i+1) a,live:=[8,9],sets:=fun i=>[(10,sv (.int .i64 i))],mids:=[],blks:=fun i=>[],owns:=fun i=>[],rd:=fun r _=>r,base:=100000 }
 | _,_=>none
def VC_iFactsValid_1 (l:List GFact):Prop:=True/\(((false,()):Bool × Unit)=(fsV l,()))/\True/\True/\True/\True/\TF
def VC_iFactsValid_2 (l:List GFact):Prop:=RL [.s (.c (.d (.arr .fact l))),.s (.c (.d (.val (.int .i64 ((l.length:Nat):Int)))))]
def VC_iFactsValid (l:List GFact) (k:Nat):Prop:=True/\True/\True/\True/\(vcIf (decide ((12:Int) < ((l.length:Nat):Int))) (VC_iFactsValid_1 l) (True/\True/\True/\((0<=l.length/\l.length<=12/\(l.take 0).all fV=true)/\TT/\(VC_iFactsValid_2 l)/\(([.s (.c (.d (.val (.int .i64 (0:Int)))))]:List S)=[.s (.c (.d (.val (.int .i64 ((0:Nat):Int)))))])/\(RM [])/\(RM [])/\True/\TT)/\(∀ i1:Nat,(i1<=l.length/\l.length<=12/\(l.take i1).all fV=true)->True/\(vcIf (decide (((i1:Nat):Int) < ((l.length:Nat):Int))) ((0<=((i1:Nat):Int)/\((i1:Nat):Int) < ((l.length:Nat):Int))/\True/\(TN/\True)/\(TF/\TF)/\True/\(True/\True/\True)/\True/\(vcIf (!(fV (l.getD i1 (⟨false,0,0⟩:GFact)))) (VC_iFactsValid_1 l) ((inK .i64 (((i1:Nat):Int)+(1:Int)))/\True/\((i1+1)<=l.length/\l.length<=12/\(l.take (i1+1)).all fV=true)/\(l.length - (i1+1) < l.length - i1)/\TT/\(VC_iFactsValid_2 l)/\(([.s (.c (.d (.val (.int .i64 (((i1:Nat):Int)+(1:Int))))))]:List S)=[.s (.c (.d (.val (.int .i64 (((i1+1):Nat):Int)))))])/\(RM [])/\(RM [])/\True/\TT))) (True/\(((true,()):Bool × Unit)=(fsV l,()))/\True/\True/\True/\True/\TF)))))
theorem vcn_iFactsValid (l:List GFact) (k:Nat) (hp:l.length<=281474976710656):VC_iFactsValid l k:=by
 unfold VC_iFactsValid VC_iFactsValid_2 VC_iFactsValid_1
 simp only [cln,Nat.reduceEqDiff,Nat.reduceLeDiff,Nat.reduceAdd]
 all_goals (try simp only [opn])
 all_goals (repeat' (first | apply And.intro | intro _))
 all_goals (first | omega | (simp_all;done) | grind [fsV,take_all,all_take,take_full,Ty.zero])
theorem ok_iFactsValid:FnOk Tryd.prog E 72 c_iFactsValid :=
 fn_okQ (l:=L_iFactsValid) (lp:=P_iFactsValid) (hp:=fun _=>false) (gcs:=fun _=>none) (perm:=fun _=>[]) tabOk mix ⟨ok_iFactValid,trivial⟩ trivial Tryd.func72 rfl (by kernel_rfl) (by decide) (by kernel_rfl) (anns:=fun x _=>an_iFactsValid x.1) (fun ⟨l,_⟩ k hp _=>Eq.mp (by kernel_rfl) (vcn_iFactsValid l k hp)) tot_fn
abbrev c_iAtomValid:Con:=⟨[.atom],[.bool],fun _=>True,.inl fun (x,_)=>(atV x,()),fun _=>0⟩
abbrev L_iAtomValid:List (FuncId × Con):=[(48,c_isTerm)]
abbrev P_iAtomValid:List (FuncId × PT):=[]
def VC_iAtomValid_1 (x:GAtom):Prop:=True/\True/\(((false,()):Bool × Unit)=(atV x,()))/\True/\True/\True/\True/\TF
def VC_iAtomValid_2 (x:GAtom):Prop:=True/\True/\(True/\True/\True)/\True/\True/\(vcIf (isT x.a) (True/\True/\(True/\True/\True)/\True/\True/\((((isT x.b),()):Bool × Unit)=(atV x,()))/\True/\True/\True/\True/\TF) (VC_iAtomValid_1 x))
def VC_iAtomValid (x:GAtom) (k:Nat):Prop:=TN/\True/\True/\True/\True/\True/\(vcIf (x.kind == (1:Int)) (True/\True/\(VC_iAtomValid_2 x)) (True/\True/\True/\True/\True/\(vcIf (x.kind == (2:Int)) (VC_iAtomValid_2 x) (True/\True/\(VC_iAtomValid_1 x)))))
theorem vcn_iAtomValid (x:GAtom) (k:Nat):VC_iAtomValid x k:=by
 unfold VC_iAtomValid VC_iAtomValid_2 VC_iAtomValid_1
 simp only [cln,Nat.reduceEqDiff,Nat.reduceLeDiff,Nat.reduceAdd]
 all_goals (try simp only [opn])
 all_goals (repeat' (first | apply And.intro | intro _))
 all_goals (first | omega | (simp_all;done) | grind [atV])
theorem ok_iAtomValid:FnOk Tryd.prog E 73 c_iAtomValid :=
 fn_okQ (l:=L_iAtomValid) (lp:=P_iAtomValid) (hp:=fun _=>false) (gcs:=fun _=>none) (perm:=fun _=>[]) tabOk mix ⟨ok_isTerm,trivial⟩ trivial Tryd.func73 rfl (by kernel_rfl) (by decide) (by kernel_rfl) (anns:=fun x _=>fun _ _=>none) (fun ⟨x,_⟩ k _ _=>Eq.mp (by kernel_rfl) (vcn_iAtomValid x k)) tot_fn
abbrev c_iAssertionValid:Con:=⟨[.asn],[.bool],fun (a,_)=>a.facts.length<=281474976710656/\a.atoms.length<=281474976710656,.inl fun (a,_)=>(asV a,()),fun _=>0⟩
abbrev L_iAssertionValid:List (FuncId × Con):=[(72,c_iFactsValid),(73,c_iAtomValid)]
abbrev P_iAssertionValid:List (FuncId × PT):=[]
def an_iAssertionValid (a:GAsn):Nat->St->Option Ann
 | 4,se=>some { α:=Nat,ok:=fun i=>i<=a.atoms.length/\a.atoms.length<=6/\fsV a.facts=true/\(a.atoms.take i).all atV=true,mu:=fun i=>a.atoms.length - i,i0:=fun _=>0,nx:=fun a _=>(fun i=>i+1) a,live:=[16,17],sets:=fun i=>[(18,sv (.int .i64 i))],mids:=[],blks:=fun i=>[],owns:=fun i=>[],rd:=fun r _=>r,base:=100000 }
 | _,_=>none
def VC_iAssertionValid_1 (a:GAsn):Prop:=True/\(((false,()):Bool × Unit)=(asV a,()))/\True/\True/\True/\True/\TF
def VC_iAssertionValid_2 (a:GAsn):Prop:=RL [.s (.c (.d (.arr .atom a.atoms))),.s (.c (.d (.val (.int .i64 ((a.atoms.length:Nat):Int)))))]
def VC_iAssertionValid (a:GAsn) (k:Nat):Prop:=TN/\True/\True/\True/\((a.facts.length<=281474976710656)/\True/\True)/\True/\True/\(vcIf (!(fsV a.facts)) (True/\(VC_iAssertionValid_1 a)) (True/\True/\True/\True/\True/\(vcIf (decide ((6:Int) < ((a.atoms.length:Nat):Int))) (VC_iAssertionValid_1 a) (True/\True/\True/\True/\((0<=a.atoms.length/\a.atoms.length<=6/\fsV a.facts=true/\(a.atoms.take 0).all atV=true)/\TT/\(VC_iAssertionValid_2 a)/\(([.s (.c (.d (.val (.int .i64 (0:Int)))))]:List S)=[.s (.c (.d (.val (.int .i64 ((0:Nat):Int)))))])/\(RM [])/\(RM [])/\True/\TT)/\(∀ i1:Nat,(i1<=a.atoms.length/\a.atoms.length<=6/\fsV a.facts=true/\(a.atoms.take i1).all atV=true)->True/\(vcIf (decide (((i1:Nat):Int) < ((a.atoms.length:Nat):Int))) ((0<=((i1:Nat):Int)/\((i1:Nat):Int) < ((a.atoms.length:Nat):Int))/\True/\(TN/\True)/\(TF/\TF)/\True/\(True/\True/\True)/\True/\(vcIf (!(atV (a.atoms.getD i1 (⟨0,0,0⟩:GAtom)))) (VC_iAssertionValid_1 a) ((inK .i64 (((i1:Nat):Int)+(1:Int)))/\True/\((i1+1)<=a.atoms.length/\a.atoms.length<=6/\fsV a.facts=true/\(a.atoms.take (i1+1)).all atV=true)/\(a.atoms.length - (i1+1) < a.atoms.length - i1)/\TT/\(VC_iAssertionValid_2 a)/\(([.s (.c (.d (.val (.int .i64 (((i1:Nat):Int)+(1:Int))))))]:List S)=[.s (.c (.d (.val (.int .i64 (((i1+1):Nat):Int)))))])/\(RM [])/\(RM [])/\True/\TT))) (True/\(((true,()):Bool × Unit)=(asV a,()))/\True/\True/\True/\True/\TF)))))))
theorem vcn_iAssertionValid (a:GAsn) (k:Nat) (hp:a.facts.length<=281474976710656/\a.atoms.length<=281474976710656):VC_iAssertionValid a k:=by
 unfold VC_iAssertionValid VC_iAssertionValid_2 VC_iAssertionValid_1
 simp only [cln,Nat.reduceEqDiff,Nat.reduceLeDiff,Nat.reduceAdd]
 all_goals (try simp only [opn])
 all_goals (repeat' (first | apply And.intro | intro _))
 all_goals (first | omega | (simp_all;done) | grind [asV,take_all,all_take,take_full,Ty.zero])
theorem ok_iAssertionValid:FnOk Tryd.prog E 50 c_iAssertionValid :=
 fn_okQ (l:=L_iAssertionValid) (lp:=P_iAssertionValid) (hp:=fun _=>false) (gcs:=fun _=>none) (perm:=fun _=>[]) tabOk mix ⟨ok_iFactsValid,ok_iAtomValid,trivial⟩ trivial Tryd.func50 rfl (by kernel_rfl) (by decide) (by kernel_rfl) (anns:=fun x _=>an_iAssertionValid x.1) (fun ⟨a,_⟩ k hp _=>Eq.mp (by kernel_rfl) (vcn_iAssertionValid a k hp)) tot_fn
abbrev c_fieldsValid:Con:=⟨[.cmd],[.bool],fun (c,_)=>BdC c,.inl fun (c,_)=>(fokC c,()),fun _=>0⟩
abbrev L_fieldsValid:List (FuncId × Con):=[(45,c_isBasic),(46,c_noAssn),(47,c_isPV),(48,c_isTerm),(49,c_iFactValid),(50,c_iAssertionValid)]
abbrev P_fieldsValid:List (FuncId × PT):=[]
def VC_fieldsValid_1 (c:GCmd):Prop:=True/\(((false,()):Bool × Unit)=(fokC c,()))/\True/\True/\True/\True/\TF
def VC_fieldsValid_2 (c:GCmd):Prop:=True/\(VC_fieldsValid_1 c)
def VC_fieldsValid_3 (c:GCmd):Prop:=True/\(VC_fieldsValid_2 c)
def VC_fieldsValid_4 (c:GCmd):Prop:=True/\(VC_fieldsValid_3 c)
def VC_fieldsValid_5 (c:GCmd):Prop:=True/\(VC_fieldsValid_4 c)
def VC_fieldsValid_6 (c:GCmd):Prop:=True/\(VC_fieldsValid_5 c)
def VC_fieldsValid_7 (c:GCmd):Prop:=True/\(VC_fieldsValid_6 c)
def VC_fieldsValid_8 (c:GCmd):Prop:=(c.inv.facts.length<=281474976710656/\c.inv.atoms.length<=281474976710656)/\True/\True
def VC_fieldsValid_9 (c:GCmd):Prop:=True/\True/\(True/\True/\True)/\True/\True/\((((isT c.b),()):Bool × Unit)=(fokC c,()))/\True/\True/\True/\True/\TF
def VC_fieldsValid_10 (c:GCmd):Prop:=True/\True/\(True/\True/\True)/\True/\(vcIf (pvV c.a) (VC_fieldsValid_9 c) (VC_fieldsValid_2 c))
def VC_fieldsValid_11 (c:GCmd):Prop:=True/\True/\True/\True/\True/\(((c.b == (0:Int),()):Bool × Unit)=(fokC c,()))/\True/\True/\True/\True/\TF
def VC_fieldsValid_12 (c:GCmd):Prop:=True/\True/\(vcIf (c.kind == (3:Int)) (True/\True/\(True/\True/\True)/\True/\(vcIf (isT c.a) (VC_fieldsValid_9 c) (VC_fieldsValid_2 c))) (True/\True/\(vcIf (c.kind == (4:Int)) (True/\True/\(True/\True/\True)/\True/\(vcIf (pvV c.a) (VC_fieldsValid_11 c) (VC_fieldsValid_2 c))) (True/\True/\(vcIf (c.kind == (5:Int)) (True/\True/\(True/\True/\True)/\True/\(vcIf (isT c.a) (VC_fieldsValid_11 c) (VC_fieldsValid_2 c))) (True/\True/\(vcIf (c.kind == (6:Int)) (True/\True/\True/\True/\(vcIf (c.a == (0:Int)) (True/\True/\True/\True/\True/\(vcIf (c.b == (0:Int)) (True/\True/\(True/\True/\True)/\True/\True/\(vcIf (fV c.test) (True/\True/\(VC_fieldsValid_8 c)/\True/\True/\((((noA c.inv),()):Bool × Unit)=(fokC c,()))/\True/\True/\True/\True/\TF) (VC_fieldsValid_2 c))) (VC_fieldsValid_4 c))) (VC_fieldsValid_6 c))) (True/\True/\(vcIf (c.kind == (7:Int)) (True/\True/\True/\True/\(vcIf (c.a == (0:Int)) (True/\True/\True/\True/\True/\(vcIf (c.b == (0:Int)) (True/\True/\(True/\True/\True)/\True/\True/\(vcIf (fV c.test) (True/\True/\(VC_fieldsValid_8 c)/\True/\True/\(vcIf (asV c.inv) (True/\True/\True/\True/\True/\True/\(((((c.els.length:Nat):Int) == (0:Int),()):Bool × Unit)=(fokC c,()))/\True/\True/\True/\True/\TF) (VC_fieldsValid_2 c))) (VC_fieldsValid_4 c))) (VC_fieldsValid_6 c))) (True/\(VC_fieldsValid_7 c)))) (VC_fieldsValid_1 c))))))))))
def VC_fieldsValid_13 (c:GCmd):Prop:=True/\True/\True/\True/\(vcIf (c.kind == (1:Int)) (vcIf (c.kind == (1:Int)) (VC_fieldsValid_10 c) (VC_fieldsValid_12 c)) (True/\True/\(vcIf (c.kind == (2:Int)) (VC_fieldsValid_10 c) (VC_fieldsValid_12 c))))
def VC_fieldsValid (c:GCmd) (k:Nat):Prop:=TN/\True/\True/\(True/\True/\True)/\True/\(vcIf (decide (1<=(GCmd.mk c.kind c.a c.b c.test c.inv c.body c.els).kind) && decide ((GCmd.mk c.kind c.a c.b c.test c.inv c.body c.els).kind<=5)) (True/\True/\True/\True/\True/\(vcIf (!((c.test.eq == false) && ((c.test.a == (0:Int)) && ((c.test.b == (0:Int)) && true)))) (VC_fieldsValid_7 c) (True/\True/\(VC_fieldsValid_8 c)/\True/\True/\True/\(vcIf (!(noA c.inv)) (VC_fieldsValid_5 c) (True/\True/\True/\True/\True/\True/\(vcIf (decide ((0:Int) < ((c.body.length:Nat):Int))) (VC_fieldsValid_3 c) (True/\True/\True/\True/\True/\True/\(vcIf (decide ((0:Int) < ((c.els.length:Nat):Int))) (VC_fieldsValid_1 c) (VC_fieldsValid_13 c))))))))) (True/\(VC_fieldsValid_13 c)))
theorem vcn_fieldsValid (c:GCmd) (k:Nat) (hp:BdC c):VC_fieldsValid c k:=by
 unfold VC_fieldsValid VC_fieldsValid_13 VC_fieldsValid_12 VC_fieldsValid_11 VC_fieldsValid_10 VC_fieldsValid_9 VC_fieldsValid_8 VC_fieldsValid_7 VC_fieldsValid_6 VC_fieldsValid_5 VC_fieldsValid_4 VC_fieldsValid_3 VC_fieldsValid_2 VC_fieldsValid_1
 simp only [cln,Nat.reduceEqDiff,Nat.reduceLeDiff,Nat.reduceAdd,GCmd.eta]
 have b1:=hp.f
 have b2:=hp.a
 have ht:=gf_zero c.test
 all_goals (try simp only [vcIf_iff,← gf_zero,decide_eq_true_eq,decide_eq_false_iff_not,bne_iff_ne,ne_eq,beq_iff_eq,beq_eq_false_iff_ne,bne_eq_false_iff_eq,Bool.not_eq_true',Bool.not_eq_false',Int.ofNat_lt,Int.natCast_inj])
 all_goals (repeat' (first | apply And.intro | intro _))
 all_goals (repeat (cases ‹_/\_›))
 all_goals (first | omega | (simp_all;done) | grind [pvV,noA,fokC,fokB,prV,cvB,cvN] | skip)
theorem ok_fieldsValid:FnOk Tryd.prog E 28 c_fieldsValid :=
 fn_okQ (l:=L_fieldsValid) (lp:=P_fieldsValid) (hp:=fun _=>false) (gcs:=fun _=>none) (perm:=fun _=>[]) tabOk mix ⟨ok_isBasic,ok_noAssn,ok_isPV,ok_isTerm,ok_iFactValid,ok_iAssertionValid,trivial⟩ trivial Tryd.func28 rfl (by kernel_rfl) (by decide) (by kernel_rfl) (anns:=fun x _=>fun _ _=>none) (fun ⟨c,_⟩ k hp _=>Eq.mp (by kernel_rfl) (vcn_fieldsValid c k hp)) tot_fn
abbrev c_countValid:Con:=⟨[.sl .cmd,.int,.int],[.int,.bool],fun (l,d,r,_)=>BdL l/\1<=d/\d<=5/\0<=r/\r<=16,.inl fun (l,d,r,_)=>(cvN d r l,cvB d r l,()),fun _=>0⟩
abbrev mu_countValid:Args c_countValid.aks->Nat:=fun (l,d,r,_)=>ndL l
abbrev L_countValid (m:Nat):List (FuncId × Con):=[(17,c_countValid.lim mu_countValid m),(28,c_fieldsValid)]
abbrev P_countValid:List (FuncId × PT):=[]
def an_countValid (l:List GCmd) (d:Int) (r:Int):Nat->St->Option Ann
 | 5,se=>some { α:=Nat,ok:=fun i=>i<=l.length/\(l.length=0 ∨ d<=4)/\shL (5 - d) (l.take i)=true/\l.length+ndL (l.take i) - i<=r,mu:=fun i=>l.length - i,i0:=fun _=>0,nx:=fun a _=>(fun i=>i+1) a,live:=[1,2,30,31],sets:=fun i=>[(32,sv (.int .i64 i)),(8,sv (.int .i64 (l.length+ndL (l.take i) - i)))],mids:=[],blks:=fun i=>[],owns:=fun i=>[],rd:=fun r _=>r,base:=100000 }
 | 10,se=>some { α:=Nat,ok:=fun j=>j<=2/\((vcsAt se 43).take j).all (shL (4 - d))=true/\intAt se 8+sumN ((vcsAt se 43).take j)<=r,mu:=fun j=>2 - j,i0:=fun _=>0,nx:=fun a _=>(fun j=>j+1) a,live:=[1,2,30,31,32,43],sets:=fun j=>[(44,sv (.int .i64 j)),(8,sv (.int .i64 (intAt se 8+sumN ((vcsAt se 43).take j))))],mids:=[],blks:=fun j=>[],owns:=fun j=>[],rd:=fun r _=>r,base:=200000 }
 | _,_=>none
def VC_countValid_1 (d:Int) (r:Int) (l:List GCmd):Prop:=True/\True/\((((0:Int),false,()):Int × Bool × Unit)=(cvN d r l,cvB d r l,()))/\True/\True/\True/\True/\TF
def VC_countValid_2 (d:Int) (r:Int) (l:List GCmd):Prop:=RL [.s (.c (.d (.val (.int .i64 d)))),.s (.c (.d (.val (.int .i64 r)))),.s (.c (.d (.arr .cmd l))),.s (.c (.d (.val (.int .i64 ((l.length:Nat):Int)))))]
def VC_countValid_3 (d:Int) (r:Int) (l:List GCmd) (i1:Nat):Prop:=RL [.s (.c (.d (.val (.int .i64 d)))),.s (.c (.d (.val (.int .i64 r)))),.s (.c (.d (.arr .cmd l))),.s (.c (.d (.val (.int .i64 ((l.length:Nat):Int))))),.s (.c (.d (.val (.int .i64 ((i1:Nat):Int))))),.s (.vec .cmds ([(l.getD i1 (Ty.zero .cmd)).body,(l.getD i1 (Ty.zero .cmd)).els]:List (List GCmd)))]
def VC_countValid_4 (d:Int) (r:Int) (l:List GCmd) (i1:Nat) (j2:Nat) (m:Nat):Prop:=(True/\(inK .i64 (d+(1:Int)))/\True/\True/\(inK .i64 (r - ((l.length+ndL (l.take i1) - i1:Int)+sumN ((([(l.getD i1 (Ty.zero .cmd)).body,(l.getD i1 (Ty.zero .cmd)).els]:List (List GCmd))).take j2):Int)))/\(((BdL (([(l.getD i1 (Ty.zero .cmd)).body,(l.getD i1 (Ty.zero .cmd)).els]:List (List GCmd)).getD j2 ([]:List GCmd))/\1<=(d+(1:Int))/\(d+(1:Int))<=5/\0<=(r - ((l.length+ndL (l.take i1) - i1:Int)+sumN ((([(l.getD i1 (Ty.zero .cmd)).body,(l.getD i1 (Ty.zero .cmd)).els]:List (List GCmd))).take j2):Int))/\(r - ((l.length+ndL (l.take i1) - i1:Int)+sumN ((([(l.getD i1 (Ty.zero .cmd)).body,(l.getD i1 (Ty.zero .cmd)).els]:List (List GCmd))).take j2):Int))<=16)/\ndL (([(l.getD i1 (Ty.zero .cmd)).body,(l.getD i1 (Ty.zero .cmd)).els]:List (List GCmd)).getD j2 ([]:List GCmd)) < m)/\True/\True)/\True/\True/\True/\True/\True/\True/\True/\(vcIf (!(cvB (d+(1:Int)) (r - ((l.length+ndL (l.take i1) - i1:Int)+sumN ((([(l.getD i1 (Ty.zero .cmd)).body,(l.getD i1 (Ty.zero .cmd)).els]:List (List GCmd))).take j2):Int)) (([(l.getD i1 (Ty.zero .cmd)).body,(l.getD i1 (Ty.zero .cmd)).els]:List (List GCmd)).getD j2 ([]:List GCmd)))) (VC_countValid_1 d r l) (True/\True/\(inK .i64 (((l.length+ndL (l.take i1) - i1:Int)+sumN ((([(l.getD i1 (Ty.zero .cmd)).body,(l.getD i1 (Ty.zero .cmd)).els]:List (List GCmd))).take j2):Int)+(cvN (d+(1:Int)) (r - ((l.length+ndL (l.take i1) - i1:Int)+sumN ((([(l.getD i1 (Ty.zero .cmd)).body,(l.getD i1 (Ty.zero .cmd)).els]:List (List GCmd))).take j2):Int)) (([(l.getD i1 (Ty.zero .cmd)).body,(l.getD i1 (Ty.zero .cmd)).els]:List (List GCmd)).getD j2 ([]:List GCmd)))))/\True/\(inK .i64 (((j2:Nat):Int)+(1:Int)))/\True/\((j2+1)<=2/\((([(l.getD i1 (Ty.zero .cmd)).body,(l.getD i1 (Ty.zero .cmd)).els]:List (List GCmd))).take (j2+1)).all (shL (4 - d))=true/\(l.length+ndL (l.take i1) - i1:Int)+sumN ((([(l.getD i1 (Ty.zero .cmd)).body,(l.getD i1 (Ty.zero .cmd)).els]:List (List GCmd))).take (j2+1))<=r)/\(2 - (j2+1) < 2 - j2)/\TT/\(VC_countValid_3 d r l i1)/\(([.s (.c (.d (.val (.int .i64 (((j2:Nat):Int)+(1:Int)))))),.s (.c (.d (.val (.int .i64 (((l.length+ndL (l.take i1) - i1:Int)+sumN ((([(l.getD i1 (Ty.zero .cmd)).body,(l.getD i1 (Ty.zero .cmd)).els]:List (List GCmd))).take j2):Int)+(cvN (d+(1:Int)) (r - ((l.length+ndL (l.take i1) - i1:Int)+sumN ((([(l.getD i1 (Ty.zero .cmd)).body,(l.getD i1 (Ty.zero .cmd)).els]:List (List GCmd))).take j2):Int)) (([(l.getD i1 (Ty.zero .cmd)).body,(l.getD i1 (Ty.zero .cmd)).els]:List (List GCmd)).getD j2 ([]:List GCmd))))))))]:List S)=[.s (.c (.d (.val (.int .i64 (((j2+1):Nat):Int))))),.s (.c (.d (.val (.int .i64 ((l.length+ndL (l.take i1) - i1:Int)+sumN ((([(l.getD i1 (Ty.zero .cmd)).body,(l.getD i1 (Ty.zero .cmd)).els]:List (List GCmd))).take (j2+1)):Int)))))])/\(RM [])/\(RM [])/\True/\TT)))
def VC_countValid_5 (i1:Nat) (l:List GCmd) (d:Int) (r:Int) (m:Nat):Prop:=(i1<=l.length/\(l.length=0 ∨ d<=4)/\shL (5 - d) (l.take i1)=true/\l.length+ndL (l.take i1) - i1<=r)->True/\(vcIf (decide (((i1:Nat):Int) < ((l.length:Nat):Int))) ((0<=((i1:Nat):Int)/\((i1:Nat):Int) < ((l.length:Nat):Int))/\True/\(TN/\TN/\TN/\TN/\TN/\True)/\(TF/\TF)/\True/\((BdC (GCmd.mk ((l.getD i1 (Ty.zero .cmd)).kind) ((l.getD i1 (Ty.zero .cmd)).a) ((l.getD i1 (Ty.zero .cmd)).b) ((l.getD i1 (Ty.zero .cmd)).test) ((l.getD i1 (Ty.zero .cmd)).inv) ((l.getD i1 (Ty.zero .cmd)).body) ((l.getD i1 (Ty.zero .cmd)).els)))/\True/\True)/\True/\(vcIf (!(fokC (GCmd.mk ((l.getD i1 (Ty.zero .cmd)).kind) ((l.getD i1 (Ty.zero .cmd)).a) ((l.getD i1 (Ty.zero .cmd)).b) ((l.getD i1 (Ty.zero .cmd)).test) ((l.getD i1 (Ty.zero .cmd)).inv) ((l.getD i1 (Ty.zero .cmd)).body) ((l.getD i1 (Ty.zero .cmd)).els)))) (VC_countValid_1 d r l) (True/\True/\True/\True/\True/\True/\((0<=2/\((([(l.getD i1 (Ty.zero .cmd)).body,(l.getD i1 (Ty.zero .cmd)).els]:List (List GCmd))).take 0).all (shL (4 - d))=true/\(l.length+ndL (l.take i1) - i1:Int)+sumN ((([(l.getD i1 (Ty.zero .cmd)).body,(l.getD i1 (Ty.zero .cmd)).els]:List (List GCmd))).take 0)<=r)/\TT/\(VC_countValid_3 d r l i1)/\(([.s (.c (.d (.val (.int .i64 (0:Int))))),.s (.c (.d (.val (.int .i64 (l.length+ndL (l.take i1) - i1:Int)))))]:List S)=[.s (.c (.d (.val (.int .i64 ((0:Nat):Int))))),.s (.c (.d (.val (.int .i64 ((l.length+ndL (l.take i1) - i1:Int)+sumN ((([(l.getD i1 (Ty.zero .cmd)).body,(l.getD i1 (Ty.zero .cmd)).els]:List (List GCmd))).take 0):Int)))))])/\(RM [])/\(RM [])/\True/\TT)/\(∀ j2:Nat,(j2<=2/\((([(l.getD i1 (Ty.zero .cmd)).body,(l.getD i1 (Ty.zero .cmd)).els]:List (List GCmd))).take j2).all (shL (4 - d))=true/\(l.length+ndL (l.take i1) - i1:Int)+sumN ((([(l.getD i1 (Ty.zero .cmd)).body,(l.getD i1 (Ty.zero .cmd)).els]:List (List GCmd))).take j2)<=r)->True/\(vcIf (decide (((j2:Nat):Int) < (2:Int))) ((0<=((j2:Nat):Int)/\((j2:Nat):Int) < ((2:Nat):Int)/\([(l.getD i1 (Ty.zero .cmd)).body,(l.getD i1 (Ty.zero .cmd)).els]:List (List GCmd)).length=2)/\True/\True/\(VC_countValid_4 d r l i1 j2 m)) ((inK .i64 (((i1:Nat):Int)+(1:Int)))/\True/\((i1+1)<=l.length/\(l.length=0 ∨ d<=4)/\shL (5 - d) (l.take (i1+1))=true/\l.length+ndL (l.take (i1+1)) - (i1+1)<=r)/\(l.length - (i1+1) < l.length - i1)/\TT/\(VC_countValid_2 d r l)/\(([.s (.c (.d (.val (.int .i64 (((i1:Nat):Int)+(1:Int)))))),.s (.c (.d (.val (.int .i64 ((l.length+ndL (l.take i1) - i1:Int)+sumN ((([(l.getD i1 (Ty.zero .cmd)).body,(l.getD i1 (Ty.zero .cmd)).els]:List (List GCmd))).take j2):Int)))))]:List S)=[.s (.c (.d (.val (.int .i64 (((i1+1):Nat):Int))))),.s (.c (.d (.val (.int .i64 (l.length+ndL (l.take (i1+1)) - (i1+1):Int)))))])/\(RM [])/\(RM [])/\True/\TT)))))) (True/\True/\True/\((((l.length+ndL (l.take i1) - i1:Int),true,()):Int × Bool × Unit)=(cvN d r l,cvB d r l,()))/\True/\True/\True/\True/\TF))
def VC_countValid_6 (l:List GCmd) (d:Int) (r:Int) (m:Nat):Prop:=True/\True/\True/\True/\True/\True/\((0<=l.length/\(l.length=0 ∨ d<=4)/\shL (5 - d) (l.take 0)=true/\l.length+ndL (l.take 0) - 0<=r)/\TT/\(VC_countValid_2 d r l)/\(([.s (.c (.d (.val (.int .i64 (0:Int))))),.s (.c (.d (.val (.int .i64 ((l.length:Nat):Int)))))]:List S)=[.s (.c (.d (.val (.int .i64 ((0:Nat):Int))))),.s (.c (.d (.val (.int .i64 (l.length+ndL (l.take 0) - 0:Int)))))])/\(RM [])/\(RM [])/\True/\TT)/\(∀ i1:Nat,(VC_countValid_5 i1 l d r m))
def VC_countValid (l:List GCmd) (d:Int) (r:Int) (m:Nat) (k:Nat):Prop:=True/\True/\True/\True/\True/\True/\True/\(vcIf (decide (r < ((l.length:Nat):Int))) (True/\(VC_countValid_1 d r l)) (True/\True/\True/\True/\(vcIf (decide ((0:Int) < ((l.length:Nat):Int))) (True/\True/\True/\True/\(vcIf (decide ((4:Int) < d)) (VC_countValid_1 d r l) (VC_countValid_6 l d r m))) (True/\True/\(VC_countValid_6 l d r m)))))
theorem vcn_countValid (l:List GCmd) (d:Int) (r:Int) (m:Nat) (k:Nat) (hp:(BdL l/\1<=d/\d<=5/\0<=r/\r<=16)/\ndL l < m+1):VC_countValid l d r m k:=by
 unfold VC_countValid VC_countValid_6 VC_countValid_5 VC_countValid_4 VC_countValid_3 VC_countValid_2 VC_countValid_1
 simp only [cln,Nat.reduceEqDiff,Nat.reduceLeDiff,Nat.reduceAdd,GCmd.eta]
 have hl:=hp.1.1.len
 have hg:∀ i,i < l.length->BdC (l.getD i (Ty.zero .cmd))/\ndC (l.getD i (Ty.zero .cmd))<=ndL l/\BdL (l.getD i (Ty.zero .cmd)).body/\BdL (l.getD i (Ty.zero .cmd)).els :=
  fun i hi=>⟨hp.1.1.get hi,ndL_get hi,(hp.1.1.get hi).b,(hp.1.1.get hi).e⟩
 have hn:∀ i,ndC (l.getD i (Ty.zero .cmd))=1+ndL (l.getD i (Ty.zero .cmd)).body+ndL (l.getD i (Ty.zero .cmd)).els:=fun i=>ndC_eq _
 have hs:=fun (i:Nat) (hi:i < l.length) (h1:1<=5 - d)=>shL_step (d:=5 - d) (z:=Ty.zero .cmd) h1 hi
 have hc:=fun (i:Nat)=>shC_eq (5 - d) (l.getD i (Ty.zero .cmd))

 have hm:=fun (i:Nat) (hi:i < l.length)=>ndL_step (d:=Ty.zero .cmd) hi
 have hu:=fun (i:Nat)=>ndL_take_le l i
 have hv:=fun (i:Nat)=>len_ndL (l.take i)
 have hlen:=len_ndL l
 have hd:5 - d - 1=4 - d:=by omega
 have hd2:5 - (d+1)=4 - d:=by omega
 simp only [hd] at hc
 have hfail:=fun (i j:Nat) (x:Int) (hi:i < l.length) (hj:(j:Int) < 2) hx h=>cv_fail (l:=l) (i:=i) (j:=j) (d:=d) (r:=r) (x:=x) (z:=Ty.zero .cmd) hi (by omega) hx h
 have hbad:=fun (i:Nat) (hi:i < l.length) h=>cv_bad (l:=l) (i:=i) (d:=d) (r:=r) (z:=Ty.zero .cmd) hi h
 have hroom:=fun (i:Nat) (hi:i < l.length)=>cv_room (l:=l) (i:=i) (z:=Ty.zero .cmd) hi
 have hz0:=ndL_nil
 have hz1:sumN []=0:=rfl
 have hq:=fun (i j:Nat) (hi:i < l.length) (hj:(j:Int) < 2)=>v2_le (bo:=(l.getD i (Ty.zero .cmd)).body) (el:=(l.getD i (Ty.zero .cmd)).els) (j:=j) (by omega)
 have hj1:=fun (i j:Nat) (_:i < l.length) (hj:(j:Int) < 2)=>v2_sum (bo:=(l.getD i (Ty.zero .cmd)).body) (el:=(l.getD i (Ty.zero .cmd)).els) (j:=j) (by omega)
 have hj2:=fun (i j:Nat) (_:i < l.length) (hj:¬ (j:Int) < 2)=>v2_full (bo:=(l.getD i (Ty.zero .cmd)).body) (el:=(l.getD i (Ty.zero .cmd)).els) (j:=j) (by omega)
 have hdone:=fun (h1:shL (5 - d) l=true) (h2:(ndL l:Int)<=r)=>cv_done h1 h2
 have hP:=fun (i j:Nat) (_:i < l.length) (hj:(j:Int) < 2) (p:List GCmd->Prop)=>v2_P (bo:=(l.getD i (Ty.zero .cmd)).body) (el:=(l.getD i (Ty.zero .cmd)).els) (j:=j) p (by omega)
 have hA:=fun (i j:Nat) (_:i < l.length) (hj:(j:Int) < 2)=>v2_all (bo:=(l.getD i (Ty.zero .cmd)).body) (el:=(l.getD i (Ty.zero .cmd)).els) (j:=j) (shL (4 - d)) (by omega)
 have hend:=fun (i:Nat) (h0:i<=l.length) (hi:¬ i < l.length) (h1:shL (5 - d) (l.take i)=true) (h2:(l.length:Int)+ndL (l.take i) - i<=r)=>by
  have e:l.take i=l:=List.take_of_length_le (by omega)
  rw [e] at h1 h2
  have hi2:i=l.length:=by omega
  exact (show cvB d r l=true/\(l.length:Int)+ndL (l.take i) - i=cvN d r l by rw [e];have:=hdone h1 (by omega);exact ⟨this.1,by rw [this.2];omega⟩)
 all_goals (try simp only [vcIf_iff,decide_eq_true_eq,decide_eq_false_iff_not,bne_iff_ne,ne_eq,beq_iff_eq,beq_eq_false_iff_ne,bne_eq_false_iff_eq,Bool.not_eq_true',Bool.not_eq_false',Int.ofNat_lt,Int.natCast_inj])
 all_goals (repeat' (first | apply And.intro | intro _))
 all_goals (repeat (cases ‹_/\_›))
 all_goals (first | omega | with_reducible assumption | with_reducible rfl | skip)
 all_goals (first
  | (rw [cv_long (by omega)];done) | (rw [cvN_false (cv_long (by omega))];done)
  | (rw [cv_deep (by omega) (by omega)];done) | (rw [cvN_false (cv_deep (by omega) (by omega))];done)
  | with_reducible exact shL_nil _
  | exact List.all_nil
  | with_reducible exact (hg _ ‹_›).1
  | with_reducible exact (hbad _ ‹_› ‹_›).symm | with_reducible exact (cvN_false (hbad _ ‹_› ‹_›)).symm
  | with_reducible exact (hfail _ _ _ ‹_› ‹_› rfl ‹_›).symm | with_reducible exact (cvN_false (hfail _ _ _ ‹_› ‹_› rfl ‹_›)).symm
  | exact hP _ _ ‹_› ‹_› BdL (hg _ ‹_›).2.2.1 (hg _ ‹_›).2.2.2
  | with_reducible exact (hend _ ‹_› ‹_› ‹_› ‹_›).2 | with_reducible exact (hend _ ‹_› ‹_› ‹_› ‹_›).1.symm
  | (have h1:=hq _ _ ‹_ < l.length› ‹_ < (2:Int)›;have h2:=(hg _ ‹_ < l.length›).2.1;rw [hn] at h2;omega)
  | (obtain ⟨q1,q2,q3⟩:=cv_get ‹cvB (d+1) _ _=true›;have h1:=hj1 _ _ ‹_ < l.length› ‹_ < (2:Int)›;have h2:=hv;omega)
  | (obtain ⟨q1,q2,q3⟩:=cv_get ‹cvB (d+1) _ _=true›;rw [hd2] at q2;rw [hA _ _ ‹_ < l.length› ‹_ < (2:Int)›,q2,Bool.and_true];assumption)
  | skip)
 all_goals (first | (rw [hj2 _ _ ‹_ < l.length› ‹¬ _ < (2:Int)›,sumN_two] at *) | rw [hj2 _ _ ‹_ < l.length› ‹¬ _ < (2:Int)›] at * | skip)
 all_goals (first
  | (have h1:=hm _ ‹_ < l.length›;rw [hn] at h1;omega)
  | (rw [hs _ ‹_ < l.length› (by omega),hc];simp_all;done)
  | skip)
theorem ok_countValid:FnOk Tryd.prog E 17 c_countValid :=
 fn_rec (mu:=mu_countValid) (fun m ih=>fn_okQ (con:=c_countValid.lim mu_countValid (m+1)) (fn:=Tryd.f17) (l:=L_countValid m) (lp:=P_countValid) (hp:=fun _=>false) (gcs:=fun _=>none) (perm:=fun _=>[]) tabOk mix ⟨ih,ok_fieldsValid,trivial⟩ trivial Tryd.func17 rfl (by kernel_rfl) (show c_countValid.aks.length<=Tryd.f17.ntmps by decide) (by kernel_rfl) (anns:=fun x _=>an_countValid x.1 x.2.1 x.2.2.1) (fun ⟨l,d,r,_⟩ k hp _=>Eq.mp (by kernel_rfl) (vcn_countValid l d r m k hp)) tot_fn) ⟨_,_,Tryd.func17,by kernel_rfl,rfl⟩ tot_fn
abbrev c_iCountCmds:Con:=⟨[.sl .cmd],[.int],fun (l,_)=>BdL l,.inl fun (l,_)=>((if prV l then (ndL l:Int) else 0),()),fun _=>0⟩
abbrev L_iCountCmds:List (FuncId × Con):=[(17,c_countValid)]
abbrev P_iCountCmds:List (FuncId × PT):=[]
def VC_iCountCmds (l:List GCmd) (k:Nat):Prop:=True/\True/\((BdL l/\1<=(1:Int)/\(1:Int)<=5/\0<=(16:Int)/\(16:Int)<=16)/\True/\True)/\True/\True/\True/\True/\True/\True/\True/\((((cvN (1:Int) (16:Int) l),()):Int × Unit)=((if prV l then (ndL l:Int) else 0),()))/\True/\True/\True/\True/\TF
theorem vcn_iCountCmds (l:List GCmd) (k:Nat) (hp:BdL l):VC_iCountCmds l k:=by
 unfold VC_iCountCmds
 simp only [cln,Nat.reduceEqDiff,Nat.reduceLeDiff,Nat.reduceAdd]
 all_goals (try simp only [vcIf_iff,decide_eq_true_eq,decide_eq_false_iff_not,bne_iff_ne,ne_eq,beq_iff_eq,beq_eq_false_iff_ne,bne_eq_false_iff_eq,Bool.not_eq_true',Bool.not_eq_false',Int.ofNat_lt,Int.natCast_inj])
 all_goals (repeat' (first | apply And.intro | intro _))
 all_goals (repeat (cases ‹_/\_›))
 all_goals (first | omega | (simp_all;done) | grind [prV,cvB,cvN,cnL_sh] | skip)
theorem ok_iCountCmds:FnOk Tryd.prog E 7 c_iCountCmds :=
 fn_okQ (l:=L_iCountCmds) (lp:=P_iCountCmds) (hp:=fun _=>false) (gcs:=fun _=>none) (perm:=fun _=>[]) tabOk mix ⟨ok_countValid,trivial⟩ trivial Tryd.func7 rfl (by kernel_rfl) (by decide) (by kernel_rfl) (anns:=fun x _=>fun _ _=>none) (fun ⟨l,_⟩ k hp _=>Eq.mp (by kernel_rfl) (vcn_iCountCmds l k hp)) tot_fn
abbrev c_iProgramValid:Con:=⟨[.sl .cmd],[.bool],fun (l,_)=>BdL l,.inl fun (l,_)=>(prV l,()),fun _=>0⟩
abbrev L_iProgramValid:List (FuncId × Con):=[(17,c_countValid)]
abbrev P_iProgramValid:List (FuncId × PT):=[]
def VC_iProgramValid (l:List GCmd) (k:Nat):Prop:=True/\True/\((BdL l/\1<=(1:Int)/\(1:Int)<=5/\0<=(16:Int)/\(16:Int)<=16)/\True/\True)/\True/\True/\True/\True/\True/\True/\True/\((((cvB (1:Int) (16:Int) l),()):Bool × Unit)=(prV l,()))/\True/\True/\True/\True/\TF
theorem vcn_iProgramValid (l:List GCmd) (k:Nat) (hp:BdL l):VC_iProgramValid l k:=by
 unfold VC_iProgramValid
 simp only [cln,Nat.reduceEqDiff,Nat.reduceLeDiff,Nat.reduceAdd]
 all_goals (try simp only [vcIf_iff,decide_eq_true_eq,decide_eq_false_iff_not,bne_iff_ne,ne_eq,beq_iff_eq,beq_eq_false_iff_ne,bne_eq_false_iff_eq,Bool.not_eq_true',Bool.not_eq_false',Int.ofNat_lt,Int.natCast_inj])
 all_goals (repeat' (first | apply And.intro | intro _))
 all_goals (repeat (cases ‹_/\_›))
 all_goals (first | omega | (simp_all;done) | grind [prV,cvB,cvN,cnL_sh] | skip)
theorem ok_iProgramValid:FnOk Tryd.prog E 9 c_iProgramValid :=
 fn_okQ (l:=L_iProgramValid) (lp:=P_iProgramValid) (hp:=fun _=>false) (gcs:=fun _=>none) (perm:=fun _=>[]) tabOk mix ⟨ok_countValid,trivial⟩ trivial Tryd.func9 rfl (by kernel_rfl) (by decide) (by kernel_rfl) (anns:=fun x _=>fun _ _=>none) (fun ⟨l,_⟩ k hp _=>Eq.mp (by kernel_rfl) (vcn_iProgramValid l k hp)) tot_fn
end Go.Proofs.YtkafaeeianofnaaDoor

namespace Go.Proofs
open Go.Shelf
def Tryd.lays156_ren:Go.Shelf.Ren:=⟨fun | 156=>57 | 165=>80 | 166=>30 | 169=>34 | 240=>55 | 241=>85 | 276=>79 | 277=>86 | n=>n,fun | 31=>91 | 9=>9 | 3=>3 | 4=>4 | 0=>0 | 20=>20 | 72=>65 | 76=>68 | 70=>63 | 37=>22 | 75=>67 | 127=>96 | 164=>109 | 5=>5 | 80=>73 | n=>n,fun | n=>n⟩
theorem Tryd.lays156:Go.Proofs.Lays.n156 Tryd.prog Tryd.lays156_ren:={
 mixed:=by kernel_rfl
 f156:=Tryd.func57.trans (congrArg some (by kernel_rfl))
 f165:=Tryd.func80.trans (congrArg some (by kernel_rfl))
 f166:=Tryd.func30.trans (congrArg some (by kernel_rfl))
 f169:=Tryd.func34.trans (congrArg some (by kernel_rfl))
 f240:=Tryd.func55.trans (congrArg some (by kernel_rfl))
 f241:=Tryd.func85.trans (congrArg some (by kernel_rfl))
 f276:=Tryd.func79.trans (congrArg some (by kernel_rfl))
 f277:=Tryd.func86.trans (congrArg some (by kernel_rfl))
 t0:=Tryd.underlying0
 a0:=Tryd.isAgg0
 z0:=Tryd.sizeOf0
 v0:=Tryd.zeroValue0
 t3:=Tryd.underlying3
 a3:=Tryd.isAgg3
 z3:=Tryd.sizeOf3
 v3:=Tryd.zeroValue3
 t4:=Tryd.underlying4
 a4:=Tryd.isAgg4
 z4:=Tryd.sizeOf4
 v4:=Tryd.zeroValue4
 t9:=Tryd.underlying9
 a9:=Tryd.isAgg9
 z9:=Tryd.sizeOf9
 v9:=Tryd.zeroValue9
 t20:=Tryd.underlying20
 a20:=Tryd.isAgg20
 z20:=Tryd.sizeOf20
 v20:=Tryd.zeroValue20
 t31:=Tryd.underlying91
 a31:=Tryd.isAgg91
 z31:=Tryd.sizeOf91
 v31:=Tryd.zeroValue91
 t37:=Tryd.underlying22
 a37:=Tryd.isAgg22
 z37:=Tryd.sizeOf22
 v37:=Tryd.zeroValue22
 t70:=Tryd.underlying63
 a70:=Tryd.isAgg63
 z70:=Tryd.sizeOf63
 v70:=Tryd.zeroValue63
 t72:=Tryd.underlying65
 a72:=Tryd.isAgg65
 z72:=Tryd.sizeOf65
 v72:=Tryd.zeroValue65
 t75:=Tryd.underlying67
 a75:=Tryd.isAgg67
 z75:=Tryd.sizeOf67
 v75:=Tryd.zeroValue67
 t76:=Tryd.underlying68
 a76:=Tryd.isAgg68
 z76:=Tryd.sizeOf68
 v76:=Tryd.zeroValue68
 t127:=Tryd.underlying96
 a127:=Tryd.isAgg96
 z127:=Tryd.sizeOf96
 v127:=Tryd.zeroValue96
 t164:=Tryd.underlying109
 a164:=Tryd.isAgg109
 z164:=Tryd.sizeOf109
 v164:=Tryd.zeroValue109 }
theorem Tryd.Builder_Extra_156:Builder.Extra Tryd.prog Tryd.lays156_ren:={
 sizeBuilder:=by kernel_rfl
 liesBuilder:=by kernel_rfl
 t5:=Tryd.underlying5
 a5:=Tryd.isAgg5
 z5:=Tryd.sizeOf5
 v5:=Tryd.zeroValue5
 infoByte:=by kernel_rfl
 cellsByte:=by kernel_rfl
 sizeByte:=by kernel_rfl
 neB5:=by decide }
end Go.Proofs

namespace Go.Proofs.YtkafaeeianofnaaDoor
open Go.SE Go.RowKit
variable [Base]
set_option linter.unusedSectionVars false
set_option linter.unusedSimpArgs false
set_option linter.unusedVariables false
set_option maxHeartbeats 1000000
set_option maxRecDepth 100000
abbrev pt_bldW:PT:=ptBW 65
theorem ptok_bldW:PTOk Tryd.prog E 30 pt_bldW:=ptBW_ok (P:=Tryd.prog) (ρ:=Tryd.lays156_ren) { Tryd.lays156 with } Tryd.Builder_Extra_156 rfl
end Go.Proofs.YtkafaeeianofnaaDoor

namespace Go.Proofs.YtkafaeeianofnaaDoor
open Go.SE Go.RowKit
variable [Base] [Names]
set_option linter.unusedSectionVars false
set_option linter.unusedSimpArgs false
set_option linter.unusedVariables false
set_option maxHeartbeats 1000000
set_option maxRecDepth 100000
abbrev c_iTermName:Con:=⟨[.int],[.str],fun _=>True,.inl fun (t,_)=>(nmB t,()),fun _=>0⟩
theorem walk_TermName (t:Int) (w:World) (hc:∀ (j:Nat) (x:ByteArray),names9[j]?=some x->w.cell? ⟨0,j,none⟩=some (.string x)):Calls Tryd.prog 56 #[.int .i64 t] w fun e w'=>e=.returned (.string (nmB t))/\w'=w:=by
 by_cases h0:0<=t
 ·by_cases h8:t<=8
  ·have h9:t < 9:=by omega
   have hn:nmB t=names9.getD t.toNat ⟨#[]⟩:=by unfold nmB;rw [if_pos (by simp [isT,h0,h8])]
   have hcell:w.cell? ⟨0,t.toNat,none⟩=some (.string (nmB t)):=by
    refine hc _ _ ?_
    have hl:t.toNat < names9.length:=by show t.toNat < 9;omega
    rw [hn,List.getD_eq_getElem?_getD,List.getElem?_eq_getElem hl];rfl
   generalize nmB t=z at hcell ⊢
   have hd:decide (t<=8)=true:=by simp [h8]
   clear hc hn
   go_enter Tryd.func56,Tryd.ntmps56
   go_wp2
   all_goals first | (exfalso;simp_all;done) | (exfalso;omega) | skip
   go_ret
   exact ⟨rfl,rfl⟩
  ·have hn:nmB t=⟨#[]⟩:=by unfold nmB;rw [if_neg (by simp [isT,h8])]
   have hd:decide (t<=8)=false:=by simp [h8]
   rw [hn]
   clear hc hn
   go_enter Tryd.func56,Tryd.ntmps56
   go_wp2
   all_goals first | (exfalso;simp_all;done) | (exfalso;omega) | skip
   go_ret
   exact ⟨rfl,rfl⟩
 ·have hn:nmB t=⟨#[]⟩:=by unfold nmB;rw [if_neg (by simp [isT,h0])]
  rw [hn]
  clear hc hn
  go_enter Tryd.func56,Tryd.ntmps56
  go_wp2
  all_goals first | (exfalso;simp_all;done) | (exfalso;omega) | skip
  go_ret
  exact ⟨rfl,rfl⟩
theorem ok_iTermName:FnOk Tryd.prog E 56 c_iTermName:=by
 refine ⟨⟨_,_,Tryd.func56,by kernel_rfl,rfl⟩,?_,fun x _=>⟨_,rfl⟩⟩
 intro w0 ro0 rr n x vs id0 _ hin _ hargs
 obtain ⟨t,_⟩:=x
 obtain ⟨v0,e0,h0⟩:=hargs.2 0 _ rfl
 have hv0:v0=.int .i64 t:=by cases h0;rfl
 subst hv0
 have hvs:vs.toArray=#[.int .i64 t]:=by
  have hl:=hargs.1
  match vs,hl,e0 with
  | [y],_,e0=>simp at e0;rw [e0]
 rw [hvs]
 obtain ⟨ty,fz,hh,_⟩:=hin.1.gv _ _ Names.gs
 refine Calls.mono (walk_TermName t w0 fun j y hj=>?_) fun e w' he=>?_
 ·rw [cell_at hh]
  simp [hj]
 ·obtain ⟨rfl,rfl⟩:=he
  exact ⟨_,(nmB t,()),argG ro0 rr,rfl,rfl,Ext.refl _ _,rfl,res_one (ks:=[]) rfl (DR.val _ rfl),fun h=>by cases h⟩
abbrev c_iFormatFact:Con:=⟨[.fact],[.str],fun _=>True,.inl fun (f,_)=>(if fV f=true then factT f else ⟨#[]⟩,()),fun _=>0⟩
abbrev L_iFormatFact:List (FuncId × Con):=[(49,c_iFactValid),(56,c_iTermName)]
abbrev P_iFormatFact:List (FuncId × PT):=[]
def VC_iFormatFact (f:GFact) (k:Nat):Prop:=TN/\True/\True/\(True/\True/\True)/\True/\(vcIf (!(fV f)) (True/\((((⟨#[]⟩:ByteArray),()):ByteArray × Unit)=(if fV f=true then factT f else ⟨#[]⟩,()))/\True/\True/\True/\True/\TF) (True/\True/\(vcIf f.eq (True/\True/\(True/\True/\True)/\((((nmB f.a).size+(⟨#[61]⟩:ByteArray).size:Nat):Int)<=9223372036854775807)/\True/\True/\(True/\True/\True)/\(((((nmB f.a) ++ (⟨#[61]⟩:ByteArray)).size+(nmB f.b).size:Nat):Int)<=9223372036854775807)/\True/\(((((nmB f.a) ++ (⟨#[61]⟩:ByteArray)) ++ (nmB f.b),()):ByteArray × Unit)=(if fV f=true then factT f else ⟨#[]⟩,()))/\True/\True/\True/\True/\TF) (True/\True/\(True/\True/\True)/\((((nmB f.a).size+(⟨#[33,61]⟩:ByteArray).size:Nat):Int)<=9223372036854775807)/\True/\True/\(True/\True/\True)/\(((((nmB f.a) ++ (⟨#[33,61]⟩:ByteArray)).size+(nmB f.b).size:Nat):Int)<=9223372036854775807)/\True/\(((((nmB f.a) ++ (⟨#[33,61]⟩:ByteArray)) ++ (nmB f.b),()):ByteArray × Unit)=(if fV f=true then factT f else ⟨#[]⟩,()))/\True/\True/\True/\True/\TF))))
theorem vcn_iFormatFact (f:GFact) (k:Nat):VC_iFormatFact f k:=by
 unfold VC_iFormatFact
 simp only [cln,Nat.reduceEqDiff,Nat.reduceLeDiff,Nat.reduceAdd]
 have n1:=nmB_size f.a
 have n2:=nmB_size f.b
 all_goals (try simp only [vcIf_iff,decide_eq_true_eq,decide_eq_false_iff_not,bne_iff_ne,ne_eq,beq_iff_eq,beq_eq_false_iff_ne,bne_eq_false_iff_eq,Bool.not_eq_true',Bool.not_eq_false',Int.ofNat_lt,Int.natCast_inj])
 all_goals (repeat' (first | apply And.intro | intro _))
 all_goals (repeat (cases ‹_/\_›))
 all_goals (first | omega | with_reducible assumption | with_reducible rfl | (simp only [ba_size,ba_lit,List.size_toArray,List.length_cons,List.length_nil];omega) | skip)
 all_goals (first | (simp [factT, *];done) | skip)
theorem ok_iFormatFact:FnOk Tryd.prog E 31 c_iFormatFact :=
 fn_okQ (l:=L_iFormatFact) (lp:=P_iFormatFact) (hp:=fun _=>false) (gcs:=fun _=>none) (perm:=fun _=>[]) tabOk mix ⟨ok_iFactValid,ok_iTermName,trivial⟩ trivial Tryd.func31 rfl (by kernel_rfl) (by decide) (by kernel_rfl) (anns:=fun x _=>fun _ _=>none) (fun ⟨f,_⟩ k _ _=>Eq.mp (by kernel_rfl) (vcn_iFormatFact f k)) tot_fn
end Go.Proofs.YtkafaeeianofnaaDoor

namespace Go.Proofs.YtkafaeeianofnaaDoor
open Go.SE Go.RowKit
variable [Base]
set_option linter.unusedSectionVars false
set_option linter.unusedSimpArgs false
set_option linter.unusedVariables false
set_option maxHeartbeats 1000000
set_option maxRecDepth 100000
abbrev c_join:Con:=joinCon
theorem ok_join:FnOk Tryd.prog E 57 c_join:=join_ok (P:=Tryd.prog) (ρ:=Tryd.lays156_ren) Tryd.lays156 Tryd.Builder_Extra_156
end Go.Proofs.YtkafaeeianofnaaDoor

namespace Go.Proofs.YtkafaeeianofnaaDoor
open Go.SE Go.RowKit
variable [Base] [Names]
set_option linter.unusedSectionVars false
set_option linter.unusedSimpArgs false
set_option linter.unusedVariables false
set_option maxHeartbeats 1000000
set_option maxRecDepth 100000
abbrev c_formatAtom:Con:=⟨[.atom],[.str],fun _=>True,.inl fun (x,_)=>(atomT x,()),fun _=>0⟩
abbrev L_formatAtom:List (FuncId × Con):=[(56,c_iTermName)]
abbrev P_formatAtom:List (FuncId × PT):=[]
def VC_formatAtom (x:GAtom) (k:Nat):Prop:=TN/\True/\True/\True/\True/\(vcIf (x.kind == (2:Int)) (True/\True/\(True/\True/\True)/\((((nmB x.a).size+(⟨#[126]⟩:ByteArray).size:Nat):Int)<=9223372036854775807)/\True/\True/\(True/\True/\True)/\(((((nmB x.a) ++ (⟨#[126]⟩:ByteArray)).size+(nmB x.b).size:Nat):Int)<=9223372036854775807)/\True/\(((((nmB x.a) ++ (⟨#[126]⟩:ByteArray)) ++ (nmB x.b),()):ByteArray × Unit)=(atomT x,()))/\True/\True/\True/\True/\TF) (True/\True/\(True/\True/\True)/\((((nmB x.a).size+(⟨#[62]⟩:ByteArray).size:Nat):Int)<=9223372036854775807)/\True/\True/\(True/\True/\True)/\(((((nmB x.a) ++ (⟨#[62]⟩:ByteArray)).size+(nmB x.b).size:Nat):Int)<=9223372036854775807)/\True/\(((((nmB x.a) ++ (⟨#[62]⟩:ByteArray)) ++ (nmB x.b),()):ByteArray × Unit)=(atomT x,()))/\True/\True/\True/\True/\TF))
theorem vcn_formatAtom (x:GAtom) (k:Nat):VC_formatAtom x k:=by
 unfold VC_formatAtom
 simp only [cln,Nat.reduceEqDiff,Nat.reduceLeDiff,Nat.reduceAdd]
 have n1:=nmB_size x.a
 have n2:=nmB_size x.b
 all_goals (try simp only [vcIf_iff,decide_eq_true_eq,decide_eq_false_iff_not,bne_iff_ne,ne_eq,beq_iff_eq,beq_eq_false_iff_ne,bne_eq_false_iff_eq,Bool.not_eq_true',Bool.not_eq_false',Int.ofNat_lt,Int.natCast_inj])
 all_goals (repeat' (first | apply And.intro | intro _))
 all_goals (repeat (cases ‹_/\_›))
 all_goals (first | omega | with_reducible assumption | with_reducible rfl | (simp only [ba_size,ba_lit,List.size_toArray,List.length_cons,List.length_nil];omega) | skip)
 all_goals (first | (simp [atomT, *];done) | skip)
theorem ok_formatAtom:FnOk Tryd.prog E 58 c_formatAtom :=
 fn_okQ (l:=L_formatAtom) (lp:=P_formatAtom) (hp:=fun _=>false) (gcs:=fun _=>none) (perm:=fun _=>[]) tabOk mix ⟨ok_iTermName,trivial⟩ trivial Tryd.func58 rfl (by kernel_rfl) (by decide) (by kernel_rfl) (anns:=fun x _=>fun _ _=>none) (fun ⟨x,_⟩ k _ _=>Eq.mp (by kernel_rfl) (vcn_formatAtom x k)) tot_fn
end Go.Proofs.YtkafaeeianofnaaDoor
