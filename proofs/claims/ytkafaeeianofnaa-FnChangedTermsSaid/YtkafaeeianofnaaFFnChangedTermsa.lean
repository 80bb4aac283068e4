/-
  Contracts of single functions of the program, each shown by the engine: what a call returns for arguments within the contract's bounds.
-/
import Derived.Test.YtkafaeeianofnaaProg
import Derived.KernelRfl
import Derived.Test.YtkafaeeianofnaaEc
import Derived.Test.YtkafaeeianofnaaEd
set_option linter.unusedSimpArgs false
set_option linter.unusedVariables false
set_option linter.unusedSectionVars false

namespace Go.Proofs.Ytkafaeeianofnaa
open Go.SE Go.RowKit
variable [Base]
def E:Ty->TypeId
 | .int=>3
 | .bool=>4
 | .u8=>5
 | .fact=>43
 | .atom=>119
 | .cmd=>49
 | .ints=>35
 | .asn=>0
 | .cmds=>23
 | .cpair=>78
 | .lcmd=>0
 | .xcmd=>0
 | .lfact=>0
 | .latom=>0
def tabL:List (TypeId × TI):=[
 (2,⟨1,8,.sc (.int .i64 0)⟩),
 (3,⟨1,8,.sc (.int .i64 0)⟩),
 (4,⟨1,1,.sc (.bool false)⟩),
 (5,⟨1,1,.sc (.int .u8 0)⟩),
 (7,⟨4,24,.st [.sc (.int .i64 0),.sc (.int .i64 0),.sc (.bool false),.sc (.int .u8 0)] [(0,1,false),(1,1,false),(2,1,false),(3,1,false)]⟩),
 (9,⟨1,16,.sc (.string ⟨#[]⟩)⟩),
 (12,⟨1,8,.sc (.int .u64 0)⟩),
 (13,⟨2,24,.st [.sc (.string ⟨#[]⟩),.sc (.int .u64 0)] [(0,1,false),(1,1,false)]⟩),
 (21,⟨1,4,.sc (.int .i32 0)⟩),
 (22,⟨1,24,.sl true 5 .u8⟩),
 (23,⟨1,24,.sl true 49 .cmd⟩),
 (28,⟨1,24,.sl false 63 .lcmd⟩),
 (35,⟨1,24,.sl true 3 .int⟩),
 (40,⟨2,48,.st [.sl .int,.sl .int] [(0,1,false),(1,1,false)]⟩),
 (41,⟨2,48,.st [.sl .int,.sl .int] [(0,1,false),(1,1,false)]⟩),
 (42,⟨3,24,.st [.sc (.bool false),.sc (.int .i64 0),.sc (.int .i64 0)] [(0,1,false),(1,1,false),(2,1,false)]⟩),
 (43,⟨3,24,.st [.sc (.bool false),.sc (.int .i64 0),.sc (.int .i64 0)] [(0,1,false),(1,1,false),(2,1,false)]⟩),
 (44,⟨1,24,.sl true 43 .fact⟩),
 (45,⟨1,24,.sl true 119 .atom⟩),
 (46,⟨2,48,.st [.sl .fact,.sl .atom] [(0,1,false),(1,1,false)]⟩),
 (47,⟨2,48,.st [.sl .fact,.sl .atom] [(0,1,false),(1,1,false)]⟩),
 (48,⟨10,144,.st [.sc (.int .i64 0),.sc (.int .i64 0),.sc (.int .i64 0),.sc (.bool false),.sc (.int .i64 0),.sc (.int .i64 0),.sl .fact,.sl .atom,.sl .cmd,.sl .cmd] [(0,1,false),(1,1,false),(2,1,false),(3,3,true),(6,2,true),(8,1,false),(9,1,false)]⟩),
 (49,⟨10,144,.st [.sc (.int .i64 0),.sc (.int .i64 0),.sc (.int .i64 0),.sc (.bool false),.sc (.int .i64 0),.sc (.int .i64 0),.sl .fact,.sl .atom,.sl .cmd,.sl .cmd] [(0,1,false),(1,1,false),(2,1,false),(3,3,true),(6,2,true),(8,1,false),(9,1,false)]⟩),
 (56,⟨2,48,.st [.sl .int,.sl .int] [(0,1,false),(1,1,false)]⟩),
 (57,⟨3,24,.st [.sc (.bool false),.sc (.int .i64 0),.sc (.int .i64 0)] [(0,1,false),(1,1,false),(2,1,false)]⟩),
 (58,⟨1,24,.sl false 57 .lfact⟩),
 (59,⟨1,24,.sl false 145 .latom⟩),
 (60,⟨2,48,.st [.sl .lfact,.sl .latom] [(0,1,false),(1,1,false)]⟩),
 (61,⟨2,48,.st [.sl .lfact,.sl .latom] [(0,1,false),(1,1,false)]⟩),
 (62,⟨10,144,.st [.sc (.int .i64 0),.sc (.int .i64 0),.sc (.int .i64 0),.sc (.bool false),.sc (.int .i64 0),.sc (.int .i64 0),.sl .lfact,.sl .latom,.sl .lcmd,.sl .lcmd] [(0,1,false),(1,1,false),(2,1,false),(3,3,true),(6,2,true),(8,1,false),(9,1,false)]⟩),
 (63,⟨10,144,.st [.sc (.int .i64 0),.sc (.int .i64 0),.sc (.int .i64 0),.sc (.bool false),.sc (.int .i64 0),.sc (.int .i64 0),.sl .lfact,.sl .latom,.sl .lcmd,.sl .lcmd] [(0,1,false),(1,1,false),(2,1,false),(3,3,true),(6,2,true),(8,1,false),(9,1,false)]⟩),
 (77,⟨2,48,.st [.sl .cmd,.sl .cmd] [(0,1,false),(1,1,false)]⟩),
 (78,⟨2,48,.st [.sl .cmd,.sl .cmd] [(0,1,false),(1,1,false)]⟩),
 (79,⟨1,24,.sl true 78 .cpair⟩),
 (81,⟨1,8,.sc (.pointer none)⟩),
 (82,⟨3,24,.st [.sc (.pointer none),.sc (.pointer none),.sc (.int .i64 0)] [(0,1,false),(1,1,false),(2,1,false)]⟩),
 (83,⟨3,24,.st [.sc (.pointer none),.sc (.pointer none),.sc (.int .i64 0)] [(0,1,false),(1,1,false),(2,1,false)]⟩),
 (89,⟨1,2,.sc (.int .u16 0)⟩),
 (90,⟨1,2,.sc (.int .u16 0)⟩),
 (94,⟨1,24,.sl true 4 .bool⟩),
 (102,⟨3,56,.st [.sl .int,.sl .int,.sc (.int .i64 0)] [(0,2,true),(2,1,false)]⟩),
 (103,⟨3,56,.st [.sl .int,.sl .int,.sc (.int .i64 0)] [(0,2,true),(2,1,false)]⟩),
 (113,⟨2,32,.st [.sl .u8,.sc (.int .i64 0)] [(0,1,false),(1,1,false)]⟩),
 (114,⟨2,32,.st [.sl .u8,.sc (.int .i64 0)] [(0,1,false),(1,1,false)]⟩),
 (118,⟨3,24,.st [.sc (.int .i64 0),.sc (.int .i64 0),.sc (.int .i64 0)] [(0,1,false),(1,1,false),(2,1,false)]⟩),
 (119,⟨3,24,.st [.sc (.int .i64 0),.sc (.int .i64 0),.sc (.int .i64 0)] [(0,1,false),(1,1,false),(2,1,false)]⟩),
 (122,⟨2,48,.ar 2 23 .cmds⟩),
 (145,⟨3,24,.st [.sc (.int .i64 0),.sc (.int .i64 0),.sc (.int .i64 0)] [(0,1,false),(1,1,false),(2,1,false)]⟩),
 (156,⟨1,4,.sc (.int .u32 0)⟩),
 (168,⟨1,8,.sc (.int .u64 0)⟩)]
def tab:TypeId->Option TI:=lookT tabL
theorem tab2:tab 2=some ⟨1,8,.sc (.int .i64 0)⟩:=rfl
theorem tab3:tab 3=some ⟨1,8,.sc (.int .i64 0)⟩:=rfl
theorem tab4:tab 4=some ⟨1,1,.sc (.bool false)⟩:=rfl
theorem tab5:tab 5=some ⟨1,1,.sc (.int .u8 0)⟩:=rfl
theorem tab7:tab 7=some ⟨4,24,.st [.sc (.int .i64 0),.sc (.int .i64 0),.sc (.bool false),.sc (.int .u8 0)] [(0,1,false),(1,1,false),(2,1,false),(3,1,false)]⟩:=rfl
theorem tab9:tab 9=some ⟨1,16,.sc (.string ⟨#[]⟩)⟩:=rfl
theorem tab12:tab 12=some ⟨1,8,.sc (.int .u64 0)⟩:=rfl
theorem tab13:tab 13=some ⟨2,24,.st [.sc (.string ⟨#[]⟩),.sc (.int .u64 0)] [(0,1,false),(1,1,false)]⟩:=rfl
theorem tab21:tab 21=some ⟨1,4,.sc (.int .i32 0)⟩:=rfl
theorem tab22:tab 22=some ⟨1,24,.sl true 5 .u8⟩:=rfl
theorem tab23:tab 23=some ⟨1,24,.sl true 49 .cmd⟩:=rfl
theorem tab28:tab 28=some ⟨1,24,.sl false 63 .lcmd⟩:=rfl
theorem tab35:tab 35=some ⟨1,24,.sl true 3 .int⟩:=rfl
theorem tab40:tab 40=some ⟨2,48,.st [.sl .int,.sl .int] [(0,1,false),(1,1,false)]⟩:=rfl
theorem tab41:tab 41=some ⟨2,48,.st [.sl .int,.sl .int] [(0,1,false),(1,1,false)]⟩:=rfl
theorem tab42:tab 42=some ⟨3,24,.st [.sc (.bool false),.sc (.int .i64 0),.sc (.int .i64 0)] [(0,1,false),(1,1,false),(2,1,false)]⟩:=rfl
theorem tab43:tab 43=some ⟨3,24,.st [.sc (.bool false),.sc (.int .i64 0),.sc (.int .i64 0)] [(0,1,false),(1,1,false),(2,1,false)]⟩:=rfl
theorem tab44:tab 44=some ⟨1,24,.sl true 43 .fact⟩:=rfl
theorem tab45:tab 45=some ⟨1,24,.sl true 119 .atom⟩:=rfl
theorem tab46:tab 46=some ⟨2,48,.st [.sl .fact,.sl .atom] [(0,1,false),(1,1,false)]⟩:=rfl
theorem tab47:tab 47=some ⟨2,48,.st [.sl .fact,.sl .atom] [(0,1,false),(1,1,false)]⟩:=rfl
theorem tab48:tab 48=some ⟨10,144,.st [.sc (.int .i64 0),.sc (.int .i64 0),.sc (.int .i64 0),.sc (.bool false),.sc (.int .i64 0),.sc (.int .i64 0),.sl .fact,.sl .atom,.sl .cmd,.sl .cmd] [(0,1,false),(1,1,false),(2,1,false),(3,3,true),(6,2,true),(8,1,false),(9,1,false)]⟩:=rfl
theorem tab49:tab 49=some ⟨10,144,.st [.sc (.int .i64 0),.sc (.int .i64 0),.sc (.int .i64 0),.sc (.bool false),.sc (.int .i64 0),.sc (.int .i64 0),.sl .fact,.sl .atom,.sl .cmd,.sl .cmd] [(0,1,false),(1,1,false),(2,1,false),(3,3,true),(6,2,true),(8,1,false),(9,1,false)]⟩:=rfl
theorem tab56:tab 56=some ⟨2,48,.st [.sl .int,.sl .int] [(0,1,false),(1,1,false)]⟩:=rfl
theorem tab57:tab 57=some ⟨3,24,.st [.sc (.bool false),.sc (.int .i64 0),.sc (.int .i64 0)] [(0,1,false),(1,1,false),(2,1,false)]⟩:=rfl
theorem tab58:tab 58=some ⟨1,24,.sl false 57 .lfact⟩:=rfl
theorem tab59:tab 59=some ⟨1,24,.sl false 145 .latom⟩:=rfl
theorem tab60:tab 60=some ⟨2,48,.st [.sl .lfact,.sl .latom] [(0,1,false),(1,1,false)]⟩:=rfl
theorem tab61:tab 61=some ⟨2,48,.st [.sl .lfact,.sl .latom] [(0,1,false),(1,1,false)]⟩:=rfl
theorem tab62:tab 62=some ⟨10,144,.st [.sc (.int .i64 0),.sc (.int .i64 0),.sc (.int .i64 0),.sc (.bool false),.sc (.int .i64 0),.sc (.int .i64 0),.sl .lfact,.sl .latom,.sl .lcmd,.sl .lcmd] [(0,1,false),(1,1,false),(2,1,false),(3,3,true),(6,2,true),(8,1,false),(9,1,false)]⟩:=rfl
theorem tab63:tab 63=some ⟨10,144,.st [.sc (.int .i64 0),.sc (.int .i64 0),.sc (.int .i64 0),.sc (.bool false),.sc (.int .i64 0),.sc (.int .i64 0),.sl .lfact,.sl .latom,.sl .lcmd,.sl .lcmd] [(0,1,false),(1,1,false),(2,1,false),(3,3,true),(6,2,true),(8,1,false),(9,1,false)]⟩:=rfl
theorem tab77:tab 77=some ⟨2,48,.st [.sl .cmd,.sl .cmd] [(0,1,false),(1,1,false)]⟩:=rfl
theorem tab78:tab 78=some ⟨2,48,.st [.sl .cmd,.sl .cmd] [(0,1,false),(1,1,false)]⟩:=rfl
theorem tab79:tab 79=some ⟨1,24,.sl true 78 .cpair⟩:=rfl
theorem tab81:tab 81=some ⟨1,8,.sc (.pointer none)⟩:=rfl
theorem tab82:tab 82=some ⟨3,24,.st [.sc (.pointer none),.sc (.pointer none),.sc (.int .i64 0)] [(0,1,false),(1,1,false),(2,1,false)]⟩:=rfl
theorem tab83:tab 83=some ⟨3,24,.st [.sc (.pointer none),.sc (.pointer none),.sc (.int .i64 0)] [(0,1,false),(1,1,false),(2,1,false)]⟩:=rfl
theorem tab89:tab 89=some ⟨1,2,.sc (.int .u16 0)⟩:=rfl
theorem tab90:tab 90=some ⟨1,2,.sc (.int .u16 0)⟩:=rfl
theorem tab94:tab 94=some ⟨1,24,.sl true 4 .bool⟩:=rfl
theorem tab102:tab 102=some ⟨3,56,.st [.sl .int,.sl .int,.sc (.int .i64 0)] [(0,2,true),(2,1,false)]⟩:=rfl
theorem tab103:tab 103=some ⟨3,56,.st [.sl .int,.sl .int,.sc (.int .i64 0)] [(0,2,true),(2,1,false)]⟩:=rfl
theorem tab113:tab 113=some ⟨2,32,.st [.sl .u8,.sc (.int .i64 0)] [(0,1,false),(1,1,false)]⟩:=rfl
theorem tab114:tab 114=some ⟨2,32,.st [.sl .u8,.sc (.int .i64 0)] [(0,1,false),(1,1,false)]⟩:=rfl
theorem tab118:tab 118=some ⟨3,24,.st [.sc (.int .i64 0),.sc (.int .i64 0),.sc (.int .i64 0)] [(0,1,false),(1,1,false),(2,1,false)]⟩:=rfl
theorem tab119:tab 119=some ⟨3,24,.st [.sc (.int .i64 0),.sc (.int .i64 0),.sc (.int .i64 0)] [(0,1,false),(1,1,false),(2,1,false)]⟩:=rfl
theorem tab122:tab 122=some ⟨2,48,.ar 2 23 .cmds⟩:=rfl
theorem tab145:tab 145=some ⟨3,24,.st [.sc (.int .i64 0),.sc (.int .i64 0),.sc (.int .i64 0)] [(0,1,false),(1,1,false),(2,1,false)]⟩:=rfl
theorem tab156:tab 156=some ⟨1,4,.sc (.int .u32 0)⟩:=rfl
theorem tab168:tab 168=some ⟨1,8,.sc (.int .u64 0)⟩:=rfl
theorem tabOk:TabOk Try.prog E tab:=tab_ok (by kernel_rfl)
theorem mix:Try.prog.follows .mixedOrders=true:=by kernel_rfl
end Go.Proofs.Ytkafaeeianofnaa

namespace Go.Proofs.Ytkafaeeianofnaa
open Go.SE Go.RowKit
variable [Base]
set_option linter.unusedSectionVars false
set_option linter.unusedSimpArgs false
set_option linter.unusedVariables false
set_option maxHeartbeats 1000000
set_option maxRecDepth 100000
abbrev c_isBasic:Con:=⟨[.cmd],[.bool],fun _=>True,.inl fun (c,_)=>(decide (1<=c.kind) && decide (c.kind<=5),()),fun _=>0⟩
abbrev L_isBasic:List (FuncId × Con):=[]
abbrev P_isBasic:List (FuncId × PT):=[]
def VC_isBasic (c:GCmd) (k:Nat):Prop:=TN/\True/\True/\True/\True/\True/\(vcIf (decide ((1:Int)<=c.kind)) (True/\True/\True/\True/\True/\(((decide (c.kind<=(5:Int)),()):Bool × Unit)=(decide (1<=c.kind) && decide (c.kind<=5),()))/\True/\True/\True/\True/\TF) (True/\True/\(((false,()):Bool × Unit)=(decide (1<=c.kind) && decide (c.kind<=5),()))/\True/\True/\True/\True/\TF))
theorem vcn_isBasic (c:GCmd) (k:Nat):VC_isBasic c k:=by
 unfold VC_isBasic
 simp only [cln,Nat.reduceEqDiff,Nat.reduceLeDiff,Nat.reduceAdd]
 all_goals (try simp only [vcIf_iff,decide_eq_true_eq,decide_eq_false_iff_not,bne_iff_ne,ne_eq,beq_iff_eq,beq_eq_false_iff_ne,bne_eq_false_iff_eq,Bool.not_eq_true',Bool.not_eq_false',Int.ofNat_lt,Int.natCast_inj])
 all_goals (repeat' (first | apply And.intro | intro _))
 all_goals (repeat (cases ‹_/\_›))
 all_goals (first | omega | (simp_all;done) | grind [pvV,noA,fokC,fokB,prV,cvB,cvN] | skip)
theorem ok_isBasic:FnOk Try.prog E 58 c_isBasic :=
 fn_okQ (l:=L_isBasic) (lp:=P_isBasic) (hp:=fun _=>false) (gcs:=fun _=>none) (perm:=fun _=>[]) tabOk mix trivial trivial Try.func58 rfl (by kernel_rfl) (by decide) (by kernel_rfl) (anns:=fun x _=>fun _ _=>none) (fun ⟨c,_⟩ k _ _=>Eq.mp (by kernel_rfl) (vcn_isBasic c k)) tot_fn
abbrev c_noAssn:Con:=⟨[.asn],[.bool],fun (a,_)=>a.facts.length<=281474976710656/\a.atoms.length<=281474976710656,.inl fun (a,_)=>(noA a,()),fun _=>0⟩
abbrev L_noAssn:List (FuncId × Con):=[]
abbrev P_noAssn:List (FuncId × PT):=[]
def VC_noAssn (a:GAsn) (k:Nat):Prop:=TN/\True/\True/\True/\True/\True/\True/\(vcIf (((a.facts.length:Nat):Int) == (0:Int)) (True/\True/\True/\True/\True/\True/\(((((a.atoms.length:Nat):Int) == (0:Int),()):Bool × Unit)=(noA a,()))/\True/\True/\True/\True/\TF) (True/\True/\(((false,()):Bool × Unit)=(noA a,()))/\True/\True/\True/\True/\TF))
theorem vcn_noAssn (a:GAsn) (k:Nat) (hp:a.facts.length<=281474976710656/\a.atoms.length<=281474976710656):VC_noAssn a k:=by
 unfold VC_noAssn
 simp only [cln,Nat.reduceEqDiff,Nat.reduceLeDiff,Nat.reduceAdd]
 all_goals (try simp only [vcIf_iff,decide_eq_true_eq,decide_eq_false_iff_not,bne_iff_ne,ne_eq,beq_iff_eq,beq_eq_false_iff_ne,bne_eq_false_iff_eq,Bool.not_eq_true',Bool.not_eq_false',Int.ofNat_lt,Int.natCast_inj])
 all_goals (repeat' (first | apply And.intro | intro _))
 all_goals (repeat (cases ‹_/\_›))
 all_goals (first | omega | (simp_all;done) | grind [pvV,noA,fokC,fokB,prV,cvB,cvN] | skip)
theorem ok_noAssn:FnOk Try.prog E 92 c_noAssn :=
 fn_okQ (l:=L_noAssn) (lp:=P_noAssn) (hp:=fun _=>false) (gcs:=fun _=>none) (perm:=fun _=>[]) tabOk mix trivial trivial Try.func92 rfl (by kernel_rfl) (by decide) (by kernel_rfl) (anns:=fun x _=>fun _ _=>none) (fun ⟨a,_⟩ k hp _=>Eq.mp (by kernel_rfl) (vcn_noAssn a k hp)) tot_fn
abbrev c_isPV:Con:=⟨[.int],[.bool],fun _=>True,.inl fun (t,_)=>(pvV t,()),fun _=>0⟩
abbrev L_isPV:List (FuncId × Con):=[]
abbrev P_isPV:List (FuncId × PT):=[]
def VC_isPV (t:Int) (k:Nat):Prop:=True/\True/\True/\True/\(vcIf (decide ((1:Int)<=t)) (True/\True/\True/\True/\(((decide (t<=(4:Int)),()):Bool × Unit)=(pvV t,()))/\True/\True/\True/\True/\TF) (True/\True/\(((false,()):Bool × Unit)=(pvV t,()))/\True/\True/\True/\True/\TF))
theorem vcn_isPV (t:Int) (k:Nat):VC_isPV t k:=by
 unfold VC_isPV
 simp only [cln,Nat.reduceEqDiff,Nat.reduceLeDiff,Nat.reduceAdd]
 all_goals (try simp only [vcIf_iff,decide_eq_true_eq,decide_eq_false_iff_not,bne_iff_ne,ne_eq,beq_iff_eq,beq_eq_false_iff_ne,bne_eq_false_iff_eq,Bool.not_eq_true',Bool.not_eq_false',Int.ofNat_lt,Int.natCast_inj])
 all_goals (repeat' (first | apply And.intro | intro _))
 all_goals (repeat (cases ‹_/\_›))
 all_goals (first | omega | (simp_all;done) | grind [pvV,noA,fokC,fokB,prV,cvB,cvN] | skip)
theorem ok_isPV:FnOk Try.prog E 93 c_isPV :=
 fn_okQ (l:=L_isPV) (lp:=P_isPV) (hp:=fun _=>false) (gcs:=fun _=>none) (perm:=fun _=>[]) tabOk mix trivial trivial Try.func93 rfl (by kernel_rfl) (by decide) (by kernel_rfl) (anns:=fun x _=>fun _ _=>none) (fun ⟨t,_⟩ k _ _=>Eq.mp (by kernel_rfl) (vcn_isPV t k)) tot_fn
abbrev c_isTerm:Con:=⟨[.int],[.bool],fun _=>True,.inl fun (t,_)=>(isT t,()),fun _=>0⟩
abbrev L_isTerm:List (FuncId × Con):=[]
abbrev P_isTerm:List (FuncId × PT):=[]
def VC_isTerm (t:Int) (k:Nat):Prop:=True/\True/\True/\True/\(vcIf (decide ((0:Int)<=t)) (True/\True/\True/\True/\(((decide (t<=(8:Int)),()):Bool × Unit)=(isT t,()))/\True/\True/\True/\True/\TF) (True/\True/\(((false,()):Bool × Unit)=(isT t,()))/\True/\True/\True/\True/\TF))
theorem vcn_isTerm (t:Int) (k:Nat):VC_isTerm t k:=by
 unfold VC_isTerm
 simp only [cln,Nat.reduceEqDiff,Nat.reduceLeDiff,Nat.reduceAdd]
 cases h:decide (0<=t) <;> simp [vcIf,isT,h]
theorem ok_isTerm:FnOk Try.prog E 94 c_isTerm :=
 fn_okQ (l:=L_isTerm) (lp:=P_isTerm) (hp:=fun _=>false) (gcs:=fun _=>none) (perm:=fun _=>[]) tabOk mix trivial trivial Try.func94 rfl (by kernel_rfl) (by decide) (by kernel_rfl) (anns:=fun x _=>fun _ _=>none) (fun ⟨t,_⟩ k _ _=>Eq.mp (by kernel_rfl) (vcn_isTerm t k)) tot_fn
abbrev c_iFactValid:Con:=⟨[.fact],[.bool],fun _=>True,.inl fun (f,_)=>(fV f,()),fun _=>0⟩
abbrev L_iFactValid:List (FuncId × Con):=[(94,c_isTerm)]
abbrev P_iFactValid:List (FuncId × PT):=[]
def VC_iFactValid (f:GFact) (k:Nat):Prop:=TN/\True/\True/\True/\(True/\True/\True)/\True/\(vcIf (isT f.a) (True/\True/\(True/\True/\True)/\True/\True/\((((isT f.b),()):Bool × Unit)=(fV f,()))/\True/\True/\True/\True/\TF) (True/\True/\(((false,()):Bool × Unit)=(fV f,()))/\True/\True/\True/\True/\TF))
theorem vcn_iFactValid (f:GFact) (k:Nat):VC_iFactValid f k:=by
 unfold VC_iFactValid
 simp only [cln,Nat.reduceEqDiff,Nat.reduceLeDiff,Nat.reduceAdd]
 cases h:isT f.a <;> simp [vcIf,fV,h]
theorem ok_iFactValid:FnOk Try.prog E 95 c_iFactValid :=
 fn_okQ (l:=L_iFactValid) (lp:=P_iFactValid) (hp:=fun _=>false) (gcs:=fun _=>none) (perm:=fun _=>[]) tabOk mix ⟨ok_isTerm,trivial⟩ trivial Try.func95 rfl (by kernel_rfl) (by decide) (by kernel_rfl) (anns:=fun x _=>fun _ _=>none) (fun ⟨f,_⟩ k _ _=>Eq.mp (by kernel_rfl) (vcn_iFactValid f k)) tot_fn
abbrev c_iFactsValid:Con:=⟨[.sl .fact],[.bool],fun (l,_)=>l.length<=281474976710656,.inl fun (l,_)=>(fsV l,()),fun _=>0⟩
abbrev L_iFactsValid:List (FuncId × Con):=[(95,c_iFactValid)]
abbrev P_iFactsValid:List (FuncId × PT):=[]
def an_iFactsValid (l:List GFact):Nat->St->Option Ann
 | 4,se=>some { α:=Nat,ok:=fun i=>i<=l.length/\l.length<=12/\(l.take i).all fV=true,mu:=fun i=>l.length - i,i0:=fun _=>0,nx:=fun a _=>(fun i=>i+1) a,live:=[8,9],sets:=fun i=>[(10,sv (.int .i64 i))],mids:=[],blks:=fun i=>[],owns:=fun i=>[],rd:=fun r _=>r,base:=100000 }
 | _,_=>none
def VC_iFactsValid_1 (l:List GFact):Prop:=True/\(((false,()):Bool × Unit)=(fsV l,()))/\True/\True/\True/\True/\TF
def VC_iFactsValid_2 (l:List GFact):Prop:=RL [.s (.c (.d (.arr .fact l))),.s (.c (.d (.val (.int .i64 ((l.length:Nat):Int)))))]
def VC_iFactsValid (l:List GFact) (k:Nat):Prop:=True/\True/\True/\True/\(vcIf (decide ((12:Int) < ((l.length:Nat):Int))) (VC_iFactsValid_1 l) (True/\True/\True/\((0<=l.length/\l.length<=12/\(l.take 0).all fV=true)/\TT/\(VC_iFactsValid_2 l)/\(([.s (.c (.d (.val (.int .i64 (0:Int)))))]:List S)=[.s (.c (.d (.val (.int .i64 ((0:Nat):Int)))))])/\(RM [])/\(RM [])/\True/\TT)/\(∀ i1:Nat,(i1<=l.length/\l.length<=12/\(l.take i1).all fV=true)->True/\(vcIf (decide (((i1:Nat):Int) < ((l.length:Nat):Int))) ((0<=((i1:Nat):Int)/\((i1:Nat):Int) < ((l.length:Nat):Int))/\True/\(TN/\True)/\(TF/\TF)/\True/\(True/\True/\True)/\True/\(vcIf (!(fV (l.getD i1 (⟨false,0,0⟩:GFact)))) (VC_iFactsValid_1 l) ((inK .i64 (((i1:Nat):Int)+(1:Int)))/\True/\((i1+1)<=l.length/\l.length<=12/\(l.take (i1+1)).all fV=true)/\(l.length - (i1+1) < l.length - i1)/\TT/\(VC_iFactsValid_2 l)/\(([.s (.c (.d (.val (.int .i64 (((i1:Nat):Int)+(1:Int))))))]:List S)=[.s (.c (.d (.val (.int .i64 (((i1+1):Nat):Int)))))])/\(RM [])/\(RM [])/\True/\TT))) (True/\(((true,()):Bool × Unit)=(fsV l,()))/\True/\True/\True/\True/\TF)))))
theorem vcn_iFactsValid (l:List GFact) (k:Nat) (hp:l.length<=281474976710656):VC_iFactsValid l k:=by
 unfold VC_iFactsValid VC_iFactsValid_2 VC_iFactsValid_1
 simp only [cln,Nat.reduceEqDiff,Nat.reduceLeDiff,Nat.reduceAdd]
 all_goals (try simp only [opn])
 all_goals (repeat' (first | apply And.intro | intro _))
 all_goals (first | omega | (simp_all;done) | grind [fsV,take_all,all_take,take_full,Ty.zero])
theorem ok_iFactsValid:FnOk Try.prog E 124 c_iFactsValid :=
 fn_okQ (l:=L_iFactsValid) (lp:=P_iFactsValid) (hp:=fun _=>false) (gcs:=fun _=>none) (perm:=fun _=>[]) tabOk mix ⟨ok_iFactValid,trivial⟩ trivial Try.func124 rfl (by kernel_rfl) (by decide) (by kernel_rfl) (anns:=fun x _=>an_iFactsValid x.1) (fun ⟨l,_⟩ k hp _=>Eq.mp (by kernel_rfl) (vcn_iFactsValid l k hp)) tot_fn
abbrev c_iAtomValid:Con:=⟨[.atom],[.bool],fun _=>True,.inl fun (x,_)=>(atV x,()),fun _=>0⟩
abbrev L_iAtomValid:List (FuncId × Con):=[(94,c_isTerm)]
abbrev P_iAtomValid:List (FuncId × PT):=[]
def VC_iAtomValid_1 (x:GAtom):Prop:=True/\True/\(((false,()):Bool × Unit)=(atV x,()))/\True/\True/\True/\True/\TF
def VC_iAtomValid_2 (x:GAtom):Prop:=True/\True/\(True/\True/\True)/\True/\True/\(vcIf (isT x.a) (True/\True/\(True/\True/\True)/\True/\True/\((((isT x.b),()):Bool × Unit)=(atV x,()))/\True/\True/\True/\True/\TF) (VC_iAtomValid_1 x))
def VC_iAtomValid (x:GAtom) (k:Nat):Prop:=TN/\True/\True/\True/\True/\True/\(vcIf (x.kind == (1:Int)) (True/\True/\(VC_iAtomValid_2 x)) (True/\True/\True/\True/\True/\(vcIf (x.kind == (2:Int)) (VC_iAtomValid_2 x) (True/\True/\(VC_iAtomValid_1 x)))))
theorem vcn_iAtomValid (x:GAtom) (k:Nat):VC_iAtomValid x k:=by
 unfold VC_iAtomValid VC_iAtomValid_2 VC_iAtomValid_1
 simp only [cln,Nat.reduceEqDiff,Nat.reduceLeDiff,Nat.reduceAdd]
 all_goals (try simp only [opn])
 all_goals (repeat' (first | apply And.intro | intro _))
 all_goals (first | omega | (simp_all;done) | grind [atV])
theorem ok_iAtomValid:FnOk Try.prog E 125 c_iAtomValid :=
 fn_okQ (l:=L_iAtomValid) (lp:=P_iAtomValid) (hp:=fun _=>false) (gcs:=fun _=>none) (perm:=fun _=>[]) tabOk mix ⟨ok_isTerm,trivial⟩ trivial Try.func125 rfl (by kernel_rfl) (by decide) (by kernel_rfl) (anns:=fun x _=>fun _ _=>none) (fun ⟨x,_⟩ k _ _=>Eq.mp (by kernel_rfl) (vcn_iAtomValid x k)) tot_fn
abbrev c_iAssertionValid:Con:=⟨[.asn],[.bool],fun (a,_)=>a.facts.length<=281474976710656/\a.atoms.length<=281474976710656,.inl fun (a,_)=>(asV a,()),fun _=>0⟩
abbrev L_iAssertionValid:List (FuncId × Con):=[(124,c_iFactsValid),(125,c_iAtomValid)]
abbrev P_iAssertionValid:List (FuncId × PT):=[]
def an_iAssertionValid (a:GAsn):Nat->St->Option Ann
 | 4,se=>some { α:=Nat,ok:=fun i=>i<=a.atoms.length/\a.atoms.length<=6/\fsV a.facts=true/\(a.atoms.take i).all atV=true,mu:=fun i=>a.atoms.length - i,i0:=fun _=>0,nx:=fun a _=>(fun i=>i+1) a,live:=[16,17],sets:=fun i=>[(18,sv (.int .i64 i))],mids:=[],blks:=fun i=>[],owns:=fun i=>[],rd:=fun r _=>r,base:=100000 }
 | _,_=>none
def VC_iAssertionValid_1 (a:GAsn):Prop:=True/\(((false,()):Bool × Unit)=(asV a,()))/\True/\True/\True/\True/\TF
def VC_iAssertionValid_2 (a:GAsn):Prop:=RL [.s (.c (.d (.arr .atom a.atoms))),.s (.c (.d (.val (.int .i64 ((a.atoms.length:Nat):Int)))))]
def VC_iAssertionValid (a:GAsn) (k:Nat):Prop:=TN/\True/\True/\True/\((a.facts.length<=281474976710656)/\True/\True)/\True/\True/\(vcIf (!(fsV a.facts)) (True/\(VC_iAssertionValid_1 a)) (True/\True/\True/\True/\True/\(vcIf (decide ((6:Int) < ((a.atoms.length:Nat):Int))) (VC_iAssertionValid_1 a) (True/\True/\True/\True/\((0<=a.atoms.length/\a.atoms.length<=6/\fsV a.facts=true/\(a.atoms.take 0).all atV=true)/\TT/\(VC_iAssertionValid_2 a)/\(([.s (.c (.d (.val (.int .i64 (0:Int)))))]:List S)=[.s (.c (.d (.val (.int .i64 ((0:Nat):Int)))))])/\(RM [])/\(RM [])/\True/\TT)/\(∀ i1:Nat,(i1<=a.atoms.length/\a.atoms.length<=6/\fsV a.facts=true/\(a.atoms.take i1).all atV=true)->True/\(vcIf (decide (((i1:Nat):Int) < ((a.atoms.length:Nat):Int))) ((0<=((i1:Nat):Int)/\((i1:Nat):Int) < ((a.atoms.length:Nat):Int))/\True/\(TN/\True)/\(TF/\TF)/\True/\(True/\True/\True)/\True/\(vcIf (!(atV (a.atoms.getD i1 (⟨0,0,0⟩:GAtom)))) (VC_iAssertionValid_1 a) ((inK .i64 (((i1:Nat):Int)+(1:Int)))/\True/\((i1+1)<=a.atoms.length/\a.atoms.length<=6/\fsV a.facts=true/\(a.atoms.take (i1+1)).all atV=true)/\(a.atoms.length - (i1+1) < a.atoms.length - i1)/\TT/\(VC_iAssertionValid_2 a)/\(([.s (.c (.d (.val (.int .i64 (((i1:Nat):Int)+(1:Int))))))]:List S)=[.s (.c (.d (.val (.int .i64 (((i1+1):Nat):Int)))))])/\(RM [])/\(RM [])/\True/\TT))) (True/\(((true,()):Bool × Unit)=(asV a,()))/\True/\True/\True/\True/\TF)))))))
theorem vcn_iAssertionValid (a:GAsn) (k:Nat) (hp:a.facts.length<=281474976710656/\a.atoms.length<=281474976710656):VC_iAssertionValid a k:=by
 unfold VC_iAssertionValid VC_iAssertionValid_2 VC_iAssertionValid_1
 simp only [cln,Nat.reduceEqDiff,Nat.reduceLeDiff,Nat.reduceAdd]
 all_goals (try simp only [opn])
 all_goals (repeat' (first | apply And.intro | intro _))
 all_goals (first | omega | (simp_all;done) | grind [asV,take_all,all_take,take_full,Ty.zero])
theorem ok_iAssertionValid:FnOk Try.prog E 96 c_iAssertionValid :=
 fn_okQ (l:=L_iAssertionValid) (lp:=P_iAssertionValid) (hp:=fun _=>false) (gcs:=fun _=>none) (perm:=fun _=>[]) tabOk mix ⟨ok_iFactsValid,ok_iAtomValid,trivial⟩ trivial Try.func96 rfl (by kernel_rfl) (by decide) (by kernel_rfl) (anns:=fun x _=>an_iAssertionValid x.1) (fun ⟨a,_⟩ k hp _=>Eq.mp (by kernel_rfl) (vcn_iAssertionValid a k hp)) tot_fn
abbrev c_fieldsValid:Con:=⟨[.cmd],[.bool],fun (c,_)=>BdC c,.inl fun (c,_)=>(fokC c,()),fun _=>0⟩
abbrev L_fieldsValid:List (FuncId × Con):=[(58,c_isBasic),(92,c_noAssn),(93,c_isPV),(94,c_isTerm),(95,c_iFactValid),(96,c_iAssertionValid)]
abbrev P_fieldsValid:List (FuncId × PT):=[]
def VC_fieldsValid_1 (c:GCmd):Prop:=True/\(((false,()):Bool × Unit)=(fokC c,()))/\True/\True/\True/\True/\TF
def VC_fieldsValid_2 (c:GCmd):Prop:=True/\(VC_fieldsValid_1 c)
def VC_fieldsValid_3 (c:GCmd):Prop:=True/\(VC_fieldsValid_2 c)
def VC_fieldsValid_4 (c:GCmd):Prop:=True/\(VC_fieldsValid_3 c)
def VC_fieldsValid_5 (c:GCmd):Prop:=True/\(VC_fieldsValid_4 c)
def VC_fieldsValid_6 (c:GCmd):Prop:=True/\(VC_fieldsValid_5 c)
def VC_fieldsValid_7 (c:GCmd):Prop:=True/\(VC_fieldsValid_6 c)
def VC_fieldsValid_8 (c:GCmd):Prop:=(c.inv.facts.length<=281474976710656/\c.inv.atoms.length<=281474976710656)/\True/\True
def VC_fieldsValid_9 (c:GCmd):Prop:=True/\True/\(True/\True/\True)/\True/\True/\((((isT c.b),()):Bool × Unit)=(fokC c,()))/\True/\True/\True/\True/\TF
def VC_fieldsValid_10 (c:GCmd):Prop:=True/\True/\(True/\True/\True)/\True/\(vcIf (pvV c.a) (VC_fieldsValid_9 c) (VC_fieldsValid_2 c))
def VC_fieldsValid_11 (c:GCmd):Prop:=True/\True/\True/\True/\True/\(((c.b == (0:Int),()):Bool × Unit)=(fokC c,()))/\True/\True/\True/\True/\TF
def VC_fieldsValid_12 (c:GCmd):Prop:=True/\True/\(vcIf (c.kind == (3:Int)) (True/\True/\(True/\True/\True)/\True/\(vcIf (isT c.a) (VC_fieldsValid_9 c) (VC_fieldsValid_2 c))) (True/\True/\(vcIf (c.kind == (4:Int)) (True/\True/\(True/\True/\True)/\True/\(vcIf (pvV c.a) (VC_fieldsValid_11 c) (VC_fieldsValid_2 c))) (True/\True/\(vcIf (c.kind == (5:Int)) (True/\True/\(True/\True/\True)/\True/\(vcIf (isT c.a) (VC_fieldsValid_11 c) (VC_fieldsValid_2 c))) (True/\True/\(vcIf (c.kind == (6:Int)) (True/\True/\True/\True/\(vcIf (c.a == (0:Int)) (True/\True/\True/\True/\True/\(vcIf (c.b == (0:Int)) (True/\True/\(True/\True/\True)/\True/\True/\(vcIf (fV c.test) (True/\True/\(VC_fieldsValid_8 c)/\True/\True/\((((noA c.inv),()):Bool × Unit)=(fokC c,()))/\True/\True/\True/\True/\TF) (VC_fieldsValid_2 c))) (VC_fieldsValid_4 c))) (VC_fieldsValid_6 c))) (True/\True/\(vcIf (c.kind == (7:Int)) (True/\True/\True/\True/\(vcIf (c.a == (0:Int)) (True/\True/\True/\True/\True/\(vcIf (c.b == (0:Int)) (True/\True/\(True/\True/\True)/\True/\True/\(vcIf (fV c.test) (True/\True/\(VC_fieldsValid_8 c)/\True/\True/\(vcIf (asV c.inv) (True/\True/\True/\True/\True/\True/\(((((c.els.length:Nat):Int) == (0:Int),()):Bool × Unit)=(fokC c,()))/\True/\True/\True/\True/\TF) (VC_fieldsValid_2 c))) (VC_fieldsValid_4 c))) (VC_fieldsValid_6 c))) (True/\(VC_fieldsValid_7 c)))) (VC_fieldsValid_1 c))))))))))
def VC_fieldsValid_13 (c:GCmd):Prop:=True/\True/\True/\True/\(vcIf (c.kind == (1:Int)) (vcIf (c.kind == (1:Int)) (VC_fieldsValid_10 c) (VC_fieldsValid_12 c)) (True/\True/\(vcIf (c.kind == (2:Int)) (VC_fieldsValid_10 c) (VC_fieldsValid_12 c))))
def VC_fieldsValid (c:GCmd) (k:Nat):Prop:=TN/\True/\True/\(True/\True/\True)/\True/\(vcIf (decide (1<=(GCmd.mk c.kind c.a c.b c.test c.inv c.body c.els).kind) && decide ((GCmd.mk c.kind c.a c.b c.test c.inv c.body c.els).kind<=5)) (True/\True/\True/\True/\True/\(vcIf (!((c.test.eq == false) && ((c.test.a == (0:Int)) && ((c.test.b == (0:Int)) && true)))) (VC_fieldsValid_7 c) (True/\True/\(VC_fieldsValid_8 c)/\True/\True/\True/\(vcIf (!(noA c.inv)) (VC_fieldsValid_5 c) (True/\True/\True/\True/\True/\True/\(vcIf (decide ((0:Int) < ((c.body.length:Nat):Int))) (VC_fieldsValid_3 c) (True/\True/\True/\True/\True/\True/\(vcIf (decide ((0:Int) < ((c.els.length:Nat):Int))) (VC_fieldsValid_1 c) (VC_fieldsValid_13 c))))))))) (True/\(VC_fieldsValid_13 c)))
theorem vcn_fieldsValid (c:GCmd) (k:Nat) (hp:BdC c):VC_fieldsValid c k:=by
 unfold VC_fieldsValid VC_fieldsValid_13 VC_fieldsValid_12 VC_fieldsValid_11 VC_fieldsValid_10 VC_fieldsValid_9 VC_fieldsValid_8 VC_fieldsValid_7 VC_fieldsValid_6 VC_fieldsValid_5 VC_fieldsValid_4 VC_fieldsValid_3 VC_fieldsValid_2 VC_fieldsValid_1
 simp only [cln,Nat.reduceEqDiff,Nat.reduceLeDiff,Nat.reduceAdd,GCmd.eta]
 have b1:=hp.f
 have b2:=hp.a
 have ht:=gf_zero c.test
 all_goals (try simp only [vcIf_iff,← gf_zero,decide_eq_true_eq,decide_eq_false_iff_not,bne_iff_ne,ne_eq,beq_iff_eq,beq_eq_false_iff_ne,bne_eq_false_iff_eq,Bool.not_eq_true',Bool.not_eq_false',Int.ofNat_lt,Int.natCast_inj])
 all_goals (repeat' (first | apply And.intro | intro _))
 all_goals (repeat (cases ‹_/\_›))
 all_goals (first | omega | (simp_all;done) | grind [pvV,noA,fokC,fokB,prV,cvB,cvN] | skip)
theorem ok_fieldsValid:FnOk Try.prog E 59 c_fieldsValid :=
 fn_okQ (l:=L_fieldsValid) (lp:=P_fieldsValid) (hp:=fun _=>false) (gcs:=fun _=>none) (perm:=fun _=>[]) tabOk mix ⟨ok_isBasic,ok_noAssn,ok_isPV,ok_isTerm,ok_iFactValid,ok_iAssertionValid,trivial⟩ trivial Try.func59 rfl (by kernel_rfl) (by decide) (by kernel_rfl) (anns:=fun x _=>fun _ _=>none) (fun ⟨c,_⟩ k hp _=>Eq.mp (by kernel_rfl) (vcn_fieldsValid c k hp)) tot_fn
abbrev c_countValid:Con:=⟨[.sl .cmd,.int,.int],[.int,.bool],fun (l,d,r,_)=>BdL l/\1<=d/\d<=5/\0<=r/\r<=16,.inl fun (l,d,r,_)=>(cvN d r l,cvB d r l,()),fun _=>0⟩
abbrev mu_countValid:Args c_countValid.aks->Nat:=fun (l,d,r,_)=>ndL l
abbrev L_countValid (m:Nat):List (FuncId × Con):=[(49,c_countValid.lim mu_countValid m),(59,c_fieldsValid)]
abbrev P_countValid:List (FuncId × PT):=[]
def an_countValid (l:List GCmd) (d:Int) (r:Int):Nat->St->Option Ann
 | 5,se=>some { α:=Nat,ok:=fun i=>i<=l.length/\(l.length=0 ∨ d<=4)/\shL (5 - d) (l.take i)=true/\l.length+ndL (l.take i) - i<=r,mu:=fun i=>l.length - i,i0:=fun _=>0,nx:=fun a _=>(fun i=>i+1) a,live:=[1,2,30,31],sets:=fun i=>[(32,sv (.int .i64 i)),(8,sv (.int .i64 (l.length+ndL (l.take i) - i)))],mids:=[],blks:=fun i=>[],owns:=fun i=>[],rd:=fun r _=>r,base:=100000 }
 | 10,se=>some { α:=Nat,ok:=fun j=>j<=2/\((vcsAt se 43).take j).all (shL (4 - d))=true/\intAt se 8+sumN ((vcsAt se 43).take j)<=r,mu:=fun j=>2 - j,i0:=fun _=>0,nx:=fun a _=>(fun j=>j+1) a,live:=[1,2,30,31,32,43],sets:=fun j=>[(44,sv (.int .i64 j)),(8,sv (.int .i64 (intAt se 8+sumN ((vcsAt se 43).take j))))],mids:=[],blks:=fun j=>[],owns:=fun j=>[],rd:=fun r _=>r,base:=200000 }
 | _,_=>none
def VC_countValid_1 (d:Int) (r:Int) (l:List GCmd):Prop:=True/\True/\((((0:Int),false,()):Int × Bool × Unit)=(cvN d r l,cvB d r l,()))/\True/\True/\True/\True/\TF
def VC_countValid_2 (d:Int) (r:Int) (l:List GCmd):Prop:=RL [.s (.c (.d (.val (.int .i64 d)))),.s (.c (.d (.val (.int .i64 r)))),.s (.c (.d (.arr .cmd l))),.s (.c (.d (.val (.int .i64 ((l.length:Nat):Int)))))]
def VC_countValid_3 (d:Int) (r:Int) (l:List GCmd) (i1:Nat):Prop:=RL [.s (.c (.d (.val (.int .i64 d)))),.s (.c (.d (.val (.int .i64 r)))),.s (.c (.d (.arr .cmd l))),.s (.c (.d (.val (.int .i64 ((l.length:Nat):Int))))),.s (.c (.d (.val (.int .i64 ((i1:Nat):Int))))),.s (.vec .cmds ([(l.getD i1 (Ty.zero .cmd)).body,(l.getD i1 (Ty.zero .cmd)).els]:List (List GCmd)))]
def VC_countValid_4 (d:Int) (r:Int) (l:List GCmd) (i1:Nat) (j2:Nat) (m:Nat):Prop:=(True/\(inK .i64 (d+(1:Int)))/\True/\True/\(inK .i64 (r - ((l.length+ndL (l.take i1) - i1:Int)+sumN ((([(l.getD i1 (Ty.zero .cmd)).body,(l.getD i1 (Ty.zero .cmd)).els]:List (List GCmd))).take j2):Int)))/\(((BdL (([(l.getD i1 (Ty.zero .cmd)).body,(l.getD i1 (Ty.zero .cmd)).els]:List (List GCmd)).getD j2 ([]:List GCmd))/\1<=(d+(1:Int))/\(d+(1:Int))<=5/\0<=(r - ((l.length+ndL (l.take i1) - i1:Int)+sumN ((([(l.getD i1 (Ty.zero .cmd)).body,(l.getD i1 (Ty.zero .cmd)).els]:List (List GCmd))).take j2):Int))/\(r - ((l.length+ndL (l.take i1) - i1:Int)+sumN ((([(l.getD i1 (Ty.zero .cmd)).body,(l.getD i1 (Ty.zero .cmd)).els]:List (List GCmd))).take j2):Int))<=16)/\ndL (([(l.getD i1 (Ty.zero .cmd)).body,(l.getD i1 (Ty.zero .cmd)).els]:List (List GCmd)).getD j2 ([]:List GCmd)) < m)/\True/\True)/\True/\True/\True/\True/\True/\True/\True/\(vcIf (!(cvB (d+(1:Int)) (r - ((l.length+ndL (l.take i1) - i1:Int)+sumN ((([(l.getD i1 (Ty.zero .cmd)).body,(l.getD i1 (Ty.zero .cmd)).els]:List (List GCmd))).take j2):Int)) (([(l.getD i1 (Ty.zero .cmd)).body,(l.getD i1 (Ty.zero .cmd)).els]:List (List GCmd)).getD j2 ([]:List GCmd)))) (VC_countValid_1 d r l) (True/\True/\(inK .i64 (((l.length+ndL (l.take i1) - i1:Int)+sumN ((([(l.getD i1 (Ty.zero .cmd)).body,(l.getD i1 (Ty.zero .cmd)).els]:List (List GCmd))).take j2):Int)+(cvN (d+(1:Int)) (r - ((l.length+ndL (l.take i1) - i1:Int)+sumN ((([(l.getD i1 (Ty.zero .cmd)).body,(l.getD i1 (Ty.zero .cmd)).els]:List (List GCmd))).take j2):Int)) (([(l.getD i1 (Ty.zero .cmd)).body,(l.getD i1 (Ty.zero .cmd)).els]:List (List GCmd)).getD j2 ([]:List GCmd)))))/\True/\(inK .i64 (((j2:Nat):Int)+(1:Int)))/\True/\((j2+1)<=2/\((([(l.getD i1 (Ty.zero .cmd)).body,(l.getD i1 (Ty.zero .cmd)).els]:List (List GCmd))).take (j2+1)).all (shL (4 - d))=true/\(l.length+ndL (l.take i1) - i1:Int)+sumN ((([(l.getD i1 (Ty.zero .cmd)).body,(l.getD i1 (Ty.zero .cmd)).els]:List (List GCmd))).take (j2+1))<=r)/\(2 - (j2+1) < 2 - j2)/\TT/\(VC_countValid_3 d r l i1)/\(([.s (.c (.d (.val (.int .i64 (((j2:Nat):Int)+(1:Int)))))),.s (.c (.d (.val (.int .i64 (((l.length+ndL (l.take i1) - i1:Int)+sumN ((([(l.getD i1 (Ty.zero .cmd)).body,(l.getD i1 (Ty.zero .cmd)).els]:List (List GCmd))).take j2):Int)+(cvN (d+(1:Int)) (r - ((l.length+ndL (l.take i1) - i1:Int)+sumN ((([(l.getD i1 (Ty.zero .cmd)).body,(l.getD i1 (Ty.zero .cmd)).els]:List (List GCmd))).take j2):Int)) (([(l.getD i1 (Ty.zero .cmd)).body,(l.getD i1 (Ty.zero .cmd)).els]:List (List GCmd)).getD j2 ([]:List GCmd))))))))]:List S)=[.s (.c (.d (.val (.int .i64 (((j2+1):Nat):Int))))),.s (.c (.d (.val (.int .i64 ((l.length+ndL (l.take i1) - i1:Int)+sumN ((([(l.getD i1 (Ty.zero .cmd)).body,(l.getD i1 (Ty.zero .cmd)).els]:List (List GCmd))).take (j2+1)):Int)))))])/\(RM [])/\(RM [])/\True/\TT)))
def VC_countValid_5 (i1:Nat) (l:List GCmd) (d:Int) (r:Int) (m:Nat):Prop:=(i1<=l.length/\(l.length=0 ∨ d<=4)/\shL (5 - d) (l.take i1)=true/\l.length+ndL (l.take i1) - i1<=r)->True/\(vcIf (decide (((i1:Nat):Int) < ((l.length:Nat):Int))) ((0<=((i1:Nat):Int)/\((i1:Nat):Int) < ((l.length:Nat):Int))/\True/\(TN/\TN/\TN/\TN/\TN/\True)/\(TF/\TF)/\True/\((BdC (GCmd.mk ((l.getD i1 (Ty.zero .cmd)).kind) ((l.getD i1 (Ty.zero .cmd)).a) ((l.getD i1 (Ty.zero .cmd)).b) ((l.getD i1 (Ty.zero .cmd)).test) ((l.getD i1 (Ty.zero .cmd)).inv) ((l.getD i1 (Ty.zero .cmd)).body) ((l.getD i1 (Ty.zero .cmd)).els)))/\True/\True)/\True/\(vcIf (!(fokC (GCmd.mk ((l.getD i1 (Ty.zero .cmd)).kind) ((l.getD i1 (Ty.zero .cmd)).a) ((l.getD i1 (Ty.zero .cmd)).b) ((l.getD i1 (Ty.zero .cmd)).test) ((l.getD i1 (Ty.zero .cmd)).inv) ((l.getD i1 (Ty.zero .cmd)).body) ((l.getD i1 (Ty.zero .cmd)).els)))) (VC_countValid_1 d r l) (True/\True/\True/\True/\True/\True/\((0<=2/\((([(l.getD i1 (Ty.zero .cmd)).body,(l.getD i1 (Ty.zero .cmd)).els]:List (List GCmd))).take 0).all (shL (4 - d))=true/\(l.length+ndL (l.take i1) - i1:Int)+sumN ((([(l.getD i1 (Ty.zero .cmd)).body,(l.getD i1 (Ty.zero .cmd)).els]:List (List GCmd))).take 0)<=r)/\TT/\(VC_countValid_3 d r l i1)/\(([.s (.c (.d (.val (.int .i64 (0:Int))))),.s (.c (.d (.val (.int .i64 (l.length+ndL (l.take i1) - i1:Int)))))]:List S)=[.s (.c (.d (.val (.int .i64 ((0:Nat):Int))))),.s (.c (.d (.val (.int .i64 ((l.length+ndL (l.take i1) - i1:Int)+sumN ((([(l.getD i1 (Ty.zero .cmd)).body,(l.getD i1 (Ty.zero .cmd)).els]:List (List GCmd))).take 0):Int)))))])/\(RM [])/\(RM [])/\True/\TT)/\(∀ j2:Nat,(j2<=2/\((([(l.getD i1 (Ty.zero .cmd)).body,(l.getD i1 (Ty.zero .cmd)).els]:List (List GCmd))).take j2).all (shL (4 - d))=true/\(l.length+ndL (l.take i1) - i1:Int)+sumN ((([(l.getD i1 (Ty.zero .cmd)).body,(l.getD i1 (Ty.zero .cmd)).els]:List (List GCmd))).take j2)<=r)->True/\(vcIf (decide (((j2:Nat):Int) < (2:Int))) ((0<=((j2:Nat):Int)/\((j2:Nat):Int) < ((2:Nat):Int)/\([(l.getD i1 (Ty.zero .cmd)).body,(l.getD i1 (Ty.zero .cmd)).els]:List (List GCmd)).length=2)/\True/\True/\(VC_countValid_4 d r l i1 j2 m)) ((inK .i64 (((i1:Nat):Int)+(1:Int)))/\True/\((i1+1)<=l.length/\(l.length=0 ∨ d<=4)/\shL (5 - d) (l.take (i1+1))=true/\l.length+ndL (l.take (i1+1)) - (i1+1)<=r)/\(l.length - (i1+1) < l.length - i1)/\TT/\(VC_countValid_2 d r l)/\(([.s (.c (.d (.val (.int .i64 (((i1:Nat):Int)+(1:Int)))))),.s (.c (.d (.val (.int .i64 ((l.length+ndL (l.take i1) - i1:Int)+sumN ((([(l.getD i1 (Ty.zero .cmd)).body,(l.getD i1 (Ty.zero .cmd)).els]:List (List GCmd))).take j2):Int)))))]:List S)=[.s (.c (.d (.val (.int .i64 (((i1+1):Nat):Int))))),.s (.c (.d (.val (.int .i64 (l.length+ndL (l.take (i1+1)) - (i1+1):Int)))))])/\(RM [])/\(RM [])/\True/\TT)))))) (True/\True/\True/\((((l.length+ndL (l.take i1) - i1:Int),true,()):Int × Bool × Unit)=(cvN d r l,cvB d r l,()))/\True/\True/\True/\True/\TF))
def VC_countValid_6 (l:List GCmd) (d:Int) (r:Int) (m:Nat):Prop:=True/\True/\True/\True/\True/\True/\((0<=l.length/\(l.length=0 ∨ d<=4)/\shL (5 - d) (l.take 0)=true/\l.length+ndL (l.take 0) - 0<=r)/\TT/\(VC_countValid_2 d r l)/\(([.s (.c (.d (.val (.int .i64 (0:Int))))),.s (.c (.d (.val (.int .i64 ((l.length:Nat):Int)))))]:List S)=[.s (.c (.d (.val (.int .i64 ((0:Nat):Int))))),.s (.c (.d (.val (.int .i64 (l.length+ndL (l.take 0) - 0:Int)))))])/\(RM [])/\(RM [])/\True/\TT)/\(∀ i1:Nat,(VC_countValid_5 i1 l d r m))
def VC_countValid (l:List GCmd) (d:Int) (r:Int) (m:Nat) (k:Nat):Prop:=True/\True/\True/\True/\True/\True/\True/\(vcIf (decide (r < ((l.length:Nat):Int))) (True/\(VC_countValid_1 d r l)) (True/\True/\True/\True/\(vcIf (decide ((0:Int) < ((l.length:Nat):Int))) (True/\True/\True/\True/\(vcIf (decide ((4:Int) < d)) (VC_countValid_1 d r l) (VC_countValid_6 l d r m))) (True/\True/\(VC_countValid_6 l d r m)))))
theorem vcn_countValid (l:List GCmd) (d:Int) (r:Int) (m:Nat) (k:Nat) (hp:(BdL l/\1<=d/\d<=5/\0<=r/\r<=16)/\ndL l < m+1):VC_countValid l d r m k:=by
 unfold VC_countValid VC_countValid_6 VC_countValid_5 VC_countValid_4 VC_countValid_3 VC_countValid_2 VC_countValid_1
 simp only [cln,Nat.reduceEqDiff,Nat.reduceLeDiff,Nat.reduceAdd,GCmd.eta]
 have hl:=hp.1.1.len
 have hg:∀ i,i < l.length->BdC (l.getD i (Ty.zero .cmd))/\ndC (l.getD i (Ty.zero .cmd))<=ndL l/\BdL (l.getD i (Ty.zero .cmd)).body/\BdL (l.getD i (Ty.zero .cmd)).els :=
  fun i hi=>⟨hp.1.1.get hi,ndL_get hi,(hp.1.1.get hi).b,(hp.1.1.get hi).e⟩
 have hn:∀ i,ndC (l.getD i (Ty.zero .cmd))=1+ndL (l.getD i (Ty.zero .cmd)).body+ndL (l.getD i (Ty.zero .cmd)).els:=fun i=>ndC_eq _
 have hs:=fun (i:Nat) (hi:i < l.length) (h1:1<=5 - d)=>shL_step (d:=5 - d) (z:=Ty.zero .cmd) h1 hi
 have hc:=fun (i:Nat)=>shC_eq (5 - d) (l.getD i (Ty.zero .cmd))

 have hm:=fun (i:Nat) (hi:i < l.length)=>ndL_step (d:=Ty.zero .cmd) hi
 have hu:=fun (i:Nat)=>ndL_take_le l i
 have hv:=fun (i:Nat)=>len_ndL (l.take i)
 have hlen:=len_ndL l
 have hd:5 - d - 1=4 - d:=by omega
 have hd2:5 - (d+1)=4 - d:=by omega
 simp only [hd] at hc
 have hfail:=fun (i j:Nat) (x:Int) (hi:i < l.length) (hj:(j:Int) < 2) hx h=>cv_fail (l:=l) (i:=i) (j:=j) (d:=d) (r:=r) (x:=x) (z:=Ty.zero .cmd) hi (by omega) hx h
 have hbad:=fun (i:Nat) (hi:i < l.length) h=>cv_bad (l:=l) (i:=i) (d:=d) (r:=r) (z:=Ty.zero .cmd) hi h
 have hroom:=fun (i:Nat) (hi:i < l.length)=>cv_room (l:=l) (i:=i) (z:=Ty.zero .cmd) hi
 have hz0:=ndL_nil
 have hz1:sumN []=0:=rfl
 have hq:=fun (i j:Nat) (hi:i < l.length) (hj:(j:Int) < 2)=>v2_le (bo:=(l.getD i (Ty.zero .cmd)).body) (el:=(l.getD i (Ty.zero .cmd)).els) (j:=j) (by omega)
 have hj1:=fun (i j:Nat) (_:i < l.length) (hj:(j:Int) < 2)=>v2_sum (bo:=(l.getD i (Ty.zero .cmd)).body) (el:=(l.getD i (Ty.zero .cmd)).els) (j:=j) (by omega)
 have hj2:=fun (i j:Nat) (_:i < l.length) (hj:¬ (j:Int) < 2)=>v2_full (bo:=(l.getD i (Ty.zero .cmd)).body) (el:=(l.getD i (Ty.zero .cmd)).els) (j:=j) (by omega)
 have hdone:=fun (h1:shL (5 - d) l=true) (h2:(ndL l:Int)<=r)=>cv_done h1 h2
 have hP:=fun (i j:Nat) (_:i < l.length) (hj:(j:Int) < 2) (p:List GCmd->Prop)=>v2_P (bo:=(l.getD i (Ty.zero .cmd)).body) (el:=(l.getD i (Ty.zero .cmd)).els) (j:=j) p (by omega)
 have hA:=fun (i j:Nat) (_:i < l.length) (hj:(j:Int) < 2)=>v2_all (bo:=(l.getD i (Ty.zero .cmd)).body) (el:=(l.getD i (Ty.zero .cmd)).els) (j:=j) (shL (4 - d)) (by omega)
 have hend:=fun (i:Nat) (h0:i<=l.length) (hi:¬ i < l.length) (h1:shL (5 - d) (l.take i)=true) (h2:(l.length:Int)+ndL (l.take i) - i<=r)=>by
  have e:l.take i=l:=List.take_of_length_le (by omega)
  rw [e] at h1 h2
  have hi2:i=l.length:=by omega
  exact (show cvB d r l=true/\(l.length:Int)+ndL (l.take i) - i=cvN d r l by rw [e];have:=hdone h1 (by omega);exact ⟨this.1,by rw [this.2];omega⟩)
 all_goals (try simp only [vcIf_iff,decide_eq_true_eq,decide_eq_false_iff_not,bne_iff_ne,ne_eq,beq_iff_eq,beq_eq_false_iff_ne,bne_eq_false_iff_eq,Bool.not_eq_true',Bool.not_eq_false',Int.ofNat_lt,Int.natCast_inj])
 all_goals (repeat' (first | apply And.intro | intro _))
 all_goals (repeat (cases ‹_/\_›))
 all_goals (first | omega | with_reducible assumption | with_reducible rfl | skip)
 all_goals (first
  | (rw [cv_long (by omega)];done) | (rw [cvN_false (cv_long (by omega))];done)
  | (rw [cv_deep (by omega) (by omega)];done) | (rw [cvN_false (cv_deep (by omega) (by omega))];done)
  | with_reducible exact shL_nil _
  | exact List.all_nil
  | with_reducible exact (hg _ ‹_›).1
  | with_reducible exact (hbad _ ‹_› ‹_›).symm | with_reducible exact (cvN_false (hbad _ ‹_› ‹_›)).symm
  | with_reducible exact (hfail _ _ _ ‹_› ‹_› rfl ‹_›).symm | with_reducible exact (cvN_false (hfail _ _ _ ‹_› ‹_› rfl ‹_›)).symm
  | exact hP _ _ ‹_› ‹_› BdL (hg _ ‹_›).2.2.1 (hg _ ‹_›).2.2.2
  | with_reducible exact (hend _ ‹_› ‹_› ‹_› ‹_›).2 | with_reducible exact (hend _ ‹_› ‹_› ‹_› ‹_›).1.symm
  | (have h1:=hq _ _ ‹_ < l.length› ‹_ < (2:Int)›;have h2:=(hg _ ‹_ < l.length›).2.1;rw [hn] at h2;omega)
  | (obtain ⟨q1,q2,q3⟩:=cv_get ‹cvB (d+1) _ _=true›;have h1:=hj1 _ _ ‹_ < l.length› ‹_ < (2:Int)›;have h2:=hv;omega)
  | (obtain ⟨q1,q2,q3⟩:=cv_get ‹cvB (d+1) _ _=true›;rw [hd2] at q2;rw [hA _ _ ‹_ < l.length› ‹_ < (2:Int)›,q2,Bool.and_true];assumption)
  | skip)
 all_goals (first | (rw [hj2 _ _ ‹_ < l.length› ‹¬ _ < (2:Int)›,sumN_two] at *) | rw [hj2 _ _ ‹_ < l.length› ‹¬ _ < (2:Int)›] at * | skip)
 all_goals (first
  | (have h1:=hm _ ‹_ < l.length›;rw [hn] at h1;omega)
  | (rw [hs _ ‹_ < l.length› (by omega),hc];simp_all;done)
  | skip)
theorem ok_countValid:FnOk Try.prog E 49 c_countValid :=
 fn_rec (mu:=mu_countValid) (fun m ih=>fn_okQ (con:=c_countValid.lim mu_countValid (m+1)) (fn:=Try.f49) (l:=L_countValid m) (lp:=P_countValid) (hp:=fun _=>false) (gcs:=fun _=>none) (perm:=fun _=>[]) tabOk mix ⟨ih,ok_fieldsValid,trivial⟩ trivial Try.func49 rfl (by kernel_rfl) (show c_countValid.aks.length<=Try.f49.ntmps by decide) (by kernel_rfl) (anns:=fun x _=>an_countValid x.1 x.2.1 x.2.2.1) (fun ⟨l,d,r,_⟩ k hp _=>Eq.mp (by kernel_rfl) (vcn_countValid l d r m k hp)) tot_fn) ⟨_,_,Try.func49,by kernel_rfl,rfl⟩ tot_fn
abbrev c_iProgramValid:Con:=⟨[.sl .cmd],[.bool],fun (l,_)=>BdL l,.inl fun (l,_)=>(prV l,()),fun _=>0⟩
abbrev L_iProgramValid:List (FuncId × Con):=[(49,c_countValid)]
abbrev P_iProgramValid:List (FuncId × PT):=[]
def VC_iProgramValid (l:List GCmd) (k:Nat):Prop:=True/\True/\((BdL l/\1<=(1:Int)/\(1:Int)<=5/\0<=(16:Int)/\(16:Int)<=16)/\True/\True)/\True/\True/\True/\True/\True/\True/\True/\((((cvB (1:Int) (16:Int) l),()):Bool × Unit)=(prV l,()))/\True/\True/\True/\True/\TF
theorem vcn_iProgramValid (l:List GCmd) (k:Nat) (hp:BdL l):VC_iProgramValid l k:=by
 unfold VC_iProgramValid
 simp only [cln,Nat.reduceEqDiff,Nat.reduceLeDiff,Nat.reduceAdd]
 all_goals (try simp only [vcIf_iff,decide_eq_true_eq,decide_eq_false_iff_not,bne_iff_ne,ne_eq,beq_iff_eq,beq_eq_false_iff_ne,bne_eq_false_iff_eq,Bool.not_eq_true',Bool.not_eq_false',Int.ofNat_lt,Int.natCast_inj])
 all_goals (repeat' (first | apply And.intro | intro _))
 all_goals (repeat (cases ‹_/\_›))
 all_goals (first | omega | (simp_all;done) | grind [prV,cvB,cvN,cnL_sh] | skip)
theorem ok_iProgramValid:FnOk Try.prog E 19 c_iProgramValid :=
 fn_okQ (l:=L_iProgramValid) (lp:=P_iProgramValid) (hp:=fun _=>false) (gcs:=fun _=>none) (perm:=fun _=>[]) tabOk mix ⟨ok_countValid,trivial⟩ trivial Try.func19 rfl (by kernel_rfl) (by decide) (by kernel_rfl) (anns:=fun x _=>fun _ _=>none) (fun ⟨l,_⟩ k hp _=>Eq.mp (by kernel_rfl) (vcn_iProgramValid l k hp)) tot_fn
theorem vc_l18Open (code:List UInt8):vc tab (lookF []) (fun _=>none) (fun _=>[]) (bodyOf Try.f41) (entry [.c (.d (.arr .u8 code))] none) openQ:=by
 dsimp only [bodyOf,Try.f41]
 simp only [openQ,pickK,openE,openM,true_and,and_true,SE.lookF,tab2,tab3,tab4,tab5,tab7,tab9,tab12,tab13,tab21,tab22,tab23,tab28,tab35,tab40,tab41,tab42,tab43,tab44,tab45,tab46,tab47,tab48,tab49,tab56,tab57,tab58,tab59,tab60,tab61,tab62,tab63,tab77,tab78,tab79,tab81,tab82,tab83,tab89,tab90,tab94,tab102,tab103,tab113,tab114,tab118,tab119,tab122,tab145,tab156,tab168,SE.entry,SE.envOf,SE.rdOf,Option.get_some,SE.vc,SE.vcReg,SE.vcLoop,SE.condK,SE.seqK,SE.blockK,SE.vcOps,SE.vcStep,SE.vcOp,SE.vcTr,SE.vcDet_some,SE.vcDet_none,SE.vcIf_true,SE.vcIf_false,SE.vcEach,SE.pickOps,SE.gslot,SE.trOp,SE.moveId,SE.trMove,SE.trPick,SE.trAlloc,SE.trBox,SE.trBuild,SE.trBuildSlice,SE.trLoad,SE.trStore,SE.trNilCheck,SE.trBin,SE.trUn,SE.trConvert,SE.trFieldAddr,SE.trField,SE.trIndexAddr,SE.trIndex,SE.trSlice,SE.trMakeSlice,SE.trExtract,SE.trLen,SE.trAppend,SE.trCopy,SE.trFn,SE.trCall,SE.argsS,SE.ev,SE.constS,SE.junk,SE.sv,SE.upd_app,SE.adds,SE.sets,SE.nid,SE.St.app,SE.St.put,SE.free,SE.freeL,SE.allFree,SE.rids,SE.AK.rids,SE.castL,SE.rdl,SE.AK.dec,SE.decs,SE.AK.enc,SE.encs,SE.AK.res,SE.ress,SE.pack1,SE.zcells,SE.zeroOf,SE.partCells,SE.putc,SE.fills,SE.datas,SE.ownDC,SE.wkDC,SE.wkS,SE.xfix,SE.tightM,SE.rdn,SE.rdnC,SE.elemOf,SE.elemsOf,SE.elemX,SE.zeroC,SE.notSpent,SE.cellsAt,SE.weak,SE.dcellsAt,SE.slAt,SE.rdPlus,SE.intAt,SE.updElem,SE.kill,SE.noJunk,SE.inK,SE.binI,SE.shf,SE.isShift,SE.eqCells,SE.aggS,SE.intOp,SE.nested,SE.hasRdr,SE.refsC,SE.refsCs,SE.ownsC,SE.refsAr,SE.rdFits,SE.costIf,SE.Con.post,SE.Con.det,SE.Ty.cells,SE.Ty.sz,SE.Ty.zero,SE.Ty.flat,SE.Ty.dec,SE.retOk,SE.loadsS,SE.loadS,SE.decRs,SE.decR,SE.outC,SE.rdC,SE.allDiff,SE.notIn,SE.notFrozen,SE.apartL,SE.rdEnd,SE.firstReg,SE.headC,SE.fitsC,SE.idsC,SE.keepE,SE.keepM,SE.keepB,SE.inL,SE.puts,SE.ownRes,SE.ownEnv,SE.renL,SE.srcId,SE.lookR,SE.envSame,SE.envSets,SE.memSame,SE.memBlks,SE.memOwns,SE.famsOf,SE.allIn,SE.closedE,SE.closedV,SE.closedM,SE.closedR,SE.rdLe,SE.S.refs,SE.S0.refs,SE.CV.refs,SE.refsL,SE.refsT,SE.S.ren,SE.S0.ren,SE.CV.ren,SE.Res.refs,SE.Res.ren,min_i64,max_i64,min_u16,max_u16,min_u8,max_u8,min_u64,max_u64,S.s.injEq,S0.c.injEq,CV.d.injEq,DC.val.injEq,Value.int.injEq,Value.bool.injEq,Value.string.injEq,eta_fact,eta_atom,eta_asn,eta_state,List.mem_cons,List.mem_nil_iff,or_false,false_or,or_true,true_or,List.map_cons,List.map_nil,Option.map_some,Option.map_none,Option.bind_some,Option.getD_some,Option.getD_none,Nat.reduceEqDiff,Nat.reduceAdd,Nat.reduceMul,Nat.reduceLeDiff,↓reduceIte,reduceCtorEq,true_and,and_true,and_self,forall_const,implies_true,true_implies,List.getElem?_toArray,List.getElem?_cons_succ,List.getElem?_cons_zero,List.append_nil,List.nil_append,List.cons_append,List.length_cons,List.length_nil,List.take_succ_cons,List.take_zero,List.drop_succ_cons,List.drop_zero,List.set_cons_zero,List.set_cons_succ,List.map_cons,List.map_nil,Nat.add_zero,Nat.zero_add,forall_eq,Prod.forall,Bool.not_true,Bool.not_false,Nat.lt_irrefl,Nat.zero_lt_succ,List.singleton_append,Prod.mk.injEq,Nat.zero_mul,Nat.one_mul,Nat.reducePow,Option.some.injEq,not_false_eq_true,Int.toNat_natCast,Nat.sub_zero,Nat.le_refl,Bool.or_false,Bool.false_or,Bool.or_true,Bool.true_or,Bool.and_true,Bool.true_and,Bool.and_false,Bool.false_and,Bool.or_self,Bool.and_self,List.append_eq,and_false,false_and]
 all_goals (try simp only [vcIf_iff,decide_eq_true_eq,decide_eq_false_iff_not])
 all_goals (repeat' (first | apply And.intro | intro _))
 all_goals (first | omega | (simp_all;done) | grind)
theorem open_l18Open:OpenOk Try.prog 41 :=
 open_ok tabOk mix (perm:=fun _=>[]) Try.func41 (by kernel_rfl) (by kernel_rfl) (by decide) (by kernel_rfl) vc_l18Open
theorem fn_l18Open : ∃ fn c, Try.prog.funcs[41]? = some fn /\ (fn.name == "runtime.NumGoroutine") = false /\ fn.body = some c := ⟨_, _, Try.func41, by kernel_rfl, rfl⟩
abbrev c_l8NoInv:Con:=⟨[.asn],[.bool],fun (a,_)=>a.facts.length<=281474976710656/\a.atoms.length<=281474976710656,.inl fun (a,_)=>(noA a,()),fun _=>0⟩
abbrev L_l8NoInv:List (FuncId × Con):=[]
abbrev P_l8NoInv:List (FuncId × PT):=[]
def VC_l8NoInv (a:GAsn) (k:Nat):Prop:=TN/\True/\True/\True/\True/\True/\True/\(vcIf (((a.facts.length:Nat):Int) == (0:Int)) (True/\True/\True/\True/\True/\True/\(((((a.atoms.length:Nat):Int) == (0:Int),()):Bool × Unit)=(noA a,()))/\True/\True/\True/\True/\TF) (True/\True/\(((false,()):Bool × Unit)=(noA a,()))/\True/\True/\True/\True/\TF))
theorem vcn_l8NoInv (a:GAsn) (k:Nat) (hp:a.facts.length<=281474976710656/\a.atoms.length<=281474976710656):VC_l8NoInv a k:=by
 unfold VC_l8NoInv
 simp only [cln,Nat.reduceEqDiff,Nat.reduceLeDiff,Nat.reduceAdd]
 all_goals (try simp only [vcIf_iff,decide_eq_true_eq,decide_eq_false_iff_not,bne_iff_ne,ne_eq,beq_iff_eq,beq_eq_false_iff_ne,bne_eq_false_iff_eq,Bool.not_eq_true',Bool.not_eq_false',Int.ofNat_lt,Int.natCast_inj])
 all_goals (repeat' (first | apply And.intro | intro _))
 all_goals (repeat (cases ‹_/\_›))
 all_goals (first | omega | (simp_all;done) | grind [pvV,noA,fokC,fokB,prV,cvB,cvN] | skip)
theorem ok_l8NoInv:FnOk Try.prog E 84 c_l8NoInv :=
 fn_okQ (l:=L_l8NoInv) (lp:=P_l8NoInv) (hp:=fun _=>false) (gcs:=fun _=>none) (perm:=fun _=>[]) tabOk mix trivial trivial Try.func84 rfl (by kernel_rfl) (by decide) (by kernel_rfl) (anns:=fun x _=>fun _ _=>none) (fun ⟨a,_⟩ k hp _=>Eq.mp (by kernel_rfl) (vcn_l8NoInv a k hp)) tot_fn
abbrev c_l8NoFact:Con:=⟨[.fact],[.bool],fun _=>True,.inl fun (f,_)=>(decide (f=⟨false,0,0⟩),()),fun _=>0⟩
abbrev L_l8NoFact:List (FuncId × Con):=[]
abbrev P_l8NoFact:List (FuncId × PT):=[]
def VC_l8NoFact (f:GFact) (k:Nat):Prop:=TN/\True/\True/\True/\True/\True/\((((f.eq == false) && ((f.a == (0:Int)) && ((f.b == (0:Int)) && true)),()):Bool × Unit)=(decide (f=⟨false,0,0⟩),()))/\True/\True/\True/\True/\TF
theorem vcn_l8NoFact (f:GFact) (k:Nat):VC_l8NoFact f k:=by
 unfold VC_l8NoFact
 simp only [cln,Nat.reduceEqDiff,Nat.reduceLeDiff,Nat.reduceAdd]
 exact (gf_zero' f).symm
theorem ok_l8NoFact:FnOk Try.prog E 103 c_l8NoFact :=
 fn_okQ (l:=L_l8NoFact) (lp:=P_l8NoFact) (hp:=fun _=>false) (gcs:=fun _=>none) (perm:=fun _=>[]) tabOk mix trivial trivial Try.func103 rfl (by kernel_rfl) (by decide) (by kernel_rfl) (anns:=fun x _=>fun _ _=>none) (fun ⟨f,_⟩ k _ _=>Eq.mp (by kernel_rfl) (vcn_l8NoFact f k)) tot_fn
abbrev c_l8Prog:Con:=⟨[.int],[.bool],fun _=>True,.inl fun (t,_)=>(pvV t,()),fun _=>0⟩
abbrev L_l8Prog:List (FuncId × Con):=[]
abbrev P_l8Prog:List (FuncId × PT):=[]
def VC_l8Prog (t:Int) (k:Nat):Prop:=True/\True/\True/\True/\(vcIf (decide ((1:Int)<=t)) (True/\True/\True/\True/\(((decide (t<=(4:Int)),()):Bool × Unit)=(pvV t,()))/\True/\True/\True/\True/\TF) (True/\True/\(((false,()):Bool × Unit)=(pvV t,()))/\True/\True/\True/\True/\TF))
theorem vcn_l8Prog (t:Int) (k:Nat):VC_l8Prog t k:=by
 unfold VC_l8Prog
 simp only [cln,Nat.reduceEqDiff,Nat.reduceLeDiff,Nat.reduceAdd]
 all_goals (try simp only [vcIf_iff,decide_eq_true_eq,decide_eq_false_iff_not,bne_iff_ne,ne_eq,beq_iff_eq,beq_eq_false_iff_ne,bne_eq_false_iff_eq,Bool.not_eq_true',Bool.not_eq_false',Int.ofNat_lt,Int.natCast_inj])
 all_goals (repeat' (first | apply And.intro | intro _))
 all_goals (repeat (cases ‹_/\_›))
 all_goals (first | omega | (simp_all;done) | grind [pvV,noA,fokC,fokB,prV,cvB,cvN] | skip)
theorem ok_l8Prog:FnOk Try.prog E 104 c_l8Prog :=
 fn_okQ (l:=L_l8Prog) (lp:=P_l8Prog) (hp:=fun _=>false) (gcs:=fun _=>none) (perm:=fun _=>[]) tabOk mix trivial trivial Try.func104 rfl (by kernel_rfl) (by decide) (by kernel_rfl) (anns:=fun x _=>fun _ _=>none) (fun ⟨t,_⟩ k _ _=>Eq.mp (by kernel_rfl) (vcn_l8Prog t k)) tot_fn
abbrev c_l1Is:Con:=⟨[.int],[.bool],fun _=>True,.inl fun (t,_)=>(isT t,()),fun _=>0⟩
abbrev L_l1Is:List (FuncId × Con):=[]
abbrev P_l1Is:List (FuncId × PT):=[]
def VC_l1Is (t:Int) (k:Nat):Prop:=True/\True/\True/\True/\(vcIf (decide ((0:Int)<=t)) (True/\True/\True/\True/\(((decide (t<=(8:Int)),()):Bool × Unit)=(isT t,()))/\True/\True/\True/\True/\TF) (True/\True/\(((false,()):Bool × Unit)=(isT t,()))/\True/\True/\True/\True/\TF))
theorem vcn_l1Is (t:Int) (k:Nat):VC_l1Is t k:=by
 unfold VC_l1Is
 simp only [cln,Nat.reduceEqDiff,Nat.reduceLeDiff,Nat.reduceAdd]
 cases h:decide (0<=t) <;> simp [vcIf,isT,h]
theorem ok_l1Is:FnOk Try.prog E 105 c_l1Is :=
 fn_okQ (l:=L_l1Is) (lp:=P_l1Is) (hp:=fun _=>false) (gcs:=fun _=>none) (perm:=fun _=>[]) tabOk mix trivial trivial Try.func105 rfl (by kernel_rfl) (by decide) (by kernel_rfl) (anns:=fun x _=>fun _ _=>none) (fun ⟨t,_⟩ k _ _=>Eq.mp (by kernel_rfl) (vcn_l1Is t k)) tot_fn
abbrev c_l8Basic:Con:=⟨[.cmd],[.bool],fun (c,_)=>BdC c,.inl fun (c,_)=>(fokB c,()),fun _=>0⟩
abbrev L_l8Basic:List (FuncId × Con):=[(84,c_l8NoInv),(103,c_l8NoFact),(104,c_l8Prog),(105,c_l1Is)]
abbrev P_l8Basic:List (FuncId × PT):=[]
def VC_l8Basic_1 (c:GCmd):Prop:=True/\(((false,()):Bool × Unit)=(fokB c,()))/\True/\True/\True/\True/\TF
def VC_l8Basic_2 (c:GCmd):Prop:=True/\(VC_l8Basic_1 c)
def VC_l8Basic_3 (c:GCmd):Prop:=True/\True/\(VC_l8Basic_2 c)
def VC_l8Basic_4 (c:GCmd):Prop:=True/\True/\(True/\True/\True)/\True/\True/\((((isT c.b),()):Bool × Unit)=(fokB c,()))/\True/\True/\True/\True/\TF
def VC_l8Basic_5 (c:GCmd):Prop:=True/\True/\(True/\True/\True)/\True/\(vcIf (pvV c.a) (VC_l8Basic_4 c) (VC_l8Basic_2 c))
def VC_l8Basic_6 (c:GCmd):Prop:=True/\True/\True/\True/\True/\(((c.b == (0:Int),()):Bool × Unit)=(fokB c,()))/\True/\True/\True/\True/\TF
def VC_l8Basic_7 (c:GCmd):Prop:=True/\True/\(vcIf (c.kind == (3:Int)) (True/\True/\(True/\True/\True)/\True/\(vcIf (isT c.a) (VC_l8Basic_4 c) (VC_l8Basic_2 c))) (True/\True/\(vcIf (c.kind == (4:Int)) (True/\True/\(True/\True/\True)/\True/\(vcIf (pvV c.a) (VC_l8Basic_6 c) (VC_l8Basic_2 c))) (True/\True/\(vcIf (c.kind == (5:Int)) (True/\True/\(True/\True/\True)/\True/\(vcIf (isT c.a) (VC_l8Basic_6 c) (VC_l8Basic_2 c))) (VC_l8Basic_1 c))))))
def VC_l8Basic (c:GCmd) (k:Nat):Prop:=TN/\True/\True/\True/\(True/\True/\True)/\True/\True/\(vcIf (!(decide (c.test=⟨false,0,0⟩))) (True/\True/\(VC_l8Basic_3 c)) (True/\True/\((c.inv.facts.length<=281474976710656/\c.inv.atoms.length<=281474976710656)/\True/\True)/\True/\True/\True/\(vcIf (!(noA c.inv)) (VC_l8Basic_3 c) (True/\True/\True/\True/\True/\True/\(vcIf (decide ((0:Int) < ((c.body.length:Nat):Int))) (VC_l8Basic_2 c) (True/\True/\True/\True/\True/\(vcIf (decide ((0:Int) < ((c.els.length:Nat):Int))) (VC_l8Basic_1 c) (True/\True/\True/\True/\(vcIf (c.kind == (1:Int)) (vcIf (c.kind == (1:Int)) (VC_l8Basic_5 c) (VC_l8Basic_7 c)) (True/\True/\(vcIf (c.kind == (2:Int)) (VC_l8Basic_5 c) (VC_l8Basic_7 c))))))))))))
theorem vcn_l8Basic (c:GCmd) (k:Nat) (hp:BdC c):VC_l8Basic c k:=by
 unfold VC_l8Basic VC_l8Basic_7 VC_l8Basic_6 VC_l8Basic_5 VC_l8Basic_4 VC_l8Basic_3 VC_l8Basic_2 VC_l8Basic_1
 simp only [cln,Nat.reduceEqDiff,Nat.reduceLeDiff,Nat.reduceAdd,GCmd.eta]
 have b1:=hp.f
 have b2:=hp.a
 all_goals (try simp only [vcIf_iff,decide_eq_true_eq,decide_eq_false_iff_not,bne_iff_ne,ne_eq,beq_iff_eq,beq_eq_false_iff_ne,bne_eq_false_iff_eq,Bool.not_eq_true',Bool.not_eq_false',Int.ofNat_lt,Int.natCast_inj])
 all_goals (repeat' (first | apply And.intro | intro _))
 all_goals (repeat (cases ‹_/\_›))
 all_goals (first | omega | (simp_all;done) | grind [pvV,noA,fokC,fokB,prV,cvB,cvN] | skip)
theorem ok_l8Basic:FnOk Try.prog E 63 c_l8Basic :=
 fn_okQ (l:=L_l8Basic) (lp:=P_l8Basic) (hp:=fun _=>false) (gcs:=fun _=>none) (perm:=fun _=>[]) tabOk mix ⟨ok_l8NoInv,ok_l8NoFact,ok_l8Prog,ok_l1Is,trivial⟩ trivial Try.func63 rfl (by kernel_rfl) (by decide) (by kernel_rfl) (anns:=fun x _=>fun _ _=>none) (fun ⟨c,_⟩ k hp _=>Eq.mp (by kernel_rfl) (vcn_l8Basic c k hp)) tot_fn
end Go.Proofs.Ytkafaeeianofnaa
