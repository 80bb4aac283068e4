/-
  Contracts of single functions of the program, each shown by the engine: what a call returns for arguments within the contract's bounds.
-/
import Derived.Test.YtkafaeeianofnaaProg
import Derived.KernelRfl
import Derived.Test.YtkafaeeianofnaaEc
import Derived.Test.YtkafaeeianofnaaEd
import Derived.Test.YtkafaeeianofnaaEe
set_option linter.unusedSimpArgs false
set_option linter.unusedVariables false
set_option linter.unusedSectionVars false

namespace Go.Proofs.Ytkafaeeianofnaa
open Go.SE Go.RowKit
variable [Base]
def E:Ty->TypeId
 | .int=>3
 | .bool=>4
 | .u8=>5
 | .fact=>43
 | .atom=>119
 | .cmd=>49
 | .ints=>35
 | .asn=>0
 | .cmds=>23
 | .cpair=>78
 | .lcmd=>0
 | .xcmd=>0
 | .lfact=>0
 | .latom=>0
def tabL:List (TypeId × TI):=[
 (2,⟨1,8,.sc (.int .i64 0)⟩),
 (3,⟨1,8,.sc (.int .i64 0)⟩),
 (4,⟨1,1,.sc (.bool false)⟩),
 (5,⟨1,1,.sc (.int .u8 0)⟩),
 (7,⟨4,24,.st [.sc (.int .i64 0),.sc (.int .i64 0),.sc (.bool false),.sc (.int .u8 0)] [(0,1,false),(1,1,false),(2,1,false),(3,1,false)]⟩),
 (9,⟨1,16,.sc (.string ⟨#[]⟩)⟩),
 (12,⟨1,8,.sc (.int .u64 0)⟩),
 (13,⟨2,24,.st [.sc (.string ⟨#[]⟩),.sc (.int .u64 0)] [(0,1,false),(1,1,false)]⟩),
 (21,⟨1,4,.sc (.int .i32 0)⟩),
 (22,⟨1,24,.sl true 5 .u8⟩),
 (23,⟨1,24,.sl true 49 .cmd⟩),
 (28,⟨1,24,.sl false 63 .lcmd⟩),
 (35,⟨1,24,.sl true 3 .int⟩),
 (40,⟨2,48,.st [.sl .int,.sl .int] [(0,1,false),(1,1,false)]⟩),
 (41,⟨2,48,.st [.sl .int,.sl .int] [(0,1,false),(1,1,false)]⟩),
 (42,⟨3,24,.st [.sc (.bool false),.sc (.int .i64 0),.sc (.int .i64 0)] [(0,1,false),(1,1,false),(2,1,false)]⟩),
 (43,⟨3,24,.st [.sc (.bool false),.sc (.int .i64 0),.sc (.int .i64 0)] [(0,1,false),(1,1,false),(2,1,false)]⟩),
 (44,⟨1,24,.sl true 43 .fact⟩),
 (45,⟨1,24,.sl true 119 .atom⟩),
 (46,⟨2,48,.st [.sl .fact,.sl .atom] [(0,1,false),(1,1,false)]⟩),
 (47,⟨2,48,.st [.sl .fact,.sl .atom] [(0,1,false),(1,1,false)]⟩),
 (48,⟨10,144,.st [.sc (.int .i64 0),.sc (.int .i64 0),.sc (.int .i64 0),.sc (.bool false),.sc (.int .i64 0),.sc (.int .i64 0),.sl .fact,.sl .atom,.sl .cmd,.sl .cmd] [(0,1,false),(1,1,false),(2,1,false),(3,3,true),(6,2,true),(8,1,false),(9,1,false)]⟩),
 (49,⟨10,144,.st [.sc (.int .i64 0),.sc (.int .i64 0),.sc (.int .i64 0),.sc (.bool false),.sc (.int .i64 0),.sc (.int .i64 0),.sl .fact,.sl .atom,.sl .cmd,.sl .cmd] [(0,1,false),(1,1,false),(2,1,false),(3,3,true),(6,2,true),(8,1,false),(9,1,false)]⟩),
 (56,⟨2,48,.st [.sl .int,.sl .int] [(0,1,false),(1,1,false)]⟩),
 (57,⟨3,24,.st [.sc (.bool false),.sc (.int .i64 0),.sc (.int .i64 0)] [(0,1,false),(1,1,false),(2,1,false)]⟩),
 (58,⟨1,24,.sl false 57 .lfact⟩),
 (59,⟨1,24,.sl false 145 .latom⟩),
 (60,⟨2,48,.st [.sl .lfact,.sl .latom] [(0,1,false),(1,1,false)]⟩),
 (61,⟨2,48,.st [.sl .lfact,.sl .latom] [(0,1,false),(1,1,false)]⟩),
 (62,⟨10,144,.st [.sc (.int .i64 0),.sc (.int .i64 0),.sc (.int .i64 0),.sc (.bool false),.sc (.int .i64 0),.sc (.int .i64 0),.sl .lfact,.sl .latom,.sl .lcmd,.sl .lcmd] [(0,1,false),(1,1,false),(2,1,false),(3,3,true),(6,2,true),(8,1,false),(9,1,false)]⟩),
 (63,⟨10,144,.st [.sc (.int .i64 0),.sc (.int .i64 0),.sc (.int .i64 0),.sc (.bool false),.sc (.int .i64 0),.sc (.int .i64 0),.sl .lfact,.sl .latom,.sl .lcmd,.sl .lcmd] [(0,1,false),(1,1,false),(2,1,false),(3,3,true),(6,2,true),(8,1,false),(9,1,false)]⟩),
 (77,⟨2,48,.st [.sl .cmd,.sl .cmd] [(0,1,false),(1,1,false)]⟩),
 (78,⟨2,48,.st [.sl .cmd,.sl .cmd] [(0,1,false),(1,1,false)]⟩),
 (79,⟨1,24,.sl true 78 .cpair⟩),
 (81,⟨1,8,.sc (.pointer none)⟩),
 (82,⟨3,24,.st [.sc (.pointer none),.sc (.pointer none),.sc (.int .i64 0)] [(0,1,false),(1,1,false),(2,1,false)]⟩),
 (83,⟨3,24,.st [.sc (.pointer none),.sc (.pointer none),.sc (.int .i64 0)] [(0,1,false),(1,1,false),(2,1,false)]⟩),
 (89,⟨1,2,.sc (.int .u16 0)⟩),
 (90,⟨1,2,.sc (.int .u16 0)⟩),
 (94,⟨1,24,.sl true 4 .bool⟩),
 (102,⟨3,56,.st [.sl .int,.sl .int,.sc (.int .i64 0)] [(0,2,true),(2,1,false)]⟩),
 (103,⟨3,56,.st [.sl .int,.sl .int,.sc (.int .i64 0)] [(0,2,true),(2,1,false)]⟩),
 (113,⟨2,32,.st [.sl .u8,.sc (.int .i64 0)] [(0,1,false),(1,1,false)]⟩),
 (114,⟨2,32,.st [.sl .u8,.sc (.int .i64 0)] [(0,1,false),(1,1,false)]⟩),
 (118,⟨3,24,.st [.sc (.int .i64 0),.sc (.int .i64 0),.sc (.int .i64 0)] [(0,1,false),(1,1,false),(2,1,false)]⟩),
 (119,⟨3,24,.st [.sc (.int .i64 0),.sc (.int .i64 0),.sc (.int .i64 0)] [(0,1,false),(1,1,false),(2,1,false)]⟩),
 (122,⟨2,48,.ar 2 23 .cmds⟩),
 (145,⟨3,24,.st [.sc (.int .i64 0),.sc (.int .i64 0),.sc (.int .i64 0)] [(0,1,false),(1,1,false),(2,1,false)]⟩),
 (156,⟨1,4,.sc (.int .u32 0)⟩),
 (168,⟨1,8,.sc (.int .u64 0)⟩)]
def tab:TypeId->Option TI:=lookT tabL
theorem tab2:tab 2=some ⟨1,8,.sc (.int .i64 0)⟩:=rfl
theorem tab3:tab 3=some ⟨1,8,.sc (.int .i64 0)⟩:=rfl
theorem tab4:tab 4=some ⟨1,1,.sc (.bool false)⟩:=rfl
theorem tab5:tab 5=some ⟨1,1,.sc (.int .u8 0)⟩:=rfl
theorem tab7:tab 7=some ⟨4,24,.st [.sc (.int .i64 0),.sc (.int .i64 0),.sc (.bool false),.sc (.int .u8 0)] [(0,1,false),(1,1,false),(2,1,false),(3,1,false)]⟩:=rfl
theorem tab9:tab 9=some ⟨1,16,.sc (.string ⟨#[]⟩)⟩:=rfl
theorem tab12:tab 12=some ⟨1,8,.sc (.int .u64 0)⟩:=rfl
theorem tab13:tab 13=some ⟨2,24,.st [.sc (.string ⟨#[]⟩),.sc (.int .u64 0)] [(0,1,false),(1,1,false)]⟩:=rfl
theorem tab21:tab 21=some ⟨1,4,.sc (.int .i32 0)⟩:=rfl
theorem tab22:tab 22=some ⟨1,24,.sl true 5 .u8⟩:=rfl
theorem tab23:tab 23=some ⟨1,24,.sl true 49 .cmd⟩:=rfl
theorem tab28:tab 28=some ⟨1,24,.sl false 63 .lcmd⟩:=rfl
theorem tab35:tab 35=some ⟨1,24,.sl true 3 .int⟩:=rfl
theorem tab40:tab 40=some ⟨2,48,.st [.sl .int,.sl .int] [(0,1,false),(1,1,false)]⟩:=rfl
theorem tab41:tab 41=some ⟨2,48,.st [.sl .int,.sl .int] [(0,1,false),(1,1,false)]⟩:=rfl
theorem tab42:tab 42=some ⟨3,24,.st [.sc (.bool false),.sc (.int .i64 0),.sc (.int .i64 0)] [(0,1,false),(1,1,false),(2,1,false)]⟩:=rfl
theorem tab43:tab 43=some ⟨3,24,.st [.sc (.bool false),.sc (.int .i64 0),.sc (.int .i64 0)] [(0,1,false),(1,1,false),(2,1,false)]⟩:=rfl
theorem tab44:tab 44=some ⟨1,24,.sl true 43 .fact⟩:=rfl
theorem tab45:tab 45=some ⟨1,24,.sl true 119 .atom⟩:=rfl
theorem tab46:tab 46=some ⟨2,48,.st [.sl .fact,.sl .atom] [(0,1,false),(1,1,false)]⟩:=rfl
theorem tab47:tab 47=some ⟨2,48,.st [.sl .fact,.sl .atom] [(0,1,false),(1,1,false)]⟩:=rfl
theorem tab48:tab 48=some ⟨10,144,.st [.sc (.int .i64 0),.sc (.int .i64 0),.sc (.int .i64 0),.sc (.bool false),.sc (.int .i64 0),.sc (.int .i64 0),.sl .fact,.sl .atom,.sl .cmd,.sl .cmd] [(0,1,false),(1,1,false),(2,1,false),(3,3,true),(6,2,true),(8,1,false),(9,1,false)]⟩:=rfl
theorem tab49:tab 49=some ⟨10,144,.st [.sc (.int .i64 0),.sc (.int .i64 0),.sc (.int .i64 0),.sc (.bool false),.sc (.int .i64 0),.sc (.int .i64 0),.sl .fact,.sl .atom,.sl .cmd,.sl .cmd] [(0,1,false),(1,1,false),(2,1,false),(3,3,true),(6,2,true),(8,1,false),(9,1,false)]⟩:=rfl
theorem tab56:tab 56=some ⟨2,48,.st [.sl .int,.sl .int] [(0,1,false),(1,1,false)]⟩:=rfl
theorem tab57:tab 57=some ⟨3,24,.st [.sc (.bool false),.sc (.int .i64 0),.sc (.int .i64 0)] [(0,1,false),(1,1,false),(2,1,false)]⟩:=rfl
theorem tab58:tab 58=some ⟨1,24,.sl false 57 .lfact⟩:=rfl
theorem tab59:tab 59=some ⟨1,24,.sl false 145 .latom⟩:=rfl
theorem tab60:tab 60=some ⟨2,48,.st [.sl .lfact,.sl .latom] [(0,1,false),(1,1,false)]⟩:=rfl
theorem tab61:tab 61=some ⟨2,48,.st [.sl .lfact,.sl .latom] [(0,1,false),(1,1,false)]⟩:=rfl
theorem tab62:tab 62=some ⟨10,144,.st [.sc (.int .i64 0),.sc (.int .i64 0),.sc (.int .i64 0),.sc (.bool false),.sc (.int .i64 0),.sc (.int .i64 0),.sl .lfact,.sl .latom,.sl .lcmd,.sl .lcmd] [(0,1,false),(1,1,false),(2,1,false),(3,3,true),(6,2,true),(8,1,false),(9,1,false)]⟩:=rfl
theorem tab63:tab 63=some ⟨10,144,.st [.sc (.int .i64 0),.sc (.int .i64 0),.sc (.int .i64 0),.sc (.bool false),.sc (.int .i64 0),.sc (.int .i64 0),.sl .lfact,.sl .latom,.sl .lcmd,.sl .lcmd] [(0,1,false),(1,1,false),(2,1,false),(3,3,true),(6,2,true),(8,1,false),(9,1,false)]⟩:=rfl
theorem tab77:tab 77=some ⟨2,48,.st [.sl .cmd,.sl .cmd] [(0,1,false),(1,1,false)]⟩:=rfl
theorem tab78:tab 78=some ⟨2,48,.st [.sl .cmd,.sl .cmd] [(0,1,false),(1,1,false)]⟩:=rfl
theorem tab79:tab 79=some ⟨1,24,.sl true 78 .cpair⟩:=rfl
theorem tab81:tab 81=some ⟨1,8,.sc (.pointer none)⟩:=rfl
theorem tab82:tab 82=some ⟨3,24,.st [.sc (.pointer none),.sc (.pointer none),.sc (.int .i64 0)] [(0,1,false),(1,1,false),(2,1,false)]⟩:=rfl
theorem tab83:tab 83=some ⟨3,24,.st [.sc (.pointer none),.sc (.pointer none),.sc (.int .i64 0)] [(0,1,false),(1,1,false),(2,1,false)]⟩:=rfl
theorem tab89:tab 89=some ⟨1,2,.sc (.int .u16 0)⟩:=rfl
theorem tab90:tab 90=some ⟨1,2,.sc (.int .u16 0)⟩:=rfl
theorem tab94:tab 94=some ⟨1,24,.sl true 4 .bool⟩:=rfl
theorem tab102:tab 102=some ⟨3,56,.st [.sl .int,.sl .int,.sc (.int .i64 0)] [(0,2,true),(2,1,false)]⟩:=rfl
theorem tab103:tab 103=some ⟨3,56,.st [.sl .int,.sl .int,.sc (.int .i64 0)] [(0,2,true),(2,1,false)]⟩:=rfl
theorem tab113:tab 113=some ⟨2,32,.st [.sl .u8,.sc (.int .i64 0)] [(0,1,false),(1,1,false)]⟩:=rfl
theorem tab114:tab 114=some ⟨2,32,.st [.sl .u8,.sc (.int .i64 0)] [(0,1,false),(1,1,false)]⟩:=rfl
theorem tab118:tab 118=some ⟨3,24,.st [.sc (.int .i64 0),.sc (.int .i64 0),.sc (.int .i64 0)] [(0,1,false),(1,1,false),(2,1,false)]⟩:=rfl
theorem tab119:tab 119=some ⟨3,24,.st [.sc (.int .i64 0),.sc (.int .i64 0),.sc (.int .i64 0)] [(0,1,false),(1,1,false),(2,1,false)]⟩:=rfl
theorem tab122:tab 122=some ⟨2,48,.ar 2 23 .cmds⟩:=rfl
theorem tab145:tab 145=some ⟨3,24,.st [.sc (.int .i64 0),.sc (.int .i64 0),.sc (.int .i64 0)] [(0,1,false),(1,1,false),(2,1,false)]⟩:=rfl
theorem tab156:tab 156=some ⟨1,4,.sc (.int .u32 0)⟩:=rfl
theorem tab168:tab 168=some ⟨1,8,.sc (.int .u64 0)⟩:=rfl
theorem tabOk:TabOk Try.prog E tab:=tab_ok (by kernel_rfl)
theorem mix:Try.prog.follows .mixedOrders=true:=by kernel_rfl
end Go.Proofs.Ytkafaeeianofnaa

namespace Go.Proofs.Ytkafaeeianofnaa
open Go.SE Go.RowKit
variable [Base]
set_option linter.unusedSectionVars false
set_option linter.unusedSimpArgs false
set_option linter.unusedVariables false
set_option maxHeartbeats 1000000
set_option maxRecDepth 100000
abbrev c_isValue:Con:=⟨[.int],[.bool],fun _=>True,.inl fun (t,_)=>(isT t,()),fun _=>0⟩
abbrev L_isValue:List (FuncId × Con):=[]
abbrev P_isValue:List (FuncId × PT):=[]
def VC_isValue (t:Int) (k:Nat):Prop:=True/\True/\True/\True/\(vcIf (decide ((0:Int)<=t)) (True/\True/\True/\True/\(((decide (t<=(8:Int)),()):Bool × Unit)=(isT t,()))/\True/\True/\True/\True/\TF) (True/\True/\(((false,()):Bool × Unit)=(isT t,()))/\True/\True/\True/\True/\TF))
theorem vcn_isValue (t:Int) (k:Nat):VC_isValue t k:=by
 unfold VC_isValue
 simp only [cln,Nat.reduceEqDiff,Nat.reduceLeDiff,Nat.reduceAdd]
 cases h:decide (0<=t) <;> simp [vcIf,isT,h]
theorem ok_isValue:FnOk Try.prog E 66 c_isValue :=
 fn_okQ (l:=L_isValue) (lp:=P_isValue) (hp:=fun _=>false) (gcs:=fun _=>none) (perm:=fun _=>[]) tabOk mix trivial trivial Try.func66 rfl (by kernel_rfl) (by decide) (by kernel_rfl) (anns:=fun x _=>fun _ _=>none) (fun ⟨t,_⟩ k _ _=>Eq.mp (by kernel_rfl) (vcn_isValue t k)) tot_fn
abbrev c_iStateValid:Con:=⟨[.state],[.bool],fun (s,_)=>s.vals.length<=281474976710656/\s.heap.length<=281474976710656,.inl fun (s,_)=>(stV s,()),fun _=>0⟩
abbrev L_iStateValid:List (FuncId × Con):=[(66,c_isValue)]
abbrev P_iStateValid:List (FuncId × PT):=[]
def an_iStateValid (s:GState):Nat->St->Option Ann
 | 4,se=>some { α:=Nat,ok:=fun i=>i<=s.vals.length/\s.vals.length=8/\s.heap.length=8/\(s.vals.take i).all isT=true,mu:=fun i=>s.vals.length - i,i0:=fun _=>0,nx:=fun a _=>(fun i=>i+1) a,live:=[1,18,19],sets:=fun i=>[(20,sv (.int .i64 i))],mids:=[31],blks:=fun i=>[],owns:=fun i=>[],rd:=fun r _=>r,base:=100000 }
 | 10,se=>some { α:=Nat,ok:=fun i=>i<=s.heap.length/\s.vals.length=8/\s.heap.length=8/\s.vals.all isT=true/\(s.heap.take i).all hv=true,mu:=fun i=>s.heap.length - i,i0:=fun _=>0,nx:=fun a _=>(fun i=>i+1) a,live:=[29,30],sets:=fun i=>[(31,sv (.int .i64 i))],mids:=[],blks:=fun i=>[],owns:=fun i=>[],rd:=fun r _=>r,base:=200000 }
 | _,_=>none
def VC_iStateValid_1 (s:GState):Prop:=True/\(((false,()):Bool × Unit)=(stV s,()))/\True/\True/\True/\True/\TF
def VC_iStateValid_2 (s:GState):Prop:=RL [.s (.c (.ptr 31 0)),.s (.c (.d (.arr .int s.vals))),.s (.c (.d (.val (.int .i64 ((s.vals.length:Nat):Int)))))]
def VC_iStateValid_3 :Prop:=([.s (.c (.d (.val (.int .i64 (0:Int)))))]:List S)=[.s (.c (.d (.val (.int .i64 ((0:Nat):Int)))))]
def VC_iStateValid_4 (i1:Nat):Prop:=([.s (.c (.d (.val (.int .i64 (((i1:Nat):Int)+(1:Int))))))]:List S)=[.s (.c (.d (.val (.int .i64 (((i1+1):Nat):Int)))))]
def VC_iStateValid_5 (s:GState):Prop:=RL [.s (.c (.d (.arr .int s.heap))),.s (.c (.d (.val (.int .i64 ((s.heap.length:Nat):Int)))))]
def VC_iStateValid_6 (i2:Nat) (s:GState):Prop:=(inK .i64 (((i2:Nat):Int)+(1:Int)))/\True/\((i2+1)<=s.heap.length/\s.vals.length=8/\s.heap.length=8/\s.vals.all isT=true/\(s.heap.take (i2+1)).all hv=true)/\(s.heap.length - (i2+1) < s.heap.length - i2)/\TT/\(VC_iStateValid_5 s)/\(VC_iStateValid_4 i2)/\(RM [])/\(RM [])/\True/\TT
def VC_iStateValid (s:GState) (k:Nat):Prop:=TN/\True/\True/\True/\True/\True/\True/\(vcIf (((s.vals.length:Nat):Int) != (8:Int)) (True/\(VC_iStateValid_1 s)) (True/\True/\True/\True/\True/\(vcIf (((s.heap.length:Nat):Int) != (8:Int)) (VC_iStateValid_1 s) (True/\True/\True/\True/\((0<=s.vals.length/\s.vals.length=8/\s.heap.length=8/\(s.vals.take 0).all isT=true)/\TT/\(VC_iStateValid_2 s)/\VC_iStateValid_3/\(RM [some (.blk [.d (.arr .int s.vals),.d (.arr .int s.heap)])])/\(RM [])/\True/\TT)/\(∀ i1:Nat,(i1<=s.vals.length/\s.vals.length=8/\s.heap.length=8/\(s.vals.take i1).all isT=true)->True/\(vcIf (decide (((i1:Nat):Int) < ((s.vals.length:Nat):Int))) ((0<=((i1:Nat):Int)/\((i1:Nat):Int) < ((s.vals.length:Nat):Int))/\True/\True/\True/\(True/\True/\True)/\True/\(vcIf (!(isT (s.vals.getD i1 (0:Int)))) (VC_iStateValid_1 s) ((inK .i64 (((i1:Nat):Int)+(1:Int)))/\True/\((i1+1)<=s.vals.length/\s.vals.length=8/\s.heap.length=8/\(s.vals.take (i1+1)).all isT=true)/\(s.vals.length - (i1+1) < s.vals.length - i1)/\TT/\(VC_iStateValid_2 s)/\(VC_iStateValid_4 i1)/\(RM [some (.blk [.d (.arr .int s.vals),.d (.arr .int s.heap)])])/\(RM [])/\True/\TT))) (True/\True/\True/\True/\((0<=s.heap.length/\s.vals.length=8/\s.heap.length=8/\s.vals.all isT=true/\(s.heap.take 0).all hv=true)/\TT/\(VC_iStateValid_5 s)/\VC_iStateValid_3/\(RM [])/\(RM [])/\True/\TT)/\(∀ i2:Nat,(i2<=s.heap.length/\s.vals.length=8/\s.heap.length=8/\s.vals.all isT=true/\(s.heap.take i2).all hv=true)->True/\(vcIf (decide (((i2:Nat):Int) < ((s.heap.length:Nat):Int))) ((0<=((i2:Nat):Int)/\((i2:Nat):Int) < ((s.heap.length:Nat):Int))/\True/\True/\True/\True/\True/\(vcIf ((s.heap.getD i2 (0:Int)) != (-1:Int)) (True/\(True/\True/\True)/\True/\True/\(vcIf (!(isT (s.heap.getD i2 (0:Int)))) (VC_iStateValid_1 s) (VC_iStateValid_6 i2 s))) (True/\(VC_iStateValid_6 i2 s)))) (True/\(((true,()):Bool × Unit)=(stV s,()))/\True/\True/\True/\True/\TF))))))))))
theorem vcn_iStateValid (s:GState) (k:Nat) (hp:s.vals.length<=281474976710656/\s.heap.length<=281474976710656):VC_iStateValid s k:=by
 unfold VC_iStateValid VC_iStateValid_6 VC_iStateValid_5 VC_iStateValid_4 VC_iStateValid_3 VC_iStateValid_2 VC_iStateValid_1
 simp only [cln,Nat.reduceEqDiff,Nat.reduceLeDiff,Nat.reduceAdd]
 all_goals (try simp only [opn])
 all_goals (repeat' (first | apply And.intro | intro _))
 all_goals (first | omega | (simp_all;done) | grind [stV,hv,take_all,all_take,take_full])
theorem ok_iStateValid:FnOk Try.prog E 31 c_iStateValid :=
 fn_okQ (l:=L_iStateValid) (lp:=P_iStateValid) (hp:=fun _=>false) (gcs:=fun _=>none) (perm:=fun _=>[]) tabOk mix ⟨ok_isValue,trivial⟩ trivial Try.func31 rfl (by kernel_rfl) (by decide) (by kernel_rfl) (anns:=fun x _=>an_iStateValid x.1) (fun ⟨s,_⟩ k hp _=>Eq.mp (by kernel_rfl) (vcn_iStateValid s k hp)) tot_fn
abbrev c_isBasic:Con:=⟨[.cmd],[.bool],fun _=>True,.inl fun (c,_)=>(decide (1<=c.kind) && decide (c.kind<=5),()),fun _=>0⟩
abbrev L_isBasic:List (FuncId × Con):=[]
abbrev P_isBasic:List (FuncId × PT):=[]
def VC_isBasic (c:GCmd) (k:Nat):Prop:=TN/\True/\True/\True/\True/\True/\(vcIf (decide ((1:Int)<=c.kind)) (True/\True/\True/\True/\True/\(((decide (c.kind<=(5:Int)),()):Bool × Unit)=(decide (1<=c.kind) && decide (c.kind<=5),()))/\True/\True/\True/\True/\TF) (True/\True/\(((false,()):Bool × Unit)=(decide (1<=c.kind) && decide (c.kind<=5),()))/\True/\True/\True/\True/\TF))
theorem vcn_isBasic (c:GCmd) (k:Nat):VC_isBasic c k:=by
 unfold VC_isBasic
 simp only [cln,Nat.reduceEqDiff,Nat.reduceLeDiff,Nat.reduceAdd]
 all_goals (try simp only [vcIf_iff,decide_eq_true_eq,decide_eq_false_iff_not,bne_iff_ne,ne_eq,beq_iff_eq,beq_eq_false_iff_ne,bne_eq_false_iff_eq,Bool.not_eq_true',Bool.not_eq_false',Int.ofNat_lt,Int.natCast_inj])
 all_goals (repeat' (first | apply And.intro | intro _))
 all_goals (repeat (cases ‹_/\_›))
 all_goals (first | omega | (simp_all;done) | grind [pvV,noA,fokC,fokB,prV,cvB,cvN] | skip)
theorem ok_isBasic:FnOk Try.prog E 58 c_isBasic :=
 fn_okQ (l:=L_isBasic) (lp:=P_isBasic) (hp:=fun _=>false) (gcs:=fun _=>none) (perm:=fun _=>[]) tabOk mix trivial trivial Try.func58 rfl (by kernel_rfl) (by decide) (by kernel_rfl) (anns:=fun x _=>fun _ _=>none) (fun ⟨c,_⟩ k _ _=>Eq.mp (by kernel_rfl) (vcn_isBasic c k)) tot_fn
abbrev c_noAssn:Con:=⟨[.asn],[.bool],fun (a,_)=>a.facts.length<=281474976710656/\a.atoms.length<=281474976710656,.inl fun (a,_)=>(noA a,()),fun _=>0⟩
abbrev L_noAssn:List (FuncId × Con):=[]
abbrev P_noAssn:List (FuncId × PT):=[]
def VC_noAssn (a:GAsn) (k:Nat):Prop:=TN/\True/\True/\True/\True/\True/\True/\(vcIf (((a.facts.length:Nat):Int) == (0:Int)) (True/\True/\True/\True/\True/\True/\(((((a.atoms.length:Nat):Int) == (0:Int),()):Bool × Unit)=(noA a,()))/\True/\True/\True/\True/\TF) (True/\True/\(((false,()):Bool × Unit)=(noA a,()))/\True/\True/\True/\True/\TF))
theorem vcn_noAssn (a:GAsn) (k:Nat) (hp:a.facts.length<=281474976710656/\a.atoms.length<=281474976710656):VC_noAssn a k:=by
 unfold VC_noAssn
 simp only [cln,Nat.reduceEqDiff,Nat.reduceLeDiff,Nat.reduceAdd]
 all_goals (try simp only [vcIf_iff,decide_eq_true_eq,decide_eq_false_iff_not,bne_iff_ne,ne_eq,beq_iff_eq,beq_eq_false_iff_ne,bne_eq_false_iff_eq,Bool.not_eq_true',Bool.not_eq_false',Int.ofNat_lt,Int.natCast_inj])
 all_goals (repeat' (first | apply And.intro | intro _))
 all_goals (repeat (cases ‹_/\_›))
 all_goals (first | omega | (simp_all;done) | grind [pvV,noA,fokC,fokB,prV,cvB,cvN] | skip)
theorem ok_noAssn:FnOk Try.prog E 92 c_noAssn :=
 fn_okQ (l:=L_noAssn) (lp:=P_noAssn) (hp:=fun _=>false) (gcs:=fun _=>none) (perm:=fun _=>[]) tabOk mix trivial trivial Try.func92 rfl (by kernel_rfl) (by decide) (by kernel_rfl) (anns:=fun x _=>fun _ _=>none) (fun ⟨a,_⟩ k hp _=>Eq.mp (by kernel_rfl) (vcn_noAssn a k hp)) tot_fn
abbrev c_isPV:Con:=⟨[.int],[.bool],fun _=>True,.inl fun (t,_)=>(pvV t,()),fun _=>0⟩
abbrev L_isPV:List (FuncId × Con):=[]
abbrev P_isPV:List (FuncId × PT):=[]
def VC_isPV (t:Int) (k:Nat):Prop:=True/\True/\True/\True/\(vcIf (decide ((1:Int)<=t)) (True/\True/\True/\True/\(((decide (t<=(4:Int)),()):Bool × Unit)=(pvV t,()))/\True/\True/\True/\True/\TF) (True/\True/\(((false,()):Bool × Unit)=(pvV t,()))/\True/\True/\True/\True/\TF))
theorem vcn_isPV (t:Int) (k:Nat):VC_isPV t k:=by
 unfold VC_isPV
 simp only [cln,Nat.reduceEqDiff,Nat.reduceLeDiff,Nat.reduceAdd]
 all_goals (try simp only [vcIf_iff,decide_eq_true_eq,decide_eq_false_iff_not,bne_iff_ne,ne_eq,beq_iff_eq,beq_eq_false_iff_ne,bne_eq_false_iff_eq,Bool.not_eq_true',Bool.not_eq_false',Int.ofNat_lt,Int.natCast_inj])
 all_goals (repeat' (first | apply And.intro | intro _))
 all_goals (repeat (cases ‹_/\_›))
 all_goals (first | omega | (simp_all;done) | grind [pvV,noA,fokC,fokB,prV,cvB,cvN] | skip)
theorem ok_isPV:FnOk Try.prog E 93 c_isPV :=
 fn_okQ (l:=L_isPV) (lp:=P_isPV) (hp:=fun _=>false) (gcs:=fun _=>none) (perm:=fun _=>[]) tabOk mix trivial trivial Try.func93 rfl (by kernel_rfl) (by decide) (by kernel_rfl) (anns:=fun x _=>fun _ _=>none) (fun ⟨t,_⟩ k _ _=>Eq.mp (by kernel_rfl) (vcn_isPV t k)) tot_fn
abbrev c_isTerm:Con:=⟨[.int],[.bool],fun _=>True,.inl fun (t,_)=>(isT t,()),fun _=>0⟩
abbrev L_isTerm:List (FuncId × Con):=[]
abbrev P_isTerm:List (FuncId × PT):=[]
def VC_isTerm (t:Int) (k:Nat):Prop:=True/\True/\True/\True/\(vcIf (decide ((0:Int)<=t)) (True/\True/\True/\True/\(((decide (t<=(8:Int)),()):Bool × Unit)=(isT t,()))/\True/\True/\True/\True/\TF) (True/\True/\(((false,()):Bool × Unit)=(isT t,()))/\True/\True/\True/\True/\TF))
theorem vcn_isTerm (t:Int) (k:Nat):VC_isTerm t k:=by
 unfold VC_isTerm
 simp only [cln,Nat.reduceEqDiff,Nat.reduceLeDiff,Nat.reduceAdd]
 cases h:decide (0<=t) <;> simp [vcIf,isT,h]
theorem ok_isTerm:FnOk Try.prog E 94 c_isTerm :=
 fn_okQ (l:=L_isTerm) (lp:=P_isTerm) (hp:=fun _=>false) (gcs:=fun _=>none) (perm:=fun _=>[]) tabOk mix trivial trivial Try.func94 rfl (by kernel_rfl) (by decide) (by kernel_rfl) (anns:=fun x _=>fun _ _=>none) (fun ⟨t,_⟩ k _ _=>Eq.mp (by kernel_rfl) (vcn_isTerm t k)) tot_fn
abbrev c_iFactValid:Con:=⟨[.fact],[.bool],fun _=>True,.inl fun (f,_)=>(fV f,()),fun _=>0⟩
abbrev L_iFactValid:List (FuncId × Con):=[(94,c_isTerm)]
abbrev P_iFactValid:List (FuncId × PT):=[]
def VC_iFactValid (f:GFact) (k:Nat):Prop:=TN/\True/\True/\True/\(True/\True/\True)/\True/\(vcIf (isT f.a) (True/\True/\(True/\True/\True)/\True/\True/\((((isT f.b),()):Bool × Unit)=(fV f,()))/\True/\True/\True/\True/\TF) (True/\True/\(((false,()):Bool × Unit)=(fV f,()))/\True/\True/\True/\True/\TF))
theorem vcn_iFactValid (f:GFact) (k:Nat):VC_iFactValid f k:=by
 unfold VC_iFactValid
 simp only [cln,Nat.reduceEqDiff,Nat.reduceLeDiff,Nat.reduceAdd]
 cases h:isT f.a <;> simp [vcIf,fV,h]
theorem ok_iFactValid:FnOk Try.prog E 95 c_iFactValid :=
 fn_okQ (l:=L_iFactValid) (lp:=P_iFactValid) (hp:=fun _=>false) (gcs:=fun _=>none) (perm:=fun _=>[]) tabOk mix ⟨ok_isTerm,trivial⟩ trivial Try.func95 rfl (by kernel_rfl) (by decide) (by kernel_rfl) (anns:=fun x _=>fun _ _=>none) (fun ⟨f,_⟩ k _ _=>Eq.mp (by kernel_rfl) (vcn_iFactValid f k)) tot_fn
abbrev c_iFactsValid:Con:=⟨[.sl .fact],[.bool],fun (l,_)=>l.length<=281474976710656,.inl fun (l,_)=>(fsV l,()),fun _=>0⟩
abbrev L_iFactsValid:List (FuncId × Con):=[(95,c_iFactValid)]
abbrev P_iFactsValid:List (FuncId × PT):=[]
def an_iFactsValid (l:List GFact):Nat->St->Option Ann
 | 4,se=>some { α:=Nat,ok:=fun i=>i<=l.length/\l.length<=12/\(l.take i).all fV=true,mu:=fun i=>l.length - i,i0:=fun _=>0,nx:=fun a _=>(fun i=>i+1) a,live:=[8,9],sets:=fun i=>[(10,sv (.int .i64 i))],mids:=[],blks:=fun i=>[],owns:=fun i=>[],rd:=fun r _=>r,base:=100000 }
 | _,_=>none
def VC_iFactsValid_1 (l:List GFact):Prop:=True/\(((false,()):Bool × Unit)=(fsV l,()))/\True/\True/\True/\True/\TF
def VC_iFactsValid_2 (l:List GFact):Prop:=RL [.s (.c (.d (.arr .fact l))),.s (.c (.d (.val (.int .i64 ((l.length:Nat):Int)))))]
def VC_iFactsValid (l:List GFact) (k:Nat):Prop:=True/\True/\True/\True/\(vcIf (decide ((12:Int) < ((l.length:Nat):Int))) (VC_iFactsValid_1 l) (True/\True/\True/\((0<=l.length/\l.length<=12/\(l.take 0).all fV=true)/\TT/\(VC_iFactsValid_2 l)/\(([.s (.c (.d (.val (.int .i64 (0:Int)))))]:List S)=[.s (.c (.d (.val (.int .i64 ((0:Nat):Int)))))])/\(RM [])/\(RM [])/\True/\TT)/\(∀ i1:Nat,(i1<=l.length/\l.length<=12/\(l.take i1).all fV=true)->True/\(vcIf (decide (((i1:Nat):Int) < ((l.length:Nat):Int))) ((0<=((i1:Nat):Int)/\((i1:Nat):Int) < ((l.length:Nat):Int))/\True/\(TN/\True)/\(TF/\TF)/\True/\(True/\True/\True)/\True/\(vcIf (!(fV (l.getD i1 (⟨false,0,0⟩:GFact)))) (VC_iFactsValid_1 l) ((inK .i64 (((i1:Nat):Int)+(1:Int)))/\True/\((i1+1)<=l.length/\l.length<=12/\(l.take (i1+1)).all fV=true)/\(l.length - (i1+1) < l.length - i1)/\TT/\(VC_iFactsValid_2 l)/\(([.s (.c (.d (.val (.int .i64 (((i1:Nat):Int)+(1:Int))))))]:List S)=[.s (.c (.d (.val (.int .i64 (((i1+1):Nat):Int)))))])/\(RM [])/\(RM [])/\True/\TT))) (True/\(((true,()):Bool × Unit)=(fsV l,()))/\True/\True/\True/\True/\TF)))))
theorem vcn_iFactsValid (l:List GFact) (k:Nat) (hp:l.length<=281474976710656):VC_iFactsValid l k:=by
 unfold VC_iFactsValid VC_iFactsValid_2 VC_iFactsValid_1
 simp only [cln,Nat.reduceEqDiff,Nat.reduceLeDiff,Nat.reduceAdd]
 all_goals (try simp only [opn])
 all_goals (repeat' (first | apply And.intro | intro _))
 all_goals (first | omega | (simp_all;done) | grind [fsV,take_all,all_take,take_full,Ty.zero])
theorem ok_iFactsValid:FnOk Try.prog E 124 c_iFactsValid :=
 fn_okQ (l:=L_iFactsValid) (lp:=P_iFactsValid) (hp:=fun _=>false) (gcs:=fun _=>none) (perm:=fun _=>[]) tabOk mix ⟨ok_iFactValid,trivial⟩ trivial Try.func124 rfl (by kernel_rfl) (by decide) (by kernel_rfl) (anns:=fun x _=>an_iFactsValid x.1) (fun ⟨l,_⟩ k hp _=>Eq.mp (by kernel_rfl) (vcn_iFactsValid l k hp)) tot_fn
abbrev c_iAtomValid:Con:=⟨[.atom],[.bool],fun _=>True,.inl fun (x,_)=>(atV x,()),fun _=>0⟩
abbrev L_iAtomValid:List (FuncId × Con):=[(94,c_isTerm)]
abbrev P_iAtomValid:List (FuncId × PT):=[]
def VC_iAtomValid_1 (x:GAtom):Prop:=True/\True/\(((false,()):Bool × Unit)=(atV x,()))/\True/\True/\True/\True/\TF
def VC_iAtomValid_2 (x:GAtom):Prop:=True/\True/\(True/\True/\True)/\True/\True/\(vcIf (isT x.a) (True/\True/\(True/\True/\True)/\True/\True/\((((isT x.b),()):Bool × Unit)=(atV x,()))/\True/\True/\True/\True/\TF) (VC_iAtomValid_1 x))
def VC_iAtomValid (x:GAtom) (k:Nat):Prop:=TN/\True/\True/\True/\True/\True/\(vcIf (x.kind == (1:Int)) (True/\True/\(VC_iAtomValid_2 x)) (True/\True/\True/\True/\True/\(vcIf (x.kind == (2:Int)) (VC_iAtomValid_2 x) (True/\True/\(VC_iAtomValid_1 x)))))
theorem vcn_iAtomValid (x:GAtom) (k:Nat):VC_iAtomValid x k:=by
 unfold VC_iAtomValid VC_iAtomValid_2 VC_iAtomValid_1
 simp only [cln,Nat.reduceEqDiff,Nat.reduceLeDiff,Nat.reduceAdd]
 all_goals (try simp only [opn])
 all_goals (repeat' (first | apply And.intro | intro _))
 all_goals (first | omega | (simp_all;done) | grind [atV])
theorem ok_iAtomValid:FnOk Try.prog E 125 c_iAtomValid :=
 fn_okQ (l:=L_iAtomValid) (lp:=P_iAtomValid) (hp:=fun _=>false) (gcs:=fun _=>none) (perm:=fun _=>[]) tabOk mix ⟨ok_isTerm,trivial⟩ trivial Try.func125 rfl (by kernel_rfl) (by decide) (by kernel_rfl) (anns:=fun x _=>fun _ _=>none) (fun ⟨x,_⟩ k _ _=>Eq.mp (by kernel_rfl) (vcn_iAtomValid x k)) tot_fn
abbrev c_iAssertionValid:Con:=⟨[.asn],[.bool],fun (a,_)=>a.facts.length<=281474976710656/\a.atoms.length<=281474976710656,.inl fun (a,_)=>(asV a,()),fun _=>0⟩
abbrev L_iAssertionValid:List (FuncId × Con):=[(124,c_iFactsValid),(125,c_iAtomValid)]
abbrev P_iAssertionValid:List (FuncId × PT):=[]
def an_iAssertionValid (a:GAsn):Nat->St->Option Ann
 | 4,se=>some { α:=Nat,ok:=fun i=>i<=a.atoms.length/\a.atoms.length<=6/\fsV a.facts=true/\(a.atoms.take i).all atV=true,mu:=fun i=>a.atoms.length - i,i0:=fun _=>0,nx:=fun a _=>(fun i=>i+1) a,live:=[16,17],sets:=fun i=>[(18,sv (.int .i64 i))],mids:=[],blks:=fun i=>[],owns:=fun i=>[],rd:=fun r _=>r,base:=100000 }
 | _,_=>none
def VC_iAssertionValid_1 (a:GAsn):Prop:=True/\(((false,()):Bool × Unit)=(asV a,()))/\True/\True/\True/\True/\TF
def VC_iAssertionValid_2 (a:GAsn):Prop:=RL [.s (.c (.d (.arr .atom a.atoms))),.s (.c (.d (.val (.int .i64 ((a.atoms.length:Nat):Int)))))]
def VC_iAssertionValid (a:GAsn) (k:Nat):Prop:=TN/\True/\True/\True/\((a.facts.length<=281474976710656)/\True/\True)/\True/\True/\(vcIf (!(fsV a.facts)) (True/\(VC_iAssertionValid_1 a)) (True/\True/\True/\True/\True/\(vcIf (decide ((6:Int) < ((a.atoms.length:Nat):Int))) (VC_iAssertionValid_1 a) (True/\True/\True/\True/\((0<=a.atoms.length/\a.atoms.length<=6/\fsV a.facts=true/\(a.atoms.take 0).all atV=true)/\TT/\(VC_iAssertionValid_2 a)/\(([.s (.c (.d (.val (.int .i64 (0:Int)))))]:List S)=[.s (.c (.d (.val (.int .i64 ((0:Nat):Int)))))])/\(RM [])/\(RM [])/\True/\TT)/\(∀ i1:Nat,(i1<=a.atoms.length/\a.atoms.length<=6/\fsV a.facts=true/\(a.atoms.take i1).all atV=true)->True/\(vcIf (decide (((i1:Nat):Int) < ((a.atoms.length:Nat):Int))) ((0<=((i1:Nat):Int)/\((i1:Nat):Int) < ((a.atoms.length:Nat):Int))/\True/\(TN/\True)/\(TF/\TF)/\True/\(True/\True/\True)/\True/\(vcIf (!(atV (a.atoms.getD i1 (⟨0,0,0⟩:GAtom)))) (VC_iAssertionValid_1 a) ((inK .i64 (((i1:Nat):Int)+(1:Int)))/\True/\((i1+1)<=a.atoms.length/\a.atoms.length<=6/\fsV a.facts=true/\(a.atoms.take (i1+1)).all atV=true)/\(a.atoms.length - (i1+1) < a.atoms.length - i1)/\TT/\(VC_iAssertionValid_2 a)/\(([.s (.c (.d (.val (.int .i64 (((i1:Nat):Int)+(1:Int))))))]:List S)=[.s (.c (.d (.val (.int .i64 (((i1+1):Nat):Int)))))])/\(RM [])/\(RM [])/\True/\TT))) (True/\(((true,()):Bool × Unit)=(asV a,()))/\True/\True/\True/\True/\TF)))))))
theorem vcn_iAssertionValid (a:GAsn) (k:Nat) (hp:a.facts.length<=281474976710656/\a.atoms.length<=281474976710656):VC_iAssertionValid a k:=by
 unfold VC_iAssertionValid VC_iAssertionValid_2 VC_iAssertionValid_1
 simp only [cln,Nat.reduceEqDiff,Nat.reduceLeDiff,Nat.reduceAdd]
 all_goals (try simp only [opn])
 all_goals (repeat' (first | apply And.intro | intro _))
 all_goals (first | omega | (simp_all;done) | grind [asV,take_all,all_take,take_full,Ty.zero])
theorem ok_iAssertionValid:FnOk Try.prog E 96 c_iAssertionValid :=
 fn_okQ (l:=L_iAssertionValid) (lp:=P_iAssertionValid) (hp:=fun _=>false) (gcs:=fun _=>none) (perm:=fun _=>[]) tabOk mix ⟨ok_iFactsValid,ok_iAtomValid,trivial⟩ trivial Try.func96 rfl (by kernel_rfl) (by decide) (by kernel_rfl) (anns:=fun x _=>an_iAssertionValid x.1) (fun ⟨a,_⟩ k hp _=>Eq.mp (by kernel_rfl) (vcn_iAssertionValid a k hp)) tot_fn
abbrev c_fieldsValid:Con:=⟨[.cmd],[.bool],fun (c,_)=>BdC c,.inl fun (c,_)=>(fokC c,()),fun _=>0⟩
abbrev L_fieldsValid:List (FuncId × Con):=[(58,c_isBasic),(92,c_noAssn),(93,c_isPV),(94,c_isTerm),(95,c_iFactValid),(96,c_iAssertionValid)]
abbrev P_fieldsValid:List (FuncId × PT):=[]
def VC_fieldsValid_1 (c:GCmd):Prop:=True/\(((false,()):Bool × Unit)=(fokC c,()))/\True/\True/\True/\True/\TF
def VC_fieldsValid_2 (c:GCmd):Prop:=True/\(VC_fieldsValid_1 c)
def VC_fieldsValid_3 (c:GCmd):Prop:=True/\(VC_fieldsValid_2 c)
def VC_fieldsValid_4 (c:GCmd):Prop:=True/\(VC_fieldsValid_3 c)
def VC_fieldsValid_5 (c:GCmd):Prop:=True/\(VC_fieldsValid_4 c)
def VC_fieldsValid_6 (c:GCmd):Prop:=True/\(VC_fieldsValid_5 c)
def VC_fieldsValid_7 (c:GCmd):Prop:=True/\(VC_fieldsValid_6 c)
def VC_fieldsValid_8 (c:GCmd):Prop:=(c.inv.facts.length<=281474976710656/\c.inv.atoms.length<=281474976710656)/\True/\True
def VC_fieldsValid_9 (c:GCmd):Prop:=True/\True/\(True/\True/\True)/\True/\True/\((((isT c.b),()):Bool × Unit)=(fokC c,()))/\True/\True/\True/\True/\TF
def VC_fieldsValid_10 (c:GCmd):Prop:=True/\True/\(True/\True/\True)/\True/\(vcIf (pvV c.a) (VC_fieldsValid_9 c) (VC_fieldsValid_2 c))
def VC_fieldsValid_11 (c:GCmd):Prop:=True/\True/\True/\True/\True/\(((c.b == (0:Int),()):Bool × Unit)=(fokC c,()))/\True/\True/\True/\True/\TF
def VC_fieldsValid_12 (c:GCmd):Prop:=True/\True/\(vcIf (c.kind == (3:Int)) (True/\True/\(True/\True/\True)/\True/\(vcIf (isT c.a) (VC_fieldsValid_9 c) (VC_fieldsValid_2 c))) (True/\True/\(vcIf (c.kind == (4:Int)) (True/\True/\(True/\True/\True)/\True/\(vcIf (pvV c.a) (VC_fieldsValid_11 c) (VC_fieldsValid_2 c))) (True/\True/\(vcIf (c.kind == (5:Int)) (True/\True/\(True/\True/\True)/\True/\(vcIf (isT c.a) (VC_fieldsValid_11 c) (VC_fieldsValid_2 c))) (True/\True/\(vcIf (c.kind == (6:Int)) (True/\True/\True/\True/\(vcIf (c.a == (0:Int)) (True/\True/\True/\True/\True/\(vcIf (c.b == (0:Int)) (True/\True/\(True/\True/\True)/\True/\True/\(vcIf (fV c.test) (True/\True/\(VC_fieldsValid_8 c)/\True/\True/\((((noA c.inv),()):Bool × Unit)=(fokC c,()))/\True/\True/\True/\True/\TF) (VC_fieldsValid_2 c))) (VC_fieldsValid_4 c))) (VC_fieldsValid_6 c))) (True/\True/\(vcIf (c.kind == (7:Int)) (True/\True/\True/\True/\(vcIf (c.a == (0:Int)) (True/\True/\True/\True/\True/\(vcIf (c.b == (0:Int)) (True/\True/\(True/\True/\True)/\True/\True/\(vcIf (fV c.test) (True/\True/\(VC_fieldsValid_8 c)/\True/\True/\(vcIf (asV c.inv) (True/\True/\True/\True/\True/\True/\(((((c.els.length:Nat):Int) == (0:Int),()):Bool × Unit)=(fokC c,()))/\True/\True/\True/\True/\TF) (VC_fieldsValid_2 c))) (VC_fieldsValid_4 c))) (VC_fieldsValid_6 c))) (True/\(VC_fieldsValid_7 c)))) (VC_fieldsValid_1 c))))))))))
def VC_fieldsValid_13 (c:GCmd):Prop:=True/\True/\True/\True/\(vcIf (c.kind == (1:Int)) (vcIf (c.kind == (1:Int)) (VC_fieldsValid_10 c) (VC_fieldsValid_12 c)) (True/\True/\(vcIf (c.kind == (2:Int)) (VC_fieldsValid_10 c) (VC_fieldsValid_12 c))))
def VC_fieldsValid (c:GCmd) (k:Nat):Prop:=TN/\True/\True/\(True/\True/\True)/\True/\(vcIf (decide (1<=(GCmd.mk c.kind c.a c.b c.test c.inv c.body c.els).kind) && decide ((GCmd.mk c.kind c.a c.b c.test c.inv c.body c.els).kind<=5)) (True/\True/\True/\True/\True/\(vcIf (!((c.test.eq == false) && ((c.test.a == (0:Int)) && ((c.test.b == (0:Int)) && true)))) (VC_fieldsValid_7 c) (True/\True/\(VC_fieldsValid_8 c)/\True/\True/\True/\(vcIf (!(noA c.inv)) (VC_fieldsValid_5 c) (True/\True/\True/\True/\True/\True/\(vcIf (decide ((0:Int) < ((c.body.length:Nat):Int))) (VC_fieldsValid_3 c) (True/\True/\True/\True/\True/\True/\(vcIf (decide ((0:Int) < ((c.els.length:Nat):Int))) (VC_fieldsValid_1 c) (VC_fieldsValid_13 c))))))))) (True/\(VC_fieldsValid_13 c)))
theorem vcn_fieldsValid (c:GCmd) (k:Nat) (hp:BdC c):VC_fieldsValid c k:=by
 unfold VC_fieldsValid VC_fieldsValid_13 VC_fieldsValid_12 VC_fieldsValid_11 VC_fieldsValid_10 VC_fieldsValid_9 VC_fieldsValid_8 VC_fieldsValid_7 VC_fieldsValid_6 VC_fieldsValid_5 VC_fieldsValid_4 VC_fieldsValid_3 VC_fieldsValid_2 VC_fieldsValid_1
 simp only [cln,Nat.reduceEqDiff,Nat.reduceLeDiff,Nat.reduceAdd,GCmd.eta]
 have b1:=hp.f
 have b2:=hp.a
 have ht:=gf_zero c.test
 all_goals (try simp only [vcIf_iff,← gf_zero,decide_eq_true_eq,decide_eq_false_iff_not,bne_iff_ne,ne_eq,beq_iff_eq,beq_eq_false_iff_ne,bne_eq_false_iff_eq,Bool.not_eq_true',Bool.not_eq_false',Int.ofNat_lt,Int.natCast_inj])
 all_goals (repeat' (first | apply And.intro | intro _))
 all_goals (repeat (cases ‹_/\_›))
 all_goals (first | omega | (simp_all;done) | grind [pvV,noA,fokC,fokB,prV,cvB,cvN] | skip)
theorem ok_fieldsValid:FnOk Try.prog E 59 c_fieldsValid :=
 fn_okQ (l:=L_fieldsValid) (lp:=P_fieldsValid) (hp:=fun _=>false) (gcs:=fun _=>none) (perm:=fun _=>[]) tabOk mix ⟨ok_isBasic,ok_noAssn,ok_isPV,ok_isTerm,ok_iFactValid,ok_iAssertionValid,trivial⟩ trivial Try.func59 rfl (by kernel_rfl) (by decide) (by kernel_rfl) (anns:=fun x _=>fun _ _=>none) (fun ⟨c,_⟩ k hp _=>Eq.mp (by kernel_rfl) (vcn_fieldsValid c k hp)) tot_fn
abbrev c_copyInts:Con:=⟨[.sl .int],[.sl .int],fun (l,_)=>l.length<=1048576,.inl fun (l,_)=>(l,()),fun _=>0⟩
abbrev L_copyInts:List (FuncId × Con):=[]
abbrev P_copyInts:List (FuncId × PT):=[]
def VC_copyInts (l:List Int) (k:Nat):Prop:=TN/\True/\True/\(TN/\(0<=((l.length:Nat):Int)/\((l.length:Nat):Int)<=((l.length:Nat):Int)/\((l.length:Nat):Int)<=4294967296/\True))/\True/\True/\True/\(TF/\TF)/\True/\True/\(((l.take (List.replicate l.length (0:Int)).length ++ (List.replicate l.length (0:Int)).drop l.length,()):(List Int) × Unit)=(l,()))/\(True/\True)/\((TF/\TF)/\True)/\True/\(True/\True)/\TF
theorem vcn_copyInts (l:List Int) (k:Nat) (hp:l.length<=1048576):VC_copyInts l k:=by
 unfold VC_copyInts
 simp only [cln,Nat.reduceEqDiff,Nat.reduceLeDiff,Nat.reduceAdd]
 all_goals (try simp only [opn])
 all_goals (repeat' (first | apply And.intro | intro _))
 all_goals (first | omega | (simp_all;done) | grind [])
theorem ok_copyInts:FnOk Try.prog E 97 c_copyInts :=
 fn_okQ (l:=L_copyInts) (lp:=P_copyInts) (hp:=fun _=>false) (gcs:=fun _=>none) (perm:=fun _=>[]) tabOk mix trivial trivial Try.func97 rfl (by kernel_rfl) (by decide) (by kernel_rfl) (anns:=fun x _=>fun _ _=>none) (fun ⟨l,_⟩ k hp _=>Eq.mp (by kernel_rfl) (vcn_copyInts l k hp)) tot_fn
abbrev c_copyState:Con:=⟨[.state],[.state],fun (s,_)=>s.vals.length<=1048576/\s.heap.length<=1048576,.inl fun (s,_)=>(s,()),fun _=>0⟩
abbrev L_copyState:List (FuncId × Con):=[(97,c_copyInts)]
abbrev P_copyState:List (FuncId × PT):=[]
def VC_copyState (s:GState) (k:Nat):Prop:=TN/\(TN/\TN/\TN/\True)/\True/\True/\((s.vals.length<=1048576)/\True/\TN/\True)/\True/\True/\((s.heap.length<=1048576)/\True/\TN/\True)/\(TN/\TN/\True)/\(TF/\TF)/\(((s,()):GState × Unit)=(s,()))/\((((80:Nat) ≠ 128)/\True)/\True/\True)/\((TF/\TF)/\(TF/\TF)/\True)/\True/\(True/\True/\True)/\TF
theorem vcn_copyState (s:GState) (k:Nat) (hp:s.vals.length<=1048576/\s.heap.length<=1048576):VC_copyState s k:=by
 unfold VC_copyState
 simp only [cln,Nat.reduceEqDiff,Nat.reduceLeDiff,Nat.reduceAdd]
 all_goals (try simp only [opn])
 all_goals (repeat' (first | apply And.intro | intro _))
 all_goals (repeat (cases ‹_/\_›))
 all_goals (first | trivial | (exfalso;contradiction) | omega | with_reducible assumption | with_reducible rfl | skip)
 all_goals (first
  | (with_reducible refine Nat.le_trans (m:=200) ?_ (by decide);first
   | with_reducible exact starL_one (by omega) | with_reducible exact starL_oneA (by omega)
   | with_reducible exact starL_bdF (by omega) (by omega) | with_reducible exact starL_bdA (by omega) (by omega)
   | with_reducible exact sub1F (by omega) | with_reducible exact sub1A (by omega)
   | with_reducible exact subL200F (by omega) | with_reducible exact subL200A (by omega)
   | with_reducible exact nf200F (by omega) | with_reducible exact nf200A (by omega)
   | with_reducible exact md200V | with_reducible exact md200H | with_reducible exact rev200 (by omega)
   | with_reducible exact fc200F (by omega) | with_reducible exact fc200A (by omega))
  | with_reducible exact (en_cons ‹_› ‹_› ‹_›).elim | with_reducible exact (en_none ‹_› ‹_› ‹_› ‹_›).elim
  | with_reducible exact en_star ‹_› ‹_› ‹_›
  | with_reducible exact en_fact1 ‹_› ‹_› ‹_› | with_reducible exact en_fact0 ‹_› ‹_› ‹_›
  | with_reducible exact en_sub ‹_› ‹_› ‹_›
  | with_reducible exact en_refl | with_reducible exact (en_refl0 ‹_› ‹_›).elim
  | with_reducible exact rev_step ‹_› | with_reducible exact (rev_no ‹_› ‹_› ‹_›).elim
  | with_reducible exact en_nf ‹_›
  | with_reducible exact ent_hol ‹_› ‹_› | with_reducible exact (en_mdN ‹_› ‹_› ‹_›).elim
  | (simp_all;done)
  | skip)
theorem ok_copyState:FnOk Try.prog E 60 c_copyState :=
 fn_okQ (l:=L_copyState) (lp:=P_copyState) (hp:=fun _=>false) (gcs:=fun _=>none) (perm:=fun _=>[]) tabOk mix ⟨ok_copyInts,trivial⟩ trivial Try.func60 rfl (by kernel_rfl) (by decide) (by kernel_rfl) (anns:=fun x _=>fun _ _=>none) (fun ⟨s,_⟩ k hp _=>Eq.mp (by kernel_rfl) (vcn_copyState s k hp)) tot_fn
abbrev c_termValue:Con:=⟨[.sl .int,.int],[.int],fun (l,t,_)=>l.length=8/\isT t=true,.inl fun (l,t,_)=>(tv l t,()),fun _=>0⟩
abbrev L_termValue:List (FuncId × Con):=[]
abbrev P_termValue:List (FuncId × PT):=[]
def VC_termValue (l:List Int) (t:Int) (k:Nat):Prop:=True/\True/\True/\(vcIf (t == (0:Int)) (True/\((((0:Int),()):Int × Unit)=(tv l t,()))/\True/\True/\True/\True/\TF) (True/\True/\(inK .i64 (t - (1:Int)))/\(0<=(t - (1:Int))/\(t - (1:Int)) < ((l.length:Nat):Int))/\True/\True/\((((l.getD (t - (1:Int)).toNat (0:Int)),()):Int × Unit)=(tv l t,()))/\True/\True/\True/\True/\TF))
theorem vcn_termValue (l:List Int) (t:Int) (k:Nat) (hp:l.length=8/\isT t=true):VC_termValue l t k:=by
 unfold VC_termValue
 simp only [cln,Nat.reduceEqDiff,Nat.reduceLeDiff,Nat.reduceAdd]
 have h:=isT_iff.1 hp.2
 by_cases h0:t=0 <;> simp [vcIf,tv,h0,inK_i64] <;> omega
theorem ok_termValue:FnOk Try.prog E 98 c_termValue :=
 fn_okQ (l:=L_termValue) (lp:=P_termValue) (hp:=fun _=>false) (gcs:=fun _=>none) (perm:=fun _=>[]) tabOk mix trivial trivial Try.func98 rfl (by kernel_rfl) (by decide) (by kernel_rfl) (anns:=fun x _=>fun _ _=>none) (fun ⟨l,t,_⟩ k hp _=>Eq.mp (by kernel_rfl) (vcn_termValue l t k hp)) tot_fn
abbrev c_isAddr:Con:=⟨[.int],[.bool],fun _=>True,.inl fun (n,_)=>(isAd n,()),fun _=>0⟩
abbrev L_isAddr:List (FuncId × Con):=[]
abbrev P_isAddr:List (FuncId × PT):=[]
def VC_isAddr (n:Int) (k:Nat):Prop:=True/\True/\True/\True/\(vcIf (decide ((1:Int)<=n)) (True/\True/\True/\True/\(((decide (n<=(8:Int)),()):Bool × Unit)=(isAd n,()))/\True/\True/\True/\True/\TF) (True/\True/\(((false,()):Bool × Unit)=(isAd n,()))/\True/\True/\True/\True/\TF))
theorem vcn_isAddr (n:Int) (k:Nat):VC_isAddr n k:=by
 unfold VC_isAddr
 simp only [cln,Nat.reduceEqDiff,Nat.reduceLeDiff,Nat.reduceAdd]
 all_goals (cases h:decide (1<=n) <;> simp [vcIf,isAd,h])
theorem ok_isAddr:FnOk Try.prog E 126 c_isAddr :=
 fn_okQ (l:=L_isAddr) (lp:=P_isAddr) (hp:=fun _=>false) (gcs:=fun _=>none) (perm:=fun _=>[]) tabOk mix trivial trivial Try.func126 rfl (by kernel_rfl) (by decide) (by kernel_rfl) (anns:=fun x _=>fun _ _=>none) (fun ⟨n,_⟩ k _ _=>Eq.mp (by kernel_rfl) (vcn_isAddr n k)) tot_fn
abbrev c_content:Con:=⟨[.state,.int],[.int],fun (s,n,_)=>stV s=true,.inl fun (s,n,_)=>(ct s n,()),fun _=>0⟩
abbrev L_content:List (FuncId × Con):=[(126,c_isAddr)]
abbrev P_content:List (FuncId × PT):=[]
def VC_content (s:GState) (n:Int) (k:Nat):Prop:=TN/\True/\True/\(True/\True/\True)/\True/\(vcIf (!(isAd n)) (True/\((((-1:Int),()):Int × Unit)=(ct s n,()))/\True/\True/\True/\True/\TF) (True/\True/\True/\(inK .i64 (n - (1:Int)))/\(0<=(n - (1:Int))/\(n - (1:Int)) < ((s.heap.length:Nat):Int))/\True/\True/\((((s.heap.getD (n - (1:Int)).toNat (0:Int)),()):Int × Unit)=(ct s n,()))/\True/\True/\True/\True/\TF))
theorem vcn_content (s:GState) (n:Int) (k:Nat) (hp:stV s=true):VC_content s n k:=by
 unfold VC_content
 simp only [cln,Nat.reduceEqDiff,Nat.reduceLeDiff,Nat.reduceAdd]
 all_goals (try simp only [opn])
 all_goals (repeat' (first | apply And.intro | intro _))
 all_goals (repeat (cases ‹_/\_›))
 all_goals (first | omega | rfl | assumption | (simp_all;done) | skip)
 all_goals (first
  | exact (ct_no ‹_›).symm
  | exact (ct_yes ‹_›).symm
  | (have h:=isAd_iff.1 ‹isAd n=true›;have h2:=stV_all hp;omega)
  | skip)
theorem ok_content:FnOk Try.prog E 100 c_content :=
 fn_okQ (l:=L_content) (lp:=P_content) (hp:=fun _=>false) (gcs:=fun _=>none) (perm:=fun _=>[]) tabOk mix ⟨ok_isAddr,trivial⟩ trivial Try.func100 rfl (by kernel_rfl) (by decide) (by kernel_rfl) (anns:=fun x _=>fun _ _=>none) (fun ⟨s,n,_⟩ k hp _=>Eq.mp (by kernel_rfl) (vcn_content s n k hp)) tot_fn
abbrev c_allocated:Con:=⟨[.state,.int],[.bool],fun (s,n,_)=>stV s=true,.inl fun (s,n,_)=>(al s n,()),fun _=>0⟩
abbrev L_allocated:List (FuncId × Con):=[(100,c_content)]
abbrev P_allocated:List (FuncId × PT):=[]
def VC_allocated (s:GState) (n:Int) (k:Nat):Prop:=TN/\True/\True/\True/\((stV s=true)/\True/\True)/\True/\True/\(((decide ((0:Int)<=(ct s n)),()):Bool × Unit)=(al s n,()))/\True/\True/\True/\True/\TF
theorem vcn_allocated (s:GState) (n:Int) (k:Nat) (hp:stV s=true):VC_allocated s n k:=by
 unfold VC_allocated
 simp only [cln,Nat.reduceEqDiff,Nat.reduceLeDiff,Nat.reduceAdd]
 all_goals (try simp only [opn])
 all_goals (repeat' (first | apply And.intro | intro _))
 all_goals (repeat (cases ‹_/\_›))
 all_goals (first | omega | rfl | assumption | (simp_all;done) | skip)
theorem ok_allocated:FnOk Try.prog E 99 c_allocated :=
 fn_okQ (l:=L_allocated) (lp:=P_allocated) (hp:=fun _=>false) (gcs:=fun _=>none) (perm:=fun _=>[]) tabOk mix ⟨ok_content,trivial⟩ trivial Try.func99 rfl (by kernel_rfl) (by decide) (by kernel_rfl) (anns:=fun x _=>fun _ _=>none) (fun ⟨s,n,_⟩ k hp _=>Eq.mp (by kernel_rfl) (vcn_allocated s n k hp)) tot_fn
abbrev c_iAllocCell:Con:=⟨[.state],[.state,.int,.bool],fun (s,_)=>s.vals.length<=1048576/\s.heap.length<=1048576,.inl fun (s,_)=>(qcS s,qcV s,!(qcV s == 0),()),fun _=>0⟩
abbrev L_iAllocCell:List (FuncId × Con):=[(31,c_iStateValid),(60,c_copyState),(99,c_allocated)]
abbrev P_iAllocCell:List (FuncId × PT):=[]
def an_iAllocCell (s:GState):Nat->St->Option Ann
 | 4,se=>some { α:=Nat,ok:=fun i=>1<=i/\i<=9/\stV s=true/\qcI s (9 - i)=qcI s 8,mu:=fun i=>9 - i,i0:=fun _=>1,nx:=fun a _=>(fun i=>i+1) a,live:=[1,2],sets:=fun i=>[(5,sv (.int .i64 i))],mids:=[31,32,33,47],blks:=fun i=>[],owns:=fun i=>[],rd:=fun r _=>r,base:=100000 }
 | _,_=>none
def VC_iAllocCell_1 (s:GState):Prop:=(((⟨([]:List Int),([]:List Int)⟩:GState),(0:Int),false,()):GState × Int × Bool × Unit)=(qcS s,qcV s,!(qcV s == 0),())
def VC_iAllocCell_2 (s:GState):Prop:=(RM [some (.blk [.d (.arr .int s.vals),.d (.arr .int s.heap)]),some (.sl 32 .int ([]:List Int)),some (.sl 33 .int ([]:List Int)),some (.blk [.own 32,.own 33])])/\(RM [])/\True/\TT
def VC_iAllocCell (s:GState) (k:Nat):Prop:=TN/\(TN/\TN/\TN/\True)/\True/\True/\True/\((s.vals.length<=281474976710656/\s.heap.length<=281474976710656)/\True/\True)/\True/\(vcIf (!(stV s)) ((TN/\TN/\True)/\(TF/\TF)/\True/\True/\(VC_iAllocCell_1 s)/\((((160:Nat) ≠ 161)/\True)/\True/\True)/\((TF/\TF)/\(TF/\TF)/\True)/\True/\(True/\True/\True)/\TF) (True/\((1<=1/\1<=9/\stV s=true/\qcI s (9 - 1)=qcI s 8)/\TT/\(RL [.s (.c (.ptr 31 0)),.s (.c (.ptr 47 0))])/\(([.s (.c (.d (.val (.int .i64 (1:Int)))))]:List S)=[.s (.c (.d (.val (.int .i64 ((1:Nat):Int)))))])/\(VC_iAllocCell_2 s))/\(∀ i1:Nat,(1<=i1/\i1<=9/\stV s=true/\qcI s (9 - i1)=qcI s 8)->True/\True/\(vcIf (decide (((i1:Nat):Int)<=(8:Int))) (True/\True/\((stV s=true)/\True/\True)/\True/\(vcIf (!(al s ((i1:Nat):Int))) (True/\((s.vals.length<=1048576/\s.heap.length<=1048576)/\True/\TN/\TN/\True)/\(TN/\TN/\TN/\True)/\(TF/\TF)/\True/\True/\True/\(inK .i64 (((i1:Nat):Int) - (1:Int)))/\(0<=(((i1:Nat):Int) - (1:Int))/\(((i1:Nat):Int) - (1:Int)) < ((s.heap.length:Nat):Int))/\(TF/\TF/\True/\((100321:Nat) ∉ ([]:List Nat)))/\True/\True/\(TF/\TF)/\True/\True/\((((⟨s.vals,s.heap.set (((i1:Nat):Int) - (1:Int)).toNat (0:Int)⟩:GState),((i1:Nat):Int),true,()):GState × Int × Bool × Unit)=(qcS s,qcV s,!(qcV s == 0),()))/\((((100320:Nat) ≠ 100321)/\True)/\True/\True)/\((TF/\TF)/\(TF/\TF)/\True)/\True/\(True/\True/\True)/\TF) (True/\(inK .i64 (((i1:Nat):Int)+(1:Int)))/\True/\(1<=(i1+1)/\(i1+1)<=9/\stV s=true/\qcI s (9 - (i1+1))=qcI s 8)/\(9 - (i1+1) < 9 - i1)/\TT/\(RL [.s (.c (.ptr 31 0)),.s (.c (.ptr 47 0))])/\(([.s (.c (.d (.val (.int .i64 (((i1:Nat):Int)+(1:Int))))))]:List S)=[.s (.c (.d (.val (.int .i64 (((i1+1):Nat):Int)))))])/\(VC_iAllocCell_2 s)))) ((TN/\TN/\True)/\(TF/\TF)/\True/\True/\(VC_iAllocCell_1 s)/\((((100448:Nat) ≠ 100449)/\True)/\True/\True)/\((TF/\TF)/\(TF/\TF)/\True)/\True/\(True/\True/\True)/\TF)))))
theorem vcn_iAllocCell (s:GState) (k:Nat) (hp:s.vals.length<=1048576/\s.heap.length<=1048576):VC_iAllocCell s k:=by
 unfold VC_iAllocCell VC_iAllocCell_2 VC_iAllocCell_1
 simp only [cln,Nat.reduceEqDiff,Nat.reduceLeDiff,Nat.reduceAdd]
 have hF:=fun (i:Nat) hs h0 h1 he h=>qcV_of (s:=s) (i:=i) hs h0 h1 he h
 have hN:=fun (i:Nat) h1 h2 he=>qcV_none (s:=s) (i:=i) h1 h2 he
 have hB:=fun h=>qcV_bad (s:=s) h
 have hS:=fun (i:Nat) h0 h1 h=>qcI_step (s:=s) (i:=i) h0 h1 h
 have hL:=fun h=>stV_lens (s:=s) h
 all_goals (try simp only [vcIf_iff,decide_eq_true_eq,decide_eq_false_iff_not,bne_iff_ne,ne_eq,beq_iff_eq,beq_eq_false_iff_ne,bne_eq_false_iff_eq,Bool.not_eq_true',Bool.not_eq_false',Int.ofNat_lt,Int.natCast_inj])
 all_goals (repeat' (first | apply And.intro | intro _))
 all_goals (repeat (cases ‹_/\_›))
 all_goals (first | omega | with_reducible assumption | with_reducible rfl | skip)
 all_goals (first | omega | (simp_all;done) | grind | skip)
theorem ok_iAllocCell:FnOk Try.prog E 101 c_iAllocCell :=
 fn_okQ (l:=L_iAllocCell) (lp:=P_iAllocCell) (hp:=fun _=>false) (gcs:=fun _=>none) (perm:=fun _=>[]) tabOk mix ⟨ok_iStateValid,ok_copyState,ok_allocated,trivial⟩ trivial Try.func101 rfl (by kernel_rfl) (by decide) (by kernel_rfl) (anns:=fun x _=>an_iAllocCell x.1) (fun ⟨s,_⟩ k hp _=>Eq.mp (by kernel_rfl) (vcn_iAllocCell s k hp)) tot_fn
abbrev L_mbasic:List (FuncId × Con):=[(98,c_termValue),(99,c_allocated),(100,c_content),(101,c_iAllocCell)]
abbrev P_mbasic:List (FuncId × PT):=[]
abbrev pt_mbasic:PT:=inl tab (lookF L_mbasic) (lookP P_mbasic) (fun _=>false) (fun _ _=>none) (fun _ _ _ _=>none) (fun _=>[]) Try.f61.ntmps (bodyOf Try.f61) Try.f61.results.toList
theorem ptok_mbasic:PTOk Try.prog E 61 pt_mbasic :=
 pt_ok (l:=L_mbasic) (lp:=P_mbasic) tabOk mix ⟨ok_termValue,ok_allocated,ok_content,ok_iAllocCell,trivial⟩ trivial Try.func61 rfl (by kernel_rfl) (by kernel_rfl)
end Go.Proofs.Ytkafaeeianofnaa
