/-
  Contracts of single functions of the program, each shown by the engine: what a call returns for arguments within the contract's bounds.
-/
import Derived.Test.YtkafaeeianofnaaProg
import Derived.KernelRfl
import Derived.Test.YtkafaeeianofnaaEc
import Derived.Test.YtkafaeeianofnaaEd
set_option linter.unusedSimpArgs false
set_option linter.unusedVariables false
set_option linter.unusedSectionVars false

namespace Go.Proofs.Ytkafaeeianofnaa
open Go.SE Go.RowKit
def E:Ty->TypeId
 | .int=>3
 | .bool=>4
 | .u8=>5
 | .fact=>43
 | .atom=>119
 | .cmd=>49
 | .ints=>35
 | .asn=>0
 | .cmds=>23
 | .cpair=>78
 | .lcmd=>0
def tabL:List (TypeId × TI):=[
 (2,⟨1,8,.sc (.int .i64 0)⟩),
 (3,⟨1,8,.sc (.int .i64 0)⟩),
 (4,⟨1,1,.sc (.bool false)⟩),
 (5,⟨1,1,.sc (.int .u8 0)⟩),
 (7,⟨4,24,.st [.sc (.int .i64 0),.sc (.int .i64 0),.sc (.bool false),.sc (.int .u8 0)] [(0,1,false),(1,1,false),(2,1,false),(3,1,false)]⟩),
 (9,⟨1,16,.sc (.string ⟨#[]⟩)⟩),
 (12,⟨1,8,.sc (.int .u64 0)⟩),
 (13,⟨2,24,.st [.sc (.string ⟨#[]⟩),.sc (.int .u64 0)] [(0,1,false),(1,1,false)]⟩),
 (21,⟨1,4,.sc (.int .i32 0)⟩),
 (22,⟨1,24,.sl true 5 .u8⟩),
 (23,⟨1,24,.sl true 49 .cmd⟩),
 (28,⟨1,24,.sl false 63 .lcmd⟩),
 (35,⟨1,24,.sl true 3 .int⟩),
 (40,⟨2,48,.st [.sl .int,.sl .int] [(0,1,false),(1,1,false)]⟩),
 (41,⟨2,48,.st [.sl .int,.sl .int] [(0,1,false),(1,1,false)]⟩),
 (42,⟨3,24,.st [.sc (.bool false),.sc (.int .i64 0),.sc (.int .i64 0)] [(0,1,false),(1,1,false),(2,1,false)]⟩),
 (43,⟨3,24,.st [.sc (.bool false),.sc (.int .i64 0),.sc (.int .i64 0)] [(0,1,false),(1,1,false),(2,1,false)]⟩),
 (44,⟨1,24,.sl true 43 .fact⟩),
 (45,⟨1,24,.sl true 119 .atom⟩),
 (46,⟨2,48,.st [.sl .fact,.sl .atom] [(0,1,false),(1,1,false)]⟩),
 (47,⟨2,48,.st [.sl .fact,.sl .atom] [(0,1,false),(1,1,false)]⟩),
 (48,⟨10,144,.st [.sc (.int .i64 0),.sc (.int .i64 0),.sc (.int .i64 0),.sc (.bool false),.sc (.int .i64 0),.sc (.int .i64 0),.sl .fact,.sl .atom,.sl .cmd,.sl .cmd] [(0,1,false),(1,1,false),(2,1,false),(3,3,true),(6,2,true),(8,1,false),(9,1,false)]⟩),
 (49,⟨10,144,.st [.sc (.int .i64 0),.sc (.int .i64 0),.sc (.int .i64 0),.sc (.bool false),.sc (.int .i64 0),.sc (.int .i64 0),.sl .fact,.sl .atom,.sl .cmd,.sl .cmd] [(0,1,false),(1,1,false),(2,1,false),(3,3,true),(6,2,true),(8,1,false),(9,1,false)]⟩),
 (56,⟨2,48,.st [.sl .int,.sl .int] [(0,1,false),(1,1,false)]⟩),
 (57,⟨3,24,.st [.sc (.bool false),.sc (.int .i64 0),.sc (.int .i64 0)] [(0,1,false),(1,1,false),(2,1,false)]⟩),
 (58,⟨1,24,.sl false 57 .fact⟩),
 (59,⟨1,24,.sl false 145 .atom⟩),
 (60,⟨2,48,.st [.sl .fact,.sl .atom] [(0,1,false),(1,1,false)]⟩),
 (61,⟨2,48,.st [.sl .fact,.sl .atom] [(0,1,false),(1,1,false)]⟩),
 (62,⟨10,144,.st [.sc (.int .i64 0),.sc (.int .i64 0),.sc (.int .i64 0),.sc (.bool false),.sc (.int .i64 0),.sc (.int .i64 0),.sl .fact,.sl .atom,.sl .lcmd,.sl .lcmd] [(0,1,false),(1,1,false),(2,1,false),(3,3,true),(6,2,true),(8,1,false),(9,1,false)]⟩),
 (63,⟨10,144,.st [.sc (.int .i64 0),.sc (.int .i64 0),.sc (.int .i64 0),.sc (.bool false),.sc (.int .i64 0),.sc (.int .i64 0),.sl .fact,.sl .atom,.sl .lcmd,.sl .lcmd] [(0,1,false),(1,1,false),(2,1,false),(3,3,true),(6,2,true),(8,1,false),(9,1,false)]⟩),
 (77,⟨2,48,.st [.sl .cmd,.sl .cmd] [(0,1,false),(1,1,false)]⟩),
 (78,⟨2,48,.st [.sl .cmd,.sl .cmd] [(0,1,false),(1,1,false)]⟩),
 (79,⟨1,24,.sl true 78 .cpair⟩),
 (89,⟨1,2,.sc (.int .u16 0)⟩),
 (90,⟨1,2,.sc (.int .u16 0)⟩),
 (94,⟨1,24,.sl true 4 .bool⟩),
 (102,⟨3,56,.st [.sl .int,.sl .int,.sc (.int .i64 0)] [(0,2,true),(2,1,false)]⟩),
 (103,⟨3,56,.st [.sl .int,.sl .int,.sc (.int .i64 0)] [(0,2,true),(2,1,false)]⟩),
 (113,⟨2,32,.st [.sl .u8,.sc (.int .i64 0)] [(0,1,false),(1,1,false)]⟩),
 (114,⟨2,32,.st [.sl .u8,.sc (.int .i64 0)] [(0,1,false),(1,1,false)]⟩),
 (118,⟨3,24,.st [.sc (.int .i64 0),.sc (.int .i64 0),.sc (.int .i64 0)] [(0,1,false),(1,1,false),(2,1,false)]⟩),
 (119,⟨3,24,.st [.sc (.int .i64 0),.sc (.int .i64 0),.sc (.int .i64 0)] [(0,1,false),(1,1,false),(2,1,false)]⟩),
 (122,⟨2,48,.ar 2 23 .cmds⟩),
 (145,⟨3,24,.st [.sc (.int .i64 0),.sc (.int .i64 0),.sc (.int .i64 0)] [(0,1,false),(1,1,false),(2,1,false)]⟩),
 (156,⟨1,4,.sc (.int .u32 0)⟩),
 (168,⟨1,8,.sc (.int .u64 0)⟩)]
def tab:TypeId->Option TI:=lookT tabL
theorem tab2:tab 2=some ⟨1,8,.sc (.int .i64 0)⟩:=rfl
theorem tab3:tab 3=some ⟨1,8,.sc (.int .i64 0)⟩:=rfl
theorem tab4:tab 4=some ⟨1,1,.sc (.bool false)⟩:=rfl
theorem tab5:tab 5=some ⟨1,1,.sc (.int .u8 0)⟩:=rfl
theorem tab7:tab 7=some ⟨4,24,.st [.sc (.int .i64 0),.sc (.int .i64 0),.sc (.bool false),.sc (.int .u8 0)] [(0,1,false),(1,1,false),(2,1,false),(3,1,false)]⟩:=rfl
theorem tab9:tab 9=some ⟨1,16,.sc (.string ⟨#[]⟩)⟩:=rfl
theorem tab12:tab 12=some ⟨1,8,.sc (.int .u64 0)⟩:=rfl
theorem tab13:tab 13=some ⟨2,24,.st [.sc (.string ⟨#[]⟩),.sc (.int .u64 0)] [(0,1,false),(1,1,false)]⟩:=rfl
theorem tab21:tab 21=some ⟨1,4,.sc (.int .i32 0)⟩:=rfl
theorem tab22:tab 22=some ⟨1,24,.sl true 5 .u8⟩:=rfl
theorem tab23:tab 23=some ⟨1,24,.sl true 49 .cmd⟩:=rfl
theorem tab28:tab 28=some ⟨1,24,.sl false 63 .lcmd⟩:=rfl
theorem tab35:tab 35=some ⟨1,24,.sl true 3 .int⟩:=rfl
theorem tab40:tab 40=some ⟨2,48,.st [.sl .int,.sl .int] [(0,1,false),(1,1,false)]⟩:=rfl
theorem tab41:tab 41=some ⟨2,48,.st [.sl .int,.sl .int] [(0,1,false),(1,1,false)]⟩:=rfl
theorem tab42:tab 42=some ⟨3,24,.st [.sc (.bool false),.sc (.int .i64 0),.sc (.int .i64 0)] [(0,1,false),(1,1,false),(2,1,false)]⟩:=rfl
theorem tab43:tab 43=some ⟨3,24,.st [.sc (.bool false),.sc (.int .i64 0),.sc (.int .i64 0)] [(0,1,false),(1,1,false),(2,1,false)]⟩:=rfl
theorem tab44:tab 44=some ⟨1,24,.sl true 43 .fact⟩:=rfl
theorem tab45:tab 45=some ⟨1,24,.sl true 119 .atom⟩:=rfl
theorem tab46:tab 46=some ⟨2,48,.st [.sl .fact,.sl .atom] [(0,1,false),(1,1,false)]⟩:=rfl
theorem tab47:tab 47=some ⟨2,48,.st [.sl .fact,.sl .atom] [(0,1,false),(1,1,false)]⟩:=rfl
theorem tab48:tab 48=some ⟨10,144,.st [.sc (.int .i64 0),.sc (.int .i64 0),.sc (.int .i64 0),.sc (.bool false),.sc (.int .i64 0),.sc (.int .i64 0),.sl .fact,.sl .atom,.sl .cmd,.sl .cmd] [(0,1,false),(1,1,false),(2,1,false),(3,3,true),(6,2,true),(8,1,false),(9,1,false)]⟩:=rfl
theorem tab49:tab 49=some ⟨10,144,.st [.sc (.int .i64 0),.sc (.int .i64 0),.sc (.int .i64 0),.sc (.bool false),.sc (.int .i64 0),.sc (.int .i64 0),.sl .fact,.sl .atom,.sl .cmd,.sl .cmd] [(0,1,false),(1,1,false),(2,1,false),(3,3,true),(6,2,true),(8,1,false),(9,1,false)]⟩:=rfl
theorem tab56:tab 56=some ⟨2,48,.st [.sl .int,.sl .int] [(0,1,false),(1,1,false)]⟩:=rfl
theorem tab57:tab 57=some ⟨3,24,.st [.sc (.bool false),.sc (.int .i64 0),.sc (.int .i64 0)] [(0,1,false),(1,1,false),(2,1,false)]⟩:=rfl
theorem tab58:tab 58=some ⟨1,24,.sl false 57 .fact⟩:=rfl
theorem tab59:tab 59=some ⟨1,24,.sl false 145 .atom⟩:=rfl
theorem tab60:tab 60=some ⟨2,48,.st [.sl .fact,.sl .atom] [(0,1,false),(1,1,false)]⟩:=rfl
theorem tab61:tab 61=some ⟨2,48,.st [.sl .fact,.sl .atom] [(0,1,false),(1,1,false)]⟩:=rfl
theorem tab62:tab 62=some ⟨10,144,.st [.sc (.int .i64 0),.sc (.int .i64 0),.sc (.int .i64 0),.sc (.bool false),.sc (.int .i64 0),.sc (.int .i64 0),.sl .fact,.sl .atom,.sl .lcmd,.sl .lcmd] [(0,1,false),(1,1,false),(2,1,false),(3,3,true),(6,2,true),(8,1,false),(9,1,false)]⟩:=rfl
theorem tab63:tab 63=some ⟨10,144,.st [.sc (.int .i64 0),.sc (.int .i64 0),.sc (.int .i64 0),.sc (.bool false),.sc (.int .i64 0),.sc (.int .i64 0),.sl .fact,.sl .atom,.sl .lcmd,.sl .lcmd] [(0,1,false),(1,1,false),(2,1,false),(3,3,true),(6,2,true),(8,1,false),(9,1,false)]⟩:=rfl
theorem tab77:tab 77=some ⟨2,48,.st [.sl .cmd,.sl .cmd] [(0,1,false),(1,1,false)]⟩:=rfl
theorem tab78:tab 78=some ⟨2,48,.st [.sl .cmd,.sl .cmd] [(0,1,false),(1,1,false)]⟩:=rfl
theorem tab79:tab 79=some ⟨1,24,.sl true 78 .cpair⟩:=rfl
theorem tab89:tab 89=some ⟨1,2,.sc (.int .u16 0)⟩:=rfl
theorem tab90:tab 90=some ⟨1,2,.sc (.int .u16 0)⟩:=rfl
theorem tab94:tab 94=some ⟨1,24,.sl true 4 .bool⟩:=rfl
theorem tab102:tab 102=some ⟨3,56,.st [.sl .int,.sl .int,.sc (.int .i64 0)] [(0,2,true),(2,1,false)]⟩:=rfl
theorem tab103:tab 103=some ⟨3,56,.st [.sl .int,.sl .int,.sc (.int .i64 0)] [(0,2,true),(2,1,false)]⟩:=rfl
theorem tab113:tab 113=some ⟨2,32,.st [.sl .u8,.sc (.int .i64 0)] [(0,1,false),(1,1,false)]⟩:=rfl
theorem tab114:tab 114=some ⟨2,32,.st [.sl .u8,.sc (.int .i64 0)] [(0,1,false),(1,1,false)]⟩:=rfl
theorem tab118:tab 118=some ⟨3,24,.st [.sc (.int .i64 0),.sc (.int .i64 0),.sc (.int .i64 0)] [(0,1,false),(1,1,false),(2,1,false)]⟩:=rfl
theorem tab119:tab 119=some ⟨3,24,.st [.sc (.int .i64 0),.sc (.int .i64 0),.sc (.int .i64 0)] [(0,1,false),(1,1,false),(2,1,false)]⟩:=rfl
theorem tab122:tab 122=some ⟨2,48,.ar 2 23 .cmds⟩:=rfl
theorem tab145:tab 145=some ⟨3,24,.st [.sc (.int .i64 0),.sc (.int .i64 0),.sc (.int .i64 0)] [(0,1,false),(1,1,false),(2,1,false)]⟩:=rfl
theorem tab156:tab 156=some ⟨1,4,.sc (.int .u32 0)⟩:=rfl
theorem tab168:tab 168=some ⟨1,8,.sc (.int .u64 0)⟩:=rfl
theorem tabOk:TabOk Try.prog E tab:=tab_ok (by kernel_rfl)
theorem mix:Try.prog.follows .mixedOrders=true:=by kernel_rfl
end Go.Proofs.Ytkafaeeianofnaa

namespace Go.Proofs.Ytkafaeeianofnaa
open Go.SE Go.RowKit
set_option linter.unusedSimpArgs false
set_option linter.unusedVariables false
set_option maxHeartbeats 1000000
set_option maxRecDepth 100000
abbrev c_slInts:Con:=⟨[.sl .int,.sl .int],[.bool],fun (a,b,_)=>a.length<=281474976710656/\b.length<=281474976710656,.inl fun (a,b,_)=>(decide (a=b),()),fun _=>0⟩
abbrev L_slInts:List (FuncId × Con):=[]
abbrev P_slInts:List (FuncId × PT):=[]
def an_slInts (a:List Int) (b:List Int):Nat->St->Option Ann
 | 4,se=>some { α:=Nat,ok:=fun i=>i<=a.length/\a.length=b.length/\a.take i=b.take i,mu:=fun i=>a.length - i,i0:=fun _=>0,nx:=fun a _=>(fun i=>i+1) a,live:=[0,1],sets:=fun i=>[(5,sv (.int .i64 i))],mids:=[],blks:=fun i=>[],owns:=fun i=>[],rd:=fun r _=>r,base:=100000 }
 | _,_=>none
def VC_slInts_1 (a:List Int) (b:List Int):Prop:=True/\(((false,()):Bool × Unit)=(decide (a=b),()))/\True/\True/\True/\True/\TF
def VC_slInts (a:List Int) (b:List Int) (k:Nat):Prop:=True/\True/\True/\True/\True/\True/\(vcIf (((a.length:Nat):Int) != ((b.length:Nat):Int)) (VC_slInts_1 a b) (True/\((0<=a.length/\a.length=b.length/\a.take 0=b.take 0)/\TT/\(RL [.s (.c (.d (.arr .int a))),.s (.c (.d (.arr .int b)))])/\(([.s (.c (.d (.val (.int .i64 (0:Int)))))]:List S)=[.s (.c (.d (.val (.int .i64 ((0:Nat):Int)))))])/\(RM [])/\(RM [])/\True/\TT)/\(∀ i1:Nat,(i1<=a.length/\a.length=b.length/\a.take i1=b.take i1)->True/\True/\True/\True/\(vcIf (decide (((i1:Nat):Int) < ((a.length:Nat):Int))) (True/\True/\(0<=((i1:Nat):Int)/\((i1:Nat):Int) < ((a.length:Nat):Int))/\True/\True/\True/\(0<=((i1:Nat):Int)/\((i1:Nat):Int) < ((b.length:Nat):Int))/\True/\True/\(vcIf ((a.getD i1 (0:Int)) != (b.getD i1 (0:Int))) (VC_slInts_1 a b) (True/\(inK .i64 (((i1:Nat):Int)+(1:Int)))/\True/\((i1+1)<=a.length/\a.length=b.length/\a.take (i1+1)=b.take (i1+1))/\(a.length - (i1+1) < a.length - i1)/\TT/\(RL [.s (.c (.d (.arr .int a))),.s (.c (.d (.arr .int b)))])/\(([.s (.c (.d (.val (.int .i64 (((i1:Nat):Int)+(1:Int))))))]:List S)=[.s (.c (.d (.val (.int .i64 (((i1+1):Nat):Int)))))])/\(RM [])/\(RM [])/\True/\TT))) (True/\(((true,()):Bool × Unit)=(decide (a=b),()))/\True/\True/\True/\True/\TF)))))
theorem vcn_slInts (a:List Int) (b:List Int) (k:Nat) (hp:a.length<=281474976710656/\b.length<=281474976710656):VC_slInts a b k:=by
 unfold VC_slInts VC_slInts_1
 simp only [cln,Nat.reduceEqDiff,Nat.reduceLeDiff,Nat.reduceAdd]
 all_goals (try simp only [opn])
 all_goals (repeat' (first | apply And.intro | intro _))
 all_goals (first | omega | (simp_all;done) | grind [same_step,same_not,take_full])
theorem ok_slInts:FnOk Try.prog E 22 c_slInts :=
 fn_okQ (l:=L_slInts) (lp:=P_slInts) (hp:=fun _=>false) (gcs:=fun _=>none) (perm:=fun _=>[]) tabOk mix trivial trivial Try.func22 rfl (by kernel_rfl) (by decide) (by kernel_rfl) (anns:=fun x _=>an_slInts x.1 x.2.1) (fun ⟨a,b,_⟩ k hp _=>Eq.mp (by kernel_rfl) (vcn_slInts a b k hp)) tot_fn
theorem vc_l18Open (code:List UInt8):vc tab (lookF []) (fun _=>none) (fun _=>[]) (bodyOf Try.f41) (entry [.c (.d (.arr .u8 code))] none) openQ:=by
 dsimp only [bodyOf,Try.f41]
 simp only [openQ,pickK,openE,openM,true_and,and_true,SE.lookF,tab2,tab3,tab4,tab5,tab7,tab9,tab12,tab13,tab21,tab22,tab23,tab28,tab35,tab40,tab41,tab42,tab43,tab44,tab45,tab46,tab47,tab48,tab49,tab56,tab57,tab58,tab59,tab60,tab61,tab62,tab63,tab77,tab78,tab79,tab89,tab90,tab94,tab102,tab103,tab113,tab114,tab118,tab119,tab122,tab145,tab156,tab168,SE.entry,SE.envOf,SE.rdOf,Option.get_some,SE.vc,SE.vcReg,SE.vcLoop,SE.condK,SE.seqK,SE.blockK,SE.vcOps,SE.vcStep,SE.vcOp,SE.vcTr,SE.vcDet_some,SE.vcDet_none,SE.vcIf_true,SE.vcIf_false,SE.vcEach,SE.pickOps,SE.gslot,SE.trOp,SE.moveId,SE.trMove,SE.trPick,SE.trAlloc,SE.trBox,SE.trBuild,SE.trBuildSlice,SE.trLoad,SE.trStore,SE.trNilCheck,SE.trBin,SE.trUn,SE.trConvert,SE.trFieldAddr,SE.trField,SE.trIndexAddr,SE.trIndex,SE.trSlice,SE.trMakeSlice,SE.trExtract,SE.trLen,SE.trAppend,SE.trCopy,SE.trFn,SE.trCall,SE.argsS,SE.ev,SE.constS,SE.junk,SE.sv,SE.upd_app,SE.adds,SE.sets,SE.nid,SE.St.app,SE.St.put,SE.free,SE.freeL,SE.allFree,SE.rids,SE.AK.rids,SE.castL,SE.rdl,SE.AK.dec,SE.decs,SE.AK.enc,SE.encs,SE.AK.res,SE.ress,SE.pack1,SE.zcells,SE.zeroOf,SE.partCells,SE.putc,SE.fills,SE.datas,SE.ownDC,SE.wkDC,SE.wkS,SE.tightM,SE.rdn,SE.rdnC,SE.elemOf,SE.elemsOf,SE.elemX,SE.zeroC,SE.notSpent,SE.cellsAt,SE.weak,SE.dcellsAt,SE.slAt,SE.rdPlus,SE.intAt,SE.updElem,SE.kill,SE.noJunk,SE.inK,SE.binI,SE.shf,SE.isShift,SE.eqCells,SE.aggS,SE.intOp,SE.nested,SE.hasRdr,SE.refsC,SE.refsCs,SE.ownsC,SE.refsAr,SE.rdFits,SE.costIf,SE.Con.post,SE.Con.det,SE.Ty.cells,SE.Ty.sz,SE.Ty.zero,SE.Ty.flat,SE.Ty.dec,SE.retOk,SE.loadsS,SE.loadS,SE.decRs,SE.decR,SE.outC,SE.rdC,SE.allDiff,SE.notIn,SE.notFrozen,SE.apartL,SE.rdEnd,SE.firstReg,SE.headC,SE.fitsC,SE.idsC,SE.keepE,SE.keepM,SE.keepB,SE.inL,SE.puts,SE.ownRes,SE.ownEnv,SE.renL,SE.srcId,SE.lookR,SE.envSame,SE.envSets,SE.memSame,SE.memBlks,SE.memOwns,SE.famsOf,SE.allIn,SE.closedE,SE.closedV,SE.closedM,SE.closedR,SE.rdLe,SE.S.refs,SE.S0.refs,SE.CV.refs,SE.refsL,SE.refsT,SE.S.ren,SE.S0.ren,SE.CV.ren,SE.Res.refs,SE.Res.ren,min_i64,max_i64,min_u16,max_u16,min_u8,max_u8,min_u64,max_u64,S.s.injEq,S0.c.injEq,CV.d.injEq,DC.val.injEq,Value.int.injEq,Value.bool.injEq,Value.string.injEq,eta_fact,eta_atom,eta_asn,eta_state,List.mem_cons,List.mem_nil_iff,or_false,false_or,or_true,true_or,List.map_cons,List.map_nil,Option.map_some,Option.map_none,Option.bind_some,Option.getD_some,Option.getD_none,Nat.reduceEqDiff,Nat.reduceAdd,Nat.reduceMul,Nat.reduceLeDiff,↓reduceIte,reduceCtorEq,true_and,and_true,and_self,forall_const,implies_true,true_implies,List.getElem?_toArray,List.getElem?_cons_succ,List.getElem?_cons_zero,List.append_nil,List.nil_append,List.cons_append,List.length_cons,List.length_nil,List.take_succ_cons,List.take_zero,List.drop_succ_cons,List.drop_zero,List.set_cons_zero,List.set_cons_succ,List.map_cons,List.map_nil,Nat.add_zero,Nat.zero_add,forall_eq,Prod.forall,Bool.not_true,Bool.not_false,Nat.lt_irrefl,Nat.zero_lt_succ,List.singleton_append,Prod.mk.injEq,Nat.zero_mul,Nat.one_mul,Nat.reducePow,Option.some.injEq,not_false_eq_true,Int.toNat_natCast,Nat.sub_zero,Nat.le_refl,Bool.or_false,Bool.false_or,Bool.or_true,Bool.true_or,Bool.and_true,Bool.true_and,Bool.and_false,Bool.false_and,Bool.or_self,Bool.and_self,List.append_eq,and_false,false_and]
 all_goals (try simp only [vcIf_iff,decide_eq_true_eq,decide_eq_false_iff_not])
 all_goals (repeat' (first | apply And.intro | intro _))
 all_goals (first | omega | (simp_all;done) | grind)
theorem open_l18Open:OpenOk Try.prog 41 :=
 open_ok tabOk mix (perm:=fun _=>[]) Try.func41 (by kernel_rfl) (by kernel_rfl) (by decide) (by kernel_rfl) vc_l18Open
theorem fn_l18Open : ∃ fn c, Try.prog.funcs[41]? = some fn /\ (fn.name == "runtime.NumGoroutine") = false /\ fn.body = some c := ⟨_, _, Try.func41, by kernel_rfl, rfl⟩
abbrev c_pick:Con:=⟨[.rdr,.int],[.int],fun _=>True,.inr fun (_,n,_) (r,_)=>pickP n r,fun _=>1⟩
theorem vc_pick (code:List UInt8) (v:Value) (p n:Int) (k:Nat) (h1:code.length<=2000) (h2:0<=p) (h3:p<=k) (h4:k+1<=rdLimit):vc tab (lookF []) (fun _=>none) (fun _=>[]) (bodyOf Try.f43) (pickSt code v p n) (pickQ code v p n):=by
 have h5:p<=1099511627776:=by have:k+1<=1099511627776:=h4;omega
 dsimp only [bodyOf,Try.f43,rdOf]
 simp only [pickSt,pickQ,pickK,pickM,pickR,pickP,true_and,and_true,SE.lookF,tab2,tab3,tab4,tab5,tab7,tab9,tab12,tab13,tab21,tab22,tab23,tab28,tab35,tab40,tab41,tab42,tab43,tab44,tab45,tab46,tab47,tab48,tab49,tab56,tab57,tab58,tab59,tab60,tab61,tab62,tab63,tab77,tab78,tab79,tab89,tab90,tab94,tab102,tab103,tab113,tab114,tab118,tab119,tab122,tab145,tab156,tab168,SE.entry,SE.envOf,SE.rdOf,Option.get_some,SE.vc,SE.vcReg,SE.vcLoop,SE.condK,SE.seqK,SE.blockK,SE.vcOps,SE.vcStep,SE.vcOp,SE.vcTr,SE.vcDet_some,SE.vcDet_none,SE.vcIf_true,SE.vcIf_false,SE.vcEach,SE.pickOps,SE.gslot,SE.trOp,SE.moveId,SE.trMove,SE.trPick,SE.trAlloc,SE.trBox,SE.trBuild,SE.trBuildSlice,SE.trLoad,SE.trStore,SE.trNilCheck,SE.trBin,SE.trUn,SE.trConvert,SE.trFieldAddr,SE.trField,SE.trIndexAddr,SE.trIndex,SE.trSlice,SE.trMakeSlice,SE.trExtract,SE.trLen,SE.trAppend,SE.trCopy,SE.trFn,SE.trCall,SE.argsS,SE.ev,SE.constS,SE.junk,SE.sv,SE.upd_app,SE.adds,SE.sets,SE.nid,SE.St.app,SE.St.put,SE.free,SE.freeL,SE.allFree,SE.rids,SE.AK.rids,SE.castL,SE.rdl,SE.AK.dec,SE.decs,SE.AK.enc,SE.encs,SE.AK.res,SE.ress,SE.pack1,SE.zcells,SE.zeroOf,SE.partCells,SE.putc,SE.fills,SE.datas,SE.ownDC,SE.wkDC,SE.wkS,SE.tightM,SE.rdn,SE.rdnC,SE.elemOf,SE.elemsOf,SE.elemX,SE.zeroC,SE.notSpent,SE.cellsAt,SE.weak,SE.dcellsAt,SE.slAt,SE.rdPlus,SE.intAt,SE.updElem,SE.kill,SE.noJunk,SE.inK,SE.binI,SE.shf,SE.isShift,SE.eqCells,SE.aggS,SE.intOp,SE.nested,SE.hasRdr,SE.refsC,SE.refsCs,SE.ownsC,SE.refsAr,SE.rdFits,SE.costIf,SE.Con.post,SE.Con.det,SE.Ty.cells,SE.Ty.sz,SE.Ty.zero,SE.Ty.flat,SE.Ty.dec,SE.retOk,SE.loadsS,SE.loadS,SE.decRs,SE.decR,SE.outC,SE.rdC,SE.allDiff,SE.notIn,SE.notFrozen,SE.apartL,SE.rdEnd,SE.firstReg,SE.headC,SE.fitsC,SE.idsC,SE.keepE,SE.keepM,SE.keepB,SE.inL,SE.puts,SE.ownRes,SE.ownEnv,SE.renL,SE.srcId,SE.lookR,SE.envSame,SE.envSets,SE.memSame,SE.memBlks,SE.memOwns,SE.famsOf,SE.allIn,SE.closedE,SE.closedV,SE.closedM,SE.closedR,SE.rdLe,SE.S.refs,SE.S0.refs,SE.CV.refs,SE.refsL,SE.refsT,SE.S.ren,SE.S0.ren,SE.CV.ren,SE.Res.refs,SE.Res.ren,min_i64,max_i64,min_u16,max_u16,min_u8,max_u8,min_u64,max_u64,S.s.injEq,S0.c.injEq,CV.d.injEq,DC.val.injEq,Value.int.injEq,Value.bool.injEq,Value.string.injEq,eta_fact,eta_atom,eta_asn,eta_state,List.mem_cons,List.mem_nil_iff,or_false,false_or,or_true,true_or,List.map_cons,List.map_nil,Option.map_some,Option.map_none,Option.bind_some,Option.getD_some,Option.getD_none,Nat.reduceEqDiff,Nat.reduceAdd,Nat.reduceMul,Nat.reduceLeDiff,↓reduceIte,reduceCtorEq,true_and,and_true,and_self,forall_const,implies_true,true_implies,List.getElem?_toArray,List.getElem?_cons_succ,List.getElem?_cons_zero,List.append_nil,List.nil_append,List.cons_append,List.length_cons,List.length_nil,List.take_succ_cons,List.take_zero,List.drop_succ_cons,List.drop_zero,List.set_cons_zero,List.set_cons_succ,List.map_cons,List.map_nil,Nat.add_zero,Nat.zero_add,forall_eq,Prod.forall,Bool.not_true,Bool.not_false,Nat.lt_irrefl,Nat.zero_lt_succ,List.singleton_append,Prod.mk.injEq,Nat.zero_mul,Nat.one_mul,Nat.reducePow,Option.some.injEq,not_false_eq_true,Int.toNat_natCast,Nat.sub_zero,Nat.le_refl,Bool.or_false,Bool.false_or,Bool.or_true,Bool.true_or,Bool.and_true,Bool.true_and,Bool.and_false,Bool.false_and,Bool.or_self,Bool.and_self,List.append_eq,and_false,false_and]
 all_goals (try simp only [vcIf_iff,decide_eq_true_eq,decide_eq_false_iff_not,bne_iff_ne,ne_eq,beq_iff_eq,beq_eq_false_iff_ne])
 have hq:p+1 - 1=p:=by omega
 simp only [hq]
 have hA:=byte_bd code
 generalize hL:(code.length:Int)=L at *
 have hL0:0<=L:=by omega
 have hm:∀ x:Int,0<=x->¬ L=0->0<=x.tmod L/\x.tmod L < L:=fun x h0 h1=>tmod_bd h0 (by omega)
 refine ⟨by omega,fun _ _=>by omega,fun hn=>⟨fun _ _=>by omega,fun hl=>⟨by omega,fun hpl=>?_,fun hpl=>?_⟩⟩⟩
 ·have a1:=hA p.toNat
  have m1:=tmod_bd (n:=n) a1.1 (by omega)
  generalize ((code.getD p.toNat 0).toNat:Int)=A at *
  exact ⟨by omega,by omega,by omega,fun _=>m1,fun h=>by omega⟩
 ·have m1:=hm p h2 hl
  have m2:=hm (p * 7+3) (by omega) hl
  have a1:=hA (p.tmod L).toNat
  have a2:=hA ((p * 7+3).tmod L).toNat
  have d1:=tdiv_bd (x:=p) (n:=L) h2 (by omega)
  generalize ((code.getD (p.tmod L).toNat 0).toNat:Int)=A at *
  generalize ((code.getD ((p * 7+3).tmod L).toNat 0).toNat:Int)=B at *
  generalize p.tdiv L=D at *
  have d2:=tdiv_bd (x:=A * 131+B * 1117+p * 29+D * 53) (n:=64) (by omega) (by omega)
  have x1:=xor_i64_pos (a:=A * 131+B * 1117+p * 29+D * 53) (b:=(A * 131+B * 1117+p * 29+D * 53).tdiv 64) (by omega) (by omega) d2.1 (by omega)
  have m3:=tmod_bd (n:=n) x1 (by omega)
  repeat' (first | apply And.intro | intro _)
  all_goals (first | assumption | omega | exact m3.1 | exact m3.2)
theorem ok_pick:FnOk Try.prog E 43 c_pick :=
 pick_ok tabOk mix (perm:=fun _=>[]) Try.func43 (by kernel_rfl) (by decide) (by kernel_rfl) (by decide) (by kernel_rfl) (fun code v p n k h1 h2 h3 h4=>vc_pick code v p n k h1 h2 h3 h4)
abbrev c_num:Con:=⟨[.rdr,.sl .int],[.int],fun (rr,l,_)=>0 < l.length/\l.length<=1000,.inr fun (rr,l,_) r=>r.1 ∈ l,fun (rr,l,_)=>1⟩
abbrev L_num:List (FuncId × Con):=[(43,c_pick)]
abbrev P_num:List (FuncId × PT):=[]
def VC_num (rr:Unit) (l:List Int) (k:Nat):Prop:=True/\True/\True/\True/\True/\(True/\(k+1<=1099511627776)/\True)/\(∀ r1:Int × Unit,(pickP ((l.length:Nat):Int) r1.1)->(0<=r1.1/\r1.1 < ((l.length:Nat):Int))/\True/\True/\((l.getD r1.1.toNat (0:Int)) ∈ l)/\True/\True/\True/\True/\(k+1<=k+1))
theorem vcn_num (rr:Unit) (l:List Int) (k:Nat) (hp:0 < l.length/\l.length<=1000) (hk:k+(1)<=1099511627776):VC_num rr l k:=by
 unfold VC_num
 simp only [cln,Nat.reduceEqDiff,Nat.reduceLeDiff,Nat.reduceAdd]
 all_goals (try simp only [opn])
 all_goals (repeat' (first | apply And.intro | intro _))
 all_goals (first | omega | (simp_all;done) | grind [getD_mem,pickP])
theorem ok_num:FnOk Try.prog E 80 c_num :=
 fn_okQ (l:=L_num) (lp:=P_num) (hp:=fun _=>false) (gcs:=fun _=>none) (perm:=fun _=>[]) tabOk mix ⟨ok_pick,trivial⟩ trivial Try.func80 rfl (by kernel_rfl) (by decide) (by kernel_rfl) (anns:=fun x _=>fun _ _=>none) (fun ⟨rr,l,_⟩ k hp hk=>Eq.mp (by kernel_rfl) (vcn_num rr l k hp (hk rfl))) (fun ⟨_,l,_⟩ hp=>⟨(l.getD 0 0,()),getD_mem hp.1⟩)
abbrev c_l3Star:Con:=⟨[.asn,.asn],[.asn],fun (a,b,_)=>a.facts.length<=1048576/\a.atoms.length<=1048576/\b.facts.length<=1048576/\b.atoms.length<=1048576,.inl fun (a,b,_)=>(⟨a.facts ++ b.facts,a.atoms ++ b.atoms⟩,()),fun _=>0⟩
abbrev L_l3Star:List (FuncId × Con):=[]
abbrev P_l3Star:List (FuncId × PT):=[]
def VC_l3Star (a:GAsn) (b:GAsn) (k:Nat):Prop:=TN/\TN/\(TN/\TN/\TN/\True)/\(TN/\True)/\True/\True/\(TN/\TF/\TF/\(([]:List GFact).length+a.facts.length<=4294967296))/\True/\True/\(TN/\TF/\TF/\((([]:List GFact) ++ a.facts).length+b.facts.length<=4294967296))/\(TN/\True)/\True/\True/\(TN/\TF/\TF/\(([]:List GAtom).length+a.atoms.length<=4294967296))/\True/\True/\(TN/\TF/\TF/\((([]:List GAtom) ++ a.atoms).length+b.atoms.length<=4294967296))/\(TN/\TN/\True)/\(TF/\TF)/\((((⟨(([]:List GFact) ++ a.facts) ++ b.facts,(([]:List GAtom) ++ a.atoms) ++ b.atoms⟩:GAsn),()):GAsn × Unit)=(⟨a.facts ++ b.facts,a.atoms ++ b.atoms⟩,()))/\((((176:Nat) ≠ 288)/\True)/\True/\True)/\((TF/\TF)/\(TF/\TF)/\True)/\True/\(True/\True/\True)/\TF
theorem vcn_l3Star (a:GAsn) (b:GAsn) (k:Nat) (hp:a.facts.length<=1048576/\a.atoms.length<=1048576/\b.facts.length<=1048576/\b.atoms.length<=1048576):VC_l3Star a b k:=by
 unfold VC_l3Star
 simp only [cln,Nat.reduceEqDiff,Nat.reduceLeDiff,Nat.reduceAdd]
 all_goals (try simp only [opn])
 all_goals (repeat' (first | apply And.intro | intro _))
 all_goals (first | omega | (simp_all;done) | grind [])
theorem ok_l3Star:FnOk Try.prog E 130 c_l3Star :=
 fn_okQ (l:=L_l3Star) (lp:=P_l3Star) (hp:=fun _=>false) (gcs:=fun _=>none) (perm:=fun _=>[]) tabOk mix trivial trivial Try.func130 rfl (by kernel_rfl) (by decide) (by kernel_rfl) (anns:=fun x _=>fun _ _=>none) (fun ⟨a,b,_⟩ k hp _=>Eq.mp (by kernel_rfl) (vcn_l3Star a b k hp)) tot_fn
abbrev c_l3Copy:Con:=⟨[.asn],[.asn],fun (a,_)=>a.facts.length<=1048576/\a.atoms.length<=1048576,.inl fun (a,_)=>(a,()),fun _=>0⟩
abbrev L_l3Copy:List (FuncId × Con):=[(130,c_l3Star)]
abbrev P_l3Copy:List (FuncId × PT):=[]
def VC_l3Copy (a:GAsn) (k:Nat):Prop:=TN/\(TN/\TN/\TN/\True)/\True/\(TN/\TN/\True)/\((a.facts.length<=1048576/\a.atoms.length<=1048576/\(⟨([]:List GFact),([]:List GAtom)⟩:GAsn).facts.length<=1048576/\(⟨([]:List GFact),([]:List GAtom)⟩:GAsn).atoms.length<=1048576)/\True/\TN/\TN/\True)/\(TF/\TF)/\((((⟨(a.facts ++ (⟨([]:List GFact),([]:List GAtom)⟩:GAsn).facts),(a.atoms ++ (⟨([]:List GFact),([]:List GAtom)⟩:GAsn).atoms)⟩:GAsn),()):GAsn × Unit)=(a,()))/\((((80:Nat) ≠ 81)/\True)/\True/\True)/\((TF/\TF)/\(TF/\TF)/\True)/\True/\(True/\True/\True)/\TF
theorem vcn_l3Copy (a:GAsn) (k:Nat) (hp:a.facts.length<=1048576/\a.atoms.length<=1048576):VC_l3Copy a k:=by
 unfold VC_l3Copy
 simp only [cln,Nat.reduceEqDiff,Nat.reduceLeDiff,Nat.reduceAdd]
 all_goals (try simp only [opn])
 all_goals (repeat' (first | apply And.intro | intro _))
 all_goals (first | omega | (simp_all;done) | grind [])
theorem ok_l3Copy:FnOk Try.prog E 119 c_l3Copy :=
 fn_okQ (l:=L_l3Copy) (lp:=P_l3Copy) (hp:=fun _=>false) (gcs:=fun _=>none) (perm:=fun _=>[]) tabOk mix ⟨ok_l3Star,trivial⟩ trivial Try.func119 rfl (by kernel_rfl) (by decide) (by kernel_rfl) (anns:=fun x _=>fun _ _=>none) (fun ⟨a,_⟩ k hp _=>Eq.mp (by kernel_rfl) (vcn_l3Copy a k hp)) tot_fn
abbrev c_l8Copy:Con:=⟨[.sl .cmd],[.sl .cmd],fun (l,_)=>l.length+wcL l<=1048576,.inl fun (l,_)=>(l,()),fun _=>0⟩
abbrev mu_l8Copy:Args c_l8Copy.aks->Nat:=fun (l,_)=>ndL l
abbrev L_l8Copy (m:Nat):List (FuncId × Con):=[(81,c_l8Copy.lim mu_l8Copy m),(119,c_l3Copy)]
abbrev P_l8Copy:List (FuncId × PT):=[]
def an_l8Copy (l:List GCmd):Nat->St->Option Ann
 | 3,se=>some { α:=Nat,ok:=fun i=>i<=l.length,mu:=fun i=>l.length - i,i0:=fun _=>0,nx:=fun a _=>(fun i=>i+1) a,live:=[0,2],sets:=fun i=>[(4,sv (.int .i64 i))],mids:=[32],blks:=fun i=>[],owns:=fun i=>[⟨7,.slot 3,.cmd,l.take i⟩],rd:=fun r _=>r,base:=100000 }
 | _,_=>none
def VC_l8Copy (l:List GCmd) (m:Nat) (k:Nat):Prop:=TN/\(TN/\True)/\True/\True/\((0<=l.length)/\TT/\(RL [.s (.c (.d (.arr .cmd l))),.s (.c (.own 32))])/\(([.s (.c (.d (.val (.int .i64 (0:Int)))))]:List S)=[.s (.c (.d (.val (.int .i64 ((0:Nat):Int)))))])/\(RM [some (.sl 32 .cmd ([]:List GCmd))])/\(RM [])/\(((some ([]:List GCmd):Option (List GCmd))=some (l.take 0))/\True)/\TT)/\(∀ i1:Nat,(i1<=l.length)->True/\True/\True/\True/\(vcIf (decide (((i1:Nat):Int) < ((l.length:Nat):Int))) (True/\True/\(0<=((i1:Nat):Int)/\((i1:Nat):Int) < ((l.length:Nat):Int))/\True/\(TN/\TN/\TN/\TN/\TN/\True)/\(TF/\TF)/\True/\True/\((((l.getD i1 (Ty.zero .cmd)).inv).facts.length<=1048576/\((l.getD i1 (Ty.zero .cmd)).inv).atoms.length<=1048576)/\True/\TN/\TN/\True)/\True/\(TF/\TF)/\True/\True/\(((((l.getD i1 (Ty.zero .cmd)).body).length+wcL ((l.getD i1 (Ty.zero .cmd)).body)<=1048576)/\ndL ((l.getD i1 (Ty.zero .cmd)).body) < m)/\True/\True/\TN/\True)/\True/\(TF/\TF)/\True/\True/\(((((l.getD i1 (Ty.zero .cmd)).els).length+wcL ((l.getD i1 (Ty.zero .cmd)).els)<=1048576)/\ndL ((l.getD i1 (Ty.zero .cmd)).els) < m)/\True/\True/\TN/\True)/\True/\(TF/\TF)/\True/\True/\(TN/\TF/\TF/\TF/\TF/\True)/\(TN/\TF/\TF/\((l.take i1).length+([(GCmd.mk ((l.getD i1 (Ty.zero .cmd)).kind) ((l.getD i1 (Ty.zero .cmd)).a) ((l.getD i1 (Ty.zero .cmd)).b) ((l.getD i1 (Ty.zero .cmd)).test) ((l.getD i1 (Ty.zero .cmd)).inv) ((l.getD i1 (Ty.zero .cmd)).body) ((l.getD i1 (Ty.zero .cmd)).els))]:List GCmd).length<=4294967296))/\True/\True/\(inK .i64 (((i1:Nat):Int)+(1:Int)))/\True/\((i1+1)<=l.length)/\(l.length - (i1+1) < l.length - i1)/\TT/\(RL [.s (.c (.d (.arr .cmd l))),.s (.c (.own 32))])/\(([.s (.c (.d (.val (.int .i64 (((i1:Nat):Int)+(1:Int))))))]:List S)=[.s (.c (.d (.val (.int .i64 (((i1+1):Nat):Int)))))])/\(RM [some (.sl 32 .cmd ([]:List GCmd))])/\(RM [])/\(((some ((l.take i1) ++ ([(GCmd.mk ((l.getD i1 (Ty.zero .cmd)).kind) ((l.getD i1 (Ty.zero .cmd)).a) ((l.getD i1 (Ty.zero .cmd)).b) ((l.getD i1 (Ty.zero .cmd)).test) ((l.getD i1 (Ty.zero .cmd)).inv) ((l.getD i1 (Ty.zero .cmd)).body) ((l.getD i1 (Ty.zero .cmd)).els))]:List GCmd)):Option (List GCmd))=some (l.take (i1+1)))/\True)/\TT) (True/\True/\(((l.take i1,()):(List GCmd) × Unit)=(l,()))/\(True/\True)/\((TF/\TF)/\True)/\True/\(True/\True)/\TF)))
theorem vcn_l8Copy (l:List GCmd) (m:Nat) (k:Nat) (hp:(l.length+wcL l<=1048576)/\ndL l < m+1):VC_l8Copy l m k:=by
 unfold VC_l8Copy
 simp only [cln,Nat.reduceEqDiff,Nat.reduceLeDiff,Nat.reduceAdd,GCmd.eta]
 have hg:∀ i,i < l.length->ndC (l.getD i (Ty.zero .cmd))<=ndL l/\wtC (l.getD i (Ty.zero .cmd))<=wcL l/\ndC (l.getD i (Ty.zero .cmd))=1+ndL (l.getD i (Ty.zero .cmd)).body+ndL (l.getD i (Ty.zero .cmd)).els:=fun i hi=>⟨ndL_get hi,wcL_get hi,ndC_eq _⟩
 have hw:=fun i=>wtC_eq (l.getD i (Ty.zero .cmd))
 have ht:=fun (i:Nat) (hi:i < l.length)=>take_step (d:=Ty.zero .cmd) hi
 all_goals (try simp only [vcIf_iff,decide_eq_true_eq,decide_eq_false_iff_not,bne_iff_ne,ne_eq,beq_iff_eq,beq_eq_false_iff_ne,bne_eq_false_iff_eq,Bool.not_eq_true',Bool.not_eq_false',Int.ofNat_lt,Int.natCast_inj])
 all_goals (repeat' (first | apply And.intro | intro _))
 all_goals (repeat (cases ‹_/\_›))
 all_goals (first | omega | with_reducible assumption | with_reducible rfl | skip)
 all_goals (first | (simp_all;done) | grind [List.take_length] | skip)
theorem ok_l8Copy:FnOk Try.prog E 81 c_l8Copy :=
 fn_rec (mu:=mu_l8Copy) (fun m ih=>fn_okQ (con:=c_l8Copy.lim mu_l8Copy (m+1)) (fn:=Try.f81) (l:=L_l8Copy m) (lp:=P_l8Copy) (hp:=fun _=>false) (gcs:=fun _=>none) (perm:=fun _=>[]) tabOk mix ⟨ih,ok_l3Copy,trivial⟩ trivial Try.func81 rfl (by kernel_rfl) (show c_l8Copy.aks.length<=Try.f81.ntmps by decide) (by kernel_rfl) (anns:=fun x _=>an_l8Copy x.1) (fun ⟨l,_⟩ k hp _=>Eq.mp (by kernel_rfl) (vcn_l8Copy l m k hp)) tot_fn) ⟨_,_,Try.func81,by kernel_rfl,rfl⟩ tot_fn
abbrev c_l8Mutate:Con:=⟨[.rdr,.sl .cmd],[.sl .cmd],fun (rr,l,_)=>SimL l,.inr fun (rr,l,_) r=>0 < r.1.length/\r.1.length+wcL r.1<=1000,fun (rr,l,_)=>3⟩
abbrev L_l8Mutate:List (FuncId × Con):=[(43,c_pick),(80,c_num),(81,c_l8Copy)]
abbrev P_l8Mutate:List (FuncId × PT):=[]
def an_l8Mutate (rr:Unit) (l:List GCmd):Nat->St->Option Ann
 | 13,se=>some { α:=List GCmd,ok:=fun m=>0 < m.length/\m.length<=17/\wcL m=0,mu:=fun m=>17 - m.length,i0:=fun st=>slAt .cmd st (.slot 5),nx:=fun m st=>slAt .cmd st (.slot 5),live:=[4,6,18],sets:=fun m=>[],mids:=[64],blks:=fun m=>[],owns:=fun m=>[⟨7,.slot 5,.cmd,m⟩],rd:=fun r _=>r,base:=100000 }
 | _,_=>none
def perm_l8Mutate:Nat->List (List Nat)
 | 16=>[[],[9,10]]
 | _=>[]
def hp_l8Mutate:Nat->Bool
 | 16=>true
 | _=>false
def VC_l8Mutate_1 (r1:Int × Unit) (r2:Int × Unit):Prop:=RL [.s (.c (.own 64)),.s (.c (.d (.val (.int .i64 r1.1)))),.s (.c (.d (.val (.int .i64 r2.1))))]
def VC_l8Mutate_2 (m6:List GCmd) (k:Nat):Prop:=True/\True/\(0 < m6.length/\m6.length+wcL m6<=1000)/\(True/\True)/\((TF/\TF)/\True)/\True/\(True/\True)/\(k+1+1<=k+3)
def VC_l8Mutate_3 (r2:Int × Unit) (l:List GCmd) (r1:Int × Unit) (k:Nat):Prop:=(True/\(vcIf (r2.1 == (3:Int)) (((0 < l.length/\l.length<=17/\wcL l=0)/\TT/\(VC_l8Mutate_1 r1 r2)/\(RL [])/\(RM [some (.sl 64 .cmd ([]:List GCmd))])/\(RM [])/\(((some l:Option (List GCmd))=some l)/\True)/\(k+1+1<=k+1+1/\k+1+1<=1099511627776))/\(∀ m6:List GCmd,(0 < m6.length/\m6.length<=17/\wcL m6=0)->True/\True/\True/\(vcIf (decide (((m6.length:Nat):Int)<=(16:Int))) (True/\(TN/\TN/\TN/\TN/\True)/\(TN/\TF/\TF/\TF/\TF/\True)/\(TN/\TF/\TF/\(m6.length+([(GCmd.mk (4:Int) (1:Int) (0:Int) (⟨false,(0:Int),(0:Int)⟩:GFact) (⟨([]:List GFact),([]:List GAtom)⟩:GAsn) ([]:List GCmd) ([]:List GCmd))]:List GCmd).length<=4294967296))/\True/\(0 < (m6 ++ ([(GCmd.mk (4:Int) (1:Int) (0:Int) (⟨false,(0:Int),(0:Int)⟩:GFact) (⟨([]:List GFact),([]:List GAtom)⟩:GAsn) ([]:List GCmd) ([]:List GCmd))]:List GCmd)).length/\(m6 ++ ([(GCmd.mk (4:Int) (1:Int) (0:Int) (⟨false,(0:Int),(0:Int)⟩:GFact) (⟨([]:List GFact),([]:List GAtom)⟩:GAsn) ([]:List GCmd) ([]:List GCmd))]:List GCmd)).length<=17/\wcL (m6 ++ ([(GCmd.mk (4:Int) (1:Int) (0:Int) (⟨false,(0:Int),(0:Int)⟩:GFact) (⟨([]:List GFact),([]:List GAtom)⟩:GAsn) ([]:List GCmd) ([]:List GCmd))]:List GCmd))=0)/\(17 - (m6 ++ ([(GCmd.mk (4:Int) (1:Int) (0:Int) (⟨false,(0:Int),(0:Int)⟩:GFact) (⟨([]:List GFact),([]:List GAtom)⟩:GAsn) ([]:List GCmd) ([]:List GCmd))]:List GCmd)).length < 17 - m6.length)/\TT/\(VC_l8Mutate_1 r1 r2)/\(RL [])/\(RM [some (.sl 64 .cmd ([]:List GCmd))])/\(RM [])/\(((some (m6 ++ ([(GCmd.mk (4:Int) (1:Int) (0:Int) (⟨false,(0:Int),(0:Int)⟩:GFact) (⟨([]:List GFact),([]:List GAtom)⟩:GAsn) ([]:List GCmd) ([]:List GCmd))]:List GCmd)):Option (List GCmd))=some (m6 ++ ([(GCmd.mk (4:Int) (1:Int) (0:Int) (⟨false,(0:Int),(0:Int)⟩:GFact) (⟨([]:List GFact),([]:List GAtom)⟩:GAsn) ([]:List GCmd) ([]:List GCmd))]:List GCmd)))/\True)/\(k+1+1<=k+1+1/\k+1+1<=1099511627776)) (VC_l8Mutate_2 m6 k)))) (True/\True/\(vcIf (r2.1 == (4:Int)) (True/\True/\(0<=r1.1/\r1.1 < ((l.length:Nat):Int))/\True/\True/\(TN/\TN/\TN/\TN/\True)/\True/\(TN/\True)/\(TN/\(((l.getD r1.1.toNat (Ty.zero .cmd)).body)=[]/\0 < ([(Ty.zero .cmd)]:List GCmd).length/\([(Ty.zero .cmd)]:List GCmd).length<=4294967296))/\(0<=((((l.getD r1.1.toNat (Ty.zero .cmd)).body).length:Nat):Int)/\((((l.getD r1.1.toNat (Ty.zero .cmd)).body).length:Nat):Int) < ((([(Ty.zero .cmd)]:List GCmd).length:Nat):Int))/\(TF/\TF/\(TF/\TF/\TF/\TF/\True)/\((1056:Nat) ∉ ([1014,1015,1016,1017]:List Nat)))/\(0<=r1.1/\r1.1 < ((l.length:Nat):Int))/\True/\TT/\(TF/\TF/\(TF/\True)/\((128:Nat) ∉ ([1056]:List Nat)))/\True/\True/\(0 < (l.set r1.1.toNat (GCmd.mk ((l.getD r1.1.toNat (Ty.zero .cmd)).kind) ((l.getD r1.1.toNat (Ty.zero .cmd)).a) ((l.getD r1.1.toNat (Ty.zero .cmd)).b) ((l.getD r1.1.toNat (Ty.zero .cmd)).test) ((l.getD r1.1.toNat (Ty.zero .cmd)).inv) (([(Ty.zero .cmd)]:List GCmd).set (((l.getD r1.1.toNat (Ty.zero .cmd)).body).length) (GCmd.mk (5:Int) (1:Int) (0:Int) (⟨false,(0:Int),(0:Int)⟩:GFact) (⟨([]:List GFact),([]:List GAtom)⟩:GAsn) ([]:List GCmd) ([]:List GCmd))) ((l.getD r1.1.toNat (Ty.zero .cmd)).els))).length/\(l.set r1.1.toNat (GCmd.mk ((l.getD r1.1.toNat (Ty.zero .cmd)).kind) ((l.getD r1.1.toNat (Ty.zero .cmd)).a) ((l.getD r1.1.toNat (Ty.zero .cmd)).b) ((l.getD r1.1.toNat (Ty.zero .cmd)).test) ((l.getD r1.1.toNat (Ty.zero .cmd)).inv) (([(Ty.zero .cmd)]:List GCmd).set (((l.getD r1.1.toNat (Ty.zero .cmd)).body).length) (GCmd.mk (5:Int) (1:Int) (0:Int) (⟨false,(0:Int),(0:Int)⟩:GFact) (⟨([]:List GFact),([]:List GAtom)⟩:GAsn) ([]:List GCmd) ([]:List GCmd))) ((l.getD r1.1.toNat (Ty.zero .cmd)).els))).length+wcL (l.set r1.1.toNat (GCmd.mk ((l.getD r1.1.toNat (Ty.zero .cmd)).kind) ((l.getD r1.1.toNat (Ty.zero .cmd)).a) ((l.getD r1.1.toNat (Ty.zero .cmd)).b) ((l.getD r1.1.toNat (Ty.zero .cmd)).test) ((l.getD r1.1.toNat (Ty.zero .cmd)).inv) (([(Ty.zero .cmd)]:List GCmd).set (((l.getD r1.1.toNat (Ty.zero .cmd)).body).length) (GCmd.mk (5:Int) (1:Int) (0:Int) (⟨false,(0:Int),(0:Int)⟩:GFact) (⟨([]:List GFact),([]:List GAtom)⟩:GAsn) ([]:List GCmd) ([]:List GCmd))) ((l.getD r1.1.toNat (Ty.zero .cmd)).els)))<=1000)/\(True/\True)/\((TF/\TF)/\True)/\True/\(True/\True)/\(k+1+1<=k+3)) (VC_l8Mutate_2 l k)))))
def VC_l8Mutate_4 (r2:Int × Unit) (k:Nat) (r1:Int × Unit) (l:List GCmd):Prop:=(True/\(vcIf (r2.1 == (0:Int)) (True/\True/\True/\(TN/\True)/\((0 < ([(0:Int),(8:Int),(1:Int),(6:Int),(7:Int)]:List Int).length/\([(0:Int),(8:Int),(1:Int),(6:Int),(7:Int)]:List Int).length<=1000)/\(k+1+1+1<=1099511627776)/\True)/\(∀ r3:Int × Unit,(r3.1 ∈ ([(0:Int),(8:Int),(1:Int),(6:Int),(7:Int)]:List Int))->(0<=r1.1/\r1.1 < ((l.length:Nat):Int))/\True/\(TF/\TF/\True/\((128:Nat) ∉ ([]:List Nat)))/\True/\True/\(0 < (l.set r1.1.toNat (GCmd.mk r3.1 ((l.getD r1.1.toNat (Ty.zero .cmd)).a) ((l.getD r1.1.toNat (Ty.zero .cmd)).b) ((l.getD r1.1.toNat (Ty.zero .cmd)).test) ((l.getD r1.1.toNat (Ty.zero .cmd)).inv) ((l.getD r1.1.toNat (Ty.zero .cmd)).body) ((l.getD r1.1.toNat (Ty.zero .cmd)).els))).length/\(l.set r1.1.toNat (GCmd.mk r3.1 ((l.getD r1.1.toNat (Ty.zero .cmd)).a) ((l.getD r1.1.toNat (Ty.zero .cmd)).b) ((l.getD r1.1.toNat (Ty.zero .cmd)).test) ((l.getD r1.1.toNat (Ty.zero .cmd)).inv) ((l.getD r1.1.toNat (Ty.zero .cmd)).body) ((l.getD r1.1.toNat (Ty.zero .cmd)).els))).length+wcL (l.set r1.1.toNat (GCmd.mk r3.1 ((l.getD r1.1.toNat (Ty.zero .cmd)).a) ((l.getD r1.1.toNat (Ty.zero .cmd)).b) ((l.getD r1.1.toNat (Ty.zero .cmd)).test) ((l.getD r1.1.toNat (Ty.zero .cmd)).inv) ((l.getD r1.1.toNat (Ty.zero .cmd)).body) ((l.getD r1.1.toNat (Ty.zero .cmd)).els)))<=1000)/\(True/\True)/\((TF/\TF)/\True)/\True/\(True/\True)/\(k+1+1+1<=k+3))) (True/\True/\(vcIf (r2.1 == (1:Int)) (True/\True/\True/\(TN/\True)/\((0 < ([(0:Int),(5:Int),(9:Int),(-1:Int)]:List Int).length/\([(0:Int),(5:Int),(9:Int),(-1:Int)]:List Int).length<=1000)/\(k+1+1+1<=1099511627776)/\True)/\(∀ r4:Int × Unit,(r4.1 ∈ ([(0:Int),(5:Int),(9:Int),(-1:Int)]:List Int))->(0<=r1.1/\r1.1 < ((l.length:Nat):Int))/\True/\(TF/\TF/\True/\((128:Nat) ∉ ([]:List Nat)))/\True/\True/\(0 < (l.set r1.1.toNat (GCmd.mk ((l.getD r1.1.toNat (Ty.zero .cmd)).kind) r4.1 ((l.getD r1.1.toNat (Ty.zero .cmd)).b) ((l.getD r1.1.toNat (Ty.zero .cmd)).test) ((l.getD r1.1.toNat (Ty.zero .cmd)).inv) ((l.getD r1.1.toNat (Ty.zero .cmd)).body) ((l.getD r1.1.toNat (Ty.zero .cmd)).els))).length/\(l.set r1.1.toNat (GCmd.mk ((l.getD r1.1.toNat (Ty.zero .cmd)).kind) r4.1 ((l.getD r1.1.toNat (Ty.zero .cmd)).b) ((l.getD r1.1.toNat (Ty.zero .cmd)).test) ((l.getD r1.1.toNat (Ty.zero .cmd)).inv) ((l.getD r1.1.toNat (Ty.zero .cmd)).body) ((l.getD r1.1.toNat (Ty.zero .cmd)).els))).length+wcL (l.set r1.1.toNat (GCmd.mk ((l.getD r1.1.toNat (Ty.zero .cmd)).kind) r4.1 ((l.getD r1.1.toNat (Ty.zero .cmd)).b) ((l.getD r1.1.toNat (Ty.zero .cmd)).test) ((l.getD r1.1.toNat (Ty.zero .cmd)).inv) ((l.getD r1.1.toNat (Ty.zero .cmd)).body) ((l.getD r1.1.toNat (Ty.zero .cmd)).els)))<=1000)/\(True/\True)/\((TF/\TF)/\True)/\True/\(True/\True)/\(k+1+1+1<=k+3))) (True/\True/\(vcIf (r2.1 == (2:Int)) (True/\True/\True/\(TN/\True)/\((0 < ([(1:Int),(9:Int)]:List Int).length/\([(1:Int),(9:Int)]:List Int).length<=1000)/\(k+1+1+1<=1099511627776)/\True)/\(∀ r5:Int × Unit,(r5.1 ∈ ([(1:Int),(9:Int)]:List Int))->True/\(0<=r1.1/\r1.1 < ((l.length:Nat):Int))/\True/\(TF/\TF/\True/\((128:Nat) ∉ ([]:List Nat)))/\True/\True/\(0 < (l.set r1.1.toNat (GCmd.mk ((l.getD r1.1.toNat (Ty.zero .cmd)).kind) ((l.getD r1.1.toNat (Ty.zero .cmd)).a) ((l.getD r1.1.toNat (Ty.zero .cmd)).b) (⟨false,r5.1,(2:Int)⟩:GFact) ((l.getD r1.1.toNat (Ty.zero .cmd)).inv) ((l.getD r1.1.toNat (Ty.zero .cmd)).body) ((l.getD r1.1.toNat (Ty.zero .cmd)).els))).length/\(l.set r1.1.toNat (GCmd.mk ((l.getD r1.1.toNat (Ty.zero .cmd)).kind) ((l.getD r1.1.toNat (Ty.zero .cmd)).a) ((l.getD r1.1.toNat (Ty.zero .cmd)).b) (⟨false,r5.1,(2:Int)⟩:GFact) ((l.getD r1.1.toNat (Ty.zero .cmd)).inv) ((l.getD r1.1.toNat (Ty.zero .cmd)).body) ((l.getD r1.1.toNat (Ty.zero .cmd)).els))).length+wcL (l.set r1.1.toNat (GCmd.mk ((l.getD r1.1.toNat (Ty.zero .cmd)).kind) ((l.getD r1.1.toNat (Ty.zero .cmd)).a) ((l.getD r1.1.toNat (Ty.zero .cmd)).b) (⟨false,r5.1,(2:Int)⟩:GFact) ((l.getD r1.1.toNat (Ty.zero .cmd)).inv) ((l.getD r1.1.toNat (Ty.zero .cmd)).body) ((l.getD r1.1.toNat (Ty.zero .cmd)).els)))<=1000)/\(True/\True)/\((TF/\TF)/\True)/\True/\(True/\True)/\(k+1+1+1<=k+3))) (True/\(VC_l8Mutate_3 r2 l r1 k))))))))
def VC_l8Mutate (rr:Unit) (l:List GCmd) (k:Nat):Prop:=TN/\True/\((l.length+wcL l<=1048576)/\True/\True/\TN/\True)/\True/\True/\True/\True/\(vcIf (((l.length:Nat):Int) == (0:Int)) (True/\True/\(0 < l.length/\l.length+wcL l<=1000)/\(True/\True)/\((TF/\TF)/\True)/\True/\(True/\True)/\(k<=k+3)) (True/\True/\True/\(True/\(k+1<=1099511627776)/\True)/\(∀ r1:Int × Unit,(pickP ((l.length:Nat):Int) r1.1)->True/\True/\(True/\(k+1+1<=1099511627776)/\True)/\(∀ r2:Int × Unit,(pickP (50:Int) r2.1)->True/\(VC_l8Mutate_4 r2 k r1 l)))))
theorem vcn_l8Mutate (rr:Unit) (l:List GCmd) (k:Nat) (hp:SimL l) (hk:k+(3)<=1099511627776):VC_l8Mutate rr l k:=by
 unfold VC_l8Mutate VC_l8Mutate_4 VC_l8Mutate_3 VC_l8Mutate_2 VC_l8Mutate_1
 simp only [cln,Nat.reduceEqDiff,Nat.reduceLeDiff,Nat.reduceAdd,GCmd.eta]
 have hpos:=hp.pos
 have hlen:=hp.len
 have hw:=hp.wt0
 all_goals (try simp only [vcIf_iff,decide_eq_true_eq,decide_eq_false_iff_not,bne_iff_ne,ne_eq,beq_iff_eq,beq_eq_false_iff_ne,bne_eq_false_iff_eq,Bool.not_eq_true',Bool.not_eq_false',Int.ofNat_lt,Int.natCast_inj])
 all_goals (repeat' (first | apply And.intro | intro _))
 all_goals (repeat (cases ‹_/\_›))
 all_goals (first | omega | with_reducible assumption | with_reducible rfl | rfl | skip)
 all_goals (first
  | with_reducible exact hp.mk1 ‹_›
  | with_reducible exact hp.in' ‹_›
  | (rw [List.length_set];omega)
  | (rw [List.length_append];simp only [List.length_cons,List.length_nil];omega)
  | exact wcL_snoc ‹_› (wtC_sim rfl rfl rfl)
  | with_reducible exact (hp.getc (hp.ix ‹_›)).1
  | (rw [(hp.getc (hp.ix ‹_›)).1];exact Nat.zero_lt_one)
  | (exfalso;exact absurd ‹_ ∈ _› (by decide))
  | skip)
theorem ok_l8Mutate:FnOk Try.prog E 44 c_l8Mutate :=
 fn_okQ (l:=L_l8Mutate) (lp:=P_l8Mutate) (hp:=hp_l8Mutate) (gcs:=fun _=>none) (perm:=perm_l8Mutate) tabOk mix ⟨ok_pick,ok_num,ok_l8Copy,trivial⟩ trivial Try.func44 rfl (by kernel_rfl) (by decide) (by kernel_rfl) (anns:=fun x _=>an_l8Mutate x.1 x.2.1) (fun ⟨rr,l,_⟩ k hp hk=>Eq.mp (by kernel_rfl) (vcn_l8Mutate rr l k hp (hk rfl))) (fun ⟨_,l,_⟩ h=>⟨(l,()),h.pos,(by have h1:=h.len;have h2:=h.wt0;show l.length+wcL l<=1000;omega)⟩)
abbrev c_l2Copy:Con:=⟨[.state],[.state],fun (s,_)=>s.vals.length<=1048576/\s.heap.length<=1048576,.inl fun (s,_)=>(s,()),fun _=>0⟩
abbrev L_l2Copy:List (FuncId × Con):=[]
theorem vc_l2Copy (s:GState) (k:Nat) (hp:s.vals.length<=1048576/\s.heap.length<=1048576):vc tab (lookF L_l2Copy) (fun _=>none) (fun _=>[]) (bodyOf Try.f90) (entry (encs c_l2Copy.aks (s,())) (rdOf false k)) (retOk tab c_l2Copy Try.f90.results.toList (s,()) k):=by
 dsimp only [bodyOf,Try.f90,rdOf]
 simp (maxSteps:=10000000) only [c_l2Copy,L_l2Copy,SE.lookF,tab2,tab3,tab4,tab5,tab7,tab9,tab12,tab13,tab21,tab22,tab23,tab28,tab35,tab40,tab41,tab42,tab43,tab44,tab45,tab46,tab47,tab48,tab49,tab56,tab57,tab58,tab59,tab60,tab61,tab62,tab63,tab77,tab78,tab79,tab89,tab90,tab94,tab102,tab103,tab113,tab114,tab118,tab119,tab122,tab145,tab156,tab168,SE.entry,SE.envOf,SE.rdOf,Option.get_some,SE.vc,SE.vcReg,SE.vcLoop,SE.condK,SE.seqK,SE.blockK,SE.vcOps,SE.vcStep,SE.vcOp,SE.vcTr,SE.vcDet_some,SE.vcDet_none,SE.vcIf_true,SE.vcIf_false,SE.vcEach,SE.pickOps,SE.gslot,SE.trOp,SE.moveId,SE.trMove,SE.trPick,SE.trAlloc,SE.trBox,SE.trBuild,SE.trBuildSlice,SE.trLoad,SE.trStore,SE.trNilCheck,SE.trBin,SE.trUn,SE.trConvert,SE.trFieldAddr,SE.trField,SE.trIndexAddr,SE.trIndex,SE.trSlice,SE.trMakeSlice,SE.trExtract,SE.trLen,SE.trAppend,SE.trCopy,SE.trFn,SE.trCall,SE.argsS,SE.ev,SE.constS,SE.junk,SE.sv,SE.upd_app,SE.adds,SE.sets,SE.nid,SE.St.app,SE.St.put,SE.free,SE.freeL,SE.allFree,SE.rids,SE.AK.rids,SE.castL,SE.rdl,SE.AK.dec,SE.decs,SE.AK.enc,SE.encs,SE.AK.res,SE.ress,SE.pack1,SE.zcells,SE.zeroOf,SE.partCells,SE.putc,SE.fills,SE.datas,SE.ownDC,SE.wkDC,SE.wkS,SE.tightM,SE.rdn,SE.rdnC,SE.elemOf,SE.elemsOf,SE.elemX,SE.zeroC,SE.notSpent,SE.cellsAt,SE.weak,SE.dcellsAt,SE.slAt,SE.rdPlus,SE.intAt,SE.updElem,SE.kill,SE.noJunk,SE.inK,SE.binI,SE.shf,SE.isShift,SE.eqCells,SE.aggS,SE.intOp,SE.nested,SE.hasRdr,SE.refsC,SE.refsCs,SE.ownsC,SE.refsAr,SE.rdFits,SE.costIf,SE.Con.post,SE.Con.det,SE.Ty.cells,SE.Ty.sz,SE.Ty.zero,SE.Ty.flat,SE.Ty.dec,SE.retOk,SE.loadsS,SE.loadS,SE.decRs,SE.decR,SE.outC,SE.rdC,SE.allDiff,SE.notIn,SE.notFrozen,SE.apartL,SE.rdEnd,SE.firstReg,SE.headC,SE.fitsC,SE.idsC,SE.keepE,SE.keepM,SE.keepB,SE.inL,SE.puts,SE.ownRes,SE.ownEnv,SE.renL,SE.srcId,SE.lookR,SE.envSame,SE.envSets,SE.memSame,SE.memBlks,SE.memOwns,SE.famsOf,SE.allIn,SE.closedE,SE.closedV,SE.closedM,SE.closedR,SE.rdLe,SE.S.refs,SE.S0.refs,SE.CV.refs,SE.refsL,SE.refsT,SE.S.ren,SE.S0.ren,SE.CV.ren,SE.Res.refs,SE.Res.ren,min_i64,max_i64,min_u16,max_u16,min_u8,max_u8,min_u64,max_u64,S.s.injEq,S0.c.injEq,CV.d.injEq,DC.val.injEq,Value.int.injEq,Value.bool.injEq,Value.string.injEq,eta_fact,eta_atom,eta_asn,eta_state,List.mem_cons,List.mem_nil_iff,or_false,false_or,or_true,true_or,List.map_cons,List.map_nil,Option.map_some,Option.map_none,Option.bind_some,Option.getD_some,Option.getD_none,Nat.reduceEqDiff,Nat.reduceAdd,Nat.reduceMul,Nat.reduceLeDiff,↓reduceIte,reduceCtorEq,true_and,and_true,and_self,forall_const,implies_true,true_implies,List.getElem?_toArray,List.getElem?_cons_succ,List.getElem?_cons_zero,List.append_nil,List.nil_append,List.cons_append,List.length_cons,List.length_nil,List.take_succ_cons,List.take_zero,List.drop_succ_cons,List.drop_zero,List.set_cons_zero,List.set_cons_succ,List.map_cons,List.map_nil,Nat.add_zero,Nat.zero_add,forall_eq,Prod.forall,Bool.not_true,Bool.not_false,Nat.lt_irrefl,Nat.zero_lt_succ,List.singleton_append,Prod.mk.injEq,Nat.zero_mul,Nat.one_mul,Nat.reducePow,Option.some.injEq,not_false_eq_true,Int.toNat_natCast,Nat.sub_zero,Nat.le_refl,Bool.or_false,Bool.false_or,Bool.or_true,Bool.true_or,Bool.and_true,Bool.true_and,Bool.and_false,Bool.false_and,Bool.or_self,Bool.and_self,List.append_eq,and_false,false_and]
 all_goals (try simp only [vcIf_iff,decide_eq_true_eq,decide_eq_false_iff_not,bne_iff_ne,ne_eq,beq_iff_eq,beq_eq_false_iff_ne,bne_eq_false_iff_eq,Bool.not_eq_true',Bool.not_eq_false',Int.ofNat_lt,Int.natCast_inj])
 all_goals (repeat' (first | apply And.intro | intro _))
 all_goals (first | omega | (simp_all;done) | grind [])
theorem ok_l2Copy:FnOk Try.prog E 90 c_l2Copy :=
 fn_ok (l:=L_l2Copy) (perm:=fun _=>[]) tabOk mix trivial Try.func90 rfl (by kernel_rfl) (by decide) (by kernel_rfl) (anns:=fun x _=>fun _=>none) (fun ⟨s,_⟩ k hp _=>vc_l2Copy s k hp) tot_fn
abbrev c_l2Mutate:Con:=⟨[.rdr,.state],[.state],fun (rr,s,_)=>s.vals.length<=1048576/\s.heap.length<=1048576,.inr fun (rr,s,_) r=>r.1.vals.length<=s.vals.length/\r.1.heap.length<=s.heap.length+1,fun (rr,s,_)=>2⟩
abbrev L_l2Mutate:List (FuncId × Con):=[(43,c_pick),(80,c_num),(90,c_l2Copy)]
abbrev P_l2Mutate:List (FuncId × PT):=[]
def VC_l2Mutate_1 (k:Nat):Prop:=((((112:Nat) ≠ 113)/\True)/\True/\True)/\((TF/\TF)/\(TF/\TF)/\True)/\True/\(True/\True/\True)/\(k+1+1<=k+2)
def VC_l2Mutate_2 (s:GState) (k:Nat):Prop:=True/\(TF/\TF)/\(s.vals.length<=s.vals.length/\s.heap.length<=s.heap.length+1)/\((((112:Nat) ≠ 113)/\True)/\True/\True)/\((TF/\TF)/\(TF/\TF)/\True)/\True/\(True/\True/\True)/\(k+1<=k+2)
def VC_l2Mutate (rr:Unit) (s:GState) (k:Nat):Prop:=TN/\(TN/\TN/\TN/\True)/\True/\((s.vals.length<=1048576/\s.heap.length<=1048576)/\True/\TN/\TN/\True)/\(TN/\TN/\TN/\True)/\(TF/\TF)/\True/\(True/\(k+1<=1099511627776)/\True)/\(∀ r1:Int × Unit,(pickP (50:Int) r1.1)->True/\True/\(vcIf (r1.1 == (0:Int)) (True/\True/\True/\True/\(vcIf (decide ((0:Int) < ((s.vals.length:Nat):Int))) (True/\True/\True/\(TN/\True)/\((0 < ([(9:Int),(-1:Int),(9223372036854775807:Int)]:List Int).length/\([(9:Int),(-1:Int),(9223372036854775807:Int)]:List Int).length<=1000)/\(k+1+1<=1099511627776)/\True)/\(∀ r2:Int × Unit,(r2.1 ∈ ([(9:Int),(-1:Int),(9223372036854775807:Int)]:List Int))->(0<=(0:Int)/\(0:Int) < ((s.vals.length:Nat):Int))/\(TF/\TF/\True/\((112:Nat) ∉ ([]:List Nat)))/\True/\(TF/\TF)/\((⟨s.vals.set 0 r2.1,s.heap⟩:GState).vals.length<=s.vals.length/\(⟨s.vals.set 0 r2.1,s.heap⟩:GState).heap.length<=s.heap.length+1)/\(VC_l2Mutate_1 k))) (VC_l2Mutate_2 s k))) (True/\True/\(vcIf (r1.1 == (1:Int)) (True/\True/\True/\True/\(vcIf (decide ((0:Int) < ((s.heap.length:Nat):Int))) (True/\True/\True/\(TN/\True)/\((0 < ([(9:Int),(-2:Int),(-1:Int)]:List Int).length/\([(9:Int),(-2:Int),(-1:Int)]:List Int).length<=1000)/\(k+1+1<=1099511627776)/\True)/\(∀ r3:Int × Unit,(r3.1 ∈ ([(9:Int),(-2:Int),(-1:Int)]:List Int))->(0<=(0:Int)/\(0:Int) < ((s.heap.length:Nat):Int))/\(TF/\TF/\True/\((113:Nat) ∉ ([]:List Nat)))/\True/\(TF/\TF)/\((⟨s.vals,s.heap.set 0 r3.1⟩:GState).vals.length<=s.vals.length/\(⟨s.vals,s.heap.set 0 r3.1⟩:GState).heap.length<=s.heap.length+1)/\(VC_l2Mutate_1 k))) (VC_l2Mutate_2 s k))) (True/\True/\(vcIf (r1.1 == (2:Int)) (True/\True/\(TN/\True)/\(TN/\TF/\TF/\(s.heap.length+([(-1:Int)]:List Int).length<=4294967296))/\True/\(TF/\TF)/\True/\(TF/\TF)/\((⟨s.vals,s.heap ++ ([(-1:Int)]:List Int)⟩:GState).vals.length<=s.vals.length/\(⟨s.vals,s.heap ++ ([(-1:Int)]:List Int)⟩:GState).heap.length<=s.heap.length+1)/\((((112:Nat) ≠ 624)/\True)/\True/\True)/\((TF/\TF)/\(TF/\TF)/\True)/\True/\(True/\True/\True)/\(k+1<=k+2)) (True/\True/\(vcIf (r1.1 == (3:Int)) ((TN/\TN/\True)/\(TF/\TF)/\((⟨([]:List Int),([]:List Int)⟩:GState).vals.length<=s.vals.length/\(⟨([]:List Int),([]:List Int)⟩:GState).heap.length<=s.heap.length+1)/\((((688:Nat) ≠ 689)/\True)/\True/\True)/\((TF/\TF)/\(TF/\TF)/\True)/\True/\(True/\True/\True)/\(k+1<=k+2)) (VC_l2Mutate_2 s k)))))))))
theorem vcn_l2Mutate (rr:Unit) (s:GState) (k:Nat) (hp:s.vals.length<=1048576/\s.heap.length<=1048576) (hk:k+(2)<=1099511627776):VC_l2Mutate rr s k:=by
 unfold VC_l2Mutate VC_l2Mutate_2 VC_l2Mutate_1
 simp only [cln,Nat.reduceEqDiff,Nat.reduceLeDiff,Nat.reduceAdd]
 all_goals (try simp only [opn])
 all_goals (repeat' (first | apply And.intro | intro _))
 all_goals (first | omega | (simp_all;done) | grind [])
theorem ok_l2Mutate:FnOk Try.prog E 55 c_l2Mutate :=
 fn_okQ (l:=L_l2Mutate) (lp:=P_l2Mutate) (hp:=fun _=>false) (gcs:=fun _=>none) (perm:=fun _=>[]) tabOk mix ⟨ok_pick,ok_num,ok_l2Copy,trivial⟩ trivial Try.func55 rfl (by kernel_rfl) (by decide) (by kernel_rfl) (anns:=fun x _=>fun _ _=>none) (fun ⟨rr,s,_⟩ k hp hk=>Eq.mp (by kernel_rfl) (vcn_l2Mutate rr s k hp (hk rfl))) (fun ⟨_,s,_⟩ _=>⟨(s,()),⟨Nat.le_refl _,Nat.le_succ _⟩⟩)
abbrev c_l2Blank:Con:=⟨[],[.state],fun _=>True,.inl fun _=>(⟨List.replicate 8 0,List.replicate 8 (-1)⟩,()),fun _=>0⟩
abbrev L_l2Blank:List (FuncId × Con):=[]
def an_l2Blank :Nat->Option Ann
 | 3=>some { α:=Nat,ok:=fun i=>i<=8,mu:=fun i=>8 - i,i0:=fun _=>0,nx:=fun a _=>(fun i=>i+1) a,live:=[0,1],sets:=fun i=>[(2,sv (.int .i64 i))],mids:=[15,0,1],blks:=fun i=>[(31,.blk [.own 7,.own 8])],owns:=fun i=>[⟨7,.cell 31 0,.int,List.replicate i 0⟩,⟨8,.cell 31 1,.int,[]⟩],rd:=fun r _=>r,base:=100000 }
 | 7=>some { α:=Nat,ok:=fun i=>i<=8,mu:=fun i=>8 - i,i0:=fun _=>0,nx:=fun a _=>(fun i=>i+1) a,live:=[0,1],sets:=fun i=>[(3,sv (.int .i64 i))],mids:=[15,0,1],blks:=fun i=>[(31,.blk [.own 7,.own 8])],owns:=fun i=>[⟨7,.cell 31 0,.int,List.replicate 8 0⟩,⟨8,.cell 31 1,.int,List.replicate i (-1)⟩],rd:=fun r _=>r,base:=200000 }
 | _=>none
theorem vc_l2Blank  (k:Nat):vc tab (lookF L_l2Blank) (an_l2Blank ) (fun _=>[]) (bodyOf Try.f91) (entry (encs c_l2Blank.aks ()) (rdOf false k)) (retOk tab c_l2Blank Try.f91.results.toList () k):=by
 dsimp only [bodyOf,Try.f91,rdOf]
 simp (maxSteps:=10000000) only [c_l2Blank,L_l2Blank,an_l2Blank,SE.lookF,tab2,tab3,tab4,tab5,tab7,tab9,tab12,tab13,tab21,tab22,tab23,tab28,tab35,tab40,tab41,tab42,tab43,tab44,tab45,tab46,tab47,tab48,tab49,tab56,tab57,tab58,tab59,tab60,tab61,tab62,tab63,tab77,tab78,tab79,tab89,tab90,tab94,tab102,tab103,tab113,tab114,tab118,tab119,tab122,tab145,tab156,tab168,SE.entry,SE.envOf,SE.rdOf,Option.get_some,SE.vc,SE.vcReg,SE.vcLoop,SE.condK,SE.seqK,SE.blockK,SE.vcOps,SE.vcStep,SE.vcOp,SE.vcTr,SE.vcDet_some,SE.vcDet_none,SE.vcIf_true,SE.vcIf_false,SE.vcEach,SE.pickOps,SE.gslot,SE.trOp,SE.moveId,SE.trMove,SE.trPick,SE.trAlloc,SE.trBox,SE.trBuild,SE.trBuildSlice,SE.trLoad,SE.trStore,SE.trNilCheck,SE.trBin,SE.trUn,SE.trConvert,SE.trFieldAddr,SE.trField,SE.trIndexAddr,SE.trIndex,SE.trSlice,SE.trMakeSlice,SE.trExtract,SE.trLen,SE.trAppend,SE.trCopy,SE.trFn,SE.trCall,SE.argsS,SE.ev,SE.constS,SE.junk,SE.sv,SE.upd_app,SE.adds,SE.sets,SE.nid,SE.St.app,SE.St.put,SE.free,SE.freeL,SE.allFree,SE.rids,SE.AK.rids,SE.castL,SE.rdl,SE.AK.dec,SE.decs,SE.AK.enc,SE.encs,SE.AK.res,SE.ress,SE.pack1,SE.zcells,SE.zeroOf,SE.partCells,SE.putc,SE.fills,SE.datas,SE.ownDC,SE.wkDC,SE.wkS,SE.tightM,SE.rdn,SE.rdnC,SE.elemOf,SE.elemsOf,SE.elemX,SE.zeroC,SE.notSpent,SE.cellsAt,SE.weak,SE.dcellsAt,SE.slAt,SE.rdPlus,SE.intAt,SE.updElem,SE.kill,SE.noJunk,SE.inK,SE.binI,SE.shf,SE.isShift,SE.eqCells,SE.aggS,SE.intOp,SE.nested,SE.hasRdr,SE.refsC,SE.refsCs,SE.ownsC,SE.refsAr,SE.rdFits,SE.costIf,SE.Con.post,SE.Con.det,SE.Ty.cells,SE.Ty.sz,SE.Ty.zero,SE.Ty.flat,SE.Ty.dec,SE.retOk,SE.loadsS,SE.loadS,SE.decRs,SE.decR,SE.outC,SE.rdC,SE.allDiff,SE.notIn,SE.notFrozen,SE.apartL,SE.rdEnd,SE.firstReg,SE.headC,SE.fitsC,SE.idsC,SE.keepE,SE.keepM,SE.keepB,SE.inL,SE.puts,SE.ownRes,SE.ownEnv,SE.renL,SE.srcId,SE.lookR,SE.envSame,SE.envSets,SE.memSame,SE.memBlks,SE.memOwns,SE.famsOf,SE.allIn,SE.closedE,SE.closedV,SE.closedM,SE.closedR,SE.rdLe,SE.S.refs,SE.S0.refs,SE.CV.refs,SE.refsL,SE.refsT,SE.S.ren,SE.S0.ren,SE.CV.ren,SE.Res.refs,SE.Res.ren,min_i64,max_i64,min_u16,max_u16,min_u8,max_u8,min_u64,max_u64,S.s.injEq,S0.c.injEq,CV.d.injEq,DC.val.injEq,Value.int.injEq,Value.bool.injEq,Value.string.injEq,eta_fact,eta_atom,eta_asn,eta_state,List.mem_cons,List.mem_nil_iff,or_false,false_or,or_true,true_or,List.map_cons,List.map_nil,Option.map_some,Option.map_none,Option.bind_some,Option.getD_some,Option.getD_none,Nat.reduceEqDiff,Nat.reduceAdd,Nat.reduceMul,Nat.reduceLeDiff,↓reduceIte,reduceCtorEq,true_and,and_true,and_self,forall_const,implies_true,true_implies,List.getElem?_toArray,List.getElem?_cons_succ,List.getElem?_cons_zero,List.append_nil,List.nil_append,List.cons_append,List.length_cons,List.length_nil,List.take_succ_cons,List.take_zero,List.drop_succ_cons,List.drop_zero,List.set_cons_zero,List.set_cons_succ,List.map_cons,List.map_nil,Nat.add_zero,Nat.zero_add,forall_eq,Prod.forall,Bool.not_true,Bool.not_false,Nat.lt_irrefl,Nat.zero_lt_succ,List.singleton_append,Prod.mk.injEq,Nat.zero_mul,Nat.one_mul,Nat.reducePow,Option.some.injEq,not_false_eq_true,Int.toNat_natCast,Nat.sub_zero,Nat.le_refl,Bool.or_false,Bool.false_or,Bool.or_true,Bool.true_or,Bool.and_true,Bool.true_and,Bool.and_false,Bool.false_and,Bool.or_self,Bool.and_self,List.append_eq,and_false,false_and]
 all_goals (try simp only [vcIf_iff,decide_eq_true_eq,decide_eq_false_iff_not,bne_iff_ne,ne_eq,beq_iff_eq,beq_eq_false_iff_ne,bne_eq_false_iff_eq,Bool.not_eq_true',Bool.not_eq_false',Int.ofNat_lt,Int.natCast_inj])
 all_goals (repeat' (first | apply And.intro | intro _))
 all_goals (first | omega | (simp_all;done) | grind [List.replicate_succ'])
theorem ok_l2Blank:FnOk Try.prog E 91 c_l2Blank :=
 fn_ok (l:=L_l2Blank) (perm:=fun _=>[]) tabOk mix trivial Try.func91 rfl (by kernel_rfl) (by decide) (by kernel_rfl) (anns:=fun x _=>an_l2Blank ) (fun _ k _ _=>vc_l2Blank  k) tot_fn
end Go.Proofs.Ytkafaeeianofnaa
