/-
  Contracts of single functions of the program, each shown by the engine: what a call returns for arguments within the contract's bounds.
-/
import Derived.Test.YtfoioficiffgkaaProg
import Derived.KernelRfl
import Derived.Test.YtfoioficiffgkaaEc
import Derived.Test.YtfoioficiffgkaaEd
import Derived.Test.YtfoioficiffgkaaEe
set_option linter.unusedSimpArgs false
set_option linter.unusedVariables false
set_option linter.unusedSectionVars false

namespace Go.Proofs.Ytfoioficiffgkaa
open Go.SE Go.RowKit
def E:Ty->TypeId
 | .int=>3
 | .bool=>4
 | .u8=>5
 | .fact=>56
 | .atom=>61
 | .cmd=>0
 | .ints=>31
 | .asn=>0
def tabL:List (TypeId × TI):=[
 (2,⟨1,8,.sc (.int .i64 0)⟩),
 (3,⟨1,8,.sc (.int .i64 0)⟩),
 (4,⟨1,1,.sc (.bool false)⟩),
 (5,⟨1,1,.sc (.int .u8 0)⟩),
 (7,⟨4,24,.st [.sc (.int .i64 0),.sc (.int .i64 0),.sc (.bool false),.sc (.int .u8 0)] [(0,1,false),(1,1,false),(2,1,false),(3,1,false)]⟩),
 (9,⟨1,16,.sc (.string ⟨#[]⟩)⟩),
 (12,⟨1,8,.sc (.int .u64 0)⟩),
 (13,⟨2,24,.st [.sc (.string ⟨#[]⟩),.sc (.int .u64 0)] [(0,1,false),(1,1,false)]⟩),
 (21,⟨1,4,.sc (.int .i32 0)⟩),
 (22,⟨1,24,.sl true 5 .u8⟩),
 (23,⟨1,24,.sl true 56 .fact⟩),
 (24,⟨1,24,.sl true 61 .atom⟩),
 (25,⟨2,48,.st [.sl .fact,.sl .atom] [(0,1,false),(1,1,false)]⟩),
 (26,⟨2,48,.st [.sl .fact,.sl .atom] [(0,1,false),(1,1,false)]⟩),
 (31,⟨1,24,.sl true 3 .int⟩),
 (32,⟨2,48,.st [.sl .int,.sl .int] [(0,1,false),(1,1,false)]⟩),
 (33,⟨2,48,.st [.sl .int,.sl .int] [(0,1,false),(1,1,false)]⟩),
 (41,⟨1,24,.sl false 144 .fact⟩),
 (42,⟨1,24,.sl false 146 .atom⟩),
 (43,⟨2,48,.st [.sl .fact,.sl .atom] [(0,1,false),(1,1,false)]⟩),
 (44,⟨2,48,.st [.sl .fact,.sl .atom] [(0,1,false),(1,1,false)]⟩),
 (55,⟨3,24,.st [.sc (.bool false),.sc (.int .i64 0),.sc (.int .i64 0)] [(0,1,false),(1,1,false),(2,1,false)]⟩),
 (56,⟨3,24,.st [.sc (.bool false),.sc (.int .i64 0),.sc (.int .i64 0)] [(0,1,false),(1,1,false),(2,1,false)]⟩),
 (60,⟨3,24,.st [.sc (.int .i64 0),.sc (.int .i64 0),.sc (.int .i64 0)] [(0,1,false),(1,1,false),(2,1,false)]⟩),
 (61,⟨3,24,.st [.sc (.int .i64 0),.sc (.int .i64 0),.sc (.int .i64 0)] [(0,1,false),(1,1,false),(2,1,false)]⟩),
 (81,⟨9,72,.ar 9 3 .int⟩),
 (82,⟨9,72,.ar 9 3 .int⟩),
 (86,⟨1,2,.sc (.int .u16 0)⟩),
 (87,⟨1,2,.sc (.int .u16 0)⟩),
 (94,⟨1,24,.sl true 4 .bool⟩),
 (99,⟨1,2,.sc (.int .u16 0)⟩),
 (101,⟨1,24,.sl true 31 .ints⟩),
 (130,⟨2,32,.st [.sl .u8,.sc (.int .i64 0)] [(0,1,false),(1,1,false)]⟩),
 (131,⟨2,32,.st [.sl .u8,.sc (.int .i64 0)] [(0,1,false),(1,1,false)]⟩),
 (144,⟨3,24,.st [.sc (.bool false),.sc (.int .i64 0),.sc (.int .i64 0)] [(0,1,false),(1,1,false),(2,1,false)]⟩),
 (146,⟨3,24,.st [.sc (.int .i64 0),.sc (.int .i64 0),.sc (.int .i64 0)] [(0,1,false),(1,1,false),(2,1,false)]⟩),
 (148,⟨6,6,.ar 6 4 .bool⟩),
 (149,⟨8,40,.st [.sl .atom,.sc (.bool false),.sc (.bool false),.sc (.bool false),.sc (.bool false),.sc (.bool false),.sc (.bool false),.sc (.int .i64 0)] [(0,1,false),(1,6,true),(7,1,false)]⟩),
 (150,⟨8,40,.st [.sl .atom,.sc (.bool false),.sc (.bool false),.sc (.bool false),.sc (.bool false),.sc (.bool false),.sc (.bool false),.sc (.int .i64 0)] [(0,1,false),(1,6,true),(7,1,false)]⟩),
 (178,⟨1,4,.sc (.int .u32 0)⟩),
 (190,⟨1,8,.sc (.int .u64 0)⟩)]
def tab:TypeId->Option TI:=lookT tabL
theorem tab2:tab 2=some ⟨1,8,.sc (.int .i64 0)⟩:=rfl
theorem tab3:tab 3=some ⟨1,8,.sc (.int .i64 0)⟩:=rfl
theorem tab4:tab 4=some ⟨1,1,.sc (.bool false)⟩:=rfl
theorem tab5:tab 5=some ⟨1,1,.sc (.int .u8 0)⟩:=rfl
theorem tab7:tab 7=some ⟨4,24,.st [.sc (.int .i64 0),.sc (.int .i64 0),.sc (.bool false),.sc (.int .u8 0)] [(0,1,false),(1,1,false),(2,1,false),(3,1,false)]⟩:=rfl
theorem tab9:tab 9=some ⟨1,16,.sc (.string ⟨#[]⟩)⟩:=rfl
theorem tab12:tab 12=some ⟨1,8,.sc (.int .u64 0)⟩:=rfl
theorem tab13:tab 13=some ⟨2,24,.st [.sc (.string ⟨#[]⟩),.sc (.int .u64 0)] [(0,1,false),(1,1,false)]⟩:=rfl
theorem tab21:tab 21=some ⟨1,4,.sc (.int .i32 0)⟩:=rfl
theorem tab22:tab 22=some ⟨1,24,.sl true 5 .u8⟩:=rfl
theorem tab23:tab 23=some ⟨1,24,.sl true 56 .fact⟩:=rfl
theorem tab24:tab 24=some ⟨1,24,.sl true 61 .atom⟩:=rfl
theorem tab25:tab 25=some ⟨2,48,.st [.sl .fact,.sl .atom] [(0,1,false),(1,1,false)]⟩:=rfl
theorem tab26:tab 26=some ⟨2,48,.st [.sl .fact,.sl .atom] [(0,1,false),(1,1,false)]⟩:=rfl
theorem tab31:tab 31=some ⟨1,24,.sl true 3 .int⟩:=rfl
theorem tab32:tab 32=some ⟨2,48,.st [.sl .int,.sl .int] [(0,1,false),(1,1,false)]⟩:=rfl
theorem tab33:tab 33=some ⟨2,48,.st [.sl .int,.sl .int] [(0,1,false),(1,1,false)]⟩:=rfl
theorem tab41:tab 41=some ⟨1,24,.sl false 144 .fact⟩:=rfl
theorem tab42:tab 42=some ⟨1,24,.sl false 146 .atom⟩:=rfl
theorem tab43:tab 43=some ⟨2,48,.st [.sl .fact,.sl .atom] [(0,1,false),(1,1,false)]⟩:=rfl
theorem tab44:tab 44=some ⟨2,48,.st [.sl .fact,.sl .atom] [(0,1,false),(1,1,false)]⟩:=rfl
theorem tab55:tab 55=some ⟨3,24,.st [.sc (.bool false),.sc (.int .i64 0),.sc (.int .i64 0)] [(0,1,false),(1,1,false),(2,1,false)]⟩:=rfl
theorem tab56:tab 56=some ⟨3,24,.st [.sc (.bool false),.sc (.int .i64 0),.sc (.int .i64 0)] [(0,1,false),(1,1,false),(2,1,false)]⟩:=rfl
theorem tab60:tab 60=some ⟨3,24,.st [.sc (.int .i64 0),.sc (.int .i64 0),.sc (.int .i64 0)] [(0,1,false),(1,1,false),(2,1,false)]⟩:=rfl
theorem tab61:tab 61=some ⟨3,24,.st [.sc (.int .i64 0),.sc (.int .i64 0),.sc (.int .i64 0)] [(0,1,false),(1,1,false),(2,1,false)]⟩:=rfl
theorem tab81:tab 81=some ⟨9,72,.ar 9 3 .int⟩:=rfl
theorem tab82:tab 82=some ⟨9,72,.ar 9 3 .int⟩:=rfl
theorem tab86:tab 86=some ⟨1,2,.sc (.int .u16 0)⟩:=rfl
theorem tab87:tab 87=some ⟨1,2,.sc (.int .u16 0)⟩:=rfl
theorem tab94:tab 94=some ⟨1,24,.sl true 4 .bool⟩:=rfl
theorem tab99:tab 99=some ⟨1,2,.sc (.int .u16 0)⟩:=rfl
theorem tab101:tab 101=some ⟨1,24,.sl true 31 .ints⟩:=rfl
theorem tab130:tab 130=some ⟨2,32,.st [.sl .u8,.sc (.int .i64 0)] [(0,1,false),(1,1,false)]⟩:=rfl
theorem tab131:tab 131=some ⟨2,32,.st [.sl .u8,.sc (.int .i64 0)] [(0,1,false),(1,1,false)]⟩:=rfl
theorem tab144:tab 144=some ⟨3,24,.st [.sc (.bool false),.sc (.int .i64 0),.sc (.int .i64 0)] [(0,1,false),(1,1,false),(2,1,false)]⟩:=rfl
theorem tab146:tab 146=some ⟨3,24,.st [.sc (.int .i64 0),.sc (.int .i64 0),.sc (.int .i64 0)] [(0,1,false),(1,1,false),(2,1,false)]⟩:=rfl
theorem tab148:tab 148=some ⟨6,6,.ar 6 4 .bool⟩:=rfl
theorem tab149:tab 149=some ⟨8,40,.st [.sl .atom,.sc (.bool false),.sc (.bool false),.sc (.bool false),.sc (.bool false),.sc (.bool false),.sc (.bool false),.sc (.int .i64 0)] [(0,1,false),(1,6,true),(7,1,false)]⟩:=rfl
theorem tab150:tab 150=some ⟨8,40,.st [.sl .atom,.sc (.bool false),.sc (.bool false),.sc (.bool false),.sc (.bool false),.sc (.bool false),.sc (.bool false),.sc (.int .i64 0)] [(0,1,false),(1,6,true),(7,1,false)]⟩:=rfl
theorem tab178:tab 178=some ⟨1,4,.sc (.int .u32 0)⟩:=rfl
theorem tab190:tab 190=some ⟨1,8,.sc (.int .u64 0)⟩:=rfl
theorem tabOk:TabOk Try.prog E tab:=tab_ok (by kernel_rfl)
theorem mix:Try.prog.follows .mixedOrders=true:=by kernel_rfl
end Go.Proofs.Ytfoioficiffgkaa

namespace Go.Proofs.Ytfoioficiffgkaa
open Go.SE Go.RowKit
set_option linter.unusedSimpArgs false
set_option linter.unusedVariables false
set_option maxHeartbeats 1000000
set_option maxRecDepth 100000
theorem vc_l18Open (code:List UInt8):vc tab (lookF []) (fun _=>none) (fun _=>[]) (bodyOf Try.f51) (entry [.c (.d (.arr .u8 code))] none) openQ:=by
 dsimp only [bodyOf,Try.f51]
 simp only [openQ,pickK,openE,openM,true_and,and_true,SE.lookF,tab2,tab3,tab4,tab5,tab7,tab9,tab12,tab13,tab21,tab22,tab23,tab24,tab25,tab26,tab31,tab32,tab33,tab41,tab42,tab43,tab44,tab55,tab56,tab60,tab61,tab81,tab82,tab86,tab87,tab94,tab99,tab101,tab130,tab131,tab144,tab146,tab148,tab149,tab150,tab178,tab190,SE.entry,SE.envOf,SE.rdOf,Option.get_some,SE.vc,SE.vcReg,SE.vcLoop,SE.condK,SE.seqK,SE.blockK,SE.vcOps,SE.vcStep,SE.vcOp,SE.vcTr,SE.vcDet_some,SE.vcDet_none,SE.vcIf_true,SE.vcIf_false,SE.vcEach,SE.pickOps,SE.gslot,SE.trOp,SE.moveId,SE.trMove,SE.trPick,SE.trAlloc,SE.trBox,SE.trBuild,SE.trBuildSlice,SE.trLoad,SE.trStore,SE.trNilCheck,SE.trBin,SE.trUn,SE.trConvert,SE.trFieldAddr,SE.trField,SE.trIndexAddr,SE.trIndex,SE.trSlice,SE.trMakeSlice,SE.trExtract,SE.trLen,SE.trAppend,SE.trCopy,SE.trFn,SE.trCall,SE.argsS,SE.ev,SE.constS,SE.junk,SE.sv,SE.upd_app,SE.adds,SE.sets,SE.nid,SE.St.app,SE.St.put,SE.free,SE.freeL,SE.allFree,SE.rids,SE.AK.rids,SE.castL,SE.rdl,SE.AK.dec,SE.decs,SE.AK.enc,SE.encs,SE.AK.res,SE.ress,SE.pack1,SE.zcells,SE.zeroOf,SE.partCells,SE.putc,SE.fills,SE.datas,SE.elemOf,SE.elemsOf,SE.notSpent,SE.cellsAt,SE.weak,SE.dcellsAt,SE.slAt,SE.rdPlus,SE.intAt,SE.updElem,SE.kill,SE.noJunk,SE.inK,SE.binI,SE.shf,SE.isShift,SE.eqCells,SE.aggS,SE.intOp,SE.nested,SE.hasRdr,SE.refsC,SE.refsCs,SE.ownsC,SE.refsAr,SE.rdFits,SE.costIf,SE.Con.post,SE.Con.det,SE.Ty.cells,SE.Ty.sz,SE.Ty.zero,SE.Ty.flat,SE.Ty.dec,SE.retOk,SE.loadsS,SE.loadS,SE.decRs,SE.decR,SE.outC,SE.rdC,SE.allDiff,SE.notIn,SE.notFrozen,SE.apartL,SE.rdEnd,SE.firstReg,SE.headC,SE.fitsC,SE.idsC,SE.keepE,SE.keepM,SE.keepB,SE.inL,SE.puts,SE.ownRes,SE.ownEnv,SE.renL,SE.srcId,SE.lookR,SE.envSame,SE.envSets,SE.memSame,SE.memBlks,SE.memOwns,SE.famsOf,SE.allIn,SE.closedE,SE.closedV,SE.closedM,SE.closedR,SE.rdLe,SE.S.refs,SE.S0.refs,SE.CV.refs,SE.refsL,SE.refsT,SE.S.ren,SE.S0.ren,SE.CV.ren,SE.Res.refs,SE.Res.ren,min_i64,max_i64,min_u16,max_u16,min_u8,max_u8,min_u64,max_u64,S.s.injEq,S0.c.injEq,CV.d.injEq,DC.val.injEq,Value.int.injEq,Value.bool.injEq,Value.string.injEq,eta_fact,eta_atom,eta_asn,eta_state,List.mem_cons,List.mem_nil_iff,or_false,false_or,or_true,true_or,Option.map_some,Option.map_none,Option.bind_some,Option.getD_some,Option.getD_none,Nat.reduceEqDiff,Nat.reduceAdd,Nat.reduceMul,Nat.reduceLeDiff,↓reduceIte,reduceCtorEq,true_and,and_true,and_self,forall_const,implies_true,true_implies,List.getElem?_toArray,List.getElem?_cons_succ,List.getElem?_cons_zero,List.append_nil,List.nil_append,List.cons_append,List.length_cons,List.length_nil,List.take_succ_cons,List.take_zero,List.drop_succ_cons,List.drop_zero,List.set_cons_zero,List.set_cons_succ,List.map_cons,List.map_nil,Nat.add_zero,Nat.zero_add,forall_eq,Prod.forall,Bool.not_true,Bool.not_false,Nat.lt_irrefl,Nat.zero_lt_succ,List.singleton_append,Prod.mk.injEq,Nat.zero_mul,Nat.one_mul,Nat.reducePow,Option.some.injEq,not_false_eq_true,Int.toNat_natCast,Nat.sub_zero,Nat.le_refl,Bool.or_false,Bool.false_or,Bool.or_true,Bool.true_or,Bool.and_true,Bool.true_and,Bool.and_false,Bool.false_and,Bool.or_self,Bool.and_self,List.append_eq,and_false,false_and]
 all_goals (try simp only [vcIf_iff,decide_eq_true_eq,decide_eq_false_iff_not])
 all_goals (repeat' (first | apply And.intro | intro _))
 all_goals (first | omega | (simp_all;done) | grind)
theorem open_l18Open:OpenOk Try.prog 51 :=
 open_ok tabOk mix (perm:=fun _=>[]) Try.func51 (by kernel_rfl) (by kernel_rfl) (by decide) (by kernel_rfl) vc_l18Open
theorem fn_l18Open : ∃ fn c, Try.prog.funcs[51]? = some fn /\ (fn.name == "runtime.NumGoroutine") = false /\ fn.body = some c := ⟨_, _, Try.func51, by kernel_rfl, rfl⟩
abbrev c_pick:Con:=⟨[.rdr,.int],[.int],fun _=>True,.inr fun (_,n,_) (r,_)=>pickP n r,fun _=>1⟩
theorem vc_pick (code:List UInt8) (v:Value) (p n:Int) (k:Nat) (h1:code.length<=2000) (h2:0<=p) (h3:p<=k) (h4:k+1<=rdLimit):vc tab (lookF []) (fun _=>none) (fun _=>[]) (bodyOf Try.f53) (pickSt code v p n) (pickQ code v p n):=by
 have h5:p<=1099511627776:=by have:k+1<=1099511627776:=h4;omega
 dsimp only [bodyOf,Try.f53,rdOf]
 simp only [pickSt,pickQ,pickK,pickM,pickR,pickP,true_and,and_true,SE.lookF,tab2,tab3,tab4,tab5,tab7,tab9,tab12,tab13,tab21,tab22,tab23,tab24,tab25,tab26,tab31,tab32,tab33,tab41,tab42,tab43,tab44,tab55,tab56,tab60,tab61,tab81,tab82,tab86,tab87,tab94,tab99,tab101,tab130,tab131,tab144,tab146,tab148,tab149,tab150,tab178,tab190,SE.entry,SE.envOf,SE.rdOf,Option.get_some,SE.vc,SE.vcReg,SE.vcLoop,SE.condK,SE.seqK,SE.blockK,SE.vcOps,SE.vcStep,SE.vcOp,SE.vcTr,SE.vcDet_some,SE.vcDet_none,SE.vcIf_true,SE.vcIf_false,SE.vcEach,SE.pickOps,SE.gslot,SE.trOp,SE.moveId,SE.trMove,SE.trPick,SE.trAlloc,SE.trBox,SE.trBuild,SE.trBuildSlice,SE.trLoad,SE.trStore,SE.trNilCheck,SE.trBin,SE.trUn,SE.trConvert,SE.trFieldAddr,SE.trField,SE.trIndexAddr,SE.trIndex,SE.trSlice,SE.trMakeSlice,SE.trExtract,SE.trLen,SE.trAppend,SE.trCopy,SE.trFn,SE.trCall,SE.argsS,SE.ev,SE.constS,SE.junk,SE.sv,SE.upd_app,SE.adds,SE.sets,SE.nid,SE.St.app,SE.St.put,SE.free,SE.freeL,SE.allFree,SE.rids,SE.AK.rids,SE.castL,SE.rdl,SE.AK.dec,SE.decs,SE.AK.enc,SE.encs,SE.AK.res,SE.ress,SE.pack1,SE.zcells,SE.zeroOf,SE.partCells,SE.putc,SE.fills,SE.datas,SE.elemOf,SE.elemsOf,SE.notSpent,SE.cellsAt,SE.weak,SE.dcellsAt,SE.slAt,SE.rdPlus,SE.intAt,SE.updElem,SE.kill,SE.noJunk,SE.inK,SE.binI,SE.shf,SE.isShift,SE.eqCells,SE.aggS,SE.intOp,SE.nested,SE.hasRdr,SE.refsC,SE.refsCs,SE.ownsC,SE.refsAr,SE.rdFits,SE.costIf,SE.Con.post,SE.Con.det,SE.Ty.cells,SE.Ty.sz,SE.Ty.zero,SE.Ty.flat,SE.Ty.dec,SE.retOk,SE.loadsS,SE.loadS,SE.decRs,SE.decR,SE.outC,SE.rdC,SE.allDiff,SE.notIn,SE.notFrozen,SE.apartL,SE.rdEnd,SE.firstReg,SE.headC,SE.fitsC,SE.idsC,SE.keepE,SE.keepM,SE.keepB,SE.inL,SE.puts,SE.ownRes,SE.ownEnv,SE.renL,SE.srcId,SE.lookR,SE.envSame,SE.envSets,SE.memSame,SE.memBlks,SE.memOwns,SE.famsOf,SE.allIn,SE.closedE,SE.closedV,SE.closedM,SE.closedR,SE.rdLe,SE.S.refs,SE.S0.refs,SE.CV.refs,SE.refsL,SE.refsT,SE.S.ren,SE.S0.ren,SE.CV.ren,SE.Res.refs,SE.Res.ren,min_i64,max_i64,min_u16,max_u16,min_u8,max_u8,min_u64,max_u64,S.s.injEq,S0.c.injEq,CV.d.injEq,DC.val.injEq,Value.int.injEq,Value.bool.injEq,Value.string.injEq,eta_fact,eta_atom,eta_asn,eta_state,List.mem_cons,List.mem_nil_iff,or_false,false_or,or_true,true_or,Option.map_some,Option.map_none,Option.bind_some,Option.getD_some,Option.getD_none,Nat.reduceEqDiff,Nat.reduceAdd,Nat.reduceMul,Nat.reduceLeDiff,↓reduceIte,reduceCtorEq,true_and,and_true,and_self,forall_const,implies_true,true_implies,List.getElem?_toArray,List.getElem?_cons_succ,List.getElem?_cons_zero,List.append_nil,List.nil_append,List.cons_append,List.length_cons,List.length_nil,List.take_succ_cons,List.take_zero,List.drop_succ_cons,List.drop_zero,List.set_cons_zero,List.set_cons_succ,List.map_cons,List.map_nil,Nat.add_zero,Nat.zero_add,forall_eq,Prod.forall,Bool.not_true,Bool.not_false,Nat.lt_irrefl,Nat.zero_lt_succ,List.singleton_append,Prod.mk.injEq,Nat.zero_mul,Nat.one_mul,Nat.reducePow,Option.some.injEq,not_false_eq_true,Int.toNat_natCast,Nat.sub_zero,Nat.le_refl,Bool.or_false,Bool.false_or,Bool.or_true,Bool.true_or,Bool.and_true,Bool.true_and,Bool.and_false,Bool.false_and,Bool.or_self,Bool.and_self,List.append_eq,and_false,false_and]
 all_goals (try simp only [vcIf_iff,decide_eq_true_eq,decide_eq_false_iff_not,bne_iff_ne,ne_eq,beq_iff_eq,beq_eq_false_iff_ne])
 have hq:p+1 - 1=p:=by omega
 simp only [hq]
 have hA:=byte_bd code
 generalize hL:(code.length:Int)=L at *
 have hL0:0<=L:=by omega
 have hm:∀ x:Int,0<=x->¬ L=0->0<=x.tmod L/\x.tmod L < L:=fun x h0 h1=>tmod_bd h0 (by omega)
 refine ⟨by omega,fun _ _=>by omega,fun hn=>⟨fun _ _=>by omega,fun hl=>⟨by omega,fun hpl=>?_,fun hpl=>?_⟩⟩⟩
 ·have a1:=hA p.toNat
  have m1:=tmod_bd (n:=n) a1.1 (by omega)
  generalize ((code.getD p.toNat 0).toNat:Int)=A at *
  exact ⟨by omega,by omega,by omega,fun _=>m1,fun h=>by omega⟩
 ·have m1:=hm p h2 hl
  have m2:=hm (p * 7+3) (by omega) hl
  have a1:=hA (p.tmod L).toNat
  have a2:=hA ((p * 7+3).tmod L).toNat
  have d1:=tdiv_bd (x:=p) (n:=L) h2 (by omega)
  generalize ((code.getD (p.tmod L).toNat 0).toNat:Int)=A at *
  generalize ((code.getD ((p * 7+3).tmod L).toNat 0).toNat:Int)=B at *
  generalize p.tdiv L=D at *
  have d2:=tdiv_bd (x:=A * 131+B * 1117+p * 29+D * 53) (n:=64) (by omega) (by omega)
  have x1:=xor_i64_pos (a:=A * 131+B * 1117+p * 29+D * 53) (b:=(A * 131+B * 1117+p * 29+D * 53).tdiv 64) (by omega) (by omega) d2.1 (by omega)
  have m3:=tmod_bd (n:=n) x1 (by omega)
  repeat' (first | apply And.intro | intro _)
  all_goals (first | assumption | omega | exact m3.1 | exact m3.2)
theorem ok_pick:FnOk Try.prog E 53 c_pick :=
 pick_ok tabOk mix (perm:=fun _=>[]) Try.func53 (by kernel_rfl) (by decide) (by kernel_rfl) (by decide) (by kernel_rfl) (fun code v p n k h1 h2 h3 h4=>vc_pick code v p n k h1 h2 h3 h4)
abbrev c_num:Con:=⟨[.rdr,.sl .int],[.int],fun (rr,l,_)=>0 < l.length/\l.length<=1000,.inr fun (rr,l,_) r=>r.1 ∈ l,fun (rr,l,_)=>1⟩
abbrev L_num:List (FuncId × Con):=[(53,c_pick)]
abbrev P_num:List (FuncId × PT):=[]
def VC_num (rr:Unit) (l:List Int) (k:Nat):Prop:=True/\True/\True/\True/\True/\(True/\(k+1<=1099511627776)/\True)/\(∀ r1:Int × Unit,(pickP ((l.length:Nat):Int) r1.1)->(0<=r1.1/\r1.1 < ((l.length:Nat):Int))/\True/\True/\((l.getD r1.1.toNat (0:Int)) ∈ l)/\True/\True/\True/\True/\(k+1<=k+1))
theorem vcn_num (rr:Unit) (l:List Int) (k:Nat) (hp:0 < l.length/\l.length<=1000) (hk:k+(1)<=1099511627776):VC_num rr l k:=by
 unfold VC_num
 simp only [cln,Nat.reduceEqDiff,Nat.reduceLeDiff,Nat.reduceAdd]
 all_goals (try simp only [opn])
 all_goals (repeat' (first | apply And.intro | intro _))
 all_goals (first | omega | (simp_all;done) | grind [getD_mem,pickP])
theorem ok_num:FnOk Try.prog E 84 c_num :=
 fn_okQ (l:=L_num) (lp:=P_num) (hp:=fun _=>false) (gcs:=fun _=>none) (perm:=fun _=>[]) tabOk mix ⟨ok_pick,trivial⟩ trivial Try.func84 rfl (by kernel_rfl) (by decide) (by kernel_rfl) (anns:=fun x _=>fun _ _=>none) (fun ⟨rr,l,_⟩ k hp hk=>Eq.mp (by kernel_rfl) (vcn_num rr l k hp (hk rfl))) (fun ⟨_,l,_⟩ hp=>⟨(l.getD 0 0,()),getD_mem hp.1⟩)
abbrev c_l3Point:Con:=⟨[.rdr],[.atom],fun _=>True,.inr fun (rr,_) r=>atV r.1=true,fun (rr,_)=>3⟩
abbrev L_l3Point:List (FuncId × Con):=[(53,c_pick),(84,c_num)]
abbrev P_l3Point:List (FuncId × PT):=[]
def VC_l3Point (rr:Unit) (k:Nat):Prop:=(TN/\True)/\True/\(TN/\True)/\((0 < ([(1:Int),(2:Int),(3:Int),(5:Int),(4:Int),(6:Int)]:List Int).length/\([(1:Int),(2:Int),(3:Int),(5:Int),(4:Int),(6:Int)]:List Int).length<=1000)/\(k+1<=1099511627776)/\True)/\(∀ r1:Int × Unit,(r1.1 ∈ ([(1:Int),(2:Int),(3:Int),(5:Int),(4:Int),(6:Int)]:List Int))->True/\(TN/\True)/\((0 < ([(2:Int),(0:Int),(3:Int),(1:Int),(5:Int),(0:Int),(6:Int)]:List Int).length/\([(2:Int),(0:Int),(3:Int),(1:Int),(5:Int),(0:Int),(6:Int)]:List Int).length<=1000)/\(k+1+1<=1099511627776)/\True)/\(∀ r2:Int × Unit,(r2.1 ∈ ([(2:Int),(0:Int),(3:Int),(1:Int),(5:Int),(0:Int),(6:Int)]:List Int))->True/\(TN/\True)/\(TF/\TF)/\True/\(True/\(k+1+1+1<=1099511627776)/\True)/\(∀ r3:Int × Unit,(pickP (2:Int) r3.1)->True/\(vcIf (r3.1 == (0:Int)) (True/\(TF/\TF)/\True/\(TF/\TF)/\(atV (⟨(2:Int),r1.1,r2.1⟩:GAtom)=true)/\True/\True/\True/\True/\(k+1+1+1<=k+3)) (True/\(TF/\TF)/\(atV (⟨(1:Int),r1.1,r2.1⟩:GAtom)=true)/\True/\True/\True/\True/\(k+1+1+1<=k+3))))))
theorem vcn_l3Point (rr:Unit) (k:Nat) (hk:k+(3)<=1099511627776):VC_l3Point rr k:=by
 unfold VC_l3Point
 simp only [cln,Nat.reduceEqDiff,Nat.reduceLeDiff,Nat.reduceAdd]
 all_goals (try simp only [opn])
 all_goals (repeat' (first | apply And.intro | intro _))
 all_goals (first | omega | grind (splits:=40) [atV,isT])
theorem ok_l3Point:FnOk Try.prog E 108 c_l3Point :=
 fn_okQ (l:=L_l3Point) (lp:=P_l3Point) (hp:=fun _=>false) (gcs:=fun _=>none) (perm:=fun _=>[]) tabOk mix ⟨ok_pick,ok_num,trivial⟩ trivial Try.func108 rfl (by kernel_rfl) (by decide) (by kernel_rfl) (anns:=fun x _=>fun _ _=>none) (fun ⟨rr,_⟩ k _ hk=>Eq.mp (by kernel_rfl) (vcn_l3Point rr k (hk rfl))) (fun _ _=>⟨((⟨1,0,0⟩:GAtom),()),rfl⟩)
abbrev c_l3Draw:Con:=⟨[.rdr],[.asn],fun _=>True,.inr fun (rr,_) r=>asV r.1=true,fun (rr,_)=>20⟩
abbrev L_l3Draw:List (FuncId × Con):=[(53,c_pick),(84,c_num),(108,c_l3Point)]
def an_l3Draw (rr:Unit):Nat->Option Ann
 | 3=>some { α:=Int × List GFact,ok:=fun a=>0<=a.1/\a.1+a.2.length<=2/\a.2.all fV=true,mu:=fun a=>a.1.toNat,i0:=fun st=>(intAt st 4,[]),nx:=fun a st=>(a.1 - 1,slAt .fact st (.cell 63 0)),live:=[0,2,3],sets:=fun a=>[(4,sv (.int .i64 a.1))],mids:=[47,32,33],blks:=fun a=>[(63,.blk [.own 7,.own 8])],owns:=fun a=>[⟨7,.cell 63 0,.fact,a.2⟩,⟨8,.cell 63 1,.atom,[]⟩],rd:=fun r a=>rdPlus r (3 * (2 - a.1.toNat)),base:=100000 }
 | 7=>some { α:=Int × List GFact × List GAtom,ok:=fun a=>0<=a.1/\a.1+a.2.2.length<=4/\a.2.1.length<=2/\a.2.1.all fV=true/\a.2.2.all atV=true,mu:=fun a=>a.1.toNat,i0:=fun st=>(intAt st 5,slAt .fact st (.cell 63 0),[]),nx:=fun a st=>(a.1 - 1,a.2.1,slAt .atom st (.cell 63 1)),live:=[0,2,3],sets:=fun a=>[(5,sv (.int .i64 a.1))],mids:=[47,32,33],blks:=fun a=>[(63,.blk [.own 7,.own 8])],owns:=fun a=>[⟨7,.cell 63 0,.fact,a.2.1⟩,⟨8,.cell 63 1,.atom,a.2.2⟩],rd:=fun r a=>rdPlus r (3 * (4 - a.1.toNat)),base:=200000 }
 | _=>none
theorem vc_l3Draw (rr:Unit) (k:Nat) (hk:k+(20)<=1099511627776):vc tab (lookF L_l3Draw) (an_l3Draw rr) (fun _=>[]) (bodyOf Try.f52) (entry (encs c_l3Draw.aks (rr,())) (rdOf true k)) (retOk tab c_l3Draw Try.f52.results.toList (rr,()) k):=by
 dsimp only [bodyOf,Try.f52,rdOf]
 simp (maxSteps:=10000000) only [c_l3Draw,L_l3Draw,an_l3Draw,SE.lookF,c_pick,c_num,c_l3Point,tab2,tab3,tab4,tab5,tab7,tab9,tab12,tab13,tab21,tab22,tab23,tab24,tab25,tab26,tab31,tab32,tab33,tab41,tab42,tab43,tab44,tab55,tab56,tab60,tab61,tab81,tab82,tab86,tab87,tab94,tab99,tab101,tab130,tab131,tab144,tab146,tab148,tab149,tab150,tab178,tab190,SE.entry,SE.envOf,SE.rdOf,Option.get_some,SE.vc,SE.vcReg,SE.vcLoop,SE.condK,SE.seqK,SE.blockK,SE.vcOps,SE.vcStep,SE.vcOp,SE.vcTr,SE.vcDet_some,SE.vcDet_none,SE.vcIf_true,SE.vcIf_false,SE.vcEach,SE.pickOps,SE.gslot,SE.trOp,SE.moveId,SE.trMove,SE.trPick,SE.trAlloc,SE.trBox,SE.trBuild,SE.trBuildSlice,SE.trLoad,SE.trStore,SE.trNilCheck,SE.trBin,SE.trUn,SE.trConvert,SE.trFieldAddr,SE.trField,SE.trIndexAddr,SE.trIndex,SE.trSlice,SE.trMakeSlice,SE.trExtract,SE.trLen,SE.trAppend,SE.trCopy,SE.trFn,SE.trCall,SE.argsS,SE.ev,SE.constS,SE.junk,SE.sv,SE.upd_app,SE.adds,SE.sets,SE.nid,SE.St.app,SE.St.put,SE.free,SE.freeL,SE.allFree,SE.rids,SE.AK.rids,SE.castL,SE.rdl,SE.AK.dec,SE.decs,SE.AK.enc,SE.encs,SE.AK.res,SE.ress,SE.pack1,SE.zcells,SE.zeroOf,SE.partCells,SE.putc,SE.fills,SE.datas,SE.elemOf,SE.elemsOf,SE.notSpent,SE.cellsAt,SE.weak,SE.dcellsAt,SE.slAt,SE.rdPlus,SE.intAt,SE.updElem,SE.kill,SE.noJunk,SE.inK,SE.binI,SE.shf,SE.isShift,SE.eqCells,SE.aggS,SE.intOp,SE.nested,SE.hasRdr,SE.refsC,SE.refsCs,SE.ownsC,SE.refsAr,SE.rdFits,SE.costIf,SE.Con.post,SE.Con.det,SE.Ty.cells,SE.Ty.sz,SE.Ty.zero,SE.Ty.flat,SE.Ty.dec,SE.retOk,SE.loadsS,SE.loadS,SE.decRs,SE.decR,SE.outC,SE.rdC,SE.allDiff,SE.notIn,SE.notFrozen,SE.apartL,SE.rdEnd,SE.firstReg,SE.headC,SE.fitsC,SE.idsC,SE.keepE,SE.keepM,SE.keepB,SE.inL,SE.puts,SE.ownRes,SE.ownEnv,SE.renL,SE.srcId,SE.lookR,SE.envSame,SE.envSets,SE.memSame,SE.memBlks,SE.memOwns,SE.famsOf,SE.allIn,SE.closedE,SE.closedV,SE.closedM,SE.closedR,SE.rdLe,SE.S.refs,SE.S0.refs,SE.CV.refs,SE.refsL,SE.refsT,SE.S.ren,SE.S0.ren,SE.CV.ren,SE.Res.refs,SE.Res.ren,min_i64,max_i64,min_u16,max_u16,min_u8,max_u8,min_u64,max_u64,S.s.injEq,S0.c.injEq,CV.d.injEq,DC.val.injEq,Value.int.injEq,Value.bool.injEq,Value.string.injEq,eta_fact,eta_atom,eta_asn,eta_state,List.mem_cons,List.mem_nil_iff,or_false,false_or,or_true,true_or,Option.map_some,Option.map_none,Option.bind_some,Option.getD_some,Option.getD_none,Nat.reduceEqDiff,Nat.reduceAdd,Nat.reduceMul,Nat.reduceLeDiff,↓reduceIte,reduceCtorEq,true_and,and_true,and_self,forall_const,implies_true,true_implies,List.getElem?_toArray,List.getElem?_cons_succ,List.getElem?_cons_zero,List.append_nil,List.nil_append,List.cons_append,List.length_cons,List.length_nil,List.take_succ_cons,List.take_zero,List.drop_succ_cons,List.drop_zero,List.set_cons_zero,List.set_cons_succ,List.map_cons,List.map_nil,Nat.add_zero,Nat.zero_add,forall_eq,Prod.forall,Bool.not_true,Bool.not_false,Nat.lt_irrefl,Nat.zero_lt_succ,List.singleton_append,Prod.mk.injEq,Nat.zero_mul,Nat.one_mul,Nat.reducePow,Option.some.injEq,not_false_eq_true,Int.toNat_natCast,Nat.sub_zero,Nat.le_refl,Bool.or_false,Bool.false_or,Bool.or_true,Bool.true_or,Bool.and_true,Bool.true_and,Bool.and_false,Bool.false_and,Bool.or_self,Bool.and_self,List.append_eq,and_false,false_and]
 all_goals (try simp only [vcIf_iff,decide_eq_true_eq,decide_eq_false_iff_not,bne_iff_ne,ne_eq,beq_iff_eq,beq_eq_false_iff_ne,bne_eq_false_iff_eq,Bool.not_eq_true',Bool.not_eq_false',Int.ofNat_lt,Int.natCast_inj])
 all_goals (repeat' (first | apply And.intro | intro _))
 all_goals (first | omega | (simp_all;done) | grind [pickP,asV,fsV,fV,isT])
theorem ok_l3Draw:FnOk Try.prog E 52 c_l3Draw :=
 fn_ok (l:=L_l3Draw) (perm:=fun _=>[]) tabOk mix ⟨ok_pick,ok_num,ok_l3Point,trivial⟩ Try.func52 rfl (by kernel_rfl) (by decide) (by kernel_rfl) (anns:=fun x _=>an_l3Draw x.1) (fun ⟨rr,_⟩ k _ hk=>vc_l3Draw rr k (hk rfl)) (fun _ _=>⟨((⟨[],[]⟩:GAsn),()),rfl⟩)
abbrev c_l3Star:Con:=⟨[.asn,.asn],[.asn],fun (a,b,_)=>a.facts.length<=1048576/\a.atoms.length<=1048576/\b.facts.length<=1048576/\b.atoms.length<=1048576,.inl fun (a,b,_)=>(⟨a.facts ++ b.facts,a.atoms ++ b.atoms⟩,()),fun _=>0⟩
abbrev L_l3Star:List (FuncId × Con):=[]
abbrev P_l3Star:List (FuncId × PT):=[]
def VC_l3Star (a:GAsn) (b:GAsn) (k:Nat):Prop:=TN/\TN/\(TN/\TN/\TN/\True)/\(TN/\True)/\True/\True/\(TN/\TF/\TF/\(([]:List GFact).length+a.facts.length<=4294967296))/\True/\True/\(TN/\TF/\TF/\((([]:List GFact) ++ a.facts).length+b.facts.length<=4294967296))/\(TN/\True)/\True/\True/\(TN/\TF/\TF/\(([]:List GAtom).length+a.atoms.length<=4294967296))/\True/\True/\(TN/\TF/\TF/\((([]:List GAtom) ++ a.atoms).length+b.atoms.length<=4294967296))/\(TN/\TN/\True)/\(TF/\TF)/\((((⟨(([]:List GFact) ++ a.facts) ++ b.facts,(([]:List GAtom) ++ a.atoms) ++ b.atoms⟩:GAsn),()):GAsn × Unit)=(⟨a.facts ++ b.facts,a.atoms ++ b.atoms⟩,()))/\((((176:Nat) ≠ 288)/\True)/\True/\True)/\((TF/\TF)/\(TF/\TF)/\True)/\True/\(True/\True/\True)/\TF
theorem vcn_l3Star (a:GAsn) (b:GAsn) (k:Nat) (hp:a.facts.length<=1048576/\a.atoms.length<=1048576/\b.facts.length<=1048576/\b.atoms.length<=1048576):VC_l3Star a b k:=by
 unfold VC_l3Star
 simp only [cln,Nat.reduceEqDiff,Nat.reduceLeDiff,Nat.reduceAdd]
 all_goals (try simp only [opn])
 all_goals (repeat' (first | apply And.intro | intro _))
 all_goals (first | omega | (simp_all;done) | grind [])
theorem ok_l3Star:FnOk Try.prog E 144 c_l3Star :=
 fn_okQ (l:=L_l3Star) (lp:=P_l3Star) (hp:=fun _=>false) (gcs:=fun _=>none) (perm:=fun _=>[]) tabOk mix trivial trivial Try.func144 rfl (by kernel_rfl) (by decide) (by kernel_rfl) (anns:=fun x _=>fun _ _=>none) (fun ⟨a,b,_⟩ k hp _=>Eq.mp (by kernel_rfl) (vcn_l3Star a b k hp)) tot_fn
abbrev c_l3Copy:Con:=⟨[.asn],[.asn],fun (a,_)=>a.facts.length<=1048576/\a.atoms.length<=1048576,.inl fun (a,_)=>(a,()),fun _=>0⟩
abbrev L_l3Copy:List (FuncId × Con):=[(144,c_l3Star)]
abbrev P_l3Copy:List (FuncId × PT):=[]
def VC_l3Copy (a:GAsn) (k:Nat):Prop:=TN/\(TN/\TN/\TN/\True)/\True/\(TN/\TN/\True)/\((a.facts.length<=1048576/\a.atoms.length<=1048576/\(⟨([]:List GFact),([]:List GAtom)⟩:GAsn).facts.length<=1048576/\(⟨([]:List GFact),([]:List GAtom)⟩:GAsn).atoms.length<=1048576)/\True/\TN/\TN/\True)/\(TF/\TF)/\((((⟨(a.facts ++ (⟨([]:List GFact),([]:List GAtom)⟩:GAsn).facts),(a.atoms ++ (⟨([]:List GFact),([]:List GAtom)⟩:GAsn).atoms)⟩:GAsn),()):GAsn × Unit)=(a,()))/\((((80:Nat) ≠ 81)/\True)/\True/\True)/\((TF/\TF)/\(TF/\TF)/\True)/\True/\(True/\True/\True)/\TF
theorem vcn_l3Copy (a:GAsn) (k:Nat) (hp:a.facts.length<=1048576/\a.atoms.length<=1048576):VC_l3Copy a k:=by
 unfold VC_l3Copy
 simp only [cln,Nat.reduceEqDiff,Nat.reduceLeDiff,Nat.reduceAdd]
 all_goals (try simp only [opn])
 all_goals (repeat' (first | apply And.intro | intro _))
 all_goals (first | omega | (simp_all;done) | grind [])
theorem ok_l3Copy:FnOk Try.prog E 109 c_l3Copy :=
 fn_okQ (l:=L_l3Copy) (lp:=P_l3Copy) (hp:=fun _=>false) (gcs:=fun _=>none) (perm:=fun _=>[]) tabOk mix ⟨ok_l3Star,trivial⟩ trivial Try.func109 rfl (by kernel_rfl) (by decide) (by kernel_rfl) (anns:=fun x _=>fun _ _=>none) (fun ⟨a,_⟩ k hp _=>Eq.mp (by kernel_rfl) (vcn_l3Copy a k hp)) tot_fn
abbrev c_l1Mutate:Con:=⟨[.rdr,.sl .fact],[.sl .fact],fun (rr,l,_)=>l.length<=1048576,.inr fun (rr,l,_) r=>r.1.length<=l.length+13,fun (rr,l,_)=>2⟩
abbrev L_l1Mutate:List (FuncId × Con):=[(53,c_pick),(84,c_num)]
def an_l1Mutate (rr:Unit) (l:List GFact):Nat->Option Ann
 | 6=>some { α:=Nat,ok:=fun i=>i=0 ∨ l.length+i<=13,mu:=fun i=>20 - i,i0:=fun _=>0,nx:=fun a _=>(fun i=>i+1) a,live:=[],sets:=fun i=>[],mids:=[],blks:=fun i=>[],owns:=fun i=>[⟨7,.slot 5,.fact,l ++ List.replicate i ⟨true,1,2⟩⟩],rd:=fun r _=>r,base:=100000 }
 | _=>none
theorem vc_l1Mutate (rr:Unit) (l:List GFact) (k:Nat) (hp:l.length<=1048576) (hk:k+(2)<=1099511627776):vc tab (lookF L_l1Mutate) (an_l1Mutate rr l) (fun _=>[]) (bodyOf Try.f110) (entry (encs c_l1Mutate.aks (rr,l,())) (rdOf true k)) (retOk tab c_l1Mutate Try.f110.results.toList (rr,l,()) k):=by
 dsimp only [bodyOf,Try.f110,rdOf]
 simp (maxSteps:=10000000) only [c_l1Mutate,L_l1Mutate,an_l1Mutate,SE.lookF,c_pick,c_num,tab2,tab3,tab4,tab5,tab7,tab9,tab12,tab13,tab21,tab22,tab23,tab24,tab25,tab26,tab31,tab32,tab33,tab41,tab42,tab43,tab44,tab55,tab56,tab60,tab61,tab81,tab82,tab86,tab87,tab94,tab99,tab101,tab130,tab131,tab144,tab146,tab148,tab149,tab150,tab178,tab190,SE.entry,SE.envOf,SE.rdOf,Option.get_some,SE.vc,SE.vcReg,SE.vcLoop,SE.condK,SE.seqK,SE.blockK,SE.vcOps,SE.vcStep,SE.vcOp,SE.vcTr,SE.vcDet_some,SE.vcDet_none,SE.vcIf_true,SE.vcIf_false,SE.vcEach,SE.pickOps,SE.gslot,SE.trOp,SE.moveId,SE.trMove,SE.trPick,SE.trAlloc,SE.trBox,SE.trBuild,SE.trBuildSlice,SE.trLoad,SE.trStore,SE.trNilCheck,SE.trBin,SE.trUn,SE.trConvert,SE.trFieldAddr,SE.trField,SE.trIndexAddr,SE.trIndex,SE.trSlice,SE.trMakeSlice,SE.trExtract,SE.trLen,SE.trAppend,SE.trCopy,SE.trFn,SE.trCall,SE.argsS,SE.ev,SE.constS,SE.junk,SE.sv,SE.upd_app,SE.adds,SE.sets,SE.nid,SE.St.app,SE.St.put,SE.free,SE.freeL,SE.allFree,SE.rids,SE.AK.rids,SE.castL,SE.rdl,SE.AK.dec,SE.decs,SE.AK.enc,SE.encs,SE.AK.res,SE.ress,SE.pack1,SE.zcells,SE.zeroOf,SE.partCells,SE.putc,SE.fills,SE.datas,SE.elemOf,SE.elemsOf,SE.notSpent,SE.cellsAt,SE.weak,SE.dcellsAt,SE.slAt,SE.rdPlus,SE.intAt,SE.updElem,SE.kill,SE.noJunk,SE.inK,SE.binI,SE.shf,SE.isShift,SE.eqCells,SE.aggS,SE.intOp,SE.nested,SE.hasRdr,SE.refsC,SE.refsCs,SE.ownsC,SE.refsAr,SE.rdFits,SE.costIf,SE.Con.post,SE.Con.det,SE.Ty.cells,SE.Ty.sz,SE.Ty.zero,SE.Ty.flat,SE.Ty.dec,SE.retOk,SE.loadsS,SE.loadS,SE.decRs,SE.decR,SE.outC,SE.rdC,SE.allDiff,SE.notIn,SE.notFrozen,SE.apartL,SE.rdEnd,SE.firstReg,SE.headC,SE.fitsC,SE.idsC,SE.keepE,SE.keepM,SE.keepB,SE.inL,SE.puts,SE.ownRes,SE.ownEnv,SE.renL,SE.srcId,SE.lookR,SE.envSame,SE.envSets,SE.memSame,SE.memBlks,SE.memOwns,SE.famsOf,SE.allIn,SE.closedE,SE.closedV,SE.closedM,SE.closedR,SE.rdLe,SE.S.refs,SE.S0.refs,SE.CV.refs,SE.refsL,SE.refsT,SE.S.ren,SE.S0.ren,SE.CV.ren,SE.Res.refs,SE.Res.ren,min_i64,max_i64,min_u16,max_u16,min_u8,max_u8,min_u64,max_u64,S.s.injEq,S0.c.injEq,CV.d.injEq,DC.val.injEq,Value.int.injEq,Value.bool.injEq,Value.string.injEq,eta_fact,eta_atom,eta_asn,eta_state,List.mem_cons,List.mem_nil_iff,or_false,false_or,or_true,true_or,Option.map_some,Option.map_none,Option.bind_some,Option.getD_some,Option.getD_none,Nat.reduceEqDiff,Nat.reduceAdd,Nat.reduceMul,Nat.reduceLeDiff,↓reduceIte,reduceCtorEq,true_and,and_true,and_self,forall_const,implies_true,true_implies,List.getElem?_toArray,List.getElem?_cons_succ,List.getElem?_cons_zero,List.append_nil,List.nil_append,List.cons_append,List.length_cons,List.length_nil,List.take_succ_cons,List.take_zero,List.drop_succ_cons,List.drop_zero,List.set_cons_zero,List.set_cons_succ,List.map_cons,List.map_nil,Nat.add_zero,Nat.zero_add,forall_eq,Prod.forall,Bool.not_true,Bool.not_false,Nat.lt_irrefl,Nat.zero_lt_succ,List.singleton_append,Prod.mk.injEq,Nat.zero_mul,Nat.one_mul,Nat.reducePow,Option.some.injEq,not_false_eq_true,Int.toNat_natCast,Nat.sub_zero,Nat.le_refl,Bool.or_false,Bool.false_or,Bool.or_true,Bool.true_or,Bool.and_true,Bool.true_and,Bool.and_false,Bool.false_and,Bool.or_self,Bool.and_self,List.append_eq,and_false,false_and]
 all_goals (try simp only [vcIf_iff,decide_eq_true_eq,decide_eq_false_iff_not,bne_iff_ne,ne_eq,beq_iff_eq,beq_eq_false_iff_ne,bne_eq_false_iff_eq,Bool.not_eq_true',Bool.not_eq_false',Int.ofNat_lt,Int.natCast_inj])
 all_goals (repeat' (first | apply And.intro | intro _))
 all_goals (first | omega | (simp_all;done) | grind [List.replicate_succ',List.append_assoc])
theorem ok_l1Mutate:FnOk Try.prog E 110 c_l1Mutate :=
 fn_ok (l:=L_l1Mutate) (perm:=fun _=>[]) tabOk mix ⟨ok_pick,ok_num,trivial⟩ Try.func110 rfl (by kernel_rfl) (by decide) (by kernel_rfl) (anns:=fun x _=>an_l1Mutate x.1 x.2.1) (fun ⟨rr,l,_⟩ k hp hk=>vc_l1Mutate rr l k hp (hk rfl)) (fun ⟨_,l,_⟩ _=>⟨(l,()),Nat.le_add_right _ _⟩)
abbrev c_l3Mutate:Con:=⟨[.rdr,.asn],[.asn],fun (rr,a,_)=>a.facts.length<=100000/\a.atoms.length<=100000,.inr fun (rr,a,_) r=>r.1.facts.length<=a.facts.length+14/\r.1.atoms.length<=a.atoms.length+7,fun (rr,a,_)=>4⟩
abbrev L_l3Mutate:List (FuncId × Con):=[(53,c_pick),(84,c_num),(109,c_l3Copy),(110,c_l1Mutate)]
def an_l3Mutate (rr:Unit) (a:GAsn):Nat->Option Ann
 | 8=>some { α:=Nat,ok:=fun i=>i=0 ∨ a.atoms.length+i<=7,mu:=fun i=>20 - i,i0:=fun _=>0,nx:=fun a _=>(fun i=>i+1) a,live:=[4,5],sets:=fun i=>[],mids:=[79,64,65],blks:=fun i=>[(95,.blk [.own 7,.own 8])],owns:=fun i=>[⟨7,.cell 95 0,.fact,a.facts⟩,⟨8,.cell 95 1,.atom,a.atoms ++ List.replicate i ⟨2,1,1⟩⟩],rd:=fun r _=>r,base:=100000 }
 | _=>none
theorem vc_l3Mutate (rr:Unit) (a:GAsn) (k:Nat) (hp:a.facts.length<=100000/\a.atoms.length<=100000) (hk:k+(4)<=1099511627776):vc tab (lookF L_l3Mutate) (an_l3Mutate rr a) (fun _=>[]) (bodyOf Try.f54) (entry (encs c_l3Mutate.aks (rr,a,())) (rdOf true k)) (retOk tab c_l3Mutate Try.f54.results.toList (rr,a,()) k):=by
 dsimp only [bodyOf,Try.f54,rdOf]
 simp (maxSteps:=10000000) only [c_l3Mutate,L_l3Mutate,an_l3Mutate,SE.lookF,c_pick,c_num,c_l3Copy,c_l1Mutate,tab2,tab3,tab4,tab5,tab7,tab9,tab12,tab13,tab21,tab22,tab23,tab24,tab25,tab26,tab31,tab32,tab33,tab41,tab42,tab43,tab44,tab55,tab56,tab60,tab61,tab81,tab82,tab86,tab87,tab94,tab99,tab101,tab130,tab131,tab144,tab146,tab148,tab149,tab150,tab178,tab190,SE.entry,SE.envOf,SE.rdOf,Option.get_some,SE.vc,SE.vcReg,SE.vcLoop,SE.condK,SE.seqK,SE.blockK,SE.vcOps,SE.vcStep,SE.vcOp,SE.vcTr,SE.vcDet_some,SE.vcDet_none,SE.vcIf_true,SE.vcIf_false,SE.vcEach,SE.pickOps,SE.gslot,SE.trOp,SE.moveId,SE.trMove,SE.trPick,SE.trAlloc,SE.trBox,SE.trBuild,SE.trBuildSlice,SE.trLoad,SE.trStore,SE.trNilCheck,SE.trBin,SE.trUn,SE.trConvert,SE.trFieldAddr,SE.trField,SE.trIndexAddr,SE.trIndex,SE.trSlice,SE.trMakeSlice,SE.trExtract,SE.trLen,SE.trAppend,SE.trCopy,SE.trFn,SE.trCall,SE.argsS,SE.ev,SE.constS,SE.junk,SE.sv,SE.upd_app,SE.adds,SE.sets,SE.nid,SE.St.app,SE.St.put,SE.free,SE.freeL,SE.allFree,SE.rids,SE.AK.rids,SE.castL,SE.rdl,SE.AK.dec,SE.decs,SE.AK.enc,SE.encs,SE.AK.res,SE.ress,SE.pack1,SE.zcells,SE.zeroOf,SE.partCells,SE.putc,SE.fills,SE.datas,SE.elemOf,SE.elemsOf,SE.notSpent,SE.cellsAt,SE.weak,SE.dcellsAt,SE.slAt,SE.rdPlus,SE.intAt,SE.updElem,SE.kill,SE.noJunk,SE.inK,SE.binI,SE.shf,SE.isShift,SE.eqCells,SE.aggS,SE.intOp,SE.nested,SE.hasRdr,SE.refsC,SE.refsCs,SE.ownsC,SE.refsAr,SE.rdFits,SE.costIf,SE.Con.post,SE.Con.det,SE.Ty.cells,SE.Ty.sz,SE.Ty.zero,SE.Ty.flat,SE.Ty.dec,SE.retOk,SE.loadsS,SE.loadS,SE.decRs,SE.decR,SE.outC,SE.rdC,SE.allDiff,SE.notIn,SE.notFrozen,SE.apartL,SE.rdEnd,SE.firstReg,SE.headC,SE.fitsC,SE.idsC,SE.keepE,SE.keepM,SE.keepB,SE.inL,SE.puts,SE.ownRes,SE.ownEnv,SE.renL,SE.srcId,SE.lookR,SE.envSame,SE.envSets,SE.memSame,SE.memBlks,SE.memOwns,SE.famsOf,SE.allIn,SE.closedE,SE.closedV,SE.closedM,SE.closedR,SE.rdLe,SE.S.refs,SE.S0.refs,SE.CV.refs,SE.refsL,SE.refsT,SE.S.ren,SE.S0.ren,SE.CV.ren,SE.Res.refs,SE.Res.ren,min_i64,max_i64,min_u16,max_u16,min_u8,max_u8,min_u64,max_u64,S.s.injEq,S0.c.injEq,CV.d.injEq,DC.val.injEq,Value.int.injEq,Value.bool.injEq,Value.string.injEq,eta_fact,eta_atom,eta_asn,eta_state,List.mem_cons,List.mem_nil_iff,or_false,false_or,or_true,true_or,Option.map_some,Option.map_none,Option.bind_some,Option.getD_some,Option.getD_none,Nat.reduceEqDiff,Nat.reduceAdd,Nat.reduceMul,Nat.reduceLeDiff,↓reduceIte,reduceCtorEq,true_and,and_true,and_self,forall_const,implies_true,true_implies,List.getElem?_toArray,List.getElem?_cons_succ,List.getElem?_cons_zero,List.append_nil,List.nil_append,List.cons_append,List.length_cons,List.length_nil,List.take_succ_cons,List.take_zero,List.drop_succ_cons,List.drop_zero,List.set_cons_zero,List.set_cons_succ,List.map_cons,List.map_nil,Nat.add_zero,Nat.zero_add,forall_eq,Prod.forall,Bool.not_true,Bool.not_false,Nat.lt_irrefl,Nat.zero_lt_succ,List.singleton_append,Prod.mk.injEq,Nat.zero_mul,Nat.one_mul,Nat.reducePow,Option.some.injEq,not_false_eq_true,Int.toNat_natCast,Nat.sub_zero,Nat.le_refl,Bool.or_false,Bool.false_or,Bool.or_true,Bool.true_or,Bool.and_true,Bool.true_and,Bool.and_false,Bool.false_and,Bool.or_self,Bool.and_self,List.append_eq,and_false,false_and]
 all_goals (try simp only [vcIf_iff,decide_eq_true_eq,decide_eq_false_iff_not,bne_iff_ne,ne_eq,beq_iff_eq,beq_eq_false_iff_ne,bne_eq_false_iff_eq,Bool.not_eq_true',Bool.not_eq_false',Int.ofNat_lt,Int.natCast_inj])
 all_goals (repeat' (first | apply And.intro | intro _))
 all_goals (first | omega | (simp_all;done) | grind [List.replicate_succ',List.append_assoc])
theorem ok_l3Mutate:FnOk Try.prog E 54 c_l3Mutate :=
 fn_ok (l:=L_l3Mutate) (perm:=fun _=>[]) tabOk mix ⟨ok_pick,ok_num,ok_l3Copy,ok_l1Mutate,trivial⟩ Try.func54 rfl (by kernel_rfl) (by decide) (by kernel_rfl) (anns:=fun x _=>an_l3Mutate x.1 x.2.1) (fun ⟨rr,a,_⟩ k hp hk=>vc_l3Mutate rr a k hp (hk rfl)) (fun ⟨_,a,_⟩ _=>⟨(a,()),⟨Nat.le_add_right _ _,Nat.le_add_right _ _⟩⟩)
abbrev c_l2Blank:Con:=⟨[],[.state],fun _=>True,.inl fun _=>(⟨List.replicate 8 0,List.replicate 8 (-1)⟩,()),fun _=>0⟩
abbrev L_l2Blank:List (FuncId × Con):=[]
def an_l2Blank :Nat->Option Ann
 | 3=>some { α:=Nat,ok:=fun i=>i<=8,mu:=fun i=>8 - i,i0:=fun _=>0,nx:=fun a _=>(fun i=>i+1) a,live:=[0,1],sets:=fun i=>[(2,sv (.int .i64 i))],mids:=[15,0,1],blks:=fun i=>[(31,.blk [.own 7,.own 8])],owns:=fun i=>[⟨7,.cell 31 0,.int,List.replicate i 0⟩,⟨8,.cell 31 1,.int,[]⟩],rd:=fun r _=>r,base:=100000 }
 | 7=>some { α:=Nat,ok:=fun i=>i<=8,mu:=fun i=>8 - i,i0:=fun _=>0,nx:=fun a _=>(fun i=>i+1) a,live:=[0,1],sets:=fun i=>[(3,sv (.int .i64 i))],mids:=[15,0,1],blks:=fun i=>[(31,.blk [.own 7,.own 8])],owns:=fun i=>[⟨7,.cell 31 0,.int,List.replicate 8 0⟩,⟨8,.cell 31 1,.int,List.replicate i (-1)⟩],rd:=fun r _=>r,base:=200000 }
 | _=>none
theorem vc_l2Blank  (k:Nat):vc tab (lookF L_l2Blank) (an_l2Blank ) (fun _=>[]) (bodyOf Try.f145) (entry (encs c_l2Blank.aks ()) (rdOf false k)) (retOk tab c_l2Blank Try.f145.results.toList () k):=by
 dsimp only [bodyOf,Try.f145,rdOf]
 simp (maxSteps:=10000000) only [c_l2Blank,L_l2Blank,an_l2Blank,SE.lookF,tab2,tab3,tab4,tab5,tab7,tab9,tab12,tab13,tab21,tab22,tab23,tab24,tab25,tab26,tab31,tab32,tab33,tab41,tab42,tab43,tab44,tab55,tab56,tab60,tab61,tab81,tab82,tab86,tab87,tab94,tab99,tab101,tab130,tab131,tab144,tab146,tab148,tab149,tab150,tab178,tab190,SE.entry,SE.envOf,SE.rdOf,Option.get_some,SE.vc,SE.vcReg,SE.vcLoop,SE.condK,SE.seqK,SE.blockK,SE.vcOps,SE.vcStep,SE.vcOp,SE.vcTr,SE.vcDet_some,SE.vcDet_none,SE.vcIf_true,SE.vcIf_false,SE.vcEach,SE.pickOps,SE.gslot,SE.trOp,SE.moveId,SE.trMove,SE.trPick,SE.trAlloc,SE.trBox,SE.trBuild,SE.trBuildSlice,SE.trLoad,SE.trStore,SE.trNilCheck,SE.trBin,SE.trUn,SE.trConvert,SE.trFieldAddr,SE.trField,SE.trIndexAddr,SE.trIndex,SE.trSlice,SE.trMakeSlice,SE.trExtract,SE.trLen,SE.trAppend,SE.trCopy,SE.trFn,SE.trCall,SE.argsS,SE.ev,SE.constS,SE.junk,SE.sv,SE.upd_app,SE.adds,SE.sets,SE.nid,SE.St.app,SE.St.put,SE.free,SE.freeL,SE.allFree,SE.rids,SE.AK.rids,SE.castL,SE.rdl,SE.AK.dec,SE.decs,SE.AK.enc,SE.encs,SE.AK.res,SE.ress,SE.pack1,SE.zcells,SE.zeroOf,SE.partCells,SE.putc,SE.fills,SE.datas,SE.elemOf,SE.elemsOf,SE.notSpent,SE.cellsAt,SE.weak,SE.dcellsAt,SE.slAt,SE.rdPlus,SE.intAt,SE.updElem,SE.kill,SE.noJunk,SE.inK,SE.binI,SE.shf,SE.isShift,SE.eqCells,SE.aggS,SE.intOp,SE.nested,SE.hasRdr,SE.refsC,SE.refsCs,SE.ownsC,SE.refsAr,SE.rdFits,SE.costIf,SE.Con.post,SE.Con.det,SE.Ty.cells,SE.Ty.sz,SE.Ty.zero,SE.Ty.flat,SE.Ty.dec,SE.retOk,SE.loadsS,SE.loadS,SE.decRs,SE.decR,SE.outC,SE.rdC,SE.allDiff,SE.notIn,SE.notFrozen,SE.apartL,SE.rdEnd,SE.firstReg,SE.headC,SE.fitsC,SE.idsC,SE.keepE,SE.keepM,SE.keepB,SE.inL,SE.puts,SE.ownRes,SE.ownEnv,SE.renL,SE.srcId,SE.lookR,SE.envSame,SE.envSets,SE.memSame,SE.memBlks,SE.memOwns,SE.famsOf,SE.allIn,SE.closedE,SE.closedV,SE.closedM,SE.closedR,SE.rdLe,SE.S.refs,SE.S0.refs,SE.CV.refs,SE.refsL,SE.refsT,SE.S.ren,SE.S0.ren,SE.CV.ren,SE.Res.refs,SE.Res.ren,min_i64,max_i64,min_u16,max_u16,min_u8,max_u8,min_u64,max_u64,S.s.injEq,S0.c.injEq,CV.d.injEq,DC.val.injEq,Value.int.injEq,Value.bool.injEq,Value.string.injEq,eta_fact,eta_atom,eta_asn,eta_state,List.mem_cons,List.mem_nil_iff,or_false,false_or,or_true,true_or,Option.map_some,Option.map_none,Option.bind_some,Option.getD_some,Option.getD_none,Nat.reduceEqDiff,Nat.reduceAdd,Nat.reduceMul,Nat.reduceLeDiff,↓reduceIte,reduceCtorEq,true_and,and_true,and_self,forall_const,implies_true,true_implies,List.getElem?_toArray,List.getElem?_cons_succ,List.getElem?_cons_zero,List.append_nil,List.nil_append,List.cons_append,List.length_cons,List.length_nil,List.take_succ_cons,List.take_zero,List.drop_succ_cons,List.drop_zero,List.set_cons_zero,List.set_cons_succ,List.map_cons,List.map_nil,Nat.add_zero,Nat.zero_add,forall_eq,Prod.forall,Bool.not_true,Bool.not_false,Nat.lt_irrefl,Nat.zero_lt_succ,List.singleton_append,Prod.mk.injEq,Nat.zero_mul,Nat.one_mul,Nat.reducePow,Option.some.injEq,not_false_eq_true,Int.toNat_natCast,Nat.sub_zero,Nat.le_refl,Bool.or_false,Bool.false_or,Bool.or_true,Bool.true_or,Bool.and_true,Bool.true_and,Bool.and_false,Bool.false_and,Bool.or_self,Bool.and_self,List.append_eq,and_false,false_and]
 all_goals (try simp only [vcIf_iff,decide_eq_true_eq,decide_eq_false_iff_not,bne_iff_ne,ne_eq,beq_iff_eq,beq_eq_false_iff_ne,bne_eq_false_iff_eq,Bool.not_eq_true',Bool.not_eq_false',Int.ofNat_lt,Int.natCast_inj])
 all_goals (repeat' (first | apply And.intro | intro _))
 all_goals (first | omega | (simp_all;done) | grind [List.replicate_succ'])
theorem ok_l2Blank:FnOk Try.prog E 145 c_l2Blank :=
 fn_ok (l:=L_l2Blank) (perm:=fun _=>[]) tabOk mix trivial Try.func145 rfl (by kernel_rfl) (by decide) (by kernel_rfl) (anns:=fun x _=>an_l2Blank ) (fun _ k _ _=>vc_l2Blank  k) tot_fn
abbrev L_l4Value:List (FuncId × Con):=[]
abbrev P_l4Value:List (FuncId × PT):=[]
abbrev pt_l4Value:PT:=inl tab (lookF L_l4Value) (lookP P_l4Value) (fun _=>false) (fun _ _=>none) (fun _ _ _ _=>none) (fun _=>[]) Try.f146.ntmps (bodyOf Try.f146) Try.f146.results.toList
theorem ptok_l4Value:PTOk Try.prog E 146 pt_l4Value :=
 pt_ok (l:=L_l4Value) (lp:=P_l4Value) tabOk mix trivial trivial Try.func146 rfl (by kernel_rfl) (by kernel_rfl)
abbrev c_l1Value:Con:=⟨[.sl .int,.int],[.int],fun (l,t,_)=>l.length=8/\isT t=true,.inl fun (l,t,_)=>(tv l t,()),fun _=>0⟩
abbrev L_l1Value:List (FuncId × Con):=[]
abbrev P_l1Value:List (FuncId × PT):=[]
def VC_l1Value (l:List Int) (t:Int) (k:Nat):Prop:=True/\True/\True/\(vcIf (t == (0:Int)) (True/\((((0:Int),()):Int × Unit)=(tv l t,()))/\True/\True/\True/\True/\TF) (True/\True/\(inK .i64 (t - (1:Int)))/\(0<=(t - (1:Int))/\(t - (1:Int)) < ((l.length:Nat):Int))/\True/\True/\((((l.getD (t - (1:Int)).toNat (0:Int)),()):Int × Unit)=(tv l t,()))/\True/\True/\True/\True/\TF))
theorem vcn_l1Value (l:List Int) (t:Int) (k:Nat) (hp:l.length=8/\isT t=true):VC_l1Value l t k:=by
 unfold VC_l1Value
 simp only [cln,Nat.reduceEqDiff,Nat.reduceLeDiff,Nat.reduceAdd]
 have h:=isT_iff.1 hp.2
 by_cases h0:t=0 <;> simp [vcIf,tv,h0,inK_i64] <;> omega
theorem ok_l1Value:FnOk Try.prog E 147 c_l1Value :=
 fn_okQ (l:=L_l1Value) (lp:=P_l1Value) (hp:=fun _=>false) (gcs:=fun _=>none) (perm:=fun _=>[]) tabOk mix trivial trivial Try.func147 rfl (by kernel_rfl) (by decide) (by kernel_rfl) (anns:=fun x _=>fun _ _=>none) (fun ⟨l,t,_⟩ k hp _=>Eq.mp (by kernel_rfl) (vcn_l1Value l t k hp)) tot_fn
abbrev c_l4Known:Con:=⟨[.state,.int],[.bool],fun (s,n,_)=>s.vals.length<=281474976710656/\s.heap.length<=281474976710656,.inl fun (s,n,_)=>(s.vals.contains n,()),fun _=>0⟩
abbrev L_l4Known:List (FuncId × Con):=[]
abbrev P_l4Known:List (FuncId × PT):=[]
def an_l4Known (s:GState) (n:Int):Nat->St->Option Ann
 | 2,se=>some { α:=Nat,ok:=fun i=>i<=s.vals.length/\(s.vals.take i).contains n=false,mu:=fun i=>s.vals.length - i,i0:=fun _=>0,nx:=fun a _=>(fun i=>i+1) a,live:=[1,2],sets:=fun i=>[(5,sv (.int .i64 i))],mids:=[47],blks:=fun i=>[],owns:=fun i=>[],rd:=fun r _=>r,base:=100000 }
 | _,_=>none
def VC_l4Known (s:GState) (n:Int) (k:Nat):Prop:=TN/\True/\True/\((0<=s.vals.length/\(s.vals.take 0).contains n=false)/\TT/\(RL [.s (.c (.d (.val (.int .i64 n)))),.s (.c (.ptr 47 0))])/\(([.s (.c (.d (.val (.int .i64 (0:Int)))))]:List S)=[.s (.c (.d (.val (.int .i64 ((0:Nat):Int)))))])/\(RM [some (.blk [.d (.arr .int s.vals),.d (.arr .int s.heap)])])/\(RM [])/\True/\TT)/\(∀ i1:Nat,(i1<=s.vals.length/\(s.vals.take i1).contains n=false)->True/\True/\True/\True/\True/\(vcIf (decide (((i1:Nat):Int) < ((s.vals.length:Nat):Int))) (True/\True/\True/\(0<=((i1:Nat):Int)/\((i1:Nat):Int) < ((s.vals.length:Nat):Int))/\True/\True/\True/\(vcIf ((s.vals.getD i1 (0:Int)) == n) (True/\(((true,()):Bool × Unit)=(s.vals.contains n,()))/\True/\True/\True/\True/\TF) (True/\(inK .i64 (((i1:Nat):Int)+(1:Int)))/\True/\((i1+1)<=s.vals.length/\(s.vals.take (i1+1)).contains n=false)/\(s.vals.length - (i1+1) < s.vals.length - i1)/\TT/\(RL [.s (.c (.d (.val (.int .i64 n)))),.s (.c (.ptr 47 0))])/\(([.s (.c (.d (.val (.int .i64 (((i1:Nat):Int)+(1:Int))))))]:List S)=[.s (.c (.d (.val (.int .i64 (((i1+1):Nat):Int)))))])/\(RM [some (.blk [.d (.arr .int s.vals),.d (.arr .int s.heap)])])/\(RM [])/\True/\TT))) (True/\(((false,()):Bool × Unit)=(s.vals.contains n,()))/\True/\True/\True/\True/\TF)))
theorem vcn_l4Known (s:GState) (n:Int) (k:Nat) (hp:s.vals.length<=281474976710656/\s.heap.length<=281474976710656):VC_l4Known s n k:=by
 unfold VC_l4Known
 simp only [cln,Nat.reduceEqDiff,Nat.reduceLeDiff,Nat.reduceAdd]
 all_goals (try simp only [opn])
 all_goals (repeat' (first | apply And.intro | intro _))
 all_goals (repeat (cases ‹_/\_›))
 all_goals (first | omega | assumption | (simp_all;done) | grind [has_step,has_get,take_full])
theorem ok_l4Known:FnOk Try.prog E 148 c_l4Known :=
 fn_okQ (l:=L_l4Known) (lp:=P_l4Known) (hp:=fun _=>false) (gcs:=fun _=>none) (perm:=fun _=>[]) tabOk mix trivial trivial Try.func148 rfl (by kernel_rfl) (by decide) (by kernel_rfl) (anns:=fun x _=>an_l4Known x.1 x.2.1) (fun ⟨s,n,_⟩ k hp _=>Eq.mp (by kernel_rfl) (vcn_l4Known s n k hp)) tot_fn
end Go.Proofs.Ytfoioficiffgkaa
