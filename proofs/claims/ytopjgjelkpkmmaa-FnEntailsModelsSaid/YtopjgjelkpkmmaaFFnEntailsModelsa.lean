/-
  Contracts of single functions of the program, each shown by the engine: what a call returns for arguments within the contract's bounds.
-/
import Derived.Test.YtopjgjelkpkmmaaProg
import Derived.KernelRfl
import Derived.Test.YtopjgjelkpkmmaaEc
import Derived.Test.YtopjgjelkpkmmaaEd
import Derived.Test.YtopjgjelkpkmmaaEe
set_option linter.unusedSimpArgs false
set_option linter.unusedVariables false
set_option linter.unusedSectionVars false

namespace Go.Proofs.Ytopjgjelkpkmmaa
open Go.SE Go.RowKit
def E:Ty->TypeId
 | .int=>3
 | .bool=>4
 | .u8=>5
 | .fact=>94
 | .atom=>66
 | .cmd=>0
 | .ints=>29
 | .asn=>0
def tabL:List (TypeId × TI):=[
 (2,⟨1,8,.sc (.int .i64 0)⟩),
 (3,⟨1,8,.sc (.int .i64 0)⟩),
 (4,⟨1,1,.sc (.bool false)⟩),
 (5,⟨1,1,.sc (.int .u8 0)⟩),
 (7,⟨4,24,.st [.sc (.int .i64 0),.sc (.int .i64 0),.sc (.bool false),.sc (.int .u8 0)] [(0,1,false),(1,1,false),(2,1,false),(3,1,false)]⟩),
 (9,⟨1,16,.sc (.string ⟨#[]⟩)⟩),
 (12,⟨1,8,.sc (.int .u64 0)⟩),
 (13,⟨2,24,.st [.sc (.string ⟨#[]⟩),.sc (.int .u64 0)] [(0,1,false),(1,1,false)]⟩),
 (21,⟨1,4,.sc (.int .i32 0)⟩),
 (22,⟨1,24,.sl true 5 .u8⟩),
 (23,⟨1,24,.sl true 94 .fact⟩),
 (24,⟨1,24,.sl true 66 .atom⟩),
 (25,⟨2,48,.st [.sl .fact,.sl .atom] [(0,1,false),(1,1,false)]⟩),
 (26,⟨2,48,.st [.sl .fact,.sl .atom] [(0,1,false),(1,1,false)]⟩),
 (29,⟨1,24,.sl true 3 .int⟩),
 (30,⟨2,48,.st [.sl .int,.sl .int] [(0,1,false),(1,1,false)]⟩),
 (31,⟨2,48,.st [.sl .int,.sl .int] [(0,1,false),(1,1,false)]⟩),
 (38,⟨1,24,.sl false 139 .fact⟩),
 (39,⟨1,24,.sl false 141 .atom⟩),
 (40,⟨2,48,.st [.sl .fact,.sl .atom] [(0,1,false),(1,1,false)]⟩),
 (41,⟨2,48,.st [.sl .fact,.sl .atom] [(0,1,false),(1,1,false)]⟩),
 (65,⟨3,24,.st [.sc (.int .i64 0),.sc (.int .i64 0),.sc (.int .i64 0)] [(0,1,false),(1,1,false),(2,1,false)]⟩),
 (66,⟨3,24,.st [.sc (.int .i64 0),.sc (.int .i64 0),.sc (.int .i64 0)] [(0,1,false),(1,1,false),(2,1,false)]⟩),
 (67,⟨9,72,.ar 9 3 .int⟩),
 (68,⟨9,72,.ar 9 3 .int⟩),
 (71,⟨2,2,.ar 2 4 .bool⟩),
 (77,⟨1,2,.sc (.int .u16 0)⟩),
 (78,⟨1,2,.sc (.int .u16 0)⟩),
 (93,⟨3,24,.st [.sc (.bool false),.sc (.int .i64 0),.sc (.int .i64 0)] [(0,1,false),(1,1,false),(2,1,false)]⟩),
 (94,⟨3,24,.st [.sc (.bool false),.sc (.int .i64 0),.sc (.int .i64 0)] [(0,1,false),(1,1,false),(2,1,false)]⟩),
 (104,⟨4,96,.st [.sl .fact,.sl .atom,.sl .fact,.sl .atom] [(0,2,true),(2,2,true)]⟩),
 (105,⟨4,96,.st [.sl .fact,.sl .atom,.sl .fact,.sl .atom] [(0,2,true),(2,2,true)]⟩),
 (110,⟨1,8,.sc (.int .u64 0)⟩),
 (111,⟨2,32,.st [.sl .u8,.sc (.int .i64 0)] [(0,1,false),(1,1,false)]⟩),
 (112,⟨2,32,.st [.sl .u8,.sc (.int .i64 0)] [(0,1,false),(1,1,false)]⟩),
 (119,⟨1,2,.sc (.int .u16 0)⟩),
 (121,⟨1,24,.sl true 29 .ints⟩),
 (130,⟨1,24,.sl true 4 .bool⟩),
 (139,⟨3,24,.st [.sc (.bool false),.sc (.int .i64 0),.sc (.int .i64 0)] [(0,1,false),(1,1,false),(2,1,false)]⟩),
 (141,⟨3,24,.st [.sc (.int .i64 0),.sc (.int .i64 0),.sc (.int .i64 0)] [(0,1,false),(1,1,false),(2,1,false)]⟩),
 (149,⟨1,4,.sc (.int .u32 0)⟩),
 (151,⟨1,8,.sc (.int .u64 0)⟩),
 (156,⟨6,6,.ar 6 4 .bool⟩),
 (157,⟨8,40,.st [.sl .atom,.sc (.bool false),.sc (.bool false),.sc (.bool false),.sc (.bool false),.sc (.bool false),.sc (.bool false),.sc (.int .i64 0)] [(0,1,false),(1,6,true),(7,1,false)]⟩),
 (158,⟨8,40,.st [.sl .atom,.sc (.bool false),.sc (.bool false),.sc (.bool false),.sc (.bool false),.sc (.bool false),.sc (.bool false),.sc (.int .i64 0)] [(0,1,false),(1,6,true),(7,1,false)]⟩)]
def tab:TypeId->Option TI:=lookT tabL
theorem tab2:tab 2=some ⟨1,8,.sc (.int .i64 0)⟩:=rfl
theorem tab3:tab 3=some ⟨1,8,.sc (.int .i64 0)⟩:=rfl
theorem tab4:tab 4=some ⟨1,1,.sc (.bool false)⟩:=rfl
theorem tab5:tab 5=some ⟨1,1,.sc (.int .u8 0)⟩:=rfl
theorem tab7:tab 7=some ⟨4,24,.st [.sc (.int .i64 0),.sc (.int .i64 0),.sc (.bool false),.sc (.int .u8 0)] [(0,1,false),(1,1,false),(2,1,false),(3,1,false)]⟩:=rfl
theorem tab9:tab 9=some ⟨1,16,.sc (.string ⟨#[]⟩)⟩:=rfl
theorem tab12:tab 12=some ⟨1,8,.sc (.int .u64 0)⟩:=rfl
theorem tab13:tab 13=some ⟨2,24,.st [.sc (.string ⟨#[]⟩),.sc (.int .u64 0)] [(0,1,false),(1,1,false)]⟩:=rfl
theorem tab21:tab 21=some ⟨1,4,.sc (.int .i32 0)⟩:=rfl
theorem tab22:tab 22=some ⟨1,24,.sl true 5 .u8⟩:=rfl
theorem tab23:tab 23=some ⟨1,24,.sl true 94 .fact⟩:=rfl
theorem tab24:tab 24=some ⟨1,24,.sl true 66 .atom⟩:=rfl
theorem tab25:tab 25=some ⟨2,48,.st [.sl .fact,.sl .atom] [(0,1,false),(1,1,false)]⟩:=rfl
theorem tab26:tab 26=some ⟨2,48,.st [.sl .fact,.sl .atom] [(0,1,false),(1,1,false)]⟩:=rfl
theorem tab29:tab 29=some ⟨1,24,.sl true 3 .int⟩:=rfl
theorem tab30:tab 30=some ⟨2,48,.st [.sl .int,.sl .int] [(0,1,false),(1,1,false)]⟩:=rfl
theorem tab31:tab 31=some ⟨2,48,.st [.sl .int,.sl .int] [(0,1,false),(1,1,false)]⟩:=rfl
theorem tab38:tab 38=some ⟨1,24,.sl false 139 .fact⟩:=rfl
theorem tab39:tab 39=some ⟨1,24,.sl false 141 .atom⟩:=rfl
theorem tab40:tab 40=some ⟨2,48,.st [.sl .fact,.sl .atom] [(0,1,false),(1,1,false)]⟩:=rfl
theorem tab41:tab 41=some ⟨2,48,.st [.sl .fact,.sl .atom] [(0,1,false),(1,1,false)]⟩:=rfl
theorem tab65:tab 65=some ⟨3,24,.st [.sc (.int .i64 0),.sc (.int .i64 0),.sc (.int .i64 0)] [(0,1,false),(1,1,false),(2,1,false)]⟩:=rfl
theorem tab66:tab 66=some ⟨3,24,.st [.sc (.int .i64 0),.sc (.int .i64 0),.sc (.int .i64 0)] [(0,1,false),(1,1,false),(2,1,false)]⟩:=rfl
theorem tab67:tab 67=some ⟨9,72,.ar 9 3 .int⟩:=rfl
theorem tab68:tab 68=some ⟨9,72,.ar 9 3 .int⟩:=rfl
theorem tab71:tab 71=some ⟨2,2,.ar 2 4 .bool⟩:=rfl
theorem tab77:tab 77=some ⟨1,2,.sc (.int .u16 0)⟩:=rfl
theorem tab78:tab 78=some ⟨1,2,.sc (.int .u16 0)⟩:=rfl
theorem tab93:tab 93=some ⟨3,24,.st [.sc (.bool false),.sc (.int .i64 0),.sc (.int .i64 0)] [(0,1,false),(1,1,false),(2,1,false)]⟩:=rfl
theorem tab94:tab 94=some ⟨3,24,.st [.sc (.bool false),.sc (.int .i64 0),.sc (.int .i64 0)] [(0,1,false),(1,1,false),(2,1,false)]⟩:=rfl
theorem tab104:tab 104=some ⟨4,96,.st [.sl .fact,.sl .atom,.sl .fact,.sl .atom] [(0,2,true),(2,2,true)]⟩:=rfl
theorem tab105:tab 105=some ⟨4,96,.st [.sl .fact,.sl .atom,.sl .fact,.sl .atom] [(0,2,true),(2,2,true)]⟩:=rfl
theorem tab110:tab 110=some ⟨1,8,.sc (.int .u64 0)⟩:=rfl
theorem tab111:tab 111=some ⟨2,32,.st [.sl .u8,.sc (.int .i64 0)] [(0,1,false),(1,1,false)]⟩:=rfl
theorem tab112:tab 112=some ⟨2,32,.st [.sl .u8,.sc (.int .i64 0)] [(0,1,false),(1,1,false)]⟩:=rfl
theorem tab119:tab 119=some ⟨1,2,.sc (.int .u16 0)⟩:=rfl
theorem tab121:tab 121=some ⟨1,24,.sl true 29 .ints⟩:=rfl
theorem tab130:tab 130=some ⟨1,24,.sl true 4 .bool⟩:=rfl
theorem tab139:tab 139=some ⟨3,24,.st [.sc (.bool false),.sc (.int .i64 0),.sc (.int .i64 0)] [(0,1,false),(1,1,false),(2,1,false)]⟩:=rfl
theorem tab141:tab 141=some ⟨3,24,.st [.sc (.int .i64 0),.sc (.int .i64 0),.sc (.int .i64 0)] [(0,1,false),(1,1,false),(2,1,false)]⟩:=rfl
theorem tab149:tab 149=some ⟨1,4,.sc (.int .u32 0)⟩:=rfl
theorem tab151:tab 151=some ⟨1,8,.sc (.int .u64 0)⟩:=rfl
theorem tab156:tab 156=some ⟨6,6,.ar 6 4 .bool⟩:=rfl
theorem tab157:tab 157=some ⟨8,40,.st [.sl .atom,.sc (.bool false),.sc (.bool false),.sc (.bool false),.sc (.bool false),.sc (.bool false),.sc (.bool false),.sc (.int .i64 0)] [(0,1,false),(1,6,true),(7,1,false)]⟩:=rfl
theorem tab158:tab 158=some ⟨8,40,.st [.sl .atom,.sc (.bool false),.sc (.bool false),.sc (.bool false),.sc (.bool false),.sc (.bool false),.sc (.bool false),.sc (.int .i64 0)] [(0,1,false),(1,6,true),(7,1,false)]⟩:=rfl
theorem tabOk:TabOk Try.prog E tab:=tab_ok (by kernel_rfl)
theorem mix:Try.prog.follows .mixedOrders=true:=by kernel_rfl
end Go.Proofs.Ytopjgjelkpkmmaa

namespace Go.Proofs.Ytopjgjelkpkmmaa
open Go.SE Go.RowKit
set_option linter.unusedSimpArgs false
set_option linter.unusedVariables false
set_option maxHeartbeats 1000000
set_option maxRecDepth 100000
theorem vc_l18Open (code:List UInt8):vc tab (lookF []) (fun _=>none) (fun _=>[]) (bodyOf Try.f48) (entry [.c (.d (.arr .u8 code))] none) openQ:=by
 dsimp only [bodyOf,Try.f48]
 simp only [openQ,pickK,openE,openM,true_and,and_true,SE.lookF,tab2,tab3,tab4,tab5,tab7,tab9,tab12,tab13,tab21,tab22,tab23,tab24,tab25,tab26,tab29,tab30,tab31,tab38,tab39,tab40,tab41,tab65,tab66,tab67,tab68,tab71,tab77,tab78,tab93,tab94,tab104,tab105,tab110,tab111,tab112,tab119,tab121,tab130,tab139,tab141,tab149,tab151,tab156,tab157,tab158,SE.entry,SE.envOf,SE.rdOf,Option.get_some,SE.vc,SE.vcReg,SE.vcLoop,SE.condK,SE.seqK,SE.blockK,SE.vcOps,SE.vcStep,SE.vcOp,SE.vcTr,SE.vcDet_some,SE.vcDet_none,SE.vcIf_true,SE.vcIf_false,SE.vcEach,SE.pickOps,SE.gslot,SE.trOp,SE.moveId,SE.trMove,SE.trPick,SE.trAlloc,SE.trBox,SE.trBuild,SE.trBuildSlice,SE.trLoad,SE.trStore,SE.trNilCheck,SE.trBin,SE.trUn,SE.trConvert,SE.trFieldAddr,SE.trField,SE.trIndexAddr,SE.trIndex,SE.trSlice,SE.trMakeSlice,SE.trExtract,SE.trLen,SE.trAppend,SE.trCopy,SE.trFn,SE.trCall,SE.argsS,SE.ev,SE.constS,SE.junk,SE.sv,SE.upd_app,SE.adds,SE.sets,SE.nid,SE.St.app,SE.St.put,SE.free,SE.freeL,SE.allFree,SE.rids,SE.AK.rids,SE.castL,SE.rdl,SE.AK.dec,SE.decs,SE.AK.enc,SE.encs,SE.AK.res,SE.ress,SE.pack1,SE.zcells,SE.zeroOf,SE.partCells,SE.putc,SE.fills,SE.datas,SE.elemOf,SE.elemsOf,SE.notSpent,SE.cellsAt,SE.weak,SE.dcellsAt,SE.slAt,SE.rdPlus,SE.intAt,SE.updElem,SE.kill,SE.noJunk,SE.inK,SE.binI,SE.shf,SE.isShift,SE.eqCells,SE.aggS,SE.intOp,SE.nested,SE.hasRdr,SE.refsC,SE.refsCs,SE.ownsC,SE.refsAr,SE.rdFits,SE.costIf,SE.Con.post,SE.Con.det,SE.Ty.cells,SE.Ty.sz,SE.Ty.zero,SE.Ty.flat,SE.Ty.dec,SE.retOk,SE.loadsS,SE.loadS,SE.decRs,SE.decR,SE.outC,SE.rdC,SE.allDiff,SE.notIn,SE.notFrozen,SE.apartL,SE.rdEnd,SE.firstReg,SE.headC,SE.fitsC,SE.idsC,SE.keepE,SE.keepM,SE.keepB,SE.inL,SE.puts,SE.ownRes,SE.ownEnv,SE.renL,SE.srcId,SE.lookR,SE.envSame,SE.envSets,SE.memSame,SE.memBlks,SE.memOwns,SE.famsOf,SE.allIn,SE.closedE,SE.closedV,SE.closedM,SE.closedR,SE.rdLe,SE.S.refs,SE.S0.refs,SE.CV.refs,SE.refsL,SE.refsT,SE.S.ren,SE.S0.ren,SE.CV.ren,SE.Res.refs,SE.Res.ren,min_i64,max_i64,min_u16,max_u16,min_u8,max_u8,min_u64,max_u64,S.s.injEq,S0.c.injEq,CV.d.injEq,DC.val.injEq,Value.int.injEq,Value.bool.injEq,Value.string.injEq,eta_fact,eta_atom,eta_asn,eta_state,List.mem_cons,List.mem_nil_iff,or_false,false_or,or_true,true_or,Option.map_some,Option.map_none,Option.bind_some,Option.getD_some,Option.getD_none,Nat.reduceEqDiff,Nat.reduceAdd,Nat.reduceMul,Nat.reduceLeDiff,↓reduceIte,reduceCtorEq,true_and,and_true,and_self,forall_const,implies_true,true_implies,List.getElem?_toArray,List.getElem?_cons_succ,List.getElem?_cons_zero,List.append_nil,List.nil_append,List.cons_append,List.length_cons,List.length_nil,List.take_succ_cons,List.take_zero,List.drop_succ_cons,List.drop_zero,List.set_cons_zero,List.set_cons_succ,List.map_cons,List.map_nil,Nat.add_zero,Nat.zero_add,forall_eq,Prod.forall,Bool.not_true,Bool.not_false,Nat.lt_irrefl,Nat.zero_lt_succ,List.singleton_append,Prod.mk.injEq,Nat.zero_mul,Nat.one_mul,Nat.reducePow,Option.some.injEq,not_false_eq_true,Int.toNat_natCast,Nat.sub_zero,Nat.le_refl,Bool.or_false,Bool.false_or,Bool.or_true,Bool.true_or,Bool.and_true,Bool.true_and,Bool.and_false,Bool.false_and,Bool.or_self,Bool.and_self,List.append_eq,and_false,false_and]
 all_goals (try simp only [vcIf_iff,decide_eq_true_eq,decide_eq_false_iff_not])
 all_goals (repeat' (first | apply And.intro | intro _))
 all_goals (first | omega | (simp_all;done) | grind)
theorem open_l18Open:OpenOk Try.prog 48 :=
 open_ok tabOk mix (perm:=fun _=>[]) Try.func48 (by kernel_rfl) (by kernel_rfl) (by decide) (by kernel_rfl) vc_l18Open
theorem fn_l18Open : ∃ fn c, Try.prog.funcs[48]? = some fn /\ (fn.name == "runtime.NumGoroutine") = false /\ fn.body = some c := ⟨_, _, Try.func48, by kernel_rfl, rfl⟩
abbrev c_pick:Con:=⟨[.rdr,.int],[.int],fun _=>True,.inr fun (_,n,_) (r,_)=>pickP n r,fun _=>1⟩
theorem vc_pick (code:List UInt8) (v:Value) (p n:Int) (k:Nat) (h1:code.length<=2000) (h2:0<=p) (h3:p<=k) (h4:k+1<=rdLimit):vc tab (lookF []) (fun _=>none) (fun _=>[]) (bodyOf Try.f51) (pickSt code v p n) (pickQ code v p n):=by
 have h5:p<=1099511627776:=by have:k+1<=1099511627776:=h4;omega
 dsimp only [bodyOf,Try.f51,rdOf]
 simp only [pickSt,pickQ,pickK,pickM,pickR,pickP,true_and,and_true,SE.lookF,tab2,tab3,tab4,tab5,tab7,tab9,tab12,tab13,tab21,tab22,tab23,tab24,tab25,tab26,tab29,tab30,tab31,tab38,tab39,tab40,tab41,tab65,tab66,tab67,tab68,tab71,tab77,tab78,tab93,tab94,tab104,tab105,tab110,tab111,tab112,tab119,tab121,tab130,tab139,tab141,tab149,tab151,tab156,tab157,tab158,SE.entry,SE.envOf,SE.rdOf,Option.get_some,SE.vc,SE.vcReg,SE.vcLoop,SE.condK,SE.seqK,SE.blockK,SE.vcOps,SE.vcStep,SE.vcOp,SE.vcTr,SE.vcDet_some,SE.vcDet_none,SE.vcIf_true,SE.vcIf_false,SE.vcEach,SE.pickOps,SE.gslot,SE.trOp,SE.moveId,SE.trMove,SE.trPick,SE.trAlloc,SE.trBox,SE.trBuild,SE.trBuildSlice,SE.trLoad,SE.trStore,SE.trNilCheck,SE.trBin,SE.trUn,SE.trConvert,SE.trFieldAddr,SE.trField,SE.trIndexAddr,SE.trIndex,SE.trSlice,SE.trMakeSlice,SE.trExtract,SE.trLen,SE.trAppend,SE.trCopy,SE.trFn,SE.trCall,SE.argsS,SE.ev,SE.constS,SE.junk,SE.sv,SE.upd_app,SE.adds,SE.sets,SE.nid,SE.St.app,SE.St.put,SE.free,SE.freeL,SE.allFree,SE.rids,SE.AK.rids,SE.castL,SE.rdl,SE.AK.dec,SE.decs,SE.AK.enc,SE.encs,SE.AK.res,SE.ress,SE.pack1,SE.zcells,SE.zeroOf,SE.partCells,SE.putc,SE.fills,SE.datas,SE.elemOf,SE.elemsOf,SE.notSpent,SE.cellsAt,SE.weak,SE.dcellsAt,SE.slAt,SE.rdPlus,SE.intAt,SE.updElem,SE.kill,SE.noJunk,SE.inK,SE.binI,SE.shf,SE.isShift,SE.eqCells,SE.aggS,SE.intOp,SE.nested,SE.hasRdr,SE.refsC,SE.refsCs,SE.ownsC,SE.refsAr,SE.rdFits,SE.costIf,SE.Con.post,SE.Con.det,SE.Ty.cells,SE.Ty.sz,SE.Ty.zero,SE.Ty.flat,SE.Ty.dec,SE.retOk,SE.loadsS,SE.loadS,SE.decRs,SE.decR,SE.outC,SE.rdC,SE.allDiff,SE.notIn,SE.notFrozen,SE.apartL,SE.rdEnd,SE.firstReg,SE.headC,SE.fitsC,SE.idsC,SE.keepE,SE.keepM,SE.keepB,SE.inL,SE.puts,SE.ownRes,SE.ownEnv,SE.renL,SE.srcId,SE.lookR,SE.envSame,SE.envSets,SE.memSame,SE.memBlks,SE.memOwns,SE.famsOf,SE.allIn,SE.closedE,SE.closedV,SE.closedM,SE.closedR,SE.rdLe,SE.S.refs,SE.S0.refs,SE.CV.refs,SE.refsL,SE.refsT,SE.S.ren,SE.S0.ren,SE.CV.ren,SE.Res.refs,SE.Res.ren,min_i64,max_i64,min_u16,max_u16,min_u8,max_u8,min_u64,max_u64,S.s.injEq,S0.c.injEq,CV.d.injEq,DC.val.injEq,Value.int.injEq,Value.bool.injEq,Value.string.injEq,eta_fact,eta_atom,eta_asn,eta_state,List.mem_cons,List.mem_nil_iff,or_false,false_or,or_true,true_or,Option.map_some,Option.map_none,Option.bind_some,Option.getD_some,Option.getD_none,Nat.reduceEqDiff,Nat.reduceAdd,Nat.reduceMul,Nat.reduceLeDiff,↓reduceIte,reduceCtorEq,true_and,and_true,and_self,forall_const,implies_true,true_implies,List.getElem?_toArray,List.getElem?_cons_succ,List.getElem?_cons_zero,List.append_nil,List.nil_append,List.cons_append,List.length_cons,List.length_nil,List.take_succ_cons,List.take_zero,List.drop_succ_cons,List.drop_zero,List.set_cons_zero,List.set_cons_succ,List.map_cons,List.map_nil,Nat.add_zero,Nat.zero_add,forall_eq,Prod.forall,Bool.not_true,Bool.not_false,Nat.lt_irrefl,Nat.zero_lt_succ,List.singleton_append,Prod.mk.injEq,Nat.zero_mul,Nat.one_mul,Nat.reducePow,Option.some.injEq,not_false_eq_true,Int.toNat_natCast,Nat.sub_zero,Nat.le_refl,Bool.or_false,Bool.false_or,Bool.or_true,Bool.true_or,Bool.and_true,Bool.true_and,Bool.and_false,Bool.false_and,Bool.or_self,Bool.and_self,List.append_eq,and_false,false_and]
 all_goals (try simp only [vcIf_iff,decide_eq_true_eq,decide_eq_false_iff_not,bne_iff_ne,ne_eq,beq_iff_eq,beq_eq_false_iff_ne])
 have hq:p+1 - 1=p:=by omega
 simp only [hq]
 have hA:=byte_bd code
 generalize hL:(code.length:Int)=L at *
 have hL0:0<=L:=by omega
 have hm:∀ x:Int,0<=x->¬ L=0->0<=x.tmod L/\x.tmod L < L:=fun x h0 h1=>tmod_bd h0 (by omega)
 refine ⟨by omega,fun _ _=>by omega,fun hn=>⟨fun _ _=>by omega,fun hl=>⟨by omega,fun hpl=>?_,fun hpl=>?_⟩⟩⟩
 ·have a1:=hA p.toNat
  have m1:=tmod_bd (n:=n) a1.1 (by omega)
  generalize ((code.getD p.toNat 0).toNat:Int)=A at *
  exact ⟨by omega,by omega,by omega,fun _=>m1,fun h=>by omega⟩
 ·have m1:=hm p h2 hl
  have m2:=hm (p * 7+3) (by omega) hl
  have a1:=hA (p.tmod L).toNat
  have a2:=hA ((p * 7+3).tmod L).toNat
  have d1:=tdiv_bd (x:=p) (n:=L) h2 (by omega)
  generalize ((code.getD (p.tmod L).toNat 0).toNat:Int)=A at *
  generalize ((code.getD ((p * 7+3).tmod L).toNat 0).toNat:Int)=B at *
  generalize p.tdiv L=D at *
  have d2:=tdiv_bd (x:=A * 131+B * 1117+p * 29+D * 53) (n:=64) (by omega) (by omega)
  have x1:=xor_i64_pos (a:=A * 131+B * 1117+p * 29+D * 53) (b:=(A * 131+B * 1117+p * 29+D * 53).tdiv 64) (by omega) (by omega) d2.1 (by omega)
  have m3:=tmod_bd (n:=n) x1 (by omega)
  repeat' (first | apply And.intro | intro _)
  all_goals (first | assumption | omega | exact m3.1 | exact m3.2)
theorem ok_pick:FnOk Try.prog E 51 c_pick :=
 pick_ok tabOk mix (perm:=fun _=>[]) Try.func51 (by kernel_rfl) (by decide) (by kernel_rfl) (by decide) (by kernel_rfl) (fun code v p n k h1 h2 h3 h4=>vc_pick code v p n k h1 h2 h3 h4)
abbrev c_num:Con:=⟨[.rdr,.sl .int],[.int],fun (rr,l,_)=>0 < l.length/\l.length<=1000,.inr fun (rr,l,_) r=>r.1 ∈ l,fun (rr,l,_)=>1⟩
abbrev L_num:List (FuncId × Con):=[(51,c_pick)]
abbrev P_num:List (FuncId × PT):=[]
def VC_num (rr:Unit) (l:List Int) (k:Nat):Prop:=True/\True/\True/\True/\True/\(True/\(k+1<=1099511627776)/\True)/\(∀ r1:Int × Unit,(pickP ((l.length:Nat):Int) r1.1)->(0<=r1.1/\r1.1 < ((l.length:Nat):Int))/\True/\True/\((l.getD r1.1.toNat (0:Int)) ∈ l)/\True/\True/\True/\True/\(k+1<=k+1))
theorem vcn_num (rr:Unit) (l:List Int) (k:Nat) (hp:0 < l.length/\l.length<=1000) (hk:k+(1)<=1099511627776):VC_num rr l k:=by
 unfold VC_num
 simp only [cln,Nat.reduceEqDiff,Nat.reduceLeDiff,Nat.reduceAdd]
 all_goals (try simp only [opn])
 all_goals (repeat' (first | apply And.intro | intro _))
 all_goals (first | omega | (simp_all;done) | grind [getD_mem,pickP])
theorem ok_num:FnOk Try.prog E 72 c_num :=
 fn_okQ (l:=L_num) (lp:=P_num) (hp:=fun _=>false) (gcs:=fun _=>none) (perm:=fun _=>[]) tabOk mix ⟨ok_pick,trivial⟩ trivial Try.func72 rfl (by kernel_rfl) (by decide) (by kernel_rfl) (anns:=fun x _=>fun _ _=>none) (fun ⟨rr,l,_⟩ k hp hk=>Eq.mp (by kernel_rfl) (vcn_num rr l k hp (hk rfl))) (fun ⟨_,l,_⟩ hp=>⟨(l.getD 0 0,()),getD_mem hp.1⟩)
abbrev c_l6Chains:Con:=⟨[.rdr],[.asn],fun _=>True,.inr fun (rr,_) r=>r.1.facts.length<=1/\r.1.atoms.length<=4,fun (rr,_)=>13⟩
abbrev L_l6Chains:List (FuncId × Con):=[(51,c_pick),(72,c_num)]
abbrev P_l6Chains:List (FuncId × PT):=[]
def an_l6Chains (rr:Unit):Nat->St->Option Ann
 | 4,se=>some { α:=Int × Int × List GAtom,ok:=fun p=>0<=p.2.1/\p.2.1+p.2.2.length<=4,mu:=fun p=>p.2.1.toNat,i0:=fun st=>(intAt st 4,intAt st 5,([]:List GAtom)),nx:=fun p st=>(intAt st 4,p.2.1 - 1,slAt .atom st (.cell 63 1)),live:=[0,2,3],sets:=fun p=>[(4,sv (.int .i64 p.1)),(5,sv (.int .i64 p.2.1))],mids:=[32,33,47],blks:=fun p=>[(63,.blk [.own 7,.own 8])],owns:=fun p=>[⟨7,.cell 63 0,.fact,([]:List GFact)⟩,⟨8,.cell 63 1,.atom,p.2.2⟩],rd:=fun r p=>rdPlus r (2 * (4 - p.2.1.toNat)),base:=100000 }
 | _,_=>none
def VC_l6Chains_1 :Prop:=0 < ([(1:Int),(2:Int),(5:Int)]:List Int).length/\([(1:Int),(2:Int),(5:Int)]:List Int).length<=1000
def VC_l6Chains_2 :Prop:=RM [some (.sl 32 .fact ([]:List GFact)),some (.sl 33 .atom ([]:List GAtom)),some (.blk [.own 32,.own 33])]
def VC_l6Chains_3 (r5:Int × Unit) (p3:Int × Int × List GAtom) (r4:Int × Unit) (k:Nat):Prop:=(True/\(vcIf (r5.1 == (0:Int)) (True/\(TF/\TF)/\True/\True/\True/\(TN/\True)/\(TN/\TF/\TF/\(p3.2.2.length+([(⟨(2:Int),(p3.1:Int),r4.1⟩:GAtom)]:List GAtom).length<=4294967296))/\True/\(TF/\TF)/\True/\True/\True/\True/\(inK .i64 ((p3.2.1:Int) - (1:Int)))/\True/\(0<=(r4.1,p3.2.1 - 1,(p3.2.2 ++ ([(⟨(2:Int),(p3.1:Int),r4.1⟩:GAtom)]:List GAtom))).2.1/\(r4.1,p3.2.1 - 1,(p3.2.2 ++ ([(⟨(2:Int),(p3.1:Int),r4.1⟩:GAtom)]:List GAtom))).2.1+(r4.1,p3.2.1 - 1,(p3.2.2 ++ ([(⟨(2:Int),(p3.1:Int),r4.1⟩:GAtom)]:List GAtom))).2.2.length<=4)/\((r4.1,p3.2.1 - 1,(p3.2.2 ++ ([(⟨(2:Int),(p3.1:Int),r4.1⟩:GAtom)]:List GAtom))).2.1.toNat < p3.2.1.toNat)/\TT/\(RL [.s (.c (.rdr)),.s (.c (.ptr 47 0)),.s (.c (.ptr 63 0))])/\(([.s (.c (.d (.val (.int .i64 r4.1)))),.s (.c (.d (.val (.int .i64 ((p3.2.1:Int) - (1:Int))))))]:List S)=[.s (.c (.d (.val (.int .i64 ((r4.1,p3.2.1 - 1,(p3.2.2 ++ ([(⟨(2:Int),(p3.1:Int),r4.1⟩:GAtom)]:List GAtom))).1:Int))))),.s (.c (.d (.val (.int .i64 ((r4.1,p3.2.1 - 1,(p3.2.2 ++ ([(⟨(2:Int),(p3.1:Int),r4.1⟩:GAtom)]:List GAtom))).2.1:Int)))))])/\VC_l6Chains_2/\(RM [some (.blk [.own 7,.own 100496])])/\(((some ([]:List GFact):Option (List GFact))=some ([]:List GFact))/\((some (p3.2.2 ++ ([(⟨(2:Int),(p3.1:Int),r4.1⟩:GAtom)]:List GAtom)):Option (List GAtom))=some ((r4.1,p3.2.1 - 1,(p3.2.2 ++ ([(⟨(2:Int),(p3.1:Int),r4.1⟩:GAtom)]:List GAtom))).2.2))/\True)/\(k+1+1+(2 * (4 - p3.2.1.toNat))+1+1<=k+1+1+(2 * (4 - (r4.1,p3.2.1 - 1,(p3.2.2 ++ ([(⟨(2:Int),(p3.1:Int),r4.1⟩:GAtom)]:List GAtom))).2.1.toNat))/\k+1+1+(2 * (4 - (r4.1,p3.2.1 - 1,(p3.2.2 ++ ([(⟨(2:Int),(p3.1:Int),r4.1⟩:GAtom)]:List GAtom))).2.1.toNat))<=1099511627776)) (True/\True/\True/\(TN/\True)/\(TN/\TF/\TF/\(p3.2.2.length+([(⟨(1:Int),(p3.1:Int),r4.1⟩:GAtom)]:List GAtom).length<=4294967296))/\True/\(TF/\TF)/\True/\True/\True/\True/\(inK .i64 ((p3.2.1:Int) - (1:Int)))/\True/\(0<=(r4.1,p3.2.1 - 1,(p3.2.2 ++ ([(⟨(1:Int),(p3.1:Int),r4.1⟩:GAtom)]:List GAtom))).2.1/\(r4.1,p3.2.1 - 1,(p3.2.2 ++ ([(⟨(1:Int),(p3.1:Int),r4.1⟩:GAtom)]:List GAtom))).2.1+(r4.1,p3.2.1 - 1,(p3.2.2 ++ ([(⟨(1:Int),(p3.1:Int),r4.1⟩:GAtom)]:List GAtom))).2.2.length<=4)/\((r4.1,p3.2.1 - 1,(p3.2.2 ++ ([(⟨(1:Int),(p3.1:Int),r4.1⟩:GAtom)]:List GAtom))).2.1.toNat < p3.2.1.toNat)/\TT/\(RL [.s (.c (.rdr)),.s (.c (.ptr 47 0)),.s (.c (.ptr 63 0))])/\(([.s (.c (.d (.val (.int .i64 r4.1)))),.s (.c (.d (.val (.int .i64 ((p3.2.1:Int) - (1:Int))))))]:List S)=[.s (.c (.d (.val (.int .i64 ((r4.1,p3.2.1 - 1,(p3.2.2 ++ ([(⟨(1:Int),(p3.1:Int),r4.1⟩:GAtom)]:List GAtom))).1:Int))))),.s (.c (.d (.val (.int .i64 ((r4.1,p3.2.1 - 1,(p3.2.2 ++ ([(⟨(1:Int),(p3.1:Int),r4.1⟩:GAtom)]:List GAtom))).2.1:Int)))))])/\VC_l6Chains_2/\(RM [some (.blk [.own 7,.own 100496])])/\(((some ([]:List GFact):Option (List GFact))=some ([]:List GFact))/\((some (p3.2.2 ++ ([(⟨(1:Int),(p3.1:Int),r4.1⟩:GAtom)]:List GAtom)):Option (List GAtom))=some ((r4.1,p3.2.1 - 1,(p3.2.2 ++ ([(⟨(1:Int),(p3.1:Int),r4.1⟩:GAtom)]:List GAtom))).2.2))/\True)/\(k+1+1+(2 * (4 - p3.2.1.toNat))+1+1<=k+1+1+(2 * (4 - (r4.1,p3.2.1 - 1,(p3.2.2 ++ ([(⟨(1:Int),(p3.1:Int),r4.1⟩:GAtom)]:List GAtom))).2.1.toNat))/\k+1+1+(2 * (4 - (r4.1,p3.2.1 - 1,(p3.2.2 ++ ([(⟨(1:Int),(p3.1:Int),r4.1⟩:GAtom)]:List GAtom))).2.1.toNat))<=1099511627776))))
def VC_l6Chains_4 (r1:Int × Unit) (r2:Int × Unit) (k:Nat):Prop:=(((0<=(r1.1,r2.1,([]:List GAtom)).2.1/\(r1.1,r2.1,([]:List GAtom)).2.1+(r1.1,r2.1,([]:List GAtom)).2.2.length<=4)/\TT/\(RL [.s (.c (.rdr)),.s (.c (.ptr 47 0)),.s (.c (.ptr 63 0))])/\(([.s (.c (.d (.val (.int .i64 r1.1)))),.s (.c (.d (.val (.int .i64 r2.1))))]:List S)=[.s (.c (.d (.val (.int .i64 ((r1.1,r2.1,([]:List GAtom)).1:Int))))),.s (.c (.d (.val (.int .i64 ((r1.1,r2.1,([]:List GAtom)).2.1:Int)))))])/\VC_l6Chains_2/\(RM [some (.blk [.own 112,.own 113])])/\(((some ([]:List GFact):Option (List GFact))=some ([]:List GFact))/\((some ([]:List GAtom):Option (List GAtom))=some ((r1.1,r2.1,([]:List GAtom)).2.2))/\True)/\(k+1+1<=k+1+1+(2 * (4 - (r1.1,r2.1,([]:List GAtom)).2.1.toNat))/\k+1+1+(2 * (4 - (r1.1,r2.1,([]:List GAtom)).2.1.toNat))<=1099511627776))/\(∀ p3:Int × Int × List GAtom,(0<=p3.2.1/\p3.2.1+p3.2.2.length<=4)->True/\True/\(vcIf (decide ((0:Int) < (p3.2.1:Int))) (True/\True/\(TN/\True)/\((0 < ([(2:Int),(5:Int),(0:Int),(3:Int),(6:Int),(1:Int)]:List Int).length/\([(2:Int),(5:Int),(0:Int),(3:Int),(6:Int),(1:Int)]:List Int).length<=1000)/\(k+1+1+(2 * (4 - p3.2.1.toNat))+1<=1099511627776)/\True)/\(∀ r4:Int × Unit,(r4.1 ∈ ([(2:Int),(5:Int),(0:Int),(3:Int),(6:Int),(1:Int)]:List Int))->True/\(TN/\True)/\(TF/\TF)/\True/\(True/\(k+1+1+(2 * (4 - p3.2.1.toNat))+1+1<=1099511627776)/\True)/\(∀ r5:Int × Unit,(pickP (2:Int) r5.1)->(VC_l6Chains_3 r5 p3 r4 k)))) (True/\(True/\(k+1+1+(2 * (4 - p3.2.1.toNat))+1<=1099511627776)/\True)/\(∀ r6:Int × Unit,(pickP (3:Int) r6.1)->True/\(vcIf (r6.1 == (0:Int)) (True/\True/\True/\(TN/\True)/\(VC_l6Chains_1/\(k+1+1+(2 * (4 - p3.2.1.toNat))+1+1<=1099511627776)/\True)/\(∀ r7:Int × Unit,(r7.1 ∈ ([(1:Int),(2:Int),(5:Int)]:List Int))->True/\(TN/\True)/\((0 < ([(0:Int),(2:Int),(3:Int),(5:Int)]:List Int).length/\([(0:Int),(2:Int),(3:Int),(5:Int)]:List Int).length<=1000)/\(k+1+1+(2 * (4 - p3.2.1.toNat))+1+1+1<=1099511627776)/\True)/\(∀ r8:Int × Unit,(r8.1 ∈ ([(0:Int),(2:Int),(3:Int),(5:Int)]:List Int))->True/\(TN/\True)/\(TN/\TF/\TF/\(([]:List GFact).length+([(⟨false,r7.1,r8.1⟩:GFact)]:List GFact).length<=4294967296))/\True/\(TF/\TF)/\True/\(TF/\TF)/\((⟨([]:List GFact) ++ ([(⟨false,r7.1,r8.1⟩:GFact)]:List GFact),p3.2.2⟩:GAsn).facts.length<=1/\(⟨([]:List GFact) ++ ([(⟨false,r7.1,r8.1⟩:GFact)]:List GFact),p3.2.2⟩:GAsn).atoms.length<=4)/\((((100768:Nat) ≠ 8)/\True)/\True/\True)/\((TF/\TF)/\(TF/\TF)/\True)/\True/\(True/\True/\True)/\(k+1+1+(2 * (4 - p3.2.1.toNat))+1+1+1<=k+13)))) (True/\(TF/\TF)/\((⟨([]:List GFact),p3.2.2⟩:GAsn).facts.length<=1/\(⟨([]:List GFact),p3.2.2⟩:GAsn).atoms.length<=4)/\((((7:Nat) ≠ 8)/\True)/\True/\True)/\((TF/\TF)/\(TF/\TF)/\True)/\True/\(True/\True/\True)/\(k+1+1+(2 * (4 - p3.2.1.toNat))+1<=k+13))))))))
def VC_l6Chains (rr:Unit) (k:Nat):Prop:=(TN/\TN/\TN/\True)/\(TN/\TN/\True)/\(TN/\TN/\TN/\True)/\(TF/\TF)/\True/\(TN/\True)/\(VC_l6Chains_1/\(k+1<=1099511627776)/\True)/\(∀ r1:Int × Unit,(r1.1 ∈ ([(1:Int),(2:Int),(5:Int)]:List Int))->True/\True/\(TN/\True)/\((0 < ([(2:Int),(3:Int),(1:Int),(4:Int)]:List Int).length/\([(2:Int),(3:Int),(1:Int),(4:Int)]:List Int).length<=1000)/\(k+1+1<=1099511627776)/\True)/\(∀ r2:Int × Unit,(r2.1 ∈ ([(2:Int),(3:Int),(1:Int),(4:Int)]:List Int))->True/\(VC_l6Chains_4 r1 r2 k)))
theorem vcn_l6Chains (rr:Unit) (k:Nat) (hk:k+(13)<=1099511627776):VC_l6Chains rr k:=by
 unfold VC_l6Chains VC_l6Chains_4 VC_l6Chains_3 VC_l6Chains_2 VC_l6Chains_1
 simp only [cln,Nat.reduceEqDiff,Nat.reduceLeDiff,Nat.reduceAdd]
 all_goals (try simp only [opn])
 all_goals (repeat' (first | apply And.intro | intro _))
 all_goals (repeat (cases ‹_/\_›))
 all_goals (first | (exfalso;contradiction) | omega | with_reducible assumption | with_reducible rfl | skip)
 all_goals (try simp only [List.length_append,List.length_cons,List.length_nil,List.length_set,List.length_take,List.length_drop,List.mem_cons,List.mem_nil_iff,or_false] at *)
 all_goals (first
  | omega
  | (rcases ‹_ ∨ _› with h | h | h | h <;> omega)
  | exact Nat.le_trans fcL_len.1 ‹_› | exact Nat.le_trans fcL_len.2 ‹_›
  | grind [asV,fsV])
theorem ok_l6Chains:FnOk Try.prog E 49 c_l6Chains :=
 fn_okQ (l:=L_l6Chains) (lp:=P_l6Chains) (hp:=fun _=>false) (gcs:=fun _=>none) (perm:=fun _=>[]) tabOk mix ⟨ok_pick,ok_num,trivial⟩ trivial Try.func49 rfl (by kernel_rfl) (by decide) (by kernel_rfl) (anns:=fun x _=>an_l6Chains x.1) (fun ⟨rr,_⟩ k _ hk=>Eq.mp (by kernel_rfl) (vcn_l6Chains rr k (hk rfl))) (fun _ _=>⟨((⟨[],[]⟩:GAsn),()),⟨Nat.zero_le _,Nat.zero_le _⟩⟩)
abbrev c_l3Star:Con:=⟨[.asn,.asn],[.asn],fun (a,b,_)=>a.facts.length<=1048576/\a.atoms.length<=1048576/\b.facts.length<=1048576/\b.atoms.length<=1048576,.inl fun (a,b,_)=>(⟨a.facts ++ b.facts,a.atoms ++ b.atoms⟩,()),fun _=>0⟩
abbrev L_l3Star:List (FuncId × Con):=[]
abbrev P_l3Star:List (FuncId × PT):=[]
def VC_l3Star (a:GAsn) (b:GAsn) (k:Nat):Prop:=TN/\TN/\(TN/\TN/\TN/\True)/\(TN/\True)/\True/\True/\(TN/\TF/\TF/\(([]:List GFact).length+a.facts.length<=4294967296))/\True/\True/\(TN/\TF/\TF/\((([]:List GFact) ++ a.facts).length+b.facts.length<=4294967296))/\(TN/\True)/\True/\True/\(TN/\TF/\TF/\(([]:List GAtom).length+a.atoms.length<=4294967296))/\True/\True/\(TN/\TF/\TF/\((([]:List GAtom) ++ a.atoms).length+b.atoms.length<=4294967296))/\(TN/\TN/\True)/\(TF/\TF)/\((((⟨(([]:List GFact) ++ a.facts) ++ b.facts,(([]:List GAtom) ++ a.atoms) ++ b.atoms⟩:GAsn),()):GAsn × Unit)=(⟨a.facts ++ b.facts,a.atoms ++ b.atoms⟩,()))/\((((176:Nat) ≠ 288)/\True)/\True/\True)/\((TF/\TF)/\(TF/\TF)/\True)/\True/\(True/\True/\True)/\TF
theorem vcn_l3Star (a:GAsn) (b:GAsn) (k:Nat) (hp:a.facts.length<=1048576/\a.atoms.length<=1048576/\b.facts.length<=1048576/\b.atoms.length<=1048576):VC_l3Star a b k:=by
 unfold VC_l3Star
 simp only [cln,Nat.reduceEqDiff,Nat.reduceLeDiff,Nat.reduceAdd]
 all_goals (try simp only [opn])
 all_goals (repeat' (first | apply And.intro | intro _))
 all_goals (first | omega | (simp_all;done) | grind [])
theorem ok_l3Star:FnOk Try.prog E 87 c_l3Star :=
 fn_okQ (l:=L_l3Star) (lp:=P_l3Star) (hp:=fun _=>false) (gcs:=fun _=>none) (perm:=fun _=>[]) tabOk mix trivial trivial Try.func87 rfl (by kernel_rfl) (by decide) (by kernel_rfl) (anns:=fun x _=>fun _ _=>none) (fun ⟨a,b,_⟩ k hp _=>Eq.mp (by kernel_rfl) (vcn_l3Star a b k hp)) tot_fn
abbrev c_l3Copy:Con:=⟨[.asn],[.asn],fun (a,_)=>a.facts.length<=1048576/\a.atoms.length<=1048576,.inl fun (a,_)=>(a,()),fun _=>0⟩
abbrev L_l3Copy:List (FuncId × Con):=[(87,c_l3Star)]
abbrev P_l3Copy:List (FuncId × PT):=[]
def VC_l3Copy (a:GAsn) (k:Nat):Prop:=TN/\(TN/\TN/\TN/\True)/\True/\(TN/\TN/\True)/\((a.facts.length<=1048576/\a.atoms.length<=1048576/\(⟨([]:List GFact),([]:List GAtom)⟩:GAsn).facts.length<=1048576/\(⟨([]:List GFact),([]:List GAtom)⟩:GAsn).atoms.length<=1048576)/\True/\TN/\TN/\True)/\(TF/\TF)/\((((⟨(a.facts ++ (⟨([]:List GFact),([]:List GAtom)⟩:GAsn).facts),(a.atoms ++ (⟨([]:List GFact),([]:List GAtom)⟩:GAsn).atoms)⟩:GAsn),()):GAsn × Unit)=(a,()))/\((((80:Nat) ≠ 81)/\True)/\True/\True)/\((TF/\TF)/\(TF/\TF)/\True)/\True/\(True/\True/\True)/\TF
theorem vcn_l3Copy (a:GAsn) (k:Nat) (hp:a.facts.length<=1048576/\a.atoms.length<=1048576):VC_l3Copy a k:=by
 unfold VC_l3Copy
 simp only [cln,Nat.reduceEqDiff,Nat.reduceLeDiff,Nat.reduceAdd]
 all_goals (try simp only [opn])
 all_goals (repeat' (first | apply And.intro | intro _))
 all_goals (first | omega | (simp_all;done) | grind [])
theorem ok_l3Copy:FnOk Try.prog E 95 c_l3Copy :=
 fn_okQ (l:=L_l3Copy) (lp:=P_l3Copy) (hp:=fun _=>false) (gcs:=fun _=>none) (perm:=fun _=>[]) tabOk mix ⟨ok_l3Star,trivial⟩ trivial Try.func95 rfl (by kernel_rfl) (by decide) (by kernel_rfl) (anns:=fun x _=>fun _ _=>none) (fun ⟨a,_⟩ k hp _=>Eq.mp (by kernel_rfl) (vcn_l3Copy a k hp)) tot_fn
abbrev c_l1Is:Con:=⟨[.int],[.bool],fun _=>True,.inl fun (t,_)=>(isT t,()),fun _=>0⟩
abbrev L_l1Is:List (FuncId × Con):=[]
abbrev P_l1Is:List (FuncId × PT):=[]
def VC_l1Is (t:Int) (k:Nat):Prop:=True/\True/\True/\True/\(vcIf (decide ((0:Int)<=t)) (True/\True/\True/\True/\(((decide (t<=(8:Int)),()):Bool × Unit)=(isT t,()))/\True/\True/\True/\True/\TF) (True/\True/\(((false,()):Bool × Unit)=(isT t,()))/\True/\True/\True/\True/\TF))
theorem vcn_l1Is (t:Int) (k:Nat):VC_l1Is t k:=by
 unfold VC_l1Is
 simp only [cln,Nat.reduceEqDiff,Nat.reduceLeDiff,Nat.reduceAdd]
 cases h:decide (0<=t) <;> simp [vcIf,isT,h]
theorem ok_l1Is:FnOk Try.prog E 151 c_l1Is :=
 fn_okQ (l:=L_l1Is) (lp:=P_l1Is) (hp:=fun _=>false) (gcs:=fun _=>none) (perm:=fun _=>[]) tabOk mix trivial trivial Try.func151 rfl (by kernel_rfl) (by decide) (by kernel_rfl) (anns:=fun x _=>fun _ _=>none) (fun ⟨t,_⟩ k _ _=>Eq.mp (by kernel_rfl) (vcn_l1Is t k)) tot_fn
abbrev c_l3Atom:Con:=⟨[.atom],[.bool],fun _=>True,.inl fun (x,_)=>(atV x,()),fun _=>0⟩
abbrev L_l3Atom:List (FuncId × Con):=[(151,c_l1Is)]
abbrev P_l3Atom:List (FuncId × PT):=[]
def VC_l3Atom_1 (x:GAtom):Prop:=True/\True/\(((false,()):Bool × Unit)=(atV x,()))/\True/\True/\True/\True/\TF
def VC_l3Atom_2 (x:GAtom):Prop:=True/\True/\(True/\True/\True)/\True/\True/\(vcIf (isT x.a) (True/\True/\(True/\True/\True)/\True/\True/\((((isT x.b),()):Bool × Unit)=(atV x,()))/\True/\True/\True/\True/\TF) (VC_l3Atom_1 x))
def VC_l3Atom (x:GAtom) (k:Nat):Prop:=TN/\True/\True/\True/\True/\True/\(vcIf (x.kind == (1:Int)) (True/\True/\(VC_l3Atom_2 x)) (True/\True/\True/\True/\True/\(vcIf (x.kind == (2:Int)) (VC_l3Atom_2 x) (True/\True/\(VC_l3Atom_1 x)))))
theorem vcn_l3Atom (x:GAtom) (k:Nat):VC_l3Atom x k:=by
 unfold VC_l3Atom VC_l3Atom_2 VC_l3Atom_1
 simp only [cln,Nat.reduceEqDiff,Nat.reduceLeDiff,Nat.reduceAdd]
 all_goals (try simp only [opn])
 all_goals (repeat' (first | apply And.intro | intro _))
 all_goals (first | omega | (simp_all;done) | grind [atV])
theorem ok_l3Atom:FnOk Try.prog E 122 c_l3Atom :=
 fn_okQ (l:=L_l3Atom) (lp:=P_l3Atom) (hp:=fun _=>false) (gcs:=fun _=>none) (perm:=fun _=>[]) tabOk mix ⟨ok_l1Is,trivial⟩ trivial Try.func122 rfl (by kernel_rfl) (by decide) (by kernel_rfl) (anns:=fun x _=>fun _ _=>none) (fun ⟨x,_⟩ k _ _=>Eq.mp (by kernel_rfl) (vcn_l3Atom x k)) tot_fn
abbrev c_sFactValid:Con:=⟨[.fact],[.bool],fun _=>True,.inl fun (f,_)=>(fV f,()),fun _=>0⟩
abbrev L_sFactValid:List (FuncId × Con):=[(151,c_l1Is)]
abbrev P_sFactValid:List (FuncId × PT):=[]
def VC_sFactValid (f:GFact) (k:Nat):Prop:=TN/\True/\True/\True/\(True/\True/\True)/\True/\(vcIf (isT f.a) (True/\True/\(True/\True/\True)/\True/\True/\((((isT f.b),()):Bool × Unit)=(fV f,()))/\True/\True/\True/\True/\TF) (True/\True/\(((false,()):Bool × Unit)=(fV f,()))/\True/\True/\True/\True/\TF))
theorem vcn_sFactValid (f:GFact) (k:Nat):VC_sFactValid f k:=by
 unfold VC_sFactValid
 simp only [cln,Nat.reduceEqDiff,Nat.reduceLeDiff,Nat.reduceAdd]
 cases h:isT f.a <;> simp [vcIf,fV,h]
theorem ok_sFactValid:FnOk Try.prog E 152 c_sFactValid :=
 fn_okQ (l:=L_sFactValid) (lp:=P_sFactValid) (hp:=fun _=>false) (gcs:=fun _=>none) (perm:=fun _=>[]) tabOk mix ⟨ok_l1Is,trivial⟩ trivial Try.func152 rfl (by kernel_rfl) (by decide) (by kernel_rfl) (anns:=fun x _=>fun _ _=>none) (fun ⟨f,_⟩ k _ _=>Eq.mp (by kernel_rfl) (vcn_sFactValid f k)) tot_fn
abbrev c_sFactsValid:Con:=⟨[.sl .fact],[.bool],fun (l,_)=>l.length<=281474976710656,.inl fun (l,_)=>(fsV l,()),fun _=>0⟩
abbrev L_sFactsValid:List (FuncId × Con):=[(152,c_sFactValid)]
abbrev P_sFactsValid:List (FuncId × PT):=[]
def an_sFactsValid (l:List GFact):Nat->St->Option Ann
 | 2,se=>some { α:=Nat,ok:=fun i=>i<=l.length/\(l.take i).all fV=true,mu:=fun i=>l.length - i,i0:=fun _=>0,nx:=fun a _=>(fun i=>i+1) a,live:=[0],sets:=fun i=>[(3,sv (.int .i64 i))],mids:=[],blks:=fun i=>[],owns:=fun i=>[],rd:=fun r _=>r,base:=100000 }
 | _,_=>none
def VC_sFactsValid (l:List GFact) (k:Nat):Prop:=True/\True/\((0<=l.length/\(l.take 0).all fV=true)/\TT/\(RL [.s (.c (.d (.arr .fact l)))])/\(([.s (.c (.d (.val (.int .i64 (0:Int)))))]:List S)=[.s (.c (.d (.val (.int .i64 ((0:Nat):Int)))))])/\(RM [])/\(RM [])/\True/\TT)/\(∀ i1:Nat,(i1<=l.length/\(l.take i1).all fV=true)->True/\True/\True/\True/\(vcIf (decide (((i1:Nat):Int) < ((l.length:Nat):Int))) (True/\True/\(0<=((i1:Nat):Int)/\((i1:Nat):Int) < ((l.length:Nat):Int))/\True/\(True/\True/\True)/\True/\(vcIf (!(fV (l.getD i1 (⟨false,0,0⟩:GFact)))) (True/\(((false,()):Bool × Unit)=(fsV l,()))/\True/\True/\True/\True/\TF) (True/\(inK .i64 (((i1:Nat):Int)+(1:Int)))/\True/\((i1+1)<=l.length/\(l.take (i1+1)).all fV=true)/\(l.length - (i1+1) < l.length - i1)/\TT/\(RL [.s (.c (.d (.arr .fact l)))])/\(([.s (.c (.d (.val (.int .i64 (((i1:Nat):Int)+(1:Int))))))]:List S)=[.s (.c (.d (.val (.int .i64 (((i1+1):Nat):Int)))))])/\(RM [])/\(RM [])/\True/\TT))) (True/\True/\True/\True/\(((decide (((l.length:Nat):Int)<=(12:Int)),()):Bool × Unit)=(fsV l,()))/\True/\True/\True/\True/\TF)))
theorem vcn_sFactsValid (l:List GFact) (k:Nat) (hp:l.length<=281474976710656):VC_sFactsValid l k:=by
 unfold VC_sFactsValid
 simp only [cln,Nat.reduceEqDiff,Nat.reduceLeDiff,Nat.reduceAdd]
 all_goals (try simp only [opn])
 all_goals (repeat' (first | apply And.intro | intro _))
 all_goals (first | omega | (simp_all;done) | grind [fsV,take_all,all_take,take_full,Ty.zero])
theorem ok_sFactsValid:FnOk Try.prog E 123 c_sFactsValid :=
 fn_okQ (l:=L_sFactsValid) (lp:=P_sFactsValid) (hp:=fun _=>false) (gcs:=fun _=>none) (perm:=fun _=>[]) tabOk mix ⟨ok_sFactValid,trivial⟩ trivial Try.func123 rfl (by kernel_rfl) (by decide) (by kernel_rfl) (anns:=fun x _=>an_sFactsValid x.1) (fun ⟨l,_⟩ k hp _=>Eq.mp (by kernel_rfl) (vcn_sFactsValid l k hp)) tot_fn
abbrev c_sAssertionValid:Con:=⟨[.asn],[.bool],fun (a,_)=>a.facts.length<=281474976710656/\a.atoms.length<=281474976710656,.inl fun (a,_)=>(asV a,()),fun _=>0⟩
abbrev L_sAssertionValid:List (FuncId × Con):=[(122,c_l3Atom),(123,c_sFactsValid)]
abbrev P_sAssertionValid:List (FuncId × PT):=[]
def an_sAssertionValid (a:GAsn):Nat->St->Option Ann
 | 2,se=>some { α:=Nat,ok:=fun i=>i<=a.atoms.length/\(a.atoms.take i).all atV=true,mu:=fun i=>a.atoms.length - i,i0:=fun _=>0,nx:=fun a _=>(fun i=>i+1) a,live:=[1],sets:=fun i=>[(3,sv (.int .i64 i))],mids:=[31],blks:=fun i=>[],owns:=fun i=>[],rd:=fun r _=>r,base:=100000 }
 | _,_=>none
def VC_sAssertionValid_1 (a:GAsn):Prop:=(RM [some (.blk [.d (.arr .fact a.facts),.d (.arr .atom a.atoms)])])/\(RM [])/\True/\TT
def VC_sAssertionValid_2 (a:GAsn):Prop:=True/\(((false,()):Bool × Unit)=(asV a,()))/\True/\True/\True/\True/\TF
def VC_sAssertionValid (a:GAsn) (k:Nat):Prop:=TN/\True/\True/\((0<=a.atoms.length/\(a.atoms.take 0).all atV=true)/\TT/\(RL [.s (.c (.ptr 31 0))])/\(([.s (.c (.d (.val (.int .i64 (0:Int)))))]:List S)=[.s (.c (.d (.val (.int .i64 ((0:Nat):Int)))))])/\(VC_sAssertionValid_1 a))/\(∀ i1:Nat,(i1<=a.atoms.length/\(a.atoms.take i1).all atV=true)->True/\True/\True/\True/\True/\(vcIf (decide (((i1:Nat):Int) < ((a.atoms.length:Nat):Int))) (True/\True/\True/\(0<=((i1:Nat):Int)/\((i1:Nat):Int) < ((a.atoms.length:Nat):Int))/\True/\(True/\True/\True)/\True/\(vcIf (!(atV (a.atoms.getD i1 (⟨0,0,0⟩:GAtom)))) (VC_sAssertionValid_2 a) (True/\(inK .i64 (((i1:Nat):Int)+(1:Int)))/\True/\((i1+1)<=a.atoms.length/\(a.atoms.take (i1+1)).all atV=true)/\(a.atoms.length - (i1+1) < a.atoms.length - i1)/\TT/\(RL [.s (.c (.ptr 31 0))])/\(([.s (.c (.d (.val (.int .i64 (((i1:Nat):Int)+(1:Int))))))]:List S)=[.s (.c (.d (.val (.int .i64 (((i1+1):Nat):Int)))))])/\(VC_sAssertionValid_1 a)))) (True/\True/\((a.facts.length<=281474976710656)/\True/\True)/\True/\(vcIf (fsV a.facts) (True/\True/\True/\True/\True/\True/\(((decide (((a.atoms.length:Nat):Int)<=(6:Int)),()):Bool × Unit)=(asV a,()))/\True/\True/\True/\True/\TF) (True/\(VC_sAssertionValid_2 a))))))
theorem vcn_sAssertionValid (a:GAsn) (k:Nat) (hp:a.facts.length<=281474976710656/\a.atoms.length<=281474976710656):VC_sAssertionValid a k:=by
 unfold VC_sAssertionValid VC_sAssertionValid_2 VC_sAssertionValid_1
 simp only [cln,Nat.reduceEqDiff,Nat.reduceLeDiff,Nat.reduceAdd]
 all_goals (try simp only [opn])
 all_goals (repeat' (first | apply And.intro | intro _))
 all_goals (first | omega | (simp_all;done) | grind [asV,take_all,all_take,take_full,Ty.zero])
theorem ok_sAssertionValid:FnOk Try.prog E 74 c_sAssertionValid :=
 fn_okQ (l:=L_sAssertionValid) (lp:=P_sAssertionValid) (hp:=fun _=>false) (gcs:=fun _=>none) (perm:=fun _=>[]) tabOk mix ⟨ok_l3Atom,ok_sFactsValid,trivial⟩ trivial Try.func74 rfl (by kernel_rfl) (by decide) (by kernel_rfl) (anns:=fun x _=>an_sAssertionValid x.1) (fun ⟨a,_⟩ k hp _=>Eq.mp (by kernel_rfl) (vcn_sAssertionValid a k hp)) tot_fn
abbrev c_l5Open:Con:=⟨[],[.sl .int],fun _=>True,.inl fun _=>(opens,()),fun _=>0⟩
abbrev L_l5Open:List (FuncId × Con):=[]
abbrev P_l5Open:List (FuncId × PT):=[]
def an_l5Open :Nat->St->Option Ann
 | 2,se=>some { α:=Nat,ok:=fun i=>i<=8,mu:=fun i=>8 - i,i0:=fun _=>0,nx:=fun a _=>(fun i=>i+1) a,live:=[0],sets:=fun i=>[],mids:=[0],blks:=fun i=>[],owns:=fun i=>[⟨7,.slot 1,.int,0 :: List.replicate i (-1)⟩],rd:=fun r _=>r,base:=100000 }
 | _,_=>none
def VC_l5Open (k:Nat):Prop:=TN/\(TN/\True)/\True/\((0<=8)/\TT/\(RL [.s (.c (.own 0))])/\(RL [])/\(RM [some (.sl 0 .int ([]:List Int))])/\(RM [])/\(((some ([(0:Int)]:List Int):Option (List Int))=some (0 :: List.replicate 0 (-1)))/\True)/\TT)/\(∀ i1:Nat,(i1<=8)->True/\True/\True/\(vcIf (decide ((((0 :: List.replicate i1 (-1)).length:Nat):Int)<=(8:Int))) (True/\(TN/\True)/\(TN/\TF/\TF/\((0 :: List.replicate i1 (-1)).length+([(-1:Int)]:List Int).length<=4294967296))/\True/\((i1+1)<=8)/\(8 - (i1+1) < 8 - i1)/\TT/\(RL [.s (.c (.own 0))])/\(RL [])/\(RM [some (.sl 0 .int ([]:List Int))])/\(RM [])/\(((some ((0 :: List.replicate i1 (-1)) ++ ([(-1:Int)]:List Int)):Option (List Int))=some (0 :: List.replicate (i1+1) (-1)))/\True)/\TT) (True/\True/\(((0 :: List.replicate i1 (-1),()):(List Int) × Unit)=(opens,()))/\(True/\True)/\((TF/\TF)/\True)/\True/\(True/\True)/\TF)))
theorem vcn_l5Open  (k:Nat):VC_l5Open  k:=by
 unfold VC_l5Open
 simp only [cln,Nat.reduceEqDiff,Nat.reduceLeDiff,Nat.reduceAdd]
 all_goals (try simp only [opn])
 all_goals (repeat' (first | apply And.intro | intro _))
 all_goals (repeat (cases ‹_/\_›))
 all_goals (first | omega | rfl | assumption | (simp_all;done) | skip)
 all_goals (first
  | exact open_lt ‹_› | (have h1:=open_lt ‹_›;omega) | (rw [List.replicate_succ'];rfl) | exact open_end ‹_› ‹_› | skip)
theorem ok_l5Open:FnOk Try.prog E 129 c_l5Open :=
 fn_okQ (l:=L_l5Open) (lp:=P_l5Open) (hp:=fun _=>false) (gcs:=fun _=>none) (perm:=fun _=>[]) tabOk mix trivial trivial Try.func129 rfl (by kernel_rfl) (by decide) (by kernel_rfl) (anns:=fun x _=>an_l5Open ) (fun _ k _ _=>Eq.mp (by kernel_rfl) (vcn_l5Open  k)) tot_fn
abbrev c_l5Filled:Con:=⟨[.sl .atom,.sl .int],[.sl .atom],fun (l,c,_)=>l.length<=1048576/\l.all atV=true/\c.length=9,.inl fun (l,c,_)=>(fL c l,()),fun _=>0⟩
abbrev L_l5Filled:List (FuncId × Con):=[]
abbrev P_l5Filled:List (FuncId × PT):=[]
def an_l5Filled (l:List GAtom) (c:List Int):Nat->St->Option Ann
 | 3,se=>some { α:=Nat,ok:=fun i=>i<=l.length,mu:=fun i=>l.length - i,i0:=fun _=>0,nx:=fun a _=>(fun i=>i+1) a,live:=[0,1,4],sets:=fun i=>[(6,sv (.int .i64 i))],mids:=[64],blks:=fun i=>[],owns:=fun i=>[⟨7,.slot 5,.atom,fL c (l.take i)⟩],rd:=fun r _=>r,base:=100000 }
 | _,_=>none
def VC_l5Filled_1 (i1:Nat):Prop:=([.s (.c (.d (.val (.int .i64 (((i1:Nat):Int)+(1:Int))))))]:List S)=[.s (.c (.d (.val (.int .i64 (((i1+1):Nat):Int)))))]
def VC_l5Filled_2 (c:List Int) (l:List GAtom) (i1:Nat):Prop:=True/\True/\(TN/\True)/\(TN/\TF/\TF/\((fL c (l.take i1)).length+([(⟨(l.getD i1 (⟨0,0,0⟩:GAtom)).kind,(c.getD ((l.getD i1 (⟨0,0,0⟩:GAtom)).a).toNat (0:Int)),(c.getD ((l.getD i1 (⟨0,0,0⟩:GAtom)).b).toNat (0:Int))⟩:GAtom)]:List GAtom).length<=4294967296))/\True/\True/\(inK .i64 (((i1:Nat):Int)+(1:Int)))/\True/\((i1+1)<=l.length)/\(l.length - (i1+1) < l.length - i1)/\TT/\(RL [.s (.c (.d (.arr .atom l))),.s (.c (.d (.arr .int c))),.s (.c (.own 64))])/\(VC_l5Filled_1 i1)/\(RM [some (.sl 64 .atom ([]:List GAtom))])/\(RM [])/\(((some ((fL c (l.take i1)) ++ ([(⟨(l.getD i1 (⟨0,0,0⟩:GAtom)).kind,(c.getD ((l.getD i1 (⟨0,0,0⟩:GAtom)).a).toNat (0:Int)),(c.getD ((l.getD i1 (⟨0,0,0⟩:GAtom)).b).toNat (0:Int))⟩:GAtom)]:List GAtom)):Option (List GAtom))=some (fL c (l.take (i1+1))))/\True)/\TT
def VC_l5Filled (l:List GAtom) (c:List Int) (k:Nat):Prop:=TN/\(TN/\True)/\True/\True/\((0<=l.length)/\TT/\(RL [.s (.c (.d (.arr .atom l))),.s (.c (.d (.arr .int c))),.s (.c (.own 64))])/\(([.s (.c (.d (.val (.int .i64 (0:Int)))))]:List S)=[.s (.c (.d (.val (.int .i64 ((0:Nat):Int)))))])/\(RM [some (.sl 64 .atom ([]:List GAtom))])/\(RM [])/\(((some ([]:List GAtom):Option (List GAtom))=some (fL c (l.take 0)))/\True)/\TT)/\(∀ i1:Nat,(i1<=l.length)->True/\True/\True/\True/\(vcIf (decide (((i1:Nat):Int) < ((l.length:Nat):Int))) (True/\True/\(0<=((i1:Nat):Int)/\((i1:Nat):Int) < ((l.length:Nat):Int))/\True/\True/\True/\True/\True/\(0<=((i1:Nat):Int)/\((i1:Nat):Int) < ((l.length:Nat):Int))/\True/\True/\(0<=((l.getD i1 (⟨0,0,0⟩:GAtom)).a)/\((l.getD i1 (⟨0,0,0⟩:GAtom)).a) < ((c.length:Nat):Int))/\True/\True/\True/\True/\(0<=((i1:Nat):Int)/\((i1:Nat):Int) < ((l.length:Nat):Int))/\True/\True/\(0<=((l.getD i1 (⟨0,0,0⟩:GAtom)).b)/\((l.getD i1 (⟨0,0,0⟩:GAtom)).b) < ((c.length:Nat):Int))/\True/\True/\(TN/\True)/\(TF/\TF)/\True/\True/\True/\True/\(vcIf (((l.getD i1 (⟨0,0,0⟩:GAtom)).kind) == (1:Int)) (True/\(VC_l5Filled_2 c l i1)) (True/\True/\True/\True/\True/\True/\(vcIf ((c.getD ((l.getD i1 (⟨0,0,0⟩:GAtom)).a).toNat (0:Int)) != (c.getD ((l.getD i1 (⟨0,0,0⟩:GAtom)).b).toNat (0:Int))) (VC_l5Filled_2 c l i1) (True/\(inK .i64 (((i1:Nat):Int)+(1:Int)))/\True/\((i1+1)<=l.length)/\(l.length - (i1+1) < l.length - i1)/\TT/\(RL [.s (.c (.d (.arr .atom l))),.s (.c (.d (.arr .int c))),.s (.c (.own 64))])/\(VC_l5Filled_1 i1)/\(RM [some (.sl 64 .atom ([]:List GAtom))])/\(RM [])/\(((some (fL c (l.take i1)):Option (List GAtom))=some (fL c (l.take (i1+1))))/\True)/\TT))))) (True/\True/\(((fL c (l.take i1),()):(List GAtom) × Unit)=(fL c l,()))/\(True/\True)/\((TF/\TF)/\True)/\True/\(True/\True)/\TF)))
theorem vcn_l5Filled (l:List GAtom) (c:List Int) (k:Nat) (hp:l.length<=1048576/\l.all atV=true/\c.length=9):VC_l5Filled l c k:=by
 unfold VC_l5Filled VC_l5Filled_2 VC_l5Filled_1
 simp only [cln,Nat.reduceEqDiff,Nat.reduceLeDiff,Nat.reduceAdd]
 have hV:=hp.2.1
 have hL:∀ i,(fL c (l.take i)).length<=1048576:=fun i=>Nat.le_trans (fL_len _ _) (by simp;omega)
 all_goals (try simp only [opn])
 all_goals (repeat' (first | apply And.intro | intro _))
 all_goals (repeat (cases ‹_/\_›))
 all_goals (first | omega | rfl | assumption | (simp_all;done) | skip)
 all_goals (first
  | (have h1:=atom_idx (l:=l) hV ‹_›;omega)
  | exact Nat.le_trans (hL _) (by decide)
  | (rw [fL_step (d:=⟨0,0,0⟩) ‹_›];unfold filB cl;simp_all;done)
  | (rw [fL_step (d:=⟨0,0,0⟩) ‹_›];unfold filB cl;rw [beq_eq_false_iff_ne.2 (by assumption:¬ (_:GAtom).kind=1),beq_eq_false_iff_ne.2 ‹_›];rfl)
  | (rw [fL_step (d:=⟨0,0,0⟩) ‹_›];unfold filB cl;rw [beq_eq_false_iff_ne.2 (by assumption:¬ (_:GAtom).kind=1),beq_iff_eq.2 ‹_›];rfl)
  | (rw [take_full (l:=l) ‹_›];done) | skip)
theorem ok_l5Filled:FnOk Try.prog E 107 c_l5Filled :=
 fn_okQ (l:=L_l5Filled) (lp:=P_l5Filled) (hp:=fun _=>false) (gcs:=fun _=>none) (perm:=fun _=>[]) tabOk mix trivial trivial Try.func107 rfl (by kernel_rfl) (by decide) (by kernel_rfl) (anns:=fun x _=>an_l5Filled x.1 x.2.1) (fun ⟨l,c,_⟩ k hp _=>Eq.mp (by kernel_rfl) (vcn_l5Filled l c k hp)) tot_fn
abbrev c_l5Fits:Con:=⟨[.sl .fact,.sl .int],[.bool],fun (l,c,_)=>l.length<=1048576/\l.all fV=true/\c.length=9,.inl fun (l,c,_)=>(sFit l c,()),fun _=>0⟩
abbrev L_l5Fits:List (FuncId × Con):=[]
abbrev P_l5Fits:List (FuncId × PT):=[]
def an_l5Fits (l:List GFact) (c:List Int):Nat->St->Option Ann
 | 2,se=>some { α:=Nat,ok:=fun i=>i<=l.length/\sFit (l.take i) c=true,mu:=fun i=>l.length - i,i0:=fun _=>0,nx:=fun a _=>(fun i=>i+1) a,live:=[0,1],sets:=fun i=>[(5,sv (.int .i64 i))],mids:=[],blks:=fun i=>[],owns:=fun i=>[],rd:=fun r _=>r,base:=100000 }
 | _,_=>none
def VC_l5Fits_1 (i1:Nat) (l:List GFact) (c:List Int):Prop:=True/\(inK .i64 (((i1:Nat):Int)+(1:Int)))/\True/\((i1+1)<=l.length/\sFit (l.take (i1+1)) c=true)/\(l.length - (i1+1) < l.length - i1)/\TT/\(RL [.s (.c (.d (.arr .fact l))),.s (.c (.d (.arr .int c)))])/\(([.s (.c (.d (.val (.int .i64 (((i1:Nat):Int)+(1:Int))))))]:List S)=[.s (.c (.d (.val (.int .i64 (((i1+1):Nat):Int)))))])/\(RM [])/\(RM [])/\True/\TT
def VC_l5Fits_2 (i1:Nat) (l:List GFact) (c:List Int):Prop:=True/\(VC_l5Fits_1 i1 l c)
def VC_l5Fits (l:List GFact) (c:List Int) (k:Nat):Prop:=True/\True/\((0<=l.length/\sFit (l.take 0) c=true)/\TT/\(RL [.s (.c (.d (.arr .fact l))),.s (.c (.d (.arr .int c)))])/\(([.s (.c (.d (.val (.int .i64 (0:Int)))))]:List S)=[.s (.c (.d (.val (.int .i64 ((0:Nat):Int)))))])/\(RM [])/\(RM [])/\True/\TT)/\(∀ i1:Nat,(i1<=l.length/\sFit (l.take i1) c=true)->True/\True/\True/\True/\(vcIf (decide (((i1:Nat):Int) < ((l.length:Nat):Int))) (True/\True/\True/\(0<=((i1:Nat):Int)/\((i1:Nat):Int) < ((l.length:Nat):Int))/\True/\True/\(0<=((l.getD i1 (⟨false,0,0⟩:GFact)).a)/\((l.getD i1 (⟨false,0,0⟩:GFact)).a) < ((c.length:Nat):Int))/\True/\True/\True/\True/\True/\(0<=((i1:Nat):Int)/\((i1:Nat):Int) < ((l.length:Nat):Int))/\True/\True/\(0<=((l.getD i1 (⟨false,0,0⟩:GFact)).b)/\((l.getD i1 (⟨false,0,0⟩:GFact)).b) < ((c.length:Nat):Int))/\True/\True/\True/\True/\True/\(vcIf (decide ((0:Int)<=(c.getD ((l.getD i1 (⟨false,0,0⟩:GFact)).a).toNat (0:Int)))) (True/\True/\True/\True/\(vcIf (decide ((0:Int)<=(c.getD ((l.getD i1 (⟨false,0,0⟩:GFact)).b).toNat (0:Int)))) (True/\True/\True/\True/\True/\(0<=((i1:Nat):Int)/\((i1:Nat):Int) < ((l.length:Nat):Int))/\True/\True/\True/\True/\(vcIf (((c.getD ((l.getD i1 (⟨false,0,0⟩:GFact)).a).toNat (0:Int)) == (c.getD ((l.getD i1 (⟨false,0,0⟩:GFact)).b).toNat (0:Int))) != ((l.getD i1 (⟨false,0,0⟩:GFact)).eq)) (True/\(((false,()):Bool × Unit)=(sFit l c,()))/\True/\True/\True/\True/\TF) (VC_l5Fits_1 i1 l c))) (VC_l5Fits_2 i1 l c))) (True/\True/\(VC_l5Fits_2 i1 l c)))) (True/\(((true,()):Bool × Unit)=(sFit l c,()))/\True/\True/\True/\True/\TF)))
theorem vcn_l5Fits (l:List GFact) (c:List Int) (k:Nat) (hp:l.length<=1048576/\l.all fV=true/\c.length=9):VC_l5Fits l c k:=by
 unfold VC_l5Fits VC_l5Fits_2 VC_l5Fits_1
 simp only [cln,Nat.reduceEqDiff,Nat.reduceLeDiff,Nat.reduceAdd]
 have hV:=hp.2.1
 all_goals (try simp only [opn])
 all_goals (repeat' (first | apply And.intro | intro _))
 all_goals (repeat (cases ‹_/\_›))
 all_goals (first | omega | rfl | assumption | (simp_all;done) | skip)
 all_goals (first
  | (have h1:=fact_idx (l:=l) hV ‹_›;omega)
  | (symm;exact sFit_no ‹_› ‹_› ‹_› (by unfold fh cl;rw [beq_eq_false_iff_ne];assumption))
  | (rw [sFit_step (d:=⟨false,0,0⟩) ‹_›];unfold fh cl;simp_all;done)
  | (rw [take_full (l:=l) ‹_›] at *;simp_all;done) | skip)
theorem ok_l5Fits:FnOk Try.prog E 153 c_l5Fits :=
 fn_okQ (l:=L_l5Fits) (lp:=P_l5Fits) (hp:=fun _=>false) (gcs:=fun _=>none) (perm:=fun _=>[]) tabOk mix trivial trivial Try.func153 rfl (by kernel_rfl) (by decide) (by kernel_rfl) (anns:=fun x _=>an_l5Fits x.1 x.2.1) (fun ⟨l,c,_⟩ k hp _=>Eq.mp (by kernel_rfl) (vcn_l5Fits l c k hp)) tot_fn
abbrev c_l5Early:Con:=⟨[.sl .atom,.sl .int],[.bool],fun (l,c,_)=>l.length<=1048576/\l.all atV=true/\c.length=9/\le8 c=true,.inl fun (l,c,_)=>(sEarly l c,()),fun _=>0⟩
abbrev L_l5Early:List (FuncId × Con):=[]
abbrev P_l5Early:List (FuncId × PT):=[]
def an_l5Early (l:List GAtom) (c:List Int):Nat->St->Option Ann
 | 3,se=>some { α:=Nat,ok:=fun i=>i<=l.length/\okS [] (est c (l.take i))=true,mu:=fun i=>l.length - i,i0:=fun _=>0,nx:=fun a _=>(fun i=>i+1) a,live:=[0,1],sets:=fun i=>[(6,sv (.int .i64 i))],mids:=[],blks:=fun i=>[],owns:=fun i=>[⟨7,.slot 5,.bool,fl9 (fun t=>(est c (l.take i)).contains t)⟩],rd:=fun r _=>r,base:=100000 }
 | _,_=>none
def VC_l5Early_1 (i1:Nat):Prop:=([.s (.c (.d (.val (.int .i64 (((i1:Nat):Int)+(1:Int))))))]:List S)=[.s (.c (.d (.val (.int .i64 (((i1+1):Nat):Int)))))]
def VC_l5Early_2 (i1:Nat) (l:List GAtom) (c:List Int):Prop:=True/\(inK .i64 (((i1:Nat):Int)+(1:Int)))/\True/\((i1+1)<=l.length/\okS [] (est c (l.take (i1+1)))=true)/\(l.length - (i1+1) < l.length - i1)/\TT/\(RL [.s (.c (.d (.arr .atom l))),.s (.c (.d (.arr .int c)))])/\(VC_l5Early_1 i1)/\(RM [])/\(RM [])/\(((some (fl9 (fun t=>(est c (l.take i1)).contains t)):Option (List Bool))=some (fl9 (fun t=>(est c (l.take (i1+1))).contains t)))/\True)/\TT
def VC_l5Early_3 (l:List GAtom) (c:List Int):Prop:=True/\(((false,()):Bool × Unit)=(sEarly l c,()))/\True/\True/\True/\True/\TF
def VC_l5Early_4 (c:List Int) (l:List GAtom) (i1:Nat):Prop:=0<=(c.getD ((l.getD i1 (⟨0,0,0⟩:GAtom)).a).toNat (0:Int))/\(c.getD ((l.getD i1 (⟨0,0,0⟩:GAtom)).a).toNat (0:Int)) < (((fl9 (fun t=>(est c (l.take i1)).contains t)).length:Nat):Int)
def VC_l5Early (l:List GAtom) (c:List Int) (k:Nat):Prop:=True/\(TN/\(0<=(9:Int)/\(9:Int)<=(9:Int)/\(9:Int)<=4294967296))/\True/\True/\((0<=l.length/\okS [] (est c (l.take 0))=true)/\TT/\(RL [.s (.c (.d (.arr .atom l))),.s (.c (.d (.arr .int c)))])/\(([.s (.c (.d (.val (.int .i64 (0:Int)))))]:List S)=[.s (.c (.d (.val (.int .i64 ((0:Nat):Int)))))])/\(RM [])/\(RM [])/\(((some (List.replicate 9 false):Option (List Bool))=some (fl9 (fun t=>(est c (l.take 0)).contains t)))/\True)/\TT)/\(∀ i1:Nat,(i1<=l.length/\okS [] (est c (l.take i1))=true)->True/\True/\True/\True/\(vcIf (decide (((i1:Nat):Int) < ((l.length:Nat):Int))) (True/\True/\True/\(0<=((i1:Nat):Int)/\((i1:Nat):Int) < ((l.length:Nat):Int))/\True/\True/\(0<=((l.getD i1 (⟨0,0,0⟩:GAtom)).a)/\((l.getD i1 (⟨0,0,0⟩:GAtom)).a) < ((c.length:Nat):Int))/\True/\True/\True/\True/\(0<=((i1:Nat):Int)/\((i1:Nat):Int) < ((l.length:Nat):Int))/\True/\True/\True/\True/\(vcIf (((l.getD i1 (⟨0,0,0⟩:GAtom)).kind) != (1:Int)) (True/\(VC_l5Early_2 i1 l c)) (True/\True/\True/\(vcIf (decide ((c.getD ((l.getD i1 (⟨0,0,0⟩:GAtom)).a).toNat (0:Int)) < (0:Int))) (VC_l5Early_2 i1 l c) (True/\True/\True/\(vcIf ((c.getD ((l.getD i1 (⟨0,0,0⟩:GAtom)).a).toNat (0:Int)) == (0:Int)) (True/\(VC_l5Early_3 l c)) (True/\True/\(VC_l5Early_4 c l i1)/\True/\True/\(vcIf ((fl9 (fun t=>(est c (l.take i1)).contains t)).getD (c.getD ((l.getD i1 (⟨0,0,0⟩:GAtom)).a).toNat (0:Int)).toNat false) (VC_l5Early_3 l c) (True/\True/\(VC_l5Early_4 c l i1)/\(TF/\TF/\True/\((7:Nat) ∉ ([]:List Nat)))/\True/\(inK .i64 (((i1:Nat):Int)+(1:Int)))/\True/\((i1+1)<=l.length/\okS [] (est c (l.take (i1+1)))=true)/\(l.length - (i1+1) < l.length - i1)/\TT/\(RL [.s (.c (.d (.arr .atom l))),.s (.c (.d (.arr .int c)))])/\(VC_l5Early_1 i1)/\(RM [])/\(RM [])/\(((some ((fl9 (fun t=>(est c (l.take i1)).contains t)).set (c.getD ((l.getD i1 (⟨0,0,0⟩:GAtom)).a).toNat (0:Int)).toNat true):Option (List Bool))=some (fl9 (fun t=>(est c (l.take (i1+1))).contains t)))/\True)/\TT))))))))) (True/\(((true,()):Bool × Unit)=(sEarly l c,()))/\True/\True/\True/\True/\TF)))
theorem vcn_l5Early (l:List GAtom) (c:List Int) (k:Nat) (hp:l.length<=1048576/\l.all atV=true/\c.length=9/\le8 c=true):VC_l5Early l c k:=by
 unfold VC_l5Early VC_l5Early_4 VC_l5Early_3 VC_l5Early_2 VC_l5Early_1
 simp only [cln,Nat.reduceEqDiff,Nat.reduceLeDiff,Nat.reduceAdd]
 have h8:=le8_get hp.2.2.2
 have hV:=hp.2.1
 all_goals (try simp only [opn])
 all_goals (repeat' (first | apply And.intro | intro _))
 all_goals (repeat (cases ‹_/\_›))
 all_goals (first | omega | rfl | assumption | (simp_all;done) | skip)
 all_goals (first
  | (have h1:=atom_idx (l:=l) hV ‹_›;omega)
  | (rw [early_skip (d:=⟨0,0,0⟩) ‹_› (.inl ‹_›)];done)
  | (rw [early_skip (d:=⟨0,0,0⟩) ‹_› (.inl ‹_›)];assumption)
  | (rw [early_skip (d:=⟨0,0,0⟩) ‹_› (.inr ‹_›)];done)
  | (rw [early_skip (d:=⟨0,0,0⟩) ‹_› (.inr ‹_›)];assumption)
  | exact early_no (d:=⟨0,0,0⟩) ‹_› ‹_› ‹_› ‹_› (.inl ‹_›)
  | exact early_no (d:=⟨0,0,0⟩) ‹_› ‹_› ‹_› ‹_› (.inr ‹_›)
  | exact (early_go (d:=⟨0,0,0⟩) ‹_› ‹_› ‹_› ‹_› ‹_› ‹_› ‹_›).1
  | exact (early_go (d:=⟨0,0,0⟩) ‹_› ‹_› ‹_› ‹_› ‹_› ‹_› ‹_›).2
  | (rw [fl9_len];exact Int.lt_of_le_of_lt (h8 _) (by decide))
  | (unfold sEarly;rw [take_full (l:=l) ‹_›] at *;simp_all;done) | skip)
theorem ok_l5Early:FnOk Try.prog E 154 c_l5Early :=
 fn_okQ (l:=L_l5Early) (lp:=P_l5Early) (hp:=fun _=>false) (gcs:=fun _=>none) (perm:=fun _=>[]) tabOk mix trivial trivial Try.func154 rfl (by kernel_rfl) (by decide) (by kernel_rfl) (anns:=fun x _=>an_l5Early x.1 x.2.1) (fun ⟨l,c,_⟩ k hp _=>Eq.mp (by kernel_rfl) (vcn_l5Early l c k hp)) tot_fn
end Go.Proofs.Ytopjgjelkpkmmaa
