/-
  Contracts of single functions of the program, each shown by the engine: what a call returns for arguments within the contract's bounds.
-/
import Derived.Test.YtkafaeeianofnaaProg
import Derived.KernelRfl
import Derived.Test.YtkafaeeianofnaaEc
import Derived.Test.YtkafaeeianofnaaEd
set_option linter.unusedSimpArgs false
set_option linter.unusedVariables false
set_option linter.unusedSectionVars false

namespace Go.Proofs.Ytkafaeeianofnaa
open Go.SE Go.RowKit
variable [Base]
def E:Ty->TypeId
 | .int=>3
 | .bool=>4
 | .u8=>5
 | .fact=>43
 | .atom=>119
 | .cmd=>49
 | .ints=>35
 | .asn=>0
 | .cmds=>23
 | .cpair=>78
 | .lcmd=>0
 | .xcmd=>0
 | .lfact=>0
 | .latom=>0
def tabL:List (TypeId × TI):=[
 (2,⟨1,8,.sc (.int .i64 0)⟩),
 (3,⟨1,8,.sc (.int .i64 0)⟩),
 (4,⟨1,1,.sc (.bool false)⟩),
 (5,⟨1,1,.sc (.int .u8 0)⟩),
 (7,⟨4,24,.st [.sc (.int .i64 0),.sc (.int .i64 0),.sc (.bool false),.sc (.int .u8 0)] [(0,1,false),(1,1,false),(2,1,false),(3,1,false)]⟩),
 (9,⟨1,16,.sc (.string ⟨#[]⟩)⟩),
 (12,⟨1,8,.sc (.int .u64 0)⟩),
 (13,⟨2,24,.st [.sc (.string ⟨#[]⟩),.sc (.int .u64 0)] [(0,1,false),(1,1,false)]⟩),
 (21,⟨1,4,.sc (.int .i32 0)⟩),
 (22,⟨1,24,.sl true 5 .u8⟩),
 (23,⟨1,24,.sl true 49 .cmd⟩),
 (28,⟨1,24,.sl false 63 .lcmd⟩),
 (35,⟨1,24,.sl true 3 .int⟩),
 (40,⟨2,48,.st [.sl .int,.sl .int] [(0,1,false),(1,1,false)]⟩),
 (41,⟨2,48,.st [.sl .int,.sl .int] [(0,1,false),(1,1,false)]⟩),
 (42,⟨3,24,.st [.sc (.bool false),.sc (.int .i64 0),.sc (.int .i64 0)] [(0,1,false),(1,1,false),(2,1,false)]⟩),
 (43,⟨3,24,.st [.sc (.bool false),.sc (.int .i64 0),.sc (.int .i64 0)] [(0,1,false),(1,1,false),(2,1,false)]⟩),
 (44,⟨1,24,.sl true 43 .fact⟩),
 (45,⟨1,24,.sl true 119 .atom⟩),
 (46,⟨2,48,.st [.sl .fact,.sl .atom] [(0,1,false),(1,1,false)]⟩),
 (47,⟨2,48,.st [.sl .fact,.sl .atom] [(0,1,false),(1,1,false)]⟩),
 (48,⟨10,144,.st [.sc (.int .i64 0),.sc (.int .i64 0),.sc (.int .i64 0),.sc (.bool false),.sc (.int .i64 0),.sc (.int .i64 0),.sl .fact,.sl .atom,.sl .cmd,.sl .cmd] [(0,1,false),(1,1,false),(2,1,false),(3,3,true),(6,2,true),(8,1,false),(9,1,false)]⟩),
 (49,⟨10,144,.st [.sc (.int .i64 0),.sc (.int .i64 0),.sc (.int .i64 0),.sc (.bool false),.sc (.int .i64 0),.sc (.int .i64 0),.sl .fact,.sl .atom,.sl .cmd,.sl .cmd] [(0,1,false),(1,1,false),(2,1,false),(3,3,true),(6,2,true),(8,1,false),(9,1,false)]⟩),
 (56,⟨2,48,.st [.sl .int,.sl .int] [(0,1,false),(1,1,false)]⟩),
 (57,⟨3,24,.st [.sc (.bool false),.sc (.int .i64 0),.sc (.int .i64 0)] [(0,1,false),(1,1,false),(2,1,false)]⟩),
 (58,⟨1,24,.sl false 57 .lfact⟩),
 (59,⟨1,24,.sl false 145 .latom⟩),
 (60,⟨2,48,.st [.sl .lfact,.sl .latom] [(0,1,false),(1,1,false)]⟩),
 (61,⟨2,48,.st [.sl .lfact,.sl .latom] [(0,1,false),(1,1,false)]⟩),
 (62,⟨10,144,.st [.sc (.int .i64 0),.sc (.int .i64 0),.sc (.int .i64 0),.sc (.bool false),.sc (.int .i64 0),.sc (.int .i64 0),.sl .lfact,.sl .latom,.sl .lcmd,.sl .lcmd] [(0,1,false),(1,1,false),(2,1,false),(3,3,true),(6,2,true),(8,1,false),(9,1,false)]⟩),
 (63,⟨10,144,.st [.sc (.int .i64 0),.sc (.int .i64 0),.sc (.int .i64 0),.sc (.bool false),.sc (.int .i64 0),.sc (.int .i64 0),.sl .lfact,.sl .latom,.sl .lcmd,.sl .lcmd] [(0,1,false),(1,1,false),(2,1,false),(3,3,true),(6,2,true),(8,1,false),(9,1,false)]⟩),
 (77,⟨2,48,.st [.sl .cmd,.sl .cmd] [(0,1,false),(1,1,false)]⟩),
 (78,⟨2,48,.st [.sl .cmd,.sl .cmd] [(0,1,false),(1,1,false)]⟩),
 (79,⟨1,24,.sl true 78 .cpair⟩),
 (81,⟨1,8,.sc (.pointer none)⟩),
 (82,⟨3,24,.st [.sc (.pointer none),.sc (.pointer none),.sc (.int .i64 0)] [(0,1,false),(1,1,false),(2,1,false)]⟩),
 (83,⟨3,24,.st [.sc (.pointer none),.sc (.pointer none),.sc (.int .i64 0)] [(0,1,false),(1,1,false),(2,1,false)]⟩),
 (89,⟨1,2,.sc (.int .u16 0)⟩),
 (90,⟨1,2,.sc (.int .u16 0)⟩),
 (94,⟨1,24,.sl true 4 .bool⟩),
 (102,⟨3,56,.st [.sl .int,.sl .int,.sc (.int .i64 0)] [(0,2,true),(2,1,false)]⟩),
 (103,⟨3,56,.st [.sl .int,.sl .int,.sc (.int .i64 0)] [(0,2,true),(2,1,false)]⟩),
 (113,⟨2,32,.st [.sl .u8,.sc (.int .i64 0)] [(0,1,false),(1,1,false)]⟩),
 (114,⟨2,32,.st [.sl .u8,.sc (.int .i64 0)] [(0,1,false),(1,1,false)]⟩),
 (118,⟨3,24,.st [.sc (.int .i64 0),.sc (.int .i64 0),.sc (.int .i64 0)] [(0,1,false),(1,1,false),(2,1,false)]⟩),
 (119,⟨3,24,.st [.sc (.int .i64 0),.sc (.int .i64 0),.sc (.int .i64 0)] [(0,1,false),(1,1,false),(2,1,false)]⟩),
 (122,⟨2,48,.ar 2 23 .cmds⟩),
 (145,⟨3,24,.st [.sc (.int .i64 0),.sc (.int .i64 0),.sc (.int .i64 0)] [(0,1,false),(1,1,false),(2,1,false)]⟩),
 (156,⟨1,4,.sc (.int .u32 0)⟩),
 (168,⟨1,8,.sc (.int .u64 0)⟩)]
def tab:TypeId->Option TI:=lookT tabL
theorem tab2:tab 2=some ⟨1,8,.sc (.int .i64 0)⟩:=rfl
theorem tab3:tab 3=some ⟨1,8,.sc (.int .i64 0)⟩:=rfl
theorem tab4:tab 4=some ⟨1,1,.sc (.bool false)⟩:=rfl
theorem tab5:tab 5=some ⟨1,1,.sc (.int .u8 0)⟩:=rfl
theorem tab7:tab 7=some ⟨4,24,.st [.sc (.int .i64 0),.sc (.int .i64 0),.sc (.bool false),.sc (.int .u8 0)] [(0,1,false),(1,1,false),(2,1,false),(3,1,false)]⟩:=rfl
theorem tab9:tab 9=some ⟨1,16,.sc (.string ⟨#[]⟩)⟩:=rfl
theorem tab12:tab 12=some ⟨1,8,.sc (.int .u64 0)⟩:=rfl
theorem tab13:tab 13=some ⟨2,24,.st [.sc (.string ⟨#[]⟩),.sc (.int .u64 0)] [(0,1,false),(1,1,false)]⟩:=rfl
theorem tab21:tab 21=some ⟨1,4,.sc (.int .i32 0)⟩:=rfl
theorem tab22:tab 22=some ⟨1,24,.sl true 5 .u8⟩:=rfl
theorem tab23:tab 23=some ⟨1,24,.sl true 49 .cmd⟩:=rfl
theorem tab28:tab 28=some ⟨1,24,.sl false 63 .lcmd⟩:=rfl
theorem tab35:tab 35=some ⟨1,24,.sl true 3 .int⟩:=rfl
theorem tab40:tab 40=some ⟨2,48,.st [.sl .int,.sl .int] [(0,1,false),(1,1,false)]⟩:=rfl
theorem tab41:tab 41=some ⟨2,48,.st [.sl .int,.sl .int] [(0,1,false),(1,1,false)]⟩:=rfl
theorem tab42:tab 42=some ⟨3,24,.st [.sc (.bool false),.sc (.int .i64 0),.sc (.int .i64 0)] [(0,1,false),(1,1,false),(2,1,false)]⟩:=rfl
theorem tab43:tab 43=some ⟨3,24,.st [.sc (.bool false),.sc (.int .i64 0),.sc (.int .i64 0)] [(0,1,false),(1,1,false),(2,1,false)]⟩:=rfl
theorem tab44:tab 44=some ⟨1,24,.sl true 43 .fact⟩:=rfl
theorem tab45:tab 45=some ⟨1,24,.sl true 119 .atom⟩:=rfl
theorem tab46:tab 46=some ⟨2,48,.st [.sl .fact,.sl .atom] [(0,1,false),(1,1,false)]⟩:=rfl
theorem tab47:tab 47=some ⟨2,48,.st [.sl .fact,.sl .atom] [(0,1,false),(1,1,false)]⟩:=rfl
theorem tab48:tab 48=some ⟨10,144,.st [.sc (.int .i64 0),.sc (.int .i64 0),.sc (.int .i64 0),.sc (.bool false),.sc (.int .i64 0),.sc (.int .i64 0),.sl .fact,.sl .atom,.sl .cmd,.sl .cmd] [(0,1,false),(1,1,false),(2,1,false),(3,3,true),(6,2,true),(8,1,false),(9,1,false)]⟩:=rfl
theorem tab49:tab 49=some ⟨10,144,.st [.sc (.int .i64 0),.sc (.int .i64 0),.sc (.int .i64 0),.sc (.bool false),.sc (.int .i64 0),.sc (.int .i64 0),.sl .fact,.sl .atom,.sl .cmd,.sl .cmd] [(0,1,false),(1,1,false),(2,1,false),(3,3,true),(6,2,true),(8,1,false),(9,1,false)]⟩:=rfl
theorem tab56:tab 56=some ⟨2,48,.st [.sl .int,.sl .int] [(0,1,false),(1,1,false)]⟩:=rfl
theorem tab57:tab 57=some ⟨3,24,.st [.sc (.bool false),.sc (.int .i64 0),.sc (.int .i64 0)] [(0,1,false),(1,1,false),(2,1,false)]⟩:=rfl
theorem tab58:tab 58=some ⟨1,24,.sl false 57 .lfact⟩:=rfl
theorem tab59:tab 59=some ⟨1,24,.sl false 145 .latom⟩:=rfl
theorem tab60:tab 60=some ⟨2,48,.st [.sl .lfact,.sl .latom] [(0,1,false),(1,1,false)]⟩:=rfl
theorem tab61:tab 61=some ⟨2,48,.st [.sl .lfact,.sl .latom] [(0,1,false),(1,1,false)]⟩:=rfl
theorem tab62:tab 62=some ⟨10,144,.st [.sc (.int .i64 0),.sc (.int .i64 0),.sc (.int .i64 0),.sc (.bool false),.sc (.int .i64 0),.sc (.int .i64 0),.sl .lfact,.sl .latom,.sl .lcmd,.sl .lcmd] [(0,1,false),(1,1,false),(2,1,false),(3,3,true),(6,2,true),(8,1,false),(9,1,false)]⟩:=rfl
theorem tab63:tab 63=some ⟨10,144,.st [.sc (.int .i64 0),.sc (.int .i64 0),.sc (.int .i64 0),.sc (.bool false),.sc (.int .i64 0),.sc (.int .i64 0),.sl .lfact,.sl .latom,.sl .lcmd,.sl .lcmd] [(0,1,false),(1,1,false),(2,1,false),(3,3,true),(6,2,true),(8,1,false),(9,1,false)]⟩:=rfl
theorem tab77:tab 77=some ⟨2,48,.st [.sl .cmd,.sl .cmd] [(0,1,false),(1,1,false)]⟩:=rfl
theorem tab78:tab 78=some ⟨2,48,.st [.sl .cmd,.sl .cmd] [(0,1,false),(1,1,false)]⟩:=rfl
theorem tab79:tab 79=some ⟨1,24,.sl true 78 .cpair⟩:=rfl
theorem tab81:tab 81=some ⟨1,8,.sc (.pointer none)⟩:=rfl
theorem tab82:tab 82=some ⟨3,24,.st [.sc (.pointer none),.sc (.pointer none),.sc (.int .i64 0)] [(0,1,false),(1,1,false),(2,1,false)]⟩:=rfl
theorem tab83:tab 83=some ⟨3,24,.st [.sc (.pointer none),.sc (.pointer none),.sc (.int .i64 0)] [(0,1,false),(1,1,false),(2,1,false)]⟩:=rfl
theorem tab89:tab 89=some ⟨1,2,.sc (.int .u16 0)⟩:=rfl
theorem tab90:tab 90=some ⟨1,2,.sc (.int .u16 0)⟩:=rfl
theorem tab94:tab 94=some ⟨1,24,.sl true 4 .bool⟩:=rfl
theorem tab102:tab 102=some ⟨3,56,.st [.sl .int,.sl .int,.sc (.int .i64 0)] [(0,2,true),(2,1,false)]⟩:=rfl
theorem tab103:tab 103=some ⟨3,56,.st [.sl .int,.sl .int,.sc (.int .i64 0)] [(0,2,true),(2,1,false)]⟩:=rfl
theorem tab113:tab 113=some ⟨2,32,.st [.sl .u8,.sc (.int .i64 0)] [(0,1,false),(1,1,false)]⟩:=rfl
theorem tab114:tab 114=some ⟨2,32,.st [.sl .u8,.sc (.int .i64 0)] [(0,1,false),(1,1,false)]⟩:=rfl
theorem tab118:tab 118=some ⟨3,24,.st [.sc (.int .i64 0),.sc (.int .i64 0),.sc (.int .i64 0)] [(0,1,false),(1,1,false),(2,1,false)]⟩:=rfl
theorem tab119:tab 119=some ⟨3,24,.st [.sc (.int .i64 0),.sc (.int .i64 0),.sc (.int .i64 0)] [(0,1,false),(1,1,false),(2,1,false)]⟩:=rfl
theorem tab122:tab 122=some ⟨2,48,.ar 2 23 .cmds⟩:=rfl
theorem tab145:tab 145=some ⟨3,24,.st [.sc (.int .i64 0),.sc (.int .i64 0),.sc (.int .i64 0)] [(0,1,false),(1,1,false),(2,1,false)]⟩:=rfl
theorem tab156:tab 156=some ⟨1,4,.sc (.int .u32 0)⟩:=rfl
theorem tab168:tab 168=some ⟨1,8,.sc (.int .u64 0)⟩:=rfl
theorem tabOk:TabOk Try.prog E tab:=tab_ok (by kernel_rfl)
theorem mix:Try.prog.follows .mixedOrders=true:=by kernel_rfl
end Go.Proofs.Ytkafaeeianofnaa

namespace Go.Proofs.Ytkafaeeianofnaa
open Go.SE Go.RowKit
variable [Base]
set_option linter.unusedSectionVars false
set_option linter.unusedSimpArgs false
set_option linter.unusedVariables false
set_option maxHeartbeats 1000000
set_option maxRecDepth 100000
theorem vc_l18Open (code:List UInt8):vc tab (lookF []) (fun _=>none) (fun _=>[]) (bodyOf Try.f41) (entry [.c (.d (.arr .u8 code))] none) openQ:=by
 dsimp only [bodyOf,Try.f41]
 simp only [openQ,pickK,openE,openM,true_and,and_true,SE.lookF,tab2,tab3,tab4,tab5,tab7,tab9,tab12,tab13,tab21,tab22,tab23,tab28,tab35,tab40,tab41,tab42,tab43,tab44,tab45,tab46,tab47,tab48,tab49,tab56,tab57,tab58,tab59,tab60,tab61,tab62,tab63,tab77,tab78,tab79,tab81,tab82,tab83,tab89,tab90,tab94,tab102,tab103,tab113,tab114,tab118,tab119,tab122,tab145,tab156,tab168,SE.entry,SE.envOf,SE.rdOf,Option.get_some,SE.vc,SE.vcReg,SE.vcLoop,SE.condK,SE.seqK,SE.blockK,SE.vcOps,SE.vcStep,SE.vcOp,SE.vcTr,SE.vcDet_some,SE.vcDet_none,SE.vcIf_true,SE.vcIf_false,SE.vcEach,SE.pickOps,SE.gslot,SE.trOp,SE.moveId,SE.trMove,SE.trPick,SE.trAlloc,SE.trBox,SE.trBuild,SE.trBuildSlice,SE.trLoad,SE.trStore,SE.trNilCheck,SE.trBin,SE.trUn,SE.trConvert,SE.trFieldAddr,SE.trField,SE.trIndexAddr,SE.trIndex,SE.trSlice,SE.trMakeSlice,SE.trExtract,SE.trLen,SE.trAppend,SE.trCopy,SE.trFn,SE.trCall,SE.argsS,SE.ev,SE.constS,SE.junk,SE.sv,SE.upd_app,SE.adds,SE.sets,SE.nid,SE.St.app,SE.St.put,SE.free,SE.freeL,SE.allFree,SE.rids,SE.AK.rids,SE.castL,SE.rdl,SE.AK.dec,SE.decs,SE.AK.enc,SE.encs,SE.AK.res,SE.ress,SE.pack1,SE.zcells,SE.zeroOf,SE.partCells,SE.putc,SE.fills,SE.datas,SE.ownDC,SE.wkDC,SE.wkS,SE.xfix,SE.tightM,SE.rdn,SE.rdnC,SE.elemOf,SE.elemsOf,SE.elemX,SE.zeroC,SE.notSpent,SE.cellsAt,SE.weak,SE.dcellsAt,SE.slAt,SE.rdPlus,SE.intAt,SE.updElem,SE.kill,SE.noJunk,SE.inK,SE.binI,SE.shf,SE.isShift,SE.eqCells,SE.aggS,SE.intOp,SE.nested,SE.hasRdr,SE.refsC,SE.refsCs,SE.ownsC,SE.refsAr,SE.rdFits,SE.costIf,SE.Con.post,SE.Con.det,SE.Ty.cells,SE.Ty.sz,SE.Ty.zero,SE.Ty.flat,SE.Ty.dec,SE.retOk,SE.loadsS,SE.loadS,SE.decRs,SE.decR,SE.outC,SE.rdC,SE.allDiff,SE.notIn,SE.notFrozen,SE.apartL,SE.rdEnd,SE.firstReg,SE.headC,SE.fitsC,SE.idsC,SE.keepE,SE.keepM,SE.keepB,SE.inL,SE.puts,SE.ownRes,SE.ownEnv,SE.renL,SE.srcId,SE.lookR,SE.envSame,SE.envSets,SE.memSame,SE.memBlks,SE.memOwns,SE.famsOf,SE.allIn,SE.closedE,SE.closedV,SE.closedM,SE.closedR,SE.rdLe,SE.S.refs,SE.S0.refs,SE.CV.refs,SE.refsL,SE.refsT,SE.S.ren,SE.S0.ren,SE.CV.ren,SE.Res.refs,SE.Res.ren,min_i64,max_i64,min_u16,max_u16,min_u8,max_u8,min_u64,max_u64,S.s.injEq,S0.c.injEq,CV.d.injEq,DC.val.injEq,Value.int.injEq,Value.bool.injEq,Value.string.injEq,eta_fact,eta_atom,eta_asn,eta_state,List.mem_cons,List.mem_nil_iff,or_false,false_or,or_true,true_or,List.map_cons,List.map_nil,Option.map_some,Option.map_none,Option.bind_some,Option.getD_some,Option.getD_none,Nat.reduceEqDiff,Nat.reduceAdd,Nat.reduceMul,Nat.reduceLeDiff,↓reduceIte,reduceCtorEq,true_and,and_true,and_self,forall_const,implies_true,true_implies,List.getElem?_toArray,List.getElem?_cons_succ,List.getElem?_cons_zero,List.append_nil,List.nil_append,List.cons_append,List.length_cons,List.length_nil,List.take_succ_cons,List.take_zero,List.drop_succ_cons,List.drop_zero,List.set_cons_zero,List.set_cons_succ,List.map_cons,List.map_nil,Nat.add_zero,Nat.zero_add,forall_eq,Prod.forall,Bool.not_true,Bool.not_false,Nat.lt_irrefl,Nat.zero_lt_succ,List.singleton_append,Prod.mk.injEq,Nat.zero_mul,Nat.one_mul,Nat.reducePow,Option.some.injEq,not_false_eq_true,Int.toNat_natCast,Nat.sub_zero,Nat.le_refl,Bool.or_false,Bool.false_or,Bool.or_true,Bool.true_or,Bool.and_true,Bool.true_and,Bool.and_false,Bool.false_and,Bool.or_self,Bool.and_self,List.append_eq,and_false,false_and]
 all_goals (try simp only [vcIf_iff,decide_eq_true_eq,decide_eq_false_iff_not])
 all_goals (repeat' (first | apply And.intro | intro _))
 all_goals (first | omega | (simp_all;done) | grind)
theorem open_l18Open:OpenOk Try.prog 41 :=
 open_ok tabOk mix (perm:=fun _=>[]) Try.func41 (by kernel_rfl) (by kernel_rfl) (by decide) (by kernel_rfl) vc_l18Open
theorem fn_l18Open : ∃ fn c, Try.prog.funcs[41]? = some fn /\ (fn.name == "runtime.NumGoroutine") = false /\ fn.body = some c := ⟨_, _, Try.func41, by kernel_rfl, rfl⟩
abbrev c_l8NoInv:Con:=⟨[.asn],[.bool],fun (a,_)=>a.facts.length<=281474976710656/\a.atoms.length<=281474976710656,.inl fun (a,_)=>(noA a,()),fun _=>0⟩
abbrev L_l8NoInv:List (FuncId × Con):=[]
abbrev P_l8NoInv:List (FuncId × PT):=[]
def VC_l8NoInv (a:GAsn) (k:Nat):Prop:=TN/\True/\True/\True/\True/\True/\True/\(vcIf (((a.facts.length:Nat):Int) == (0:Int)) (True/\True/\True/\True/\True/\True/\(((((a.atoms.length:Nat):Int) == (0:Int),()):Bool × Unit)=(noA a,()))/\True/\True/\True/\True/\TF) (True/\True/\(((false,()):Bool × Unit)=(noA a,()))/\True/\True/\True/\True/\TF))
theorem vcn_l8NoInv (a:GAsn) (k:Nat) (hp:a.facts.length<=281474976710656/\a.atoms.length<=281474976710656):VC_l8NoInv a k:=by
 unfold VC_l8NoInv
 simp only [cln,Nat.reduceEqDiff,Nat.reduceLeDiff,Nat.reduceAdd]
 all_goals (try simp only [vcIf_iff,decide_eq_true_eq,decide_eq_false_iff_not,bne_iff_ne,ne_eq,beq_iff_eq,beq_eq_false_iff_ne,bne_eq_false_iff_eq,Bool.not_eq_true',Bool.not_eq_false',Int.ofNat_lt,Int.natCast_inj])
 all_goals (repeat' (first | apply And.intro | intro _))
 all_goals (repeat (cases ‹_/\_›))
 all_goals (first | omega | (simp_all;done) | grind [pvV,noA,fokC,fokB,prV,cvB,cvN] | skip)
theorem ok_l8NoInv:FnOk Try.prog E 84 c_l8NoInv :=
 fn_okQ (l:=L_l8NoInv) (lp:=P_l8NoInv) (hp:=fun _=>false) (gcs:=fun _=>none) (perm:=fun _=>[]) tabOk mix trivial trivial Try.func84 rfl (by kernel_rfl) (by decide) (by kernel_rfl) (anns:=fun x _=>fun _ _=>none) (fun ⟨a,_⟩ k hp _=>Eq.mp (by kernel_rfl) (vcn_l8NoInv a k hp)) tot_fn
abbrev c_l8NoFact:Con:=⟨[.fact],[.bool],fun _=>True,.inl fun (f,_)=>(decide (f=⟨false,0,0⟩),()),fun _=>0⟩
abbrev L_l8NoFact:List (FuncId × Con):=[]
abbrev P_l8NoFact:List (FuncId × PT):=[]
def VC_l8NoFact (f:GFact) (k:Nat):Prop:=TN/\True/\True/\True/\True/\True/\((((f.eq == false) && ((f.a == (0:Int)) && ((f.b == (0:Int)) && true)),()):Bool × Unit)=(decide (f=⟨false,0,0⟩),()))/\True/\True/\True/\True/\TF
theorem vcn_l8NoFact (f:GFact) (k:Nat):VC_l8NoFact f k:=by
 unfold VC_l8NoFact
 simp only [cln,Nat.reduceEqDiff,Nat.reduceLeDiff,Nat.reduceAdd]
 exact (gf_zero' f).symm
theorem ok_l8NoFact:FnOk Try.prog E 103 c_l8NoFact :=
 fn_okQ (l:=L_l8NoFact) (lp:=P_l8NoFact) (hp:=fun _=>false) (gcs:=fun _=>none) (perm:=fun _=>[]) tabOk mix trivial trivial Try.func103 rfl (by kernel_rfl) (by decide) (by kernel_rfl) (anns:=fun x _=>fun _ _=>none) (fun ⟨f,_⟩ k _ _=>Eq.mp (by kernel_rfl) (vcn_l8NoFact f k)) tot_fn
abbrev c_l8Prog:Con:=⟨[.int],[.bool],fun _=>True,.inl fun (t,_)=>(pvV t,()),fun _=>0⟩
abbrev L_l8Prog:List (FuncId × Con):=[]
abbrev P_l8Prog:List (FuncId × PT):=[]
def VC_l8Prog (t:Int) (k:Nat):Prop:=True/\True/\True/\True/\(vcIf (decide ((1:Int)<=t)) (True/\True/\True/\True/\(((decide (t<=(4:Int)),()):Bool × Unit)=(pvV t,()))/\True/\True/\True/\True/\TF) (True/\True/\(((false,()):Bool × Unit)=(pvV t,()))/\True/\True/\True/\True/\TF))
theorem vcn_l8Prog (t:Int) (k:Nat):VC_l8Prog t k:=by
 unfold VC_l8Prog
 simp only [cln,Nat.reduceEqDiff,Nat.reduceLeDiff,Nat.reduceAdd]
 all_goals (try simp only [vcIf_iff,decide_eq_true_eq,decide_eq_false_iff_not,bne_iff_ne,ne_eq,beq_iff_eq,beq_eq_false_iff_ne,bne_eq_false_iff_eq,Bool.not_eq_true',Bool.not_eq_false',Int.ofNat_lt,Int.natCast_inj])
 all_goals (repeat' (first | apply And.intro | intro _))
 all_goals (repeat (cases ‹_/\_›))
 all_goals (first | omega | (simp_all;done) | grind [pvV,noA,fokC,fokB,prV,cvB,cvN] | skip)
theorem ok_l8Prog:FnOk Try.prog E 104 c_l8Prog :=
 fn_okQ (l:=L_l8Prog) (lp:=P_l8Prog) (hp:=fun _=>false) (gcs:=fun _=>none) (perm:=fun _=>[]) tabOk mix trivial trivial Try.func104 rfl (by kernel_rfl) (by decide) (by kernel_rfl) (anns:=fun x _=>fun _ _=>none) (fun ⟨t,_⟩ k _ _=>Eq.mp (by kernel_rfl) (vcn_l8Prog t k)) tot_fn
abbrev c_l1Is:Con:=⟨[.int],[.bool],fun _=>True,.inl fun (t,_)=>(isT t,()),fun _=>0⟩
abbrev L_l1Is:List (FuncId × Con):=[]
abbrev P_l1Is:List (FuncId × PT):=[]
def VC_l1Is (t:Int) (k:Nat):Prop:=True/\True/\True/\True/\(vcIf (decide ((0:Int)<=t)) (True/\True/\True/\True/\(((decide (t<=(8:Int)),()):Bool × Unit)=(isT t,()))/\True/\True/\True/\True/\TF) (True/\True/\(((false,()):Bool × Unit)=(isT t,()))/\True/\True/\True/\True/\TF))
theorem vcn_l1Is (t:Int) (k:Nat):VC_l1Is t k:=by
 unfold VC_l1Is
 simp only [cln,Nat.reduceEqDiff,Nat.reduceLeDiff,Nat.reduceAdd]
 cases h:decide (0<=t) <;> simp [vcIf,isT,h]
theorem ok_l1Is:FnOk Try.prog E 105 c_l1Is :=
 fn_okQ (l:=L_l1Is) (lp:=P_l1Is) (hp:=fun _=>false) (gcs:=fun _=>none) (perm:=fun _=>[]) tabOk mix trivial trivial Try.func105 rfl (by kernel_rfl) (by decide) (by kernel_rfl) (anns:=fun x _=>fun _ _=>none) (fun ⟨t,_⟩ k _ _=>Eq.mp (by kernel_rfl) (vcn_l1Is t k)) tot_fn
abbrev c_l8Basic:Con:=⟨[.cmd],[.bool],fun (c,_)=>BdC c,.inl fun (c,_)=>(fokB c,()),fun _=>0⟩
abbrev L_l8Basic:List (FuncId × Con):=[(84,c_l8NoInv),(103,c_l8NoFact),(104,c_l8Prog),(105,c_l1Is)]
abbrev P_l8Basic:List (FuncId × PT):=[]
def VC_l8Basic_1 (c:GCmd):Prop:=True/\(((false,()):Bool × Unit)=(fokB c,()))/\True/\True/\True/\True/\TF
def VC_l8Basic_2 (c:GCmd):Prop:=True/\(VC_l8Basic_1 c)
def VC_l8Basic_3 (c:GCmd):Prop:=True/\True/\(VC_l8Basic_2 c)
def VC_l8Basic_4 (c:GCmd):Prop:=True/\True/\(True/\True/\True)/\True/\True/\((((isT c.b),()):Bool × Unit)=(fokB c,()))/\True/\True/\True/\True/\TF
def VC_l8Basic_5 (c:GCmd):Prop:=True/\True/\(True/\True/\True)/\True/\(vcIf (pvV c.a) (VC_l8Basic_4 c) (VC_l8Basic_2 c))
def VC_l8Basic_6 (c:GCmd):Prop:=True/\True/\True/\True/\True/\(((c.b == (0:Int),()):Bool × Unit)=(fokB c,()))/\True/\True/\True/\True/\TF
def VC_l8Basic_7 (c:GCmd):Prop:=True/\True/\(vcIf (c.kind == (3:Int)) (True/\True/\(True/\True/\True)/\True/\(vcIf (isT c.a) (VC_l8Basic_4 c) (VC_l8Basic_2 c))) (True/\True/\(vcIf (c.kind == (4:Int)) (True/\True/\(True/\True/\True)/\True/\(vcIf (pvV c.a) (VC_l8Basic_6 c) (VC_l8Basic_2 c))) (True/\True/\(vcIf (c.kind == (5:Int)) (True/\True/\(True/\True/\True)/\True/\(vcIf (isT c.a) (VC_l8Basic_6 c) (VC_l8Basic_2 c))) (VC_l8Basic_1 c))))))
def VC_l8Basic (c:GCmd) (k:Nat):Prop:=TN/\True/\True/\True/\(True/\True/\True)/\True/\True/\(vcIf (!(decide (c.test=⟨false,0,0⟩))) (True/\True/\(VC_l8Basic_3 c)) (True/\True/\((c.inv.facts.length<=281474976710656/\c.inv.atoms.length<=281474976710656)/\True/\True)/\True/\True/\True/\(vcIf (!(noA c.inv)) (VC_l8Basic_3 c) (True/\True/\True/\True/\True/\True/\(vcIf (decide ((0:Int) < ((c.body.length:Nat):Int))) (VC_l8Basic_2 c) (True/\True/\True/\True/\True/\(vcIf (decide ((0:Int) < ((c.els.length:Nat):Int))) (VC_l8Basic_1 c) (True/\True/\True/\True/\(vcIf (c.kind == (1:Int)) (vcIf (c.kind == (1:Int)) (VC_l8Basic_5 c) (VC_l8Basic_7 c)) (True/\True/\(vcIf (c.kind == (2:Int)) (VC_l8Basic_5 c) (VC_l8Basic_7 c))))))))))))
theorem vcn_l8Basic (c:GCmd) (k:Nat) (hp:BdC c):VC_l8Basic c k:=by
 unfold VC_l8Basic VC_l8Basic_7 VC_l8Basic_6 VC_l8Basic_5 VC_l8Basic_4 VC_l8Basic_3 VC_l8Basic_2 VC_l8Basic_1
 simp only [cln,Nat.reduceEqDiff,Nat.reduceLeDiff,Nat.reduceAdd,GCmd.eta]
 have b1:=hp.f
 have b2:=hp.a
 all_goals (try simp only [vcIf_iff,decide_eq_true_eq,decide_eq_false_iff_not,bne_iff_ne,ne_eq,beq_iff_eq,beq_eq_false_iff_ne,bne_eq_false_iff_eq,Bool.not_eq_true',Bool.not_eq_false',Int.ofNat_lt,Int.natCast_inj])
 all_goals (repeat' (first | apply And.intro | intro _))
 all_goals (repeat (cases ‹_/\_›))
 all_goals (first | omega | (simp_all;done) | grind [pvV,noA,fokC,fokB,prV,cvB,cvN] | skip)
theorem ok_l8Basic:FnOk Try.prog E 63 c_l8Basic :=
 fn_okQ (l:=L_l8Basic) (lp:=P_l8Basic) (hp:=fun _=>false) (gcs:=fun _=>none) (perm:=fun _=>[]) tabOk mix ⟨ok_l8NoInv,ok_l8NoFact,ok_l8Prog,ok_l1Is,trivial⟩ trivial Try.func63 rfl (by kernel_rfl) (by decide) (by kernel_rfl) (anns:=fun x _=>fun _ _=>none) (fun ⟨c,_⟩ k hp _=>Eq.mp (by kernel_rfl) (vcn_l8Basic c k hp)) tot_fn
abbrev c_sFactValid:Con:=⟨[.fact],[.bool],fun _=>True,.inl fun (f,_)=>(fV f,()),fun _=>0⟩
abbrev L_sFactValid:List (FuncId × Con):=[(105,c_l1Is)]
abbrev P_sFactValid:List (FuncId × PT):=[]
def VC_sFactValid (f:GFact) (k:Nat):Prop:=TN/\True/\True/\True/\(True/\True/\True)/\True/\(vcIf (isT f.a) (True/\True/\(True/\True/\True)/\True/\True/\((((isT f.b),()):Bool × Unit)=(fV f,()))/\True/\True/\True/\True/\TF) (True/\True/\(((false,()):Bool × Unit)=(fV f,()))/\True/\True/\True/\True/\TF))
theorem vcn_sFactValid (f:GFact) (k:Nat):VC_sFactValid f k:=by
 unfold VC_sFactValid
 simp only [cln,Nat.reduceEqDiff,Nat.reduceLeDiff,Nat.reduceAdd]
 cases h:isT f.a <;> simp [vcIf,fV,h]
theorem ok_sFactValid:FnOk Try.prog E 83 c_sFactValid :=
 fn_okQ (l:=L_sFactValid) (lp:=P_sFactValid) (hp:=fun _=>false) (gcs:=fun _=>none) (perm:=fun _=>[]) tabOk mix ⟨ok_l1Is,trivial⟩ trivial Try.func83 rfl (by kernel_rfl) (by decide) (by kernel_rfl) (anns:=fun x _=>fun _ _=>none) (fun ⟨f,_⟩ k _ _=>Eq.mp (by kernel_rfl) (vcn_sFactValid f k)) tot_fn
abbrev c_l3Atom:Con:=⟨[.atom],[.bool],fun _=>True,.inl fun (x,_)=>(atV x,()),fun _=>0⟩
abbrev L_l3Atom:List (FuncId × Con):=[(105,c_l1Is)]
abbrev P_l3Atom:List (FuncId × PT):=[]
def VC_l3Atom_1 (x:GAtom):Prop:=True/\True/\(((false,()):Bool × Unit)=(atV x,()))/\True/\True/\True/\True/\TF
def VC_l3Atom_2 (x:GAtom):Prop:=True/\True/\(True/\True/\True)/\True/\True/\(vcIf (isT x.a) (True/\True/\(True/\True/\True)/\True/\True/\((((isT x.b),()):Bool × Unit)=(atV x,()))/\True/\True/\True/\True/\TF) (VC_l3Atom_1 x))
def VC_l3Atom (x:GAtom) (k:Nat):Prop:=TN/\True/\True/\True/\True/\True/\(vcIf (x.kind == (1:Int)) (True/\True/\(VC_l3Atom_2 x)) (True/\True/\True/\True/\True/\(vcIf (x.kind == (2:Int)) (VC_l3Atom_2 x) (True/\True/\(VC_l3Atom_1 x)))))
theorem vcn_l3Atom (x:GAtom) (k:Nat):VC_l3Atom x k:=by
 unfold VC_l3Atom VC_l3Atom_2 VC_l3Atom_1
 simp only [cln,Nat.reduceEqDiff,Nat.reduceLeDiff,Nat.reduceAdd]
 all_goals (try simp only [opn])
 all_goals (repeat' (first | apply And.intro | intro _))
 all_goals (first | omega | (simp_all;done) | grind [atV])
theorem ok_l3Atom:FnOk Try.prog E 122 c_l3Atom :=
 fn_okQ (l:=L_l3Atom) (lp:=P_l3Atom) (hp:=fun _=>false) (gcs:=fun _=>none) (perm:=fun _=>[]) tabOk mix ⟨ok_l1Is,trivial⟩ trivial Try.func122 rfl (by kernel_rfl) (by decide) (by kernel_rfl) (anns:=fun x _=>fun _ _=>none) (fun ⟨x,_⟩ k _ _=>Eq.mp (by kernel_rfl) (vcn_l3Atom x k)) tot_fn
abbrev c_sFactsValid:Con:=⟨[.sl .fact],[.bool],fun (l,_)=>l.length<=281474976710656,.inl fun (l,_)=>(fsV l,()),fun _=>0⟩
abbrev L_sFactsValid:List (FuncId × Con):=[(83,c_sFactValid)]
abbrev P_sFactsValid:List (FuncId × PT):=[]
def an_sFactsValid (l:List GFact):Nat->St->Option Ann
 | 2,se=>some { α:=Nat,ok:=fun i=>i<=l.length/\(l.take i).all fV=true,mu:=fun i=>l.length - i,i0:=fun _=>0,nx:=fun a _=>(fun i=>i+1) a,live:=[0],sets:=fun i=>[(3,sv (.int .i64 i))],mids:=[],blks:=fun i=>[],owns:=fun i=>[],rd:=fun r _=>r,base:=100000 }
 | _,_=>none
def VC_sFactsValid (l:List GFact) (k:Nat):Prop:=True/\True/\((0<=l.length/\(l.take 0).all fV=true)/\TT/\(RL [.s (.c (.d (.arr .fact l)))])/\(([.s (.c (.d (.val (.int .i64 (0:Int)))))]:List S)=[.s (.c (.d (.val (.int .i64 ((0:Nat):Int)))))])/\(RM [])/\(RM [])/\True/\TT)/\(∀ i1:Nat,(i1<=l.length/\(l.take i1).all fV=true)->True/\True/\True/\True/\(vcIf (decide (((i1:Nat):Int) < ((l.length:Nat):Int))) (True/\True/\(0<=((i1:Nat):Int)/\((i1:Nat):Int) < ((l.length:Nat):Int))/\True/\(True/\True/\True)/\True/\(vcIf (!(fV (l.getD i1 (⟨false,0,0⟩:GFact)))) (True/\(((false,()):Bool × Unit)=(fsV l,()))/\True/\True/\True/\True/\TF) (True/\(inK .i64 (((i1:Nat):Int)+(1:Int)))/\True/\((i1+1)<=l.length/\(l.take (i1+1)).all fV=true)/\(l.length - (i1+1) < l.length - i1)/\TT/\(RL [.s (.c (.d (.arr .fact l)))])/\(([.s (.c (.d (.val (.int .i64 (((i1:Nat):Int)+(1:Int))))))]:List S)=[.s (.c (.d (.val (.int .i64 (((i1+1):Nat):Int)))))])/\(RM [])/\(RM [])/\True/\TT))) (True/\True/\True/\True/\(((decide (((l.length:Nat):Int)<=(12:Int)),()):Bool × Unit)=(fsV l,()))/\True/\True/\True/\True/\TF)))
theorem vcn_sFactsValid (l:List GFact) (k:Nat) (hp:l.length<=281474976710656):VC_sFactsValid l k:=by
 unfold VC_sFactsValid
 simp only [cln,Nat.reduceEqDiff,Nat.reduceLeDiff,Nat.reduceAdd]
 all_goals (try simp only [opn])
 all_goals (repeat' (first | apply And.intro | intro _))
 all_goals (first | omega | (simp_all;done) | grind [fsV,take_all,all_take,take_full,Ty.zero])
theorem ok_sFactsValid:FnOk Try.prog E 123 c_sFactsValid :=
 fn_okQ (l:=L_sFactsValid) (lp:=P_sFactsValid) (hp:=fun _=>false) (gcs:=fun _=>none) (perm:=fun _=>[]) tabOk mix ⟨ok_sFactValid,trivial⟩ trivial Try.func123 rfl (by kernel_rfl) (by decide) (by kernel_rfl) (anns:=fun x _=>an_sFactsValid x.1) (fun ⟨l,_⟩ k hp _=>Eq.mp (by kernel_rfl) (vcn_sFactsValid l k hp)) tot_fn
abbrev c_sAssertionValid:Con:=⟨[.asn],[.bool],fun (a,_)=>a.facts.length<=281474976710656/\a.atoms.length<=281474976710656,.inl fun (a,_)=>(asV a,()),fun _=>0⟩
abbrev L_sAssertionValid:List (FuncId × Con):=[(122,c_l3Atom),(123,c_sFactsValid)]
abbrev P_sAssertionValid:List (FuncId × PT):=[]
def an_sAssertionValid (a:GAsn):Nat->St->Option Ann
 | 2,se=>some { α:=Nat,ok:=fun i=>i<=a.atoms.length/\(a.atoms.take i).all atV=true,mu:=fun i=>a.atoms.length - i,i0:=fun _=>0,nx:=fun a _=>(fun i=>i+1) a,live:=[1],sets:=fun i=>[(3,sv (.int .i64 i))],mids:=[31],blks:=fun i=>[],owns:=fun i=>[],rd:=fun r _=>r,base:=100000 }
 | _,_=>none
def VC_sAssertionValid_1 (a:GAsn):Prop:=(RM [some (.blk [.d (.arr .fact a.facts),.d (.arr .atom a.atoms)])])/\(RM [])/\True/\TT
def VC_sAssertionValid_2 (a:GAsn):Prop:=True/\(((false,()):Bool × Unit)=(asV a,()))/\True/\True/\True/\True/\TF
def VC_sAssertionValid (a:GAsn) (k:Nat):Prop:=TN/\True/\True/\((0<=a.atoms.length/\(a.atoms.take 0).all atV=true)/\TT/\(RL [.s (.c (.ptr 31 0))])/\(([.s (.c (.d (.val (.int .i64 (0:Int)))))]:List S)=[.s (.c (.d (.val (.int .i64 ((0:Nat):Int)))))])/\(VC_sAssertionValid_1 a))/\(∀ i1:Nat,(i1<=a.atoms.length/\(a.atoms.take i1).all atV=true)->True/\True/\True/\True/\True/\(vcIf (decide (((i1:Nat):Int) < ((a.atoms.length:Nat):Int))) (True/\True/\True/\(0<=((i1:Nat):Int)/\((i1:Nat):Int) < ((a.atoms.length:Nat):Int))/\True/\(True/\True/\True)/\True/\(vcIf (!(atV (a.atoms.getD i1 (⟨0,0,0⟩:GAtom)))) (VC_sAssertionValid_2 a) (True/\(inK .i64 (((i1:Nat):Int)+(1:Int)))/\True/\((i1+1)<=a.atoms.length/\(a.atoms.take (i1+1)).all atV=true)/\(a.atoms.length - (i1+1) < a.atoms.length - i1)/\TT/\(RL [.s (.c (.ptr 31 0))])/\(([.s (.c (.d (.val (.int .i64 (((i1:Nat):Int)+(1:Int))))))]:List S)=[.s (.c (.d (.val (.int .i64 (((i1+1):Nat):Int)))))])/\(VC_sAssertionValid_1 a)))) (True/\True/\((a.facts.length<=281474976710656)/\True/\True)/\True/\(vcIf (fsV a.facts) (True/\True/\True/\True/\True/\True/\(((decide (((a.atoms.length:Nat):Int)<=(6:Int)),()):Bool × Unit)=(asV a,()))/\True/\True/\True/\True/\TF) (True/\(VC_sAssertionValid_2 a))))))
theorem vcn_sAssertionValid (a:GAsn) (k:Nat) (hp:a.facts.length<=281474976710656/\a.atoms.length<=281474976710656):VC_sAssertionValid a k:=by
 unfold VC_sAssertionValid VC_sAssertionValid_2 VC_sAssertionValid_1
 simp only [cln,Nat.reduceEqDiff,Nat.reduceLeDiff,Nat.reduceAdd]
 all_goals (try simp only [opn])
 all_goals (repeat' (first | apply And.intro | intro _))
 all_goals (first | omega | (simp_all;done) | grind [asV,take_all,all_take,take_full,Ty.zero])
theorem ok_sAssertionValid:FnOk Try.prog E 85 c_sAssertionValid :=
 fn_okQ (l:=L_sAssertionValid) (lp:=P_sAssertionValid) (hp:=fun _=>false) (gcs:=fun _=>none) (perm:=fun _=>[]) tabOk mix ⟨ok_l3Atom,ok_sFactsValid,trivial⟩ trivial Try.func85 rfl (by kernel_rfl) (by decide) (by kernel_rfl) (anns:=fun x _=>an_sAssertionValid x.1) (fun ⟨a,_⟩ k hp _=>Eq.mp (by kernel_rfl) (vcn_sAssertionValid a k hp)) tot_fn
abbrev c_l8Shape:Con:=⟨[.sl .cmd,.int],[.bool],fun (l,d,_)=>BdL l/\0<=d/\d<=4,.inl fun (l,d,_)=>(shL d l,()),fun _=>0⟩
abbrev mu_l8Shape:Args c_l8Shape.aks->Nat:=fun (l,d,_)=>ndL l
abbrev L_l8Shape (m:Nat):List (FuncId × Con):=[(47,c_l8Shape.lim mu_l8Shape m),(63,c_l8Basic),(83,c_sFactValid),(84,c_l8NoInv),(85,c_sAssertionValid)]
abbrev P_l8Shape:List (FuncId × PT):=[]
def an_l8Shape (l:List GCmd) (d:Int):Nat->St->Option Ann
 | 4,se=>some { α:=Nat,ok:=fun i=>i<=l.length/\(1<=d ∨ l.length=0)/\shL d (l.take i)=true,mu:=fun i=>l.length - i,i0:=fun _=>0,nx:=fun a _=>(fun i=>i+1) a,live:=[0,1],sets:=fun i=>[(5,sv (.int .i64 i))],mids:=[],blks:=fun i=>[],owns:=fun i=>[],rd:=fun r _=>r,base:=100000 }
 | _,_=>none
def VC_l8Shape_1 (d:Int) (l:List GCmd):Prop:=True/\(((false,()):Bool × Unit)=(shL d l,()))/\True/\True/\True/\True/\TF
def VC_l8Shape_2 (d:Int) (l:List GCmd):Prop:=True/\(VC_l8Shape_1 d l)
def VC_l8Shape_3 (d:Int) (l:List GCmd):Prop:=True/\True/\(VC_l8Shape_2 d l)
def VC_l8Shape_4 (d:Int) (l:List GCmd):Prop:=True/\True/\(VC_l8Shape_3 d l)
def VC_l8Shape_5 (l:List GCmd) (i1:Nat):Prop:=(((l.getD i1 (Ty.zero .cmd)).inv).facts.length<=281474976710656/\((l.getD i1 (Ty.zero .cmd)).inv).atoms.length<=281474976710656)/\True/\True
def VC_l8Shape_6 (d:Int) (l:List GCmd) (i1:Nat) (m:Nat):Prop:=True/\True/\True/\(inK .i64 (d - (1:Int)))/\(((BdL ((l.getD i1 (Ty.zero .cmd)).body)/\0<=(d - (1:Int))/\(d - (1:Int))<=4)/\ndL ((l.getD i1 (Ty.zero .cmd)).body) < m)/\True/\True)/\True/\True/\(vcIf (!(shL (d - (1:Int)) ((l.getD i1 (Ty.zero .cmd)).body))) (VC_l8Shape_2 d l) (True/\True/\True/\(inK .i64 (d - (1:Int)))/\(((BdL ((l.getD i1 (Ty.zero .cmd)).els)/\0<=(d - (1:Int))/\(d - (1:Int))<=4)/\ndL ((l.getD i1 (Ty.zero .cmd)).els) < m)/\True/\True)/\True/\True/\(vcIf (!(shL (d - (1:Int)) ((l.getD i1 (Ty.zero .cmd)).els))) (VC_l8Shape_1 d l) (True/\(inK .i64 (((i1:Nat):Int)+(1:Int)))/\True/\((i1+1)<=l.length/\(1<=d ∨ l.length=0)/\shL d (l.take (i1+1))=true)/\(l.length - (i1+1) < l.length - i1)/\TT/\(RL [.s (.c (.d (.arr .cmd l))),.s (.c (.d (.val (.int .i64 d))))])/\(([.s (.c (.d (.val (.int .i64 (((i1:Nat):Int)+(1:Int))))))]:List S)=[.s (.c (.d (.val (.int .i64 (((i1+1):Nat):Int)))))])/\(RM [])/\(RM [])/\True/\TT))))
def VC_l8Shape_7 (l:List GCmd) (d:Int) (m:Nat):Prop:=True/\((0<=l.length/\(1<=d ∨ l.length=0)/\shL d (l.take 0)=true)/\TT/\(RL [.s (.c (.d (.arr .cmd l))),.s (.c (.d (.val (.int .i64 d))))])/\(([.s (.c (.d (.val (.int .i64 (0:Int)))))]:List S)=[.s (.c (.d (.val (.int .i64 ((0:Nat):Int)))))])/\(RM [])/\(RM [])/\True/\TT)/\(∀ i1:Nat,(i1<=l.length/\(1<=d ∨ l.length=0)/\shL d (l.take i1)=true)->True/\True/\True/\True/\(vcIf (decide (((i1:Nat):Int) < ((l.length:Nat):Int))) (True/\True/\(0<=((i1:Nat):Int)/\((i1:Nat):Int) < ((l.length:Nat):Int))/\True/\(TN/\TN/\TN/\TN/\TN/\True)/\(TF/\TF)/\True/\True/\True/\True/\(vcIf (((l.getD i1 (Ty.zero .cmd)).kind) == (6:Int)) (True/\True/\True/\True/\(vcIf (((l.getD i1 (Ty.zero .cmd)).a) != (0:Int)) (VC_l8Shape_4 d l) (True/\True/\True/\True/\True/\(vcIf (((l.getD i1 (Ty.zero .cmd)).b) != (0:Int)) (VC_l8Shape_3 d l) (True/\True/\(True/\True/\True)/\True/\True/\True/\(vcIf (!(fV ((l.getD i1 (Ty.zero .cmd)).test))) (VC_l8Shape_2 d l) (True/\True/\(VC_l8Shape_5 l i1)/\True/\True/\(vcIf (!(noA ((l.getD i1 (Ty.zero .cmd)).inv))) (VC_l8Shape_1 d l) (VC_l8Shape_6 d l i1 m))))))))) (True/\True/\(vcIf (((l.getD i1 (Ty.zero .cmd)).kind) == (7:Int)) (True/\True/\True/\True/\(vcIf (((l.getD i1 (Ty.zero .cmd)).a) != (0:Int)) (True/\True/\(VC_l8Shape_4 d l)) (True/\True/\True/\True/\True/\(vcIf (((l.getD i1 (Ty.zero .cmd)).b) != (0:Int)) (VC_l8Shape_4 d l) (True/\True/\(True/\True/\True)/\True/\True/\True/\(vcIf (!(fV ((l.getD i1 (Ty.zero .cmd)).test))) (VC_l8Shape_3 d l) (True/\True/\(VC_l8Shape_5 l i1)/\True/\True/\True/\(vcIf (!(asV ((l.getD i1 (Ty.zero .cmd)).inv))) (VC_l8Shape_2 d l) (True/\True/\True/\True/\True/\(vcIf (decide ((0:Int) < ((((l.getD i1 (Ty.zero .cmd)).els).length:Nat):Int))) (VC_l8Shape_1 d l) (VC_l8Shape_6 d l i1 m))))))))))) (True/\((BdC (GCmd.mk ((l.getD i1 (Ty.zero .cmd)).kind) ((l.getD i1 (Ty.zero .cmd)).a) ((l.getD i1 (Ty.zero .cmd)).b) ((l.getD i1 (Ty.zero .cmd)).test) ((l.getD i1 (Ty.zero .cmd)).inv) ((l.getD i1 (Ty.zero .cmd)).body) ((l.getD i1 (Ty.zero .cmd)).els)))/\True/\True)/\True/\(vcIf (!(fokB (GCmd.mk ((l.getD i1 (Ty.zero .cmd)).kind) ((l.getD i1 (Ty.zero .cmd)).a) ((l.getD i1 (Ty.zero .cmd)).b) ((l.getD i1 (Ty.zero .cmd)).test) ((l.getD i1 (Ty.zero .cmd)).inv) ((l.getD i1 (Ty.zero .cmd)).body) ((l.getD i1 (Ty.zero .cmd)).els)))) (VC_l8Shape_1 d l) (VC_l8Shape_6 d l i1 m))))))) (True/\(((true,()):Bool × Unit)=(shL d l,()))/\True/\True/\True/\True/\TF)))
def VC_l8Shape (l:List GCmd) (d:Int) (m:Nat) (k:Nat):Prop:=True/\True/\True/\True/\(vcIf (decide (d < (1:Int))) (True/\True/\True/\True/\(vcIf (decide ((0:Int) < ((l.length:Nat):Int))) (VC_l8Shape_1 d l) (VC_l8Shape_7 l d m))) (True/\(VC_l8Shape_7 l d m)))
theorem vcn_l8Shape (l:List GCmd) (d:Int) (m:Nat) (k:Nat) (hp:(BdL l/\0<=d/\d<=4)/\ndL l < m+1):VC_l8Shape l d m k:=by
 unfold VC_l8Shape VC_l8Shape_7 VC_l8Shape_6 VC_l8Shape_5 VC_l8Shape_4 VC_l8Shape_3 VC_l8Shape_2 VC_l8Shape_1
 simp only [cln,Nat.reduceEqDiff,Nat.reduceLeDiff,Nat.reduceAdd,GCmd.eta]
 have hl:=hp.1.1.len
 have hg:∀ i,i < l.length->BdC (l.getD i (Ty.zero .cmd))/\ndC (l.getD i (Ty.zero .cmd))<=ndL l/\BdL (l.getD i (Ty.zero .cmd)).body/\BdL (l.getD i (Ty.zero .cmd)).els/\(l.getD i (Ty.zero .cmd)).inv.facts.length<=281474976710656/\(l.getD i (Ty.zero .cmd)).inv.atoms.length<=281474976710656 :=
  fun i hi=>⟨hp.1.1.get hi,ndL_get hi,(hp.1.1.get hi).b,(hp.1.1.get hi).e,(hp.1.1.get hi).f,(hp.1.1.get hi).a⟩
 have hn:∀ i,ndC (l.getD i (Ty.zero .cmd))=1+ndL (l.getD i (Ty.zero .cmd)).body+ndL (l.getD i (Ty.zero .cmd)).els:=fun i=>ndC_eq _
 have hs:=fun (i:Nat) (hi:i < l.length) (h1:1<=d)=>shL_step (d:=d) (z:=Ty.zero .cmd) h1 hi
 have hc:=fun (i:Nat)=>shC_eq d (l.getD i (Ty.zero .cmd))
 have hnot:=fun (i:Nat) (hi:i < l.length) (h:shC d (l.getD i (Ty.zero .cmd))=false)=>shL_not (d:=d) hi h
 have hz:=fun (h:d < 1) (h2:0 < l.length)=>shL_zero h h2
 all_goals (try simp only [vcIf_iff,decide_eq_true_eq,decide_eq_false_iff_not,bne_iff_ne,ne_eq,beq_iff_eq,beq_eq_false_iff_ne,bne_eq_false_iff_eq,Bool.not_eq_true',Bool.not_eq_false',Int.ofNat_lt,Int.natCast_inj])
 all_goals (repeat' (first | apply And.intro | intro _))
 all_goals (repeat (cases ‹_/\_›))
 all_goals (first | omega | (simp_all;done) | grind [fokC,shL_nil,List.take_length] | skip)
theorem ok_l8Shape:FnOk Try.prog E 47 c_l8Shape :=
 fn_rec (mu:=mu_l8Shape) (fun m ih=>fn_okQ (con:=c_l8Shape.lim mu_l8Shape (m+1)) (fn:=Try.f47) (l:=L_l8Shape m) (lp:=P_l8Shape) (hp:=fun _=>false) (gcs:=fun _=>none) (perm:=fun _=>[]) tabOk mix ⟨ih,ok_l8Basic,ok_sFactValid,ok_l8NoInv,ok_sAssertionValid,trivial⟩ trivial Try.func47 rfl (by kernel_rfl) (show c_l8Shape.aks.length<=Try.f47.ntmps by decide) (by kernel_rfl) (anns:=fun x _=>an_l8Shape x.1 x.2.1) (fun ⟨l,d,_⟩ k hp _=>Eq.mp (by kernel_rfl) (vcn_l8Shape l d m k hp)) tot_fn) ⟨_,_,Try.func47,by kernel_rfl,rfl⟩ tot_fn
abbrev c_l8Count:Con:=⟨[.sl .cmd,.int],[.int],fun (l,d,_)=>BdL l/\0<=d/\d<=4/\ndL l<=1048576,.inl fun (l,d,_)=>((cnL d l:Int),()),fun _=>0⟩
abbrev mu_l8Count:Args c_l8Count.aks->Nat:=fun (l,d,_)=>ndL l
abbrev L_l8Count (m:Nat):List (FuncId × Con):=[(48,c_l8Count.lim mu_l8Count m)]
abbrev P_l8Count:List (FuncId × PT):=[]
def an_l8Count (l:List GCmd) (d:Int):Nat->St->Option Ann
 | 3,se=>some { α:=Nat,ok:=fun i=>i<=l.length/\(i=0 ∨ 1<=d),mu:=fun i=>l.length - i,i0:=fun _=>0,nx:=fun a _=>(fun i=>i+1) a,live:=[0,1,4],sets:=fun i=>[(6,sv (.int .i64 i)),(5,sv (.int .i64 (cnL d (l.take i))))],mids:=[],blks:=fun i=>[],owns:=fun i=>[],rd:=fun r _=>r,base:=100000 }
 | _,_=>none
def VC_l8Count_1 (l:List GCmd) (d:Int):Prop:=RL [.s (.c (.d (.arr .cmd l))),.s (.c (.d (.val (.int .i64 d)))),.s (.c (.d (.val (.int .i64 (0:Int)))))]
def VC_l8Count_2 (d:Int) (l:List GCmd) (i1:Nat):Prop:=True/\True/\((((cnL d (l.take i1):Int),()):Int × Unit)=((cnL d l:Int),()))/\True/\True/\True/\True/\TF
def VC_l8Count (l:List GCmd) (d:Int) (m:Nat) (k:Nat):Prop:=True/\True/\True/\((0<=l.length/\(0=0 ∨ 1<=d))/\TT/\(VC_l8Count_1 l d)/\(([.s (.c (.d (.val (.int .i64 (0:Int))))),.s (.c (.d (.val (.int .i64 (0:Int)))))]:List S)=[.s (.c (.d (.val (.int .i64 ((0:Nat):Int))))),.s (.c (.d (.val (.int .i64 (cnL d (l.take 0):Int)))))])/\(RM [])/\(RM [])/\True/\TT)/\(∀ i1:Nat,(i1<=l.length/\(i1=0 ∨ 1<=d))->True/\True/\True/\True/\True/\(vcIf (decide (((i1:Nat):Int) < ((l.length:Nat):Int))) (True/\True/\True/\(vcIf (decide ((0:Int) < d)) (True/\(inK .i64 ((cnL d (l.take i1):Int)+(1:Int)))/\True/\True/\(0<=((i1:Nat):Int)/\((i1:Nat):Int) < ((l.length:Nat):Int))/\True/\True/\True/\(inK .i64 (d - (1:Int)))/\(((BdL ((l.getD i1 (Ty.zero .cmd)).body)/\0<=(d - (1:Int))/\(d - (1:Int))<=4/\ndL ((l.getD i1 (Ty.zero .cmd)).body)<=1048576)/\ndL ((l.getD i1 (Ty.zero .cmd)).body) < m)/\True/\True)/\(inK .i64 (((cnL d (l.take i1):Int)+(1:Int))+(cnL (d - (1:Int)) ((l.getD i1 (Ty.zero .cmd)).body):Int)))/\True/\True/\(0<=((i1:Nat):Int)/\((i1:Nat):Int) < ((l.length:Nat):Int))/\True/\True/\True/\(inK .i64 (d - (1:Int)))/\(((BdL ((l.getD i1 (Ty.zero .cmd)).els)/\0<=(d - (1:Int))/\(d - (1:Int))<=4/\ndL ((l.getD i1 (Ty.zero .cmd)).els)<=1048576)/\ndL ((l.getD i1 (Ty.zero .cmd)).els) < m)/\True/\True)/\(inK .i64 ((((cnL d (l.take i1):Int)+(1:Int))+(cnL (d - (1:Int)) ((l.getD i1 (Ty.zero .cmd)).body):Int))+(cnL (d - (1:Int)) ((l.getD i1 (Ty.zero .cmd)).els):Int)))/\True/\True/\(inK .i64 (((i1:Nat):Int)+(1:Int)))/\True/\((i1+1)<=l.length/\((i1+1)=0 ∨ 1<=d))/\(l.length - (i1+1) < l.length - i1)/\TT/\(VC_l8Count_1 l d)/\(([.s (.c (.d (.val (.int .i64 (((i1:Nat):Int)+(1:Int)))))),.s (.c (.d (.val (.int .i64 ((((cnL d (l.take i1):Int)+(1:Int))+(cnL (d - (1:Int)) ((l.getD i1 (Ty.zero .cmd)).body):Int))+(cnL (d - (1:Int)) ((l.getD i1 (Ty.zero .cmd)).els):Int))))))]:List S)=[.s (.c (.d (.val (.int .i64 (((i1+1):Nat):Int))))),.s (.c (.d (.val (.int .i64 (cnL d (l.take (i1+1)):Int)))))])/\(RM [])/\(RM [])/\True/\TT) (VC_l8Count_2 d l i1))) (True/\(VC_l8Count_2 d l i1))))
theorem vcn_l8Count (l:List GCmd) (d:Int) (m:Nat) (k:Nat) (hp:(BdL l/\0<=d/\d<=4/\ndL l<=1048576)/\ndL l < m+1):VC_l8Count l d m k:=by
 unfold VC_l8Count VC_l8Count_2 VC_l8Count_1
 simp only [cln,Nat.reduceEqDiff,Nat.reduceLeDiff,Nat.reduceAdd]
 have hl:=hp.1.1.len
 have hg:∀ i,i < l.length->ndC (l.getD i (Ty.zero .cmd))<=ndL l/\BdL (l.getD i (Ty.zero .cmd)).body/\BdL (l.getD i (Ty.zero .cmd)).els :=
  fun i hi=>⟨ndL_get hi,(hp.1.1.get hi).b,(hp.1.1.get hi).e⟩
 have hn:∀ i,ndC (l.getD i (Ty.zero .cmd))=1+ndL (l.getD i (Ty.zero .cmd)).body+ndL (l.getD i (Ty.zero .cmd)).els:=fun i=>ndC_eq _
 have hs:=fun (i:Nat) (hi:i < l.length) (h1:1<=d)=>cnL_step (d:=d) (z:=Ty.zero .cmd) h1 hi
 have hc:=fun (i:Nat)=>cnC_eq d (l.getD i (Ty.zero .cmd))
 have hz:=fun (h:¬ 1<=d)=>cnL_low h l
 have hb:=fun (i:Nat)=>cnL_le (d - 1) (l.getD i (Ty.zero .cmd)).body
 have he:=fun (i:Nat)=>cnL_le (d - 1) (l.getD i (Ty.zero .cmd)).els
 have ht:=fun (i:Nat)=>cnL_le d (l.take i)
 have hu:=fun (i:Nat)=>ndL_take_le l i
 all_goals (try simp only [vcIf_iff,decide_eq_true_eq,decide_eq_false_iff_not,bne_iff_ne,ne_eq,beq_iff_eq,beq_eq_false_iff_ne,bne_eq_false_iff_eq,Bool.not_eq_true',Bool.not_eq_false',Int.ofNat_lt,Int.natCast_inj])
 all_goals (repeat' (first | apply And.intro | intro _))
 all_goals (repeat (cases ‹_/\_›))
 all_goals (first | omega | (simp_all;done) | grind [cnL_nil,List.take_length] | skip)
theorem ok_l8Count:FnOk Try.prog E 48 c_l8Count :=
 fn_rec (mu:=mu_l8Count) (fun m ih=>fn_okQ (con:=c_l8Count.lim mu_l8Count (m+1)) (fn:=Try.f48) (l:=L_l8Count m) (lp:=P_l8Count) (hp:=fun _=>false) (gcs:=fun _=>none) (perm:=fun _=>[]) tabOk mix ⟨ih,trivial⟩ trivial Try.func48 rfl (by kernel_rfl) (show c_l8Count.aks.length<=Try.f48.ntmps by decide) (by kernel_rfl) (anns:=fun x _=>an_l8Count x.1 x.2.1) (fun ⟨l,d,_⟩ k hp _=>Eq.mp (by kernel_rfl) (vcn_l8Count l d m k hp)) tot_fn) ⟨_,_,Try.func48,by kernel_rfl,rfl⟩ tot_fn
abbrev c_sProgramValid:Con:=⟨[.sl .cmd],[.bool],fun (l,_)=>BdL l/\ndL l<=1048576,.inl fun (l,_)=>(prV l,()),fun _=>0⟩
abbrev L_sProgramValid:List (FuncId × Con):=[(47,c_l8Shape),(48,c_l8Count)]
abbrev P_sProgramValid:List (FuncId × PT):=[]
def VC_sProgramValid (l:List GCmd) (k:Nat):Prop:=True/\True/\((BdL l/\0<=(4:Int)/\(4:Int)<=4)/\True/\True)/\True/\(vcIf (shL (4:Int) l) (True/\((BdL l/\0<=(4:Int)/\(4:Int)<=4/\ndL l<=1048576)/\True/\True)/\True/\True/\True/\(((decide ((cnL (4:Int) l:Int)<=(16:Int)),()):Bool × Unit)=(prV l,()))/\True/\True/\True/\True/\TF) (True/\True/\(((false,()):Bool × Unit)=(prV l,()))/\True/\True/\True/\True/\TF))
theorem vcn_sProgramValid (l:List GCmd) (k:Nat) (hp:BdL l/\ndL l<=1048576):VC_sProgramValid l k:=by
 unfold VC_sProgramValid
 simp only [cln,Nat.reduceEqDiff,Nat.reduceLeDiff,Nat.reduceAdd]
 all_goals (try simp only [vcIf_iff,decide_eq_true_eq,decide_eq_false_iff_not,bne_iff_ne,ne_eq,beq_iff_eq,beq_eq_false_iff_ne,bne_eq_false_iff_eq,Bool.not_eq_true',Bool.not_eq_false',Int.ofNat_lt,Int.natCast_inj])
 all_goals (repeat' (first | apply And.intro | intro _))
 all_goals (repeat (cases ‹_/\_›))
 all_goals (first | omega | (simp_all;done) | grind [prV,cvB,cvN,cnL_sh] | skip)
theorem ok_sProgramValid:FnOk Try.prog E 18 c_sProgramValid :=
 fn_okQ (l:=L_sProgramValid) (lp:=P_sProgramValid) (hp:=fun _=>false) (gcs:=fun _=>none) (perm:=fun _=>[]) tabOk mix ⟨ok_l8Shape,ok_l8Count,trivial⟩ trivial Try.func18 rfl (by kernel_rfl) (by decide) (by kernel_rfl) (anns:=fun x _=>fun _ _=>none) (fun ⟨l,_⟩ k hp _=>Eq.mp (by kernel_rfl) (vcn_sProgramValid l k hp)) tot_fn
abbrev c_pick:Con:=⟨[.rdr,.int],[.int],fun _=>True,.inr fun (_,n,_) (r,_)=>pickP n r,fun _=>1⟩
theorem vc_pick (code:List UInt8) (v:Value) (p n:Int) (k:Nat) (h1:code.length<=2000) (h2:0<=p) (h3:p<=k) (h4:k+1<=rdLimit):vc tab (lookF []) (fun _=>none) (fun _=>[]) (bodyOf Try.f43) (pickSt code v p n) (pickQ code v p n):=by
 have h5:p<=1099511627776:=by have:k+1<=1099511627776:=h4;omega
 dsimp only [bodyOf,Try.f43,rdOf]
 simp only [pickSt,pickQ,pickK,pickM,pickR,pickP,true_and,and_true,SE.lookF,tab2,tab3,tab4,tab5,tab7,tab9,tab12,tab13,tab21,tab22,tab23,tab28,tab35,tab40,tab41,tab42,tab43,tab44,tab45,tab46,tab47,tab48,tab49,tab56,tab57,tab58,tab59,tab60,tab61,tab62,tab63,tab77,tab78,tab79,tab81,tab82,tab83,tab89,tab90,tab94,tab102,tab103,tab113,tab114,tab118,tab119,tab122,tab145,tab156,tab168,SE.entry,SE.envOf,SE.rdOf,Option.get_some,SE.vc,SE.vcReg,SE.vcLoop,SE.condK,SE.seqK,SE.blockK,SE.vcOps,SE.vcStep,SE.vcOp,SE.vcTr,SE.vcDet_some,SE.vcDet_none,SE.vcIf_true,SE.vcIf_false,SE.vcEach,SE.pickOps,SE.gslot,SE.trOp,SE.moveId,SE.trMove,SE.trPick,SE.trAlloc,SE.trBox,SE.trBuild,SE.trBuildSlice,SE.trLoad,SE.trStore,SE.trNilCheck,SE.trBin,SE.trUn,SE.trConvert,SE.trFieldAddr,SE.trField,SE.trIndexAddr,SE.trIndex,SE.trSlice,SE.trMakeSlice,SE.trExtract,SE.trLen,SE.trAppend,SE.trCopy,SE.trFn,SE.trCall,SE.argsS,SE.ev,SE.constS,SE.junk,SE.sv,SE.upd_app,SE.adds,SE.sets,SE.nid,SE.St.app,SE.St.put,SE.free,SE.freeL,SE.allFree,SE.rids,SE.AK.rids,SE.castL,SE.rdl,SE.AK.dec,SE.decs,SE.AK.enc,SE.encs,SE.AK.res,SE.ress,SE.pack1,SE.zcells,SE.zeroOf,SE.partCells,SE.putc,SE.fills,SE.datas,SE.ownDC,SE.wkDC,SE.wkS,SE.xfix,SE.tightM,SE.rdn,SE.rdnC,SE.elemOf,SE.elemsOf,SE.elemX,SE.zeroC,SE.notSpent,SE.cellsAt,SE.weak,SE.dcellsAt,SE.slAt,SE.rdPlus,SE.intAt,SE.updElem,SE.kill,SE.noJunk,SE.inK,SE.binI,SE.shf,SE.isShift,SE.eqCells,SE.aggS,SE.intOp,SE.nested,SE.hasRdr,SE.refsC,SE.refsCs,SE.ownsC,SE.refsAr,SE.rdFits,SE.costIf,SE.Con.post,SE.Con.det,SE.Ty.cells,SE.Ty.sz,SE.Ty.zero,SE.Ty.flat,SE.Ty.dec,SE.retOk,SE.loadsS,SE.loadS,SE.decRs,SE.decR,SE.outC,SE.rdC,SE.allDiff,SE.notIn,SE.notFrozen,SE.apartL,SE.rdEnd,SE.firstReg,SE.headC,SE.fitsC,SE.idsC,SE.keepE,SE.keepM,SE.keepB,SE.inL,SE.puts,SE.ownRes,SE.ownEnv,SE.renL,SE.srcId,SE.lookR,SE.envSame,SE.envSets,SE.memSame,SE.memBlks,SE.memOwns,SE.famsOf,SE.allIn,SE.closedE,SE.closedV,SE.closedM,SE.closedR,SE.rdLe,SE.S.refs,SE.S0.refs,SE.CV.refs,SE.refsL,SE.refsT,SE.S.ren,SE.S0.ren,SE.CV.ren,SE.Res.refs,SE.Res.ren,min_i64,max_i64,min_u16,max_u16,min_u8,max_u8,min_u64,max_u64,S.s.injEq,S0.c.injEq,CV.d.injEq,DC.val.injEq,Value.int.injEq,Value.bool.injEq,Value.string.injEq,eta_fact,eta_atom,eta_asn,eta_state,List.mem_cons,List.mem_nil_iff,or_false,false_or,or_true,true_or,List.map_cons,List.map_nil,Option.map_some,Option.map_none,Option.bind_some,Option.getD_some,Option.getD_none,Nat.reduceEqDiff,Nat.reduceAdd,Nat.reduceMul,Nat.reduceLeDiff,↓reduceIte,reduceCtorEq,true_and,and_true,and_self,forall_const,implies_true,true_implies,List.getElem?_toArray,List.getElem?_cons_succ,List.getElem?_cons_zero,List.append_nil,List.nil_append,List.cons_append,List.length_cons,List.length_nil,List.take_succ_cons,List.take_zero,List.drop_succ_cons,List.drop_zero,List.set_cons_zero,List.set_cons_succ,List.map_cons,List.map_nil,Nat.add_zero,Nat.zero_add,forall_eq,Prod.forall,Bool.not_true,Bool.not_false,Nat.lt_irrefl,Nat.zero_lt_succ,List.singleton_append,Prod.mk.injEq,Nat.zero_mul,Nat.one_mul,Nat.reducePow,Option.some.injEq,not_false_eq_true,Int.toNat_natCast,Nat.sub_zero,Nat.le_refl,Bool.or_false,Bool.false_or,Bool.or_true,Bool.true_or,Bool.and_true,Bool.true_and,Bool.and_false,Bool.false_and,Bool.or_self,Bool.and_self,List.append_eq,and_false,false_and]
 all_goals (try simp only [vcIf_iff,decide_eq_true_eq,decide_eq_false_iff_not,bne_iff_ne,ne_eq,beq_iff_eq,beq_eq_false_iff_ne])
 have hq:p+1 - 1=p:=by omega
 simp only [hq]
 have hA:=byte_bd code
 generalize hL:(code.length:Int)=L at *
 have hL0:0<=L:=by omega
 have hm:∀ x:Int,0<=x->¬ L=0->0<=x.tmod L/\x.tmod L < L:=fun x h0 h1=>tmod_bd h0 (by omega)
 refine ⟨by omega,fun _ _=>by omega,fun hn=>⟨fun _ _=>by omega,fun hl=>⟨by omega,fun hpl=>?_,fun hpl=>?_⟩⟩⟩
 ·have a1:=hA p.toNat
  have m1:=tmod_bd (n:=n) a1.1 (by omega)
  generalize ((code.getD p.toNat 0).toNat:Int)=A at *
  exact ⟨by omega,by omega,by omega,fun _=>m1,fun h=>by omega⟩
 ·have m1:=hm p h2 hl
  have m2:=hm (p * 7+3) (by omega) hl
  have a1:=hA (p.tmod L).toNat
  have a2:=hA ((p * 7+3).tmod L).toNat
  have d1:=tdiv_bd (x:=p) (n:=L) h2 (by omega)
  generalize ((code.getD (p.tmod L).toNat 0).toNat:Int)=A at *
  generalize ((code.getD ((p * 7+3).tmod L).toNat 0).toNat:Int)=B at *
  generalize p.tdiv L=D at *
  have d2:=tdiv_bd (x:=A * 131+B * 1117+p * 29+D * 53) (n:=64) (by omega) (by omega)
  have x1:=xor_i64_pos (a:=A * 131+B * 1117+p * 29+D * 53) (b:=(A * 131+B * 1117+p * 29+D * 53).tdiv 64) (by omega) (by omega) d2.1 (by omega)
  have m3:=tmod_bd (n:=n) x1 (by omega)
  repeat' (first | apply And.intro | intro _)
  all_goals (first | assumption | omega | exact m3.1 | exact m3.2)
theorem ok_pick:FnOk Try.prog E 43 c_pick :=
 pick_ok tabOk mix (perm:=fun _=>[]) Try.func43 (by kernel_rfl) (by decide) (by kernel_rfl) (by decide) (by kernel_rfl) (fun code v p n k h1 h2 h3 h4=>vc_pick code v p n k h1 h2 h3 h4)
abbrev c_num:Con:=⟨[.rdr,.sl .int],[.int],fun (rr,l,_)=>0 < l.length/\l.length<=1000,.inr fun (rr,l,_) r=>r.1 ∈ l,fun (rr,l,_)=>1⟩
abbrev L_num:List (FuncId × Con):=[(43,c_pick)]
abbrev P_num:List (FuncId × PT):=[]
def VC_num (rr:Unit) (l:List Int) (k:Nat):Prop:=True/\True/\True/\True/\True/\(True/\(k+1<=1099511627776)/\True)/\(∀ r1:Int × Unit,(pickP ((l.length:Nat):Int) r1.1)->(0<=r1.1/\r1.1 < ((l.length:Nat):Int))/\True/\True/\((l.getD r1.1.toNat (0:Int)) ∈ l)/\True/\True/\True/\True/\(k+1<=k+1))
theorem vcn_num (rr:Unit) (l:List Int) (k:Nat) (hp:0 < l.length/\l.length<=1000) (hk:k+(1)<=1099511627776):VC_num rr l k:=by
 unfold VC_num
 simp only [cln,Nat.reduceEqDiff,Nat.reduceLeDiff,Nat.reduceAdd]
 all_goals (try simp only [opn])
 all_goals (repeat' (first | apply And.intro | intro _))
 all_goals (first | omega | (simp_all;done) | grind [getD_mem,pickP])
theorem ok_num:FnOk Try.prog E 80 c_num :=
 fn_okQ (l:=L_num) (lp:=P_num) (hp:=fun _=>false) (gcs:=fun _=>none) (perm:=fun _=>[]) tabOk mix ⟨ok_pick,trivial⟩ trivial Try.func80 rfl (by kernel_rfl) (by decide) (by kernel_rfl) (anns:=fun x _=>fun _ _=>none) (fun ⟨rr,l,_⟩ k hp hk=>Eq.mp (by kernel_rfl) (vcn_num rr l k hp (hk rfl))) (fun ⟨_,l,_⟩ hp=>⟨(l.getD 0 0,()),getD_mem hp.1⟩)
abbrev c_l8Simple:Con:=⟨[.rdr],[.cmd],fun _=>True,.inr fun (rr,_) r=>r.1.test=⟨false,0,0⟩/\r.1.inv=⟨[],[]⟩/\r.1.body=[]/\r.1.els=[],fun (rr,_)=>3⟩
abbrev L_l8Simple:List (FuncId × Con):=[(43,c_pick),(80,c_num)]
abbrev P_l8Simple:List (FuncId × PT):=[]
def VC_l8Simple_1 (r1:Int × Unit) (r2:Int × Unit) (k:Nat):Prop:=True/\(TF/\TF)/\True/\(TF/\TF)/\((GCmd.mk ((1:Int)+r1.1) r2.1 (0:Int) (⟨false,(0:Int),(0:Int)⟩:GFact) (⟨([]:List GFact),([]:List GAtom)⟩:GAsn) ([]:List GCmd) ([]:List GCmd)).test=⟨false,0,0⟩/\(GCmd.mk ((1:Int)+r1.1) r2.1 (0:Int) (⟨false,(0:Int),(0:Int)⟩:GFact) (⟨([]:List GFact),([]:List GAtom)⟩:GAsn) ([]:List GCmd) ([]:List GCmd)).inv=⟨[],[]⟩/\(GCmd.mk ((1:Int)+r1.1) r2.1 (0:Int) (⟨false,(0:Int),(0:Int)⟩:GFact) (⟨([]:List GFact),([]:List GAtom)⟩:GAsn) ([]:List GCmd) ([]:List GCmd)).body=[]/\(GCmd.mk ((1:Int)+r1.1) r2.1 (0:Int) (⟨false,(0:Int),(0:Int)⟩:GFact) (⟨([]:List GFact),([]:List GAtom)⟩:GAsn) ([]:List GCmd) ([]:List GCmd)).els=[])/\True/\True/\(TF/\TF/\TF/\TF/\True)/\True/\(k+1+1+1<=k+3)
def VC_l8Simple (rr:Unit) (k:Nat):Prop:=(TN/\TN/\TN/\TN/\TN/\True)/\True/\(True/\(k+1<=1099511627776)/\True)/\(∀ r1:Int × Unit,(pickP (5:Int) r1.1)->(inK .i64 ((1:Int)+r1.1))/\True/\(TN/\True)/\((0 < ([(1:Int),(2:Int),(3:Int),(1:Int),(4:Int)]:List Int).length/\([(1:Int),(2:Int),(3:Int),(1:Int),(4:Int)]:List Int).length<=1000)/\(k+1+1<=1099511627776)/\True)/\(∀ r2:Int × Unit,(r2.1 ∈ ([(1:Int),(2:Int),(3:Int),(1:Int),(4:Int)]:List Int))->True/\(TN/\True)/\((0 < ([(2:Int),(0:Int),(1:Int),(3:Int),(5:Int)]:List Int).length/\([(2:Int),(0:Int),(1:Int),(3:Int),(5:Int)]:List Int).length<=1000)/\(k+1+1+1<=1099511627776)/\True)/\(∀ r3:Int × Unit,(r3.1 ∈ ([(2:Int),(0:Int),(1:Int),(3:Int),(5:Int)]:List Int))->(TN/\TN/\TN/\TN/\True)/\(TN/\TN/\TN/\TN/\TN/\True)/\(TF/\TF)/\True/\True/\True/\True/\(vcIf (((1:Int)+r1.1) == (4:Int)) (True/\(VC_l8Simple_1 r1 r2 k)) (True/\True/\True/\True/\(vcIf (((1:Int)+r1.1) == (5:Int)) (VC_l8Simple_1 r1 r2 k) (True/\(TF/\TF)/\((GCmd.mk ((1:Int)+r1.1) r2.1 r3.1 (⟨false,(0:Int),(0:Int)⟩:GFact) (⟨([]:List GFact),([]:List GAtom)⟩:GAsn) ([]:List GCmd) ([]:List GCmd)).test=⟨false,0,0⟩/\(GCmd.mk ((1:Int)+r1.1) r2.1 r3.1 (⟨false,(0:Int),(0:Int)⟩:GFact) (⟨([]:List GFact),([]:List GAtom)⟩:GAsn) ([]:List GCmd) ([]:List GCmd)).inv=⟨[],[]⟩/\(GCmd.mk ((1:Int)+r1.1) r2.1 r3.1 (⟨false,(0:Int),(0:Int)⟩:GFact) (⟨([]:List GFact),([]:List GAtom)⟩:GAsn) ([]:List GCmd) ([]:List GCmd)).body=[]/\(GCmd.mk ((1:Int)+r1.1) r2.1 r3.1 (⟨false,(0:Int),(0:Int)⟩:GFact) (⟨([]:List GFact),([]:List GAtom)⟩:GAsn) ([]:List GCmd) ([]:List GCmd)).els=[])/\True/\True/\(TF/\TF/\TF/\TF/\True)/\True/\(k+1+1+1<=k+3))))))))
theorem vcn_l8Simple (rr:Unit) (k:Nat) (hk:k+(3)<=1099511627776):VC_l8Simple rr k:=by
 unfold VC_l8Simple VC_l8Simple_1
 simp only [cln,Nat.reduceEqDiff,Nat.reduceLeDiff,Nat.reduceAdd]
 all_goals (try simp only [vcIf_iff,decide_eq_true_eq,decide_eq_false_iff_not,bne_iff_ne,ne_eq,beq_iff_eq,beq_eq_false_iff_ne,bne_eq_false_iff_eq,Bool.not_eq_true',Bool.not_eq_false',Int.ofNat_lt,Int.natCast_inj])
 all_goals (repeat' (first | apply And.intro | intro _))
 all_goals (repeat (cases ‹_/\_›))
 all_goals (first | omega | with_reducible assumption | with_reducible rfl | rfl | skip)
 all_goals (first | omega | (simp_all;done) | grind [pickP] | skip)
theorem ok_l8Simple:FnOk Try.prog E 57 c_l8Simple :=
 fn_okQ (l:=L_l8Simple) (lp:=P_l8Simple) (hp:=fun _=>false) (gcs:=fun _=>none) (perm:=fun _=>[]) tabOk mix ⟨ok_pick,ok_num,trivial⟩ trivial Try.func57 rfl (by kernel_rfl) (by decide) (by kernel_rfl) (anns:=fun x _=>fun _ _=>none) (fun ⟨rr,_⟩ k _ hk=>Eq.mp (by kernel_rfl) (vcn_l8Simple rr k (hk rfl))) (fun _ _=>⟨(GCmd.mk 0 0 0 ⟨false,0,0⟩ ⟨[],[]⟩ [] [],()),⟨rfl,rfl,rfl,rfl⟩⟩)
abbrev c_l8Test:Con:=⟨[.rdr],[.fact],fun _=>True,.inr fun (rr,_) r=>True,fun (rr,_)=>3⟩
abbrev L_l8Test:List (FuncId × Con):=[(43,c_pick),(80,c_num)]
abbrev P_l8Test:List (FuncId × PT):=[]
def VC_l8Test (rr:Unit) (k:Nat):Prop:=(TN/\True)/\True/\(True/\(k+1<=1099511627776)/\True)/\(∀ r1:Int × Unit,(pickP (3:Int) r1.1)->True/\True/\(TN/\True)/\((0 < ([(1:Int),(2:Int),(3:Int)]:List Int).length/\([(1:Int),(2:Int),(3:Int)]:List Int).length<=1000)/\(k+1+1<=1099511627776)/\True)/\(∀ r2:Int × Unit,(r2.1 ∈ ([(1:Int),(2:Int),(3:Int)]:List Int))->True/\(TN/\True)/\((0 < ([(0:Int),(2:Int),(0:Int),(5:Int)]:List Int).length/\([(0:Int),(2:Int),(0:Int),(5:Int)]:List Int).length<=1000)/\(k+1+1+1<=1099511627776)/\True)/\(∀ r3:Int × Unit,(r3.1 ∈ ([(0:Int),(2:Int),(0:Int),(5:Int)]:List Int))->True/\(TF/\TF)/\True/\True/\True/\True/\True/\(k+1+1+1<=k+3))))
theorem vcn_l8Test (rr:Unit) (k:Nat) (hk:k+(3)<=1099511627776):VC_l8Test rr k:=by
 unfold VC_l8Test
 simp only [cln,Nat.reduceEqDiff,Nat.reduceLeDiff,Nat.reduceAdd,GCmd.eta]
 all_goals (try simp only [vcIf_iff,decide_eq_true_eq,decide_eq_false_iff_not,bne_iff_ne,ne_eq,beq_iff_eq,beq_eq_false_iff_ne,bne_eq_false_iff_eq,Bool.not_eq_true',Bool.not_eq_false',Int.ofNat_lt,Int.natCast_inj])
 all_goals (repeat' (first | apply And.intro | intro _))
 all_goals (repeat (cases ‹_/\_›))
 all_goals (first | omega | with_reducible assumption | with_reducible rfl | rfl | with_reducible exact True.intro | skip)
theorem ok_l8Test:FnOk Try.prog E 117 c_l8Test :=
 fn_okQ (l:=L_l8Test) (lp:=P_l8Test) (hp:=fun _=>false) (gcs:=fun _=>none) (perm:=fun _=>[]) tabOk mix ⟨ok_pick,ok_num,trivial⟩ trivial Try.func117 rfl (by kernel_rfl) (by decide) (by kernel_rfl) (anns:=fun x _=>fun _ _=>none) (fun ⟨rr,_⟩ k _ hk=>Eq.mp (by kernel_rfl) (vcn_l8Test rr k (hk rfl))) (fun _ _=>⟨((⟨false,0,0⟩:GFact),()),trivial⟩)
end Go.Proofs.Ytkafaeeianofnaa
