/-
  Contracts of single functions of the program, each shown by the engine: what a call returns for arguments within the contract's bounds.
-/
import Derived.Test.YtopjgjelkpkmmaaProg
import Derived.KernelRfl
import Derived.Test.YtopjgjelkpkmmaaEc
import Derived.Test.YtopjgjelkpkmmaaEd
import Derived.Test.YtopjgjelkpkmmaaEe
set_option linter.unusedSimpArgs false
set_option linter.unusedVariables false
set_option linter.unusedSectionVars false

namespace Go.Proofs.Ytopjgjelkpkmmaa
open Go.SE Go.RowKit
def E:Ty->TypeId
 | .int=>3
 | .bool=>4
 | .u8=>5
 | .fact=>94
 | .atom=>66
 | .cmd=>0
 | .ints=>29
 | .asn=>0
def tabL:List (TypeId × TI):=[
 (2,⟨1,8,.sc (.int .i64 0)⟩),
 (3,⟨1,8,.sc (.int .i64 0)⟩),
 (4,⟨1,1,.sc (.bool false)⟩),
 (5,⟨1,1,.sc (.int .u8 0)⟩),
 (7,⟨4,24,.st [.sc (.int .i64 0),.sc (.int .i64 0),.sc (.bool false),.sc (.int .u8 0)] [(0,1,false),(1,1,false),(2,1,false),(3,1,false)]⟩),
 (9,⟨1,16,.sc (.string ⟨#[]⟩)⟩),
 (12,⟨1,8,.sc (.int .u64 0)⟩),
 (13,⟨2,24,.st [.sc (.string ⟨#[]⟩),.sc (.int .u64 0)] [(0,1,false),(1,1,false)]⟩),
 (21,⟨1,4,.sc (.int .i32 0)⟩),
 (22,⟨1,24,.sl true 5 .u8⟩),
 (23,⟨1,24,.sl true 94 .fact⟩),
 (24,⟨1,24,.sl true 66 .atom⟩),
 (25,⟨2,48,.st [.sl .fact,.sl .atom] [(0,1,false),(1,1,false)]⟩),
 (26,⟨2,48,.st [.sl .fact,.sl .atom] [(0,1,false),(1,1,false)]⟩),
 (29,⟨1,24,.sl true 3 .int⟩),
 (30,⟨2,48,.st [.sl .int,.sl .int] [(0,1,false),(1,1,false)]⟩),
 (31,⟨2,48,.st [.sl .int,.sl .int] [(0,1,false),(1,1,false)]⟩),
 (38,⟨1,24,.sl false 139 .fact⟩),
 (39,⟨1,24,.sl false 141 .atom⟩),
 (40,⟨2,48,.st [.sl .fact,.sl .atom] [(0,1,false),(1,1,false)]⟩),
 (41,⟨2,48,.st [.sl .fact,.sl .atom] [(0,1,false),(1,1,false)]⟩),
 (65,⟨3,24,.st [.sc (.int .i64 0),.sc (.int .i64 0),.sc (.int .i64 0)] [(0,1,false),(1,1,false),(2,1,false)]⟩),
 (66,⟨3,24,.st [.sc (.int .i64 0),.sc (.int .i64 0),.sc (.int .i64 0)] [(0,1,false),(1,1,false),(2,1,false)]⟩),
 (67,⟨9,72,.ar 9 3 .int⟩),
 (68,⟨9,72,.ar 9 3 .int⟩),
 (71,⟨2,2,.ar 2 4 .bool⟩),
 (77,⟨1,2,.sc (.int .u16 0)⟩),
 (78,⟨1,2,.sc (.int .u16 0)⟩),
 (93,⟨3,24,.st [.sc (.bool false),.sc (.int .i64 0),.sc (.int .i64 0)] [(0,1,false),(1,1,false),(2,1,false)]⟩),
 (94,⟨3,24,.st [.sc (.bool false),.sc (.int .i64 0),.sc (.int .i64 0)] [(0,1,false),(1,1,false),(2,1,false)]⟩),
 (104,⟨4,96,.st [.sl .fact,.sl .atom,.sl .fact,.sl .atom] [(0,2,true),(2,2,true)]⟩),
 (105,⟨4,96,.st [.sl .fact,.sl .atom,.sl .fact,.sl .atom] [(0,2,true),(2,2,true)]⟩),
 (110,⟨1,8,.sc (.int .u64 0)⟩),
 (111,⟨2,32,.st [.sl .u8,.sc (.int .i64 0)] [(0,1,false),(1,1,false)]⟩),
 (112,⟨2,32,.st [.sl .u8,.sc (.int .i64 0)] [(0,1,false),(1,1,false)]⟩),
 (119,⟨1,2,.sc (.int .u16 0)⟩),
 (121,⟨1,24,.sl true 29 .ints⟩),
 (130,⟨1,24,.sl true 4 .bool⟩),
 (139,⟨3,24,.st [.sc (.bool false),.sc (.int .i64 0),.sc (.int .i64 0)] [(0,1,false),(1,1,false),(2,1,false)]⟩),
 (141,⟨3,24,.st [.sc (.int .i64 0),.sc (.int .i64 0),.sc (.int .i64 0)] [(0,1,false),(1,1,false),(2,1,false)]⟩),
 (149,⟨1,4,.sc (.int .u32 0)⟩),
 (151,⟨1,8,.sc (.int .u64 0)⟩),
 (156,⟨6,6,.ar 6 4 .bool⟩),
 (157,⟨8,40,.st [.sl .atom,.sc (.bool false),.sc (.bool false),.sc (.bool false),.sc (.bool false),.sc (.bool false),.sc (.bool false),.sc (.int .i64 0)] [(0,1,false),(1,6,true),(7,1,false)]⟩),
 (158,⟨8,40,.st [.sl .atom,.sc (.bool false),.sc (.bool false),.sc (.bool false),.sc (.bool false),.sc (.bool false),.sc (.bool false),.sc (.int .i64 0)] [(0,1,false),(1,6,true),(7,1,false)]⟩)]
def tab:TypeId->Option TI:=lookT tabL
theorem tab2:tab 2=some ⟨1,8,.sc (.int .i64 0)⟩:=rfl
theorem tab3:tab 3=some ⟨1,8,.sc (.int .i64 0)⟩:=rfl
theorem tab4:tab 4=some ⟨1,1,.sc (.bool false)⟩:=rfl
theorem tab5:tab 5=some ⟨1,1,.sc (.int .u8 0)⟩:=rfl
theorem tab7:tab 7=some ⟨4,24,.st [.sc (.int .i64 0),.sc (.int .i64 0),.sc (.bool false),.sc (.int .u8 0)] [(0,1,false),(1,1,false),(2,1,false),(3,1,false)]⟩:=rfl
theorem tab9:tab 9=some ⟨1,16,.sc (.string ⟨#[]⟩)⟩:=rfl
theorem tab12:tab 12=some ⟨1,8,.sc (.int .u64 0)⟩:=rfl
theorem tab13:tab 13=some ⟨2,24,.st [.sc (.string ⟨#[]⟩),.sc (.int .u64 0)] [(0,1,false),(1,1,false)]⟩:=rfl
theorem tab21:tab 21=some ⟨1,4,.sc (.int .i32 0)⟩:=rfl
theorem tab22:tab 22=some ⟨1,24,.sl true 5 .u8⟩:=rfl
theorem tab23:tab 23=some ⟨1,24,.sl true 94 .fact⟩:=rfl
theorem tab24:tab 24=some ⟨1,24,.sl true 66 .atom⟩:=rfl
theorem tab25:tab 25=some ⟨2,48,.st [.sl .fact,.sl .atom] [(0,1,false),(1,1,false)]⟩:=rfl
theorem tab26:tab 26=some ⟨2,48,.st [.sl .fact,.sl .atom] [(0,1,false),(1,1,false)]⟩:=rfl
theorem tab29:tab 29=some ⟨1,24,.sl true 3 .int⟩:=rfl
theorem tab30:tab 30=some ⟨2,48,.st [.sl .int,.sl .int] [(0,1,false),(1,1,false)]⟩:=rfl
theorem tab31:tab 31=some ⟨2,48,.st [.sl .int,.sl .int] [(0,1,false),(1,1,false)]⟩:=rfl
theorem tab38:tab 38=some ⟨1,24,.sl false 139 .fact⟩:=rfl
theorem tab39:tab 39=some ⟨1,24,.sl false 141 .atom⟩:=rfl
theorem tab40:tab 40=some ⟨2,48,.st [.sl .fact,.sl .atom] [(0,1,false),(1,1,false)]⟩:=rfl
theorem tab41:tab 41=some ⟨2,48,.st [.sl .fact,.sl .atom] [(0,1,false),(1,1,false)]⟩:=rfl
theorem tab65:tab 65=some ⟨3,24,.st [.sc (.int .i64 0),.sc (.int .i64 0),.sc (.int .i64 0)] [(0,1,false),(1,1,false),(2,1,false)]⟩:=rfl
theorem tab66:tab 66=some ⟨3,24,.st [.sc (.int .i64 0),.sc (.int .i64 0),.sc (.int .i64 0)] [(0,1,false),(1,1,false),(2,1,false)]⟩:=rfl
theorem tab67:tab 67=some ⟨9,72,.ar 9 3 .int⟩:=rfl
theorem tab68:tab 68=some ⟨9,72,.ar 9 3 .int⟩:=rfl
theorem tab71:tab 71=some ⟨2,2,.ar 2 4 .bool⟩:=rfl
theorem tab77:tab 77=some ⟨1,2,.sc (.int .u16 0)⟩:=rfl
theorem tab78:tab 78=some ⟨1,2,.sc (.int .u16 0)⟩:=rfl
theorem tab93:tab 93=some ⟨3,24,.st [.sc (.bool false),.sc (.int .i64 0),.sc (.int .i64 0)] [(0,1,false),(1,1,false),(2,1,false)]⟩:=rfl
theorem tab94:tab 94=some ⟨3,24,.st [.sc (.bool false),.sc (.int .i64 0),.sc (.int .i64 0)] [(0,1,false),(1,1,false),(2,1,false)]⟩:=rfl
theorem tab104:tab 104=some ⟨4,96,.st [.sl .fact,.sl .atom,.sl .fact,.sl .atom] [(0,2,true),(2,2,true)]⟩:=rfl
theorem tab105:tab 105=some ⟨4,96,.st [.sl .fact,.sl .atom,.sl .fact,.sl .atom] [(0,2,true),(2,2,true)]⟩:=rfl
theorem tab110:tab 110=some ⟨1,8,.sc (.int .u64 0)⟩:=rfl
theorem tab111:tab 111=some ⟨2,32,.st [.sl .u8,.sc (.int .i64 0)] [(0,1,false),(1,1,false)]⟩:=rfl
theorem tab112:tab 112=some ⟨2,32,.st [.sl .u8,.sc (.int .i64 0)] [(0,1,false),(1,1,false)]⟩:=rfl
theorem tab119:tab 119=some ⟨1,2,.sc (.int .u16 0)⟩:=rfl
theorem tab121:tab 121=some ⟨1,24,.sl true 29 .ints⟩:=rfl
theorem tab130:tab 130=some ⟨1,24,.sl true 4 .bool⟩:=rfl
theorem tab139:tab 139=some ⟨3,24,.st [.sc (.bool false),.sc (.int .i64 0),.sc (.int .i64 0)] [(0,1,false),(1,1,false),(2,1,false)]⟩:=rfl
theorem tab141:tab 141=some ⟨3,24,.st [.sc (.int .i64 0),.sc (.int .i64 0),.sc (.int .i64 0)] [(0,1,false),(1,1,false),(2,1,false)]⟩:=rfl
theorem tab149:tab 149=some ⟨1,4,.sc (.int .u32 0)⟩:=rfl
theorem tab151:tab 151=some ⟨1,8,.sc (.int .u64 0)⟩:=rfl
theorem tab156:tab 156=some ⟨6,6,.ar 6 4 .bool⟩:=rfl
theorem tab157:tab 157=some ⟨8,40,.st [.sl .atom,.sc (.bool false),.sc (.bool false),.sc (.bool false),.sc (.bool false),.sc (.bool false),.sc (.bool false),.sc (.int .i64 0)] [(0,1,false),(1,6,true),(7,1,false)]⟩:=rfl
theorem tab158:tab 158=some ⟨8,40,.st [.sl .atom,.sc (.bool false),.sc (.bool false),.sc (.bool false),.sc (.bool false),.sc (.bool false),.sc (.bool false),.sc (.int .i64 0)] [(0,1,false),(1,6,true),(7,1,false)]⟩:=rfl
theorem tabOk:TabOk Try.prog E tab:=tab_ok (by kernel_rfl)
theorem mix:Try.prog.follows .mixedOrders=true:=by kernel_rfl
end Go.Proofs.Ytopjgjelkpkmmaa

namespace Go.Proofs.Ytopjgjelkpkmmaa
open Go.SE Go.RowKit
set_option linter.unusedSimpArgs false
set_option linter.unusedVariables false
set_option maxHeartbeats 1000000
set_option maxRecDepth 100000
abbrev c_sameListsF:Con:=⟨[.sl .fact,.sl .fact],[.bool],fun (a,b,_)=>a.length<=281474976710656/\b.length<=281474976710656,.inl fun (a,b,_)=>(decide (a=b),()),fun _=>0⟩
abbrev L_sameListsF:List (FuncId × Con):=[]
def an_sameListsF (a:List GFact) (b:List GFact):Nat->Option Ann
 | 4=>some { α:=Nat,ok:=fun i=>i<=a.length/\a.length=b.length/\a.take i=b.take i,mu:=fun i=>a.length - i,i0:=fun _=>0,nx:=fun a _=>(fun i=>i+1) a,live:=[1,12,13],sets:=fun i=>[(14,sv (.int .i64 i))],mids:=[],blks:=fun i=>[],owns:=fun i=>[],rd:=fun r _=>r,base:=100000 }
 | _=>none
theorem vc_sameListsF (a:List GFact) (b:List GFact) (k:Nat) (hp:a.length<=281474976710656/\b.length<=281474976710656):vc tab (lookF L_sameListsF) (an_sameListsF a b) (fun _=>[]) (bodyOf Try.f76) (entry (encs c_sameListsF.aks (a,b,())) (rdOf false k)) (retOk tab c_sameListsF Try.f76.results.toList (a,b,()) k):=by
 dsimp only [bodyOf,Try.f76,rdOf]
 simp (maxSteps:=10000000) only [c_sameListsF,L_sameListsF,an_sameListsF,SE.lookF,tab2,tab3,tab4,tab5,tab7,tab9,tab12,tab13,tab21,tab22,tab23,tab24,tab25,tab26,tab29,tab30,tab31,tab38,tab39,tab40,tab41,tab65,tab66,tab67,tab68,tab71,tab77,tab78,tab93,tab94,tab104,tab105,tab110,tab111,tab112,tab119,tab121,tab130,tab139,tab141,tab149,tab151,tab156,tab157,tab158,SE.entry,SE.envOf,SE.rdOf,Option.get_some,SE.vc,SE.vcReg,SE.vcLoop,SE.condK,SE.seqK,SE.blockK,SE.vcOps,SE.vcStep,SE.vcOp,SE.vcTr,SE.vcDet_some,SE.vcDet_none,SE.vcIf_true,SE.vcIf_false,SE.vcEach,SE.pickOps,SE.gslot,SE.trOp,SE.moveId,SE.trMove,SE.trPick,SE.trAlloc,SE.trBox,SE.trBuild,SE.trBuildSlice,SE.trLoad,SE.trStore,SE.trNilCheck,SE.trBin,SE.trUn,SE.trConvert,SE.trFieldAddr,SE.trField,SE.trIndexAddr,SE.trIndex,SE.trSlice,SE.trMakeSlice,SE.trExtract,SE.trLen,SE.trAppend,SE.trCopy,SE.trFn,SE.trCall,SE.argsS,SE.ev,SE.constS,SE.junk,SE.sv,SE.upd_app,SE.adds,SE.sets,SE.nid,SE.St.app,SE.St.put,SE.free,SE.freeL,SE.allFree,SE.rids,SE.AK.rids,SE.castL,SE.rdl,SE.AK.dec,SE.decs,SE.AK.enc,SE.encs,SE.AK.res,SE.ress,SE.pack1,SE.zcells,SE.zeroOf,SE.partCells,SE.putc,SE.fills,SE.datas,SE.elemOf,SE.elemsOf,SE.notSpent,SE.cellsAt,SE.weak,SE.dcellsAt,SE.slAt,SE.rdPlus,SE.intAt,SE.updElem,SE.kill,SE.noJunk,SE.inK,SE.binI,SE.shf,SE.isShift,SE.eqCells,SE.aggS,SE.intOp,SE.nested,SE.hasRdr,SE.refsC,SE.refsCs,SE.ownsC,SE.refsAr,SE.rdFits,SE.costIf,SE.Con.post,SE.Con.det,SE.Ty.cells,SE.Ty.sz,SE.Ty.zero,SE.Ty.flat,SE.Ty.dec,SE.retOk,SE.loadsS,SE.loadS,SE.decRs,SE.decR,SE.outC,SE.rdC,SE.allDiff,SE.notIn,SE.notFrozen,SE.apartL,SE.rdEnd,SE.firstReg,SE.headC,SE.fitsC,SE.idsC,SE.keepE,SE.keepM,SE.keepB,SE.inL,SE.puts,SE.ownRes,SE.ownEnv,SE.renL,SE.srcId,SE.lookR,SE.envSame,SE.envSets,SE.memSame,SE.memBlks,SE.memOwns,SE.famsOf,SE.allIn,SE.closedE,SE.closedV,SE.closedM,SE.closedR,SE.rdLe,SE.S.refs,SE.S0.refs,SE.CV.refs,SE.refsL,SE.refsT,SE.S.ren,SE.S0.ren,SE.CV.ren,SE.Res.refs,SE.Res.ren,min_i64,max_i64,min_u16,max_u16,min_u8,max_u8,min_u64,max_u64,S.s.injEq,S0.c.injEq,CV.d.injEq,DC.val.injEq,Value.int.injEq,Value.bool.injEq,Value.string.injEq,eta_fact,eta_atom,eta_asn,eta_state,List.mem_cons,List.mem_nil_iff,or_false,false_or,or_true,true_or,Option.map_some,Option.map_none,Option.bind_some,Option.getD_some,Option.getD_none,Nat.reduceEqDiff,Nat.reduceAdd,Nat.reduceMul,Nat.reduceLeDiff,↓reduceIte,reduceCtorEq,true_and,and_true,and_self,forall_const,implies_true,true_implies,List.getElem?_toArray,List.getElem?_cons_succ,List.getElem?_cons_zero,List.append_nil,List.nil_append,List.cons_append,List.length_cons,List.length_nil,List.take_succ_cons,List.take_zero,List.drop_succ_cons,List.drop_zero,List.set_cons_zero,List.set_cons_succ,List.map_cons,List.map_nil,Nat.add_zero,Nat.zero_add,forall_eq,Prod.forall,Bool.not_true,Bool.not_false,Nat.lt_irrefl,Nat.zero_lt_succ,List.singleton_append,Prod.mk.injEq,Nat.zero_mul,Nat.one_mul,Nat.reducePow,Option.some.injEq,not_false_eq_true,Int.toNat_natCast,Nat.sub_zero,Nat.le_refl,Bool.or_false,Bool.false_or,Bool.or_true,Bool.true_or,Bool.and_true,Bool.true_and,Bool.and_false,Bool.false_and,Bool.or_self,Bool.and_self,List.append_eq,and_false,false_and,fact_beq,atom_beq]
 all_goals (try simp only [vcIf_iff,decide_eq_true_eq,decide_eq_false_iff_not,bne_iff_ne,ne_eq,beq_iff_eq,beq_eq_false_iff_ne,bne_eq_false_iff_eq,Bool.not_eq_true',Bool.not_eq_false',Int.ofNat_lt,Int.natCast_inj])
 all_goals (repeat' (first | apply And.intro | intro _))
 all_goals (first | omega | (simp_all;done) | grind [same_step,same_not,take_full,Ty.zero])
theorem ok_sameListsF:FnOk Try.prog E 76 c_sameListsF :=
 fn_ok (l:=L_sameListsF) (perm:=fun _=>[]) tabOk mix trivial Try.func76 rfl (by kernel_rfl) (by decide) (by kernel_rfl) (anns:=fun x _=>an_sameListsF x.1 x.2.1) (fun ⟨a,b,_⟩ k hp _=>vc_sameListsF a b k hp) tot_fn
abbrev c_sameListsA:Con:=⟨[.sl .atom,.sl .atom],[.bool],fun (a,b,_)=>a.length<=281474976710656/\b.length<=281474976710656,.inl fun (a,b,_)=>(decide (a=b),()),fun _=>0⟩
abbrev L_sameListsA:List (FuncId × Con):=[]
def an_sameListsA (a:List GAtom) (b:List GAtom):Nat->Option Ann
 | 4=>some { α:=Nat,ok:=fun i=>i<=a.length/\a.length=b.length/\a.take i=b.take i,mu:=fun i=>a.length - i,i0:=fun _=>0,nx:=fun a _=>(fun i=>i+1) a,live:=[1,12,13],sets:=fun i=>[(14,sv (.int .i64 i))],mids:=[],blks:=fun i=>[],owns:=fun i=>[],rd:=fun r _=>r,base:=100000 }
 | _=>none
theorem vc_sameListsA (a:List GAtom) (b:List GAtom) (k:Nat) (hp:a.length<=281474976710656/\b.length<=281474976710656):vc tab (lookF L_sameListsA) (an_sameListsA a b) (fun _=>[]) (bodyOf Try.f77) (entry (encs c_sameListsA.aks (a,b,())) (rdOf false k)) (retOk tab c_sameListsA Try.f77.results.toList (a,b,()) k):=by
 dsimp only [bodyOf,Try.f77,rdOf]
 simp (maxSteps:=10000000) only [c_sameListsA,L_sameListsA,an_sameListsA,SE.lookF,tab2,tab3,tab4,tab5,tab7,tab9,tab12,tab13,tab21,tab22,tab23,tab24,tab25,tab26,tab29,tab30,tab31,tab38,tab39,tab40,tab41,tab65,tab66,tab67,tab68,tab71,tab77,tab78,tab93,tab94,tab104,tab105,tab110,tab111,tab112,tab119,tab121,tab130,tab139,tab141,tab149,tab151,tab156,tab157,tab158,SE.entry,SE.envOf,SE.rdOf,Option.get_some,SE.vc,SE.vcReg,SE.vcLoop,SE.condK,SE.seqK,SE.blockK,SE.vcOps,SE.vcStep,SE.vcOp,SE.vcTr,SE.vcDet_some,SE.vcDet_none,SE.vcIf_true,SE.vcIf_false,SE.vcEach,SE.pickOps,SE.gslot,SE.trOp,SE.moveId,SE.trMove,SE.trPick,SE.trAlloc,SE.trBox,SE.trBuild,SE.trBuildSlice,SE.trLoad,SE.trStore,SE.trNilCheck,SE.trBin,SE.trUn,SE.trConvert,SE.trFieldAddr,SE.trField,SE.trIndexAddr,SE.trIndex,SE.trSlice,SE.trMakeSlice,SE.trExtract,SE.trLen,SE.trAppend,SE.trCopy,SE.trFn,SE.trCall,SE.argsS,SE.ev,SE.constS,SE.junk,SE.sv,SE.upd_app,SE.adds,SE.sets,SE.nid,SE.St.app,SE.St.put,SE.free,SE.freeL,SE.allFree,SE.rids,SE.AK.rids,SE.castL,SE.rdl,SE.AK.dec,SE.decs,SE.AK.enc,SE.encs,SE.AK.res,SE.ress,SE.pack1,SE.zcells,SE.zeroOf,SE.partCells,SE.putc,SE.fills,SE.datas,SE.elemOf,SE.elemsOf,SE.notSpent,SE.cellsAt,SE.weak,SE.dcellsAt,SE.slAt,SE.rdPlus,SE.intAt,SE.updElem,SE.kill,SE.noJunk,SE.inK,SE.binI,SE.shf,SE.isShift,SE.eqCells,SE.aggS,SE.intOp,SE.nested,SE.hasRdr,SE.refsC,SE.refsCs,SE.ownsC,SE.refsAr,SE.rdFits,SE.costIf,SE.Con.post,SE.Con.det,SE.Ty.cells,SE.Ty.sz,SE.Ty.zero,SE.Ty.flat,SE.Ty.dec,SE.retOk,SE.loadsS,SE.loadS,SE.decRs,SE.decR,SE.outC,SE.rdC,SE.allDiff,SE.notIn,SE.notFrozen,SE.apartL,SE.rdEnd,SE.firstReg,SE.headC,SE.fitsC,SE.idsC,SE.keepE,SE.keepM,SE.keepB,SE.inL,SE.puts,SE.ownRes,SE.ownEnv,SE.renL,SE.srcId,SE.lookR,SE.envSame,SE.envSets,SE.memSame,SE.memBlks,SE.memOwns,SE.famsOf,SE.allIn,SE.closedE,SE.closedV,SE.closedM,SE.closedR,SE.rdLe,SE.S.refs,SE.S0.refs,SE.CV.refs,SE.refsL,SE.refsT,SE.S.ren,SE.S0.ren,SE.CV.ren,SE.Res.refs,SE.Res.ren,min_i64,max_i64,min_u16,max_u16,min_u8,max_u8,min_u64,max_u64,S.s.injEq,S0.c.injEq,CV.d.injEq,DC.val.injEq,Value.int.injEq,Value.bool.injEq,Value.string.injEq,eta_fact,eta_atom,eta_asn,eta_state,List.mem_cons,List.mem_nil_iff,or_false,false_or,or_true,true_or,Option.map_some,Option.map_none,Option.bind_some,Option.getD_some,Option.getD_none,Nat.reduceEqDiff,Nat.reduceAdd,Nat.reduceMul,Nat.reduceLeDiff,↓reduceIte,reduceCtorEq,true_and,and_true,and_self,forall_const,implies_true,true_implies,List.getElem?_toArray,List.getElem?_cons_succ,List.getElem?_cons_zero,List.append_nil,List.nil_append,List.cons_append,List.length_cons,List.length_nil,List.take_succ_cons,List.take_zero,List.drop_succ_cons,List.drop_zero,List.set_cons_zero,List.set_cons_succ,List.map_cons,List.map_nil,Nat.add_zero,Nat.zero_add,forall_eq,Prod.forall,Bool.not_true,Bool.not_false,Nat.lt_irrefl,Nat.zero_lt_succ,List.singleton_append,Prod.mk.injEq,Nat.zero_mul,Nat.one_mul,Nat.reducePow,Option.some.injEq,not_false_eq_true,Int.toNat_natCast,Nat.sub_zero,Nat.le_refl,Bool.or_false,Bool.false_or,Bool.or_true,Bool.true_or,Bool.and_true,Bool.true_and,Bool.and_false,Bool.false_and,Bool.or_self,Bool.and_self,List.append_eq,and_false,false_and,fact_beq,atom_beq]
 all_goals (try simp only [vcIf_iff,decide_eq_true_eq,decide_eq_false_iff_not,bne_iff_ne,ne_eq,beq_iff_eq,beq_eq_false_iff_ne,bne_eq_false_iff_eq,Bool.not_eq_true',Bool.not_eq_false',Int.ofNat_lt,Int.natCast_inj])
 all_goals (repeat' (first | apply And.intro | intro _))
 all_goals (first | omega | (simp_all;done) | grind [same_step,same_not,take_full,Ty.zero])
theorem ok_sameListsA:FnOk Try.prog E 77 c_sameListsA :=
 fn_ok (l:=L_sameListsA) (perm:=fun _=>[]) tabOk mix trivial Try.func77 rfl (by kernel_rfl) (by decide) (by kernel_rfl) (anns:=fun x _=>an_sameListsA x.1 x.2.1) (fun ⟨a,b,_⟩ k hp _=>vc_sameListsA a b k hp) tot_fn
abbrev c_iAssertionSame:Con:=⟨[.asn,.asn],[.bool],fun (a,b,_)=>a.facts.length<=281474976710656/\a.atoms.length<=281474976710656/\b.facts.length<=281474976710656/\b.atoms.length<=281474976710656,.inl fun (a,b,_)=>(decide (a=b),()),fun _=>0⟩
abbrev L_iAssertionSame:List (FuncId × Con):=[(76,c_sameListsF),(77,c_sameListsA)]
theorem vc_iAssertionSame (a:GAsn) (b:GAsn) (k:Nat) (hp:a.facts.length<=281474976710656/\a.atoms.length<=281474976710656/\b.facts.length<=281474976710656/\b.atoms.length<=281474976710656):vc tab (lookF L_iAssertionSame) (fun _=>none) (fun _=>[]) (bodyOf Try.f31) (entry (encs c_iAssertionSame.aks (a,b,())) (rdOf false k)) (retOk tab c_iAssertionSame Try.f31.results.toList (a,b,()) k):=by
 dsimp only [bodyOf,Try.f31,rdOf]
 simp (maxSteps:=10000000) only [c_iAssertionSame,L_iAssertionSame,SE.lookF,c_sameListsF,c_sameListsA,tab2,tab3,tab4,tab5,tab7,tab9,tab12,tab13,tab21,tab22,tab23,tab24,tab25,tab26,tab29,tab30,tab31,tab38,tab39,tab40,tab41,tab65,tab66,tab67,tab68,tab71,tab77,tab78,tab93,tab94,tab104,tab105,tab110,tab111,tab112,tab119,tab121,tab130,tab139,tab141,tab149,tab151,tab156,tab157,tab158,SE.entry,SE.envOf,SE.rdOf,Option.get_some,SE.vc,SE.vcReg,SE.vcLoop,SE.condK,SE.seqK,SE.blockK,SE.vcOps,SE.vcStep,SE.vcOp,SE.vcTr,SE.vcDet_some,SE.vcDet_none,SE.vcIf_true,SE.vcIf_false,SE.vcEach,SE.pickOps,SE.gslot,SE.trOp,SE.moveId,SE.trMove,SE.trPick,SE.trAlloc,SE.trBox,SE.trBuild,SE.trBuildSlice,SE.trLoad,SE.trStore,SE.trNilCheck,SE.trBin,SE.trUn,SE.trConvert,SE.trFieldAddr,SE.trField,SE.trIndexAddr,SE.trIndex,SE.trSlice,SE.trMakeSlice,SE.trExtract,SE.trLen,SE.trAppend,SE.trCopy,SE.trFn,SE.trCall,SE.argsS,SE.ev,SE.constS,SE.junk,SE.sv,SE.upd_app,SE.adds,SE.sets,SE.nid,SE.St.app,SE.St.put,SE.free,SE.freeL,SE.allFree,SE.rids,SE.AK.rids,SE.castL,SE.rdl,SE.AK.dec,SE.decs,SE.AK.enc,SE.encs,SE.AK.res,SE.ress,SE.pack1,SE.zcells,SE.zeroOf,SE.partCells,SE.putc,SE.fills,SE.datas,SE.elemOf,SE.elemsOf,SE.notSpent,SE.cellsAt,SE.weak,SE.dcellsAt,SE.slAt,SE.rdPlus,SE.intAt,SE.updElem,SE.kill,SE.noJunk,SE.inK,SE.binI,SE.shf,SE.isShift,SE.eqCells,SE.aggS,SE.intOp,SE.nested,SE.hasRdr,SE.refsC,SE.refsCs,SE.ownsC,SE.refsAr,SE.rdFits,SE.costIf,SE.Con.post,SE.Con.det,SE.Ty.cells,SE.Ty.sz,SE.Ty.zero,SE.Ty.flat,SE.Ty.dec,SE.retOk,SE.loadsS,SE.loadS,SE.decRs,SE.decR,SE.outC,SE.rdC,SE.allDiff,SE.notIn,SE.notFrozen,SE.apartL,SE.rdEnd,SE.firstReg,SE.headC,SE.fitsC,SE.idsC,SE.keepE,SE.keepM,SE.keepB,SE.inL,SE.puts,SE.ownRes,SE.ownEnv,SE.renL,SE.srcId,SE.lookR,SE.envSame,SE.envSets,SE.memSame,SE.memBlks,SE.memOwns,SE.famsOf,SE.allIn,SE.closedE,SE.closedV,SE.closedM,SE.closedR,SE.rdLe,SE.S.refs,SE.S0.refs,SE.CV.refs,SE.refsL,SE.refsT,SE.S.ren,SE.S0.ren,SE.CV.ren,SE.Res.refs,SE.Res.ren,min_i64,max_i64,min_u16,max_u16,min_u8,max_u8,min_u64,max_u64,S.s.injEq,S0.c.injEq,CV.d.injEq,DC.val.injEq,Value.int.injEq,Value.bool.injEq,Value.string.injEq,eta_fact,eta_atom,eta_asn,eta_state,List.mem_cons,List.mem_nil_iff,or_false,false_or,or_true,true_or,Option.map_some,Option.map_none,Option.bind_some,Option.getD_some,Option.getD_none,Nat.reduceEqDiff,Nat.reduceAdd,Nat.reduceMul,Nat.reduceLeDiff,↓reduceIte,reduceCtorEq,true_and,and_true,and_self,forall_const,implies_true,true_implies,List.getElem?_toArray,List.getElem?_cons_succ,List.getElem?_cons_zero,List.append_nil,List.nil_append,List.cons_append,List.length_cons,List.length_nil,List.take_succ_cons,List.take_zero,List.drop_succ_cons,List.drop_zero,List.set_cons_zero,List.set_cons_succ,List.map_cons,List.map_nil,Nat.add_zero,Nat.zero_add,forall_eq,Prod.forall,Bool.not_true,Bool.not_false,Nat.lt_irrefl,Nat.zero_lt_succ,List.singleton_append,Prod.mk.injEq,Nat.zero_mul,Nat.one_mul,Nat.reducePow,Option.some.injEq,not_false_eq_true,Int.toNat_natCast,Nat.sub_zero,Nat.le_refl,Bool.or_false,Bool.false_or,Bool.or_true,Bool.true_or,Bool.and_true,Bool.true_and,Bool.and_false,Bool.false_and,Bool.or_self,Bool.and_self,List.append_eq,and_false,false_and]
 obtain ⟨a1,a2⟩:=a;obtain ⟨b1,b2⟩:=b
 all_goals (try simp only [vcIf_iff,decide_eq_true_eq,decide_eq_false_iff_not,bne_iff_ne,ne_eq,beq_iff_eq,beq_eq_false_iff_ne,bne_eq_false_iff_eq,Bool.not_eq_true',Bool.not_eq_false',Int.ofNat_lt,Int.natCast_inj])
 all_goals (repeat' (first | apply And.intro | intro _))
 all_goals (first | omega | (simp_all;done) | grind [])
theorem ok_iAssertionSame:FnOk Try.prog E 31 c_iAssertionSame :=
 fn_ok (l:=L_iAssertionSame) (perm:=fun _=>[]) tabOk mix ⟨ok_sameListsF,ok_sameListsA,trivial⟩ Try.func31 rfl (by kernel_rfl) (by decide) (by kernel_rfl) (anns:=fun x _=>fun _=>none) (fun ⟨a,b,_⟩ k hp _=>vc_iAssertionSame a b k hp) tot_fn
theorem vc_l18Open (code:List UInt8):vc tab (lookF []) (fun _=>none) (fun _=>[]) (bodyOf Try.f48) (entry [.c (.d (.arr .u8 code))] none) openQ:=by
 dsimp only [bodyOf,Try.f48]
 simp only [openQ,pickK,openE,openM,true_and,and_true,SE.lookF,tab2,tab3,tab4,tab5,tab7,tab9,tab12,tab13,tab21,tab22,tab23,tab24,tab25,tab26,tab29,tab30,tab31,tab38,tab39,tab40,tab41,tab65,tab66,tab67,tab68,tab71,tab77,tab78,tab93,tab94,tab104,tab105,tab110,tab111,tab112,tab119,tab121,tab130,tab139,tab141,tab149,tab151,tab156,tab157,tab158,SE.entry,SE.envOf,SE.rdOf,Option.get_some,SE.vc,SE.vcReg,SE.vcLoop,SE.condK,SE.seqK,SE.blockK,SE.vcOps,SE.vcStep,SE.vcOp,SE.vcTr,SE.vcDet_some,SE.vcDet_none,SE.vcIf_true,SE.vcIf_false,SE.vcEach,SE.pickOps,SE.gslot,SE.trOp,SE.moveId,SE.trMove,SE.trPick,SE.trAlloc,SE.trBox,SE.trBuild,SE.trBuildSlice,SE.trLoad,SE.trStore,SE.trNilCheck,SE.trBin,SE.trUn,SE.trConvert,SE.trFieldAddr,SE.trField,SE.trIndexAddr,SE.trIndex,SE.trSlice,SE.trMakeSlice,SE.trExtract,SE.trLen,SE.trAppend,SE.trCopy,SE.trFn,SE.trCall,SE.argsS,SE.ev,SE.constS,SE.junk,SE.sv,SE.upd_app,SE.adds,SE.sets,SE.nid,SE.St.app,SE.St.put,SE.free,SE.freeL,SE.allFree,SE.rids,SE.AK.rids,SE.castL,SE.rdl,SE.AK.dec,SE.decs,SE.AK.enc,SE.encs,SE.AK.res,SE.ress,SE.pack1,SE.zcells,SE.zeroOf,SE.partCells,SE.putc,SE.fills,SE.datas,SE.elemOf,SE.elemsOf,SE.notSpent,SE.cellsAt,SE.weak,SE.dcellsAt,SE.slAt,SE.rdPlus,SE.intAt,SE.updElem,SE.kill,SE.noJunk,SE.inK,SE.binI,SE.shf,SE.isShift,SE.eqCells,SE.aggS,SE.intOp,SE.nested,SE.hasRdr,SE.refsC,SE.refsCs,SE.ownsC,SE.refsAr,SE.rdFits,SE.costIf,SE.Con.post,SE.Con.det,SE.Ty.cells,SE.Ty.sz,SE.Ty.zero,SE.Ty.flat,SE.Ty.dec,SE.retOk,SE.loadsS,SE.loadS,SE.decRs,SE.decR,SE.outC,SE.rdC,SE.allDiff,SE.notIn,SE.notFrozen,SE.apartL,SE.rdEnd,SE.firstReg,SE.headC,SE.fitsC,SE.idsC,SE.keepE,SE.keepM,SE.keepB,SE.inL,SE.puts,SE.ownRes,SE.ownEnv,SE.renL,SE.srcId,SE.lookR,SE.envSame,SE.envSets,SE.memSame,SE.memBlks,SE.memOwns,SE.famsOf,SE.allIn,SE.closedE,SE.closedV,SE.closedM,SE.closedR,SE.rdLe,SE.S.refs,SE.S0.refs,SE.CV.refs,SE.refsL,SE.refsT,SE.S.ren,SE.S0.ren,SE.CV.ren,SE.Res.refs,SE.Res.ren,min_i64,max_i64,min_u16,max_u16,min_u8,max_u8,min_u64,max_u64,S.s.injEq,S0.c.injEq,CV.d.injEq,DC.val.injEq,Value.int.injEq,Value.bool.injEq,Value.string.injEq,eta_fact,eta_atom,eta_asn,eta_state,List.mem_cons,List.mem_nil_iff,or_false,false_or,or_true,true_or,Option.map_some,Option.map_none,Option.bind_some,Option.getD_some,Option.getD_none,Nat.reduceEqDiff,Nat.reduceAdd,Nat.reduceMul,Nat.reduceLeDiff,↓reduceIte,reduceCtorEq,true_and,and_true,and_self,forall_const,implies_true,true_implies,List.getElem?_toArray,List.getElem?_cons_succ,List.getElem?_cons_zero,List.append_nil,List.nil_append,List.cons_append,List.length_cons,List.length_nil,List.take_succ_cons,List.take_zero,List.drop_succ_cons,List.drop_zero,List.set_cons_zero,List.set_cons_succ,List.map_cons,List.map_nil,Nat.add_zero,Nat.zero_add,forall_eq,Prod.forall,Bool.not_true,Bool.not_false,Nat.lt_irrefl,Nat.zero_lt_succ,List.singleton_append,Prod.mk.injEq,Nat.zero_mul,Nat.one_mul,Nat.reducePow,Option.some.injEq,not_false_eq_true,Int.toNat_natCast,Nat.sub_zero,Nat.le_refl,Bool.or_false,Bool.false_or,Bool.or_true,Bool.true_or,Bool.and_true,Bool.true_and,Bool.and_false,Bool.false_and,Bool.or_self,Bool.and_self,List.append_eq,and_false,false_and]
 all_goals (try simp only [vcIf_iff,decide_eq_true_eq,decide_eq_false_iff_not])
 all_goals (repeat' (first | apply And.intro | intro _))
 all_goals (first | omega | (simp_all;done) | grind)
theorem open_l18Open:OpenOk Try.prog 48 :=
 open_ok tabOk mix (perm:=fun _=>[]) Try.func48 (by kernel_rfl) (by kernel_rfl) (by decide) (by kernel_rfl) vc_l18Open
theorem fn_l18Open : ∃ fn c, Try.prog.funcs[48]? = some fn /\ (fn.name == "runtime.NumGoroutine") = false /\ fn.body = some c := ⟨_, _, Try.func48, by kernel_rfl, rfl⟩
abbrev c_pick:Con:=⟨[.rdr,.int],[.int],fun _=>True,.inr fun (_,n,_) (r,_)=>pickP n r,fun _=>1⟩
theorem vc_pick (code:List UInt8) (v:Value) (p n:Int) (k:Nat) (h1:code.length<=2000) (h2:0<=p) (h3:p<=k) (h4:k+1<=rdLimit):vc tab (lookF []) (fun _=>none) (fun _=>[]) (bodyOf Try.f51) (pickSt code v p n) (pickQ code v p n):=by
 have h5:p<=1099511627776:=by have:k+1<=1099511627776:=h4;omega
 dsimp only [bodyOf,Try.f51,rdOf]
 simp only [pickSt,pickQ,pickK,pickM,pickR,pickP,true_and,and_true,SE.lookF,tab2,tab3,tab4,tab5,tab7,tab9,tab12,tab13,tab21,tab22,tab23,tab24,tab25,tab26,tab29,tab30,tab31,tab38,tab39,tab40,tab41,tab65,tab66,tab67,tab68,tab71,tab77,tab78,tab93,tab94,tab104,tab105,tab110,tab111,tab112,tab119,tab121,tab130,tab139,tab141,tab149,tab151,tab156,tab157,tab158,SE.entry,SE.envOf,SE.rdOf,Option.get_some,SE.vc,SE.vcReg,SE.vcLoop,SE.condK,SE.seqK,SE.blockK,SE.vcOps,SE.vcStep,SE.vcOp,SE.vcTr,SE.vcDet_some,SE.vcDet_none,SE.vcIf_true,SE.vcIf_false,SE.vcEach,SE.pickOps,SE.gslot,SE.trOp,SE.moveId,SE.trMove,SE.trPick,SE.trAlloc,SE.trBox,SE.trBuild,SE.trBuildSlice,SE.trLoad,SE.trStore,SE.trNilCheck,SE.trBin,SE.trUn,SE.trConvert,SE.trFieldAddr,SE.trField,SE.trIndexAddr,SE.trIndex,SE.trSlice,SE.trMakeSlice,SE.trExtract,SE.trLen,SE.trAppend,SE.trCopy,SE.trFn,SE.trCall,SE.argsS,SE.ev,SE.constS,SE.junk,SE.sv,SE.upd_app,SE.adds,SE.sets,SE.nid,SE.St.app,SE.St.put,SE.free,SE.freeL,SE.allFree,SE.rids,SE.AK.rids,SE.castL,SE.rdl,SE.AK.dec,SE.decs,SE.AK.enc,SE.encs,SE.AK.res,SE.ress,SE.pack1,SE.zcells,SE.zeroOf,SE.partCells,SE.putc,SE.fills,SE.datas,SE.elemOf,SE.elemsOf,SE.notSpent,SE.cellsAt,SE.weak,SE.dcellsAt,SE.slAt,SE.rdPlus,SE.intAt,SE.updElem,SE.kill,SE.noJunk,SE.inK,SE.binI,SE.shf,SE.isShift,SE.eqCells,SE.aggS,SE.intOp,SE.nested,SE.hasRdr,SE.refsC,SE.refsCs,SE.ownsC,SE.refsAr,SE.rdFits,SE.costIf,SE.Con.post,SE.Con.det,SE.Ty.cells,SE.Ty.sz,SE.Ty.zero,SE.Ty.flat,SE.Ty.dec,SE.retOk,SE.loadsS,SE.loadS,SE.decRs,SE.decR,SE.outC,SE.rdC,SE.allDiff,SE.notIn,SE.notFrozen,SE.apartL,SE.rdEnd,SE.firstReg,SE.headC,SE.fitsC,SE.idsC,SE.keepE,SE.keepM,SE.keepB,SE.inL,SE.puts,SE.ownRes,SE.ownEnv,SE.renL,SE.srcId,SE.lookR,SE.envSame,SE.envSets,SE.memSame,SE.memBlks,SE.memOwns,SE.famsOf,SE.allIn,SE.closedE,SE.closedV,SE.closedM,SE.closedR,SE.rdLe,SE.S.refs,SE.S0.refs,SE.CV.refs,SE.refsL,SE.refsT,SE.S.ren,SE.S0.ren,SE.CV.ren,SE.Res.refs,SE.Res.ren,min_i64,max_i64,min_u16,max_u16,min_u8,max_u8,min_u64,max_u64,S.s.injEq,S0.c.injEq,CV.d.injEq,DC.val.injEq,Value.int.injEq,Value.bool.injEq,Value.string.injEq,eta_fact,eta_atom,eta_asn,eta_state,List.mem_cons,List.mem_nil_iff,or_false,false_or,or_true,true_or,Option.map_some,Option.map_none,Option.bind_some,Option.getD_some,Option.getD_none,Nat.reduceEqDiff,Nat.reduceAdd,Nat.reduceMul,Nat.reduceLeDiff,↓reduceIte,reduceCtorEq,true_and,and_true,and_self,forall_const,implies_true,true_implies,List.getElem?_toArray,List.getElem?_cons_succ,List.getElem?_cons_zero,List.append_nil,List.nil_append,List.cons_append,List.length_cons,List.length_nil,List.take_succ_cons,List.take_zero,List.drop_succ_cons,List.drop_zero,List.set_cons_zero,List.set_cons_succ,List.map_cons,List.map_nil,Nat.add_zero,Nat.zero_add,forall_eq,Prod.forall,Bool.not_true,Bool.not_false,Nat.lt_irrefl,Nat.zero_lt_succ,List.singleton_append,Prod.mk.injEq,Nat.zero_mul,Nat.one_mul,Nat.reducePow,Option.some.injEq,not_false_eq_true,Int.toNat_natCast,Nat.sub_zero,Nat.le_refl,Bool.or_false,Bool.false_or,Bool.or_true,Bool.true_or,Bool.and_true,Bool.true_and,Bool.and_false,Bool.false_and,Bool.or_self,Bool.and_self,List.append_eq,and_false,false_and]
 all_goals (try simp only [vcIf_iff,decide_eq_true_eq,decide_eq_false_iff_not,bne_iff_ne,ne_eq,beq_iff_eq,beq_eq_false_iff_ne])
 have hq:p+1 - 1=p:=by omega
 simp only [hq]
 have hA:=byte_bd code
 generalize hL:(code.length:Int)=L at *
 have hL0:0<=L:=by omega
 have hm:∀ x:Int,0<=x->¬ L=0->0<=x.tmod L/\x.tmod L < L:=fun x h0 h1=>tmod_bd h0 (by omega)
 refine ⟨by omega,fun _ _=>by omega,fun hn=>⟨fun _ _=>by omega,fun hl=>⟨by omega,fun hpl=>?_,fun hpl=>?_⟩⟩⟩
 ·have a1:=hA p.toNat
  have m1:=tmod_bd (n:=n) a1.1 (by omega)
  generalize ((code.getD p.toNat 0).toNat:Int)=A at *
  exact ⟨by omega,by omega,by omega,fun _=>m1,fun h=>by omega⟩
 ·have m1:=hm p h2 hl
  have m2:=hm (p * 7+3) (by omega) hl
  have a1:=hA (p.tmod L).toNat
  have a2:=hA ((p * 7+3).tmod L).toNat
  have d1:=tdiv_bd (x:=p) (n:=L) h2 (by omega)
  generalize ((code.getD (p.tmod L).toNat 0).toNat:Int)=A at *
  generalize ((code.getD ((p * 7+3).tmod L).toNat 0).toNat:Int)=B at *
  generalize p.tdiv L=D at *
  have d2:=tdiv_bd (x:=A * 131+B * 1117+p * 29+D * 53) (n:=64) (by omega) (by omega)
  have x1:=xor_i64_pos (a:=A * 131+B * 1117+p * 29+D * 53) (b:=(A * 131+B * 1117+p * 29+D * 53).tdiv 64) (by omega) (by omega) d2.1 (by omega)
  have m3:=tmod_bd (n:=n) x1 (by omega)
  repeat' (first | apply And.intro | intro _)
  all_goals (first | assumption | omega | exact m3.1 | exact m3.2)
theorem ok_pick:FnOk Try.prog E 51 c_pick :=
 pick_ok tabOk mix (perm:=fun _=>[]) Try.func51 (by kernel_rfl) (by decide) (by kernel_rfl) (by decide) (by kernel_rfl) (fun code v p n k h1 h2 h3 h4=>vc_pick code v p n k h1 h2 h3 h4)
abbrev c_num:Con:=⟨[.rdr,.sl .int],[.int],fun (rr,l,_)=>0 < l.length/\l.length<=1000,.inr fun (rr,l,_) r=>r.1 ∈ l,fun (rr,l,_)=>1⟩
abbrev L_num:List (FuncId × Con):=[(51,c_pick)]
abbrev P_num:List (FuncId × PT):=[]
def VC_num (rr:Unit) (l:List Int) (k:Nat):Prop:=True/\True/\True/\True/\True/\(True/\(k+1<=1099511627776)/\True)/\(∀ r1:Int × Unit,(pickP ((l.length:Nat):Int) r1.1)->(0<=r1.1/\r1.1 < ((l.length:Nat):Int))/\True/\True/\((l.getD r1.1.toNat (0:Int)) ∈ l)/\True/\True/\True/\True/\(k+1<=k+1))
theorem vcn_num (rr:Unit) (l:List Int) (k:Nat) (hp:0 < l.length/\l.length<=1000) (hk:k+(1)<=1099511627776):VC_num rr l k:=by
 unfold VC_num
 simp only [cln,Nat.reduceEqDiff,Nat.reduceLeDiff,Nat.reduceAdd]
 all_goals (try simp only [opn])
 all_goals (repeat' (first | apply And.intro | intro _))
 all_goals (first | omega | (simp_all;done) | grind [getD_mem,pickP])
theorem ok_num:FnOk Try.prog E 72 c_num :=
 fn_okQ (l:=L_num) (lp:=P_num) (hp:=fun _=>false) (gcs:=fun _=>none) (perm:=fun _=>[]) tabOk mix ⟨ok_pick,trivial⟩ trivial Try.func72 rfl (by kernel_rfl) (by decide) (by kernel_rfl) (anns:=fun x _=>fun _ _=>none) (fun ⟨rr,l,_⟩ k hp hk=>Eq.mp (by kernel_rfl) (vcn_num rr l k hp (hk rfl))) (fun ⟨_,l,_⟩ hp=>⟨(l.getD 0 0,()),getD_mem hp.1⟩)
abbrev c_l3Star:Con:=⟨[.asn,.asn],[.asn],fun (a,b,_)=>a.facts.length<=1048576/\a.atoms.length<=1048576/\b.facts.length<=1048576/\b.atoms.length<=1048576,.inl fun (a,b,_)=>(⟨a.facts ++ b.facts,a.atoms ++ b.atoms⟩,()),fun _=>0⟩
abbrev L_l3Star:List (FuncId × Con):=[]
abbrev P_l3Star:List (FuncId × PT):=[]
def VC_l3Star (a:GAsn) (b:GAsn) (k:Nat):Prop:=TN/\TN/\(TN/\TN/\TN/\True)/\(TN/\True)/\True/\True/\(TN/\TF/\TF/\(([]:List GFact).length+a.facts.length<=4294967296))/\True/\True/\(TN/\TF/\TF/\((([]:List GFact) ++ a.facts).length+b.facts.length<=4294967296))/\(TN/\True)/\True/\True/\(TN/\TF/\TF/\(([]:List GAtom).length+a.atoms.length<=4294967296))/\True/\True/\(TN/\TF/\TF/\((([]:List GAtom) ++ a.atoms).length+b.atoms.length<=4294967296))/\(TN/\TN/\True)/\(TF/\TF)/\((((⟨(([]:List GFact) ++ a.facts) ++ b.facts,(([]:List GAtom) ++ a.atoms) ++ b.atoms⟩:GAsn),()):GAsn × Unit)=(⟨a.facts ++ b.facts,a.atoms ++ b.atoms⟩,()))/\((((176:Nat) ≠ 288)/\True)/\True/\True)/\((TF/\TF)/\(TF/\TF)/\True)/\True/\(True/\True/\True)/\TF
theorem vcn_l3Star (a:GAsn) (b:GAsn) (k:Nat) (hp:a.facts.length<=1048576/\a.atoms.length<=1048576/\b.facts.length<=1048576/\b.atoms.length<=1048576):VC_l3Star a b k:=by
 unfold VC_l3Star
 simp only [cln,Nat.reduceEqDiff,Nat.reduceLeDiff,Nat.reduceAdd]
 all_goals (try simp only [opn])
 all_goals (repeat' (first | apply And.intro | intro _))
 all_goals (first | omega | (simp_all;done) | grind [])
theorem ok_l3Star:FnOk Try.prog E 87 c_l3Star :=
 fn_okQ (l:=L_l3Star) (lp:=P_l3Star) (hp:=fun _=>false) (gcs:=fun _=>none) (perm:=fun _=>[]) tabOk mix trivial trivial Try.func87 rfl (by kernel_rfl) (by decide) (by kernel_rfl) (anns:=fun x _=>fun _ _=>none) (fun ⟨a,b,_⟩ k hp _=>Eq.mp (by kernel_rfl) (vcn_l3Star a b k hp)) tot_fn
abbrev c_l3Copy:Con:=⟨[.asn],[.asn],fun (a,_)=>a.facts.length<=1048576/\a.atoms.length<=1048576,.inl fun (a,_)=>(a,()),fun _=>0⟩
abbrev L_l3Copy:List (FuncId × Con):=[(87,c_l3Star)]
abbrev P_l3Copy:List (FuncId × PT):=[]
def VC_l3Copy (a:GAsn) (k:Nat):Prop:=TN/\(TN/\TN/\TN/\True)/\True/\(TN/\TN/\True)/\((a.facts.length<=1048576/\a.atoms.length<=1048576/\(⟨([]:List GFact),([]:List GAtom)⟩:GAsn).facts.length<=1048576/\(⟨([]:List GFact),([]:List GAtom)⟩:GAsn).atoms.length<=1048576)/\True/\TN/\TN/\True)/\(TF/\TF)/\((((⟨(a.facts ++ (⟨([]:List GFact),([]:List GAtom)⟩:GAsn).facts),(a.atoms ++ (⟨([]:List GFact),([]:List GAtom)⟩:GAsn).atoms)⟩:GAsn),()):GAsn × Unit)=(a,()))/\((((80:Nat) ≠ 81)/\True)/\True/\True)/\((TF/\TF)/\(TF/\TF)/\True)/\True/\(True/\True/\True)/\TF
theorem vcn_l3Copy (a:GAsn) (k:Nat) (hp:a.facts.length<=1048576/\a.atoms.length<=1048576):VC_l3Copy a k:=by
 unfold VC_l3Copy
 simp only [cln,Nat.reduceEqDiff,Nat.reduceLeDiff,Nat.reduceAdd]
 all_goals (try simp only [opn])
 all_goals (repeat' (first | apply And.intro | intro _))
 all_goals (first | omega | (simp_all;done) | grind [])
theorem ok_l3Copy:FnOk Try.prog E 95 c_l3Copy :=
 fn_okQ (l:=L_l3Copy) (lp:=P_l3Copy) (hp:=fun _=>false) (gcs:=fun _=>none) (perm:=fun _=>[]) tabOk mix ⟨ok_l3Star,trivial⟩ trivial Try.func95 rfl (by kernel_rfl) (by decide) (by kernel_rfl) (anns:=fun x _=>fun _ _=>none) (fun ⟨a,_⟩ k hp _=>Eq.mp (by kernel_rfl) (vcn_l3Copy a k hp)) tot_fn
abbrev c_l1Mutate:Con:=⟨[.rdr,.sl .fact],[.sl .fact],fun (rr,l,_)=>l.length<=1048576,.inr fun (rr,l,_) r=>r.1.length<=l.length+13,fun (rr,l,_)=>2⟩
abbrev L_l1Mutate:List (FuncId × Con):=[(51,c_pick),(72,c_num)]
def an_l1Mutate (rr:Unit) (l:List GFact):Nat->Option Ann
 | 6=>some { α:=Nat,ok:=fun i=>i=0 ∨ l.length+i<=13,mu:=fun i=>20 - i,i0:=fun _=>0,nx:=fun a _=>(fun i=>i+1) a,live:=[],sets:=fun i=>[],mids:=[],blks:=fun i=>[],owns:=fun i=>[⟨7,.slot 5,.fact,l ++ List.replicate i ⟨true,1,2⟩⟩],rd:=fun r _=>r,base:=100000 }
 | _=>none
theorem vc_l1Mutate (rr:Unit) (l:List GFact) (k:Nat) (hp:l.length<=1048576) (hk:k+(2)<=1099511627776):vc tab (lookF L_l1Mutate) (an_l1Mutate rr l) (fun _=>[]) (bodyOf Try.f97) (entry (encs c_l1Mutate.aks (rr,l,())) (rdOf true k)) (retOk tab c_l1Mutate Try.f97.results.toList (rr,l,()) k):=by
 dsimp only [bodyOf,Try.f97,rdOf]
 simp (maxSteps:=10000000) only [c_l1Mutate,L_l1Mutate,an_l1Mutate,SE.lookF,c_pick,c_num,tab2,tab3,tab4,tab5,tab7,tab9,tab12,tab13,tab21,tab22,tab23,tab24,tab25,tab26,tab29,tab30,tab31,tab38,tab39,tab40,tab41,tab65,tab66,tab67,tab68,tab71,tab77,tab78,tab93,tab94,tab104,tab105,tab110,tab111,tab112,tab119,tab121,tab130,tab139,tab141,tab149,tab151,tab156,tab157,tab158,SE.entry,SE.envOf,SE.rdOf,Option.get_some,SE.vc,SE.vcReg,SE.vcLoop,SE.condK,SE.seqK,SE.blockK,SE.vcOps,SE.vcStep,SE.vcOp,SE.vcTr,SE.vcDet_some,SE.vcDet_none,SE.vcIf_true,SE.vcIf_false,SE.vcEach,SE.pickOps,SE.gslot,SE.trOp,SE.moveId,SE.trMove,SE.trPick,SE.trAlloc,SE.trBox,SE.trBuild,SE.trBuildSlice,SE.trLoad,SE.trStore,SE.trNilCheck,SE.trBin,SE.trUn,SE.trConvert,SE.trFieldAddr,SE.trField,SE.trIndexAddr,SE.trIndex,SE.trSlice,SE.trMakeSlice,SE.trExtract,SE.trLen,SE.trAppend,SE.trCopy,SE.trFn,SE.trCall,SE.argsS,SE.ev,SE.constS,SE.junk,SE.sv,SE.upd_app,SE.adds,SE.sets,SE.nid,SE.St.app,SE.St.put,SE.free,SE.freeL,SE.allFree,SE.rids,SE.AK.rids,SE.castL,SE.rdl,SE.AK.dec,SE.decs,SE.AK.enc,SE.encs,SE.AK.res,SE.ress,SE.pack1,SE.zcells,SE.zeroOf,SE.partCells,SE.putc,SE.fills,SE.datas,SE.elemOf,SE.elemsOf,SE.notSpent,SE.cellsAt,SE.weak,SE.dcellsAt,SE.slAt,SE.rdPlus,SE.intAt,SE.updElem,SE.kill,SE.noJunk,SE.inK,SE.binI,SE.shf,SE.isShift,SE.eqCells,SE.aggS,SE.intOp,SE.nested,SE.hasRdr,SE.refsC,SE.refsCs,SE.ownsC,SE.refsAr,SE.rdFits,SE.costIf,SE.Con.post,SE.Con.det,SE.Ty.cells,SE.Ty.sz,SE.Ty.zero,SE.Ty.flat,SE.Ty.dec,SE.retOk,SE.loadsS,SE.loadS,SE.decRs,SE.decR,SE.outC,SE.rdC,SE.allDiff,SE.notIn,SE.notFrozen,SE.apartL,SE.rdEnd,SE.firstReg,SE.headC,SE.fitsC,SE.idsC,SE.keepE,SE.keepM,SE.keepB,SE.inL,SE.puts,SE.ownRes,SE.ownEnv,SE.renL,SE.srcId,SE.lookR,SE.envSame,SE.envSets,SE.memSame,SE.memBlks,SE.memOwns,SE.famsOf,SE.allIn,SE.closedE,SE.closedV,SE.closedM,SE.closedR,SE.rdLe,SE.S.refs,SE.S0.refs,SE.CV.refs,SE.refsL,SE.refsT,SE.S.ren,SE.S0.ren,SE.CV.ren,SE.Res.refs,SE.Res.ren,min_i64,max_i64,min_u16,max_u16,min_u8,max_u8,min_u64,max_u64,S.s.injEq,S0.c.injEq,CV.d.injEq,DC.val.injEq,Value.int.injEq,Value.bool.injEq,Value.string.injEq,eta_fact,eta_atom,eta_asn,eta_state,List.mem_cons,List.mem_nil_iff,or_false,false_or,or_true,true_or,Option.map_some,Option.map_none,Option.bind_some,Option.getD_some,Option.getD_none,Nat.reduceEqDiff,Nat.reduceAdd,Nat.reduceMul,Nat.reduceLeDiff,↓reduceIte,reduceCtorEq,true_and,and_true,and_self,forall_const,implies_true,true_implies,List.getElem?_toArray,List.getElem?_cons_succ,List.getElem?_cons_zero,List.append_nil,List.nil_append,List.cons_append,List.length_cons,List.length_nil,List.take_succ_cons,List.take_zero,List.drop_succ_cons,List.drop_zero,List.set_cons_zero,List.set_cons_succ,List.map_cons,List.map_nil,Nat.add_zero,Nat.zero_add,forall_eq,Prod.forall,Bool.not_true,Bool.not_false,Nat.lt_irrefl,Nat.zero_lt_succ,List.singleton_append,Prod.mk.injEq,Nat.zero_mul,Nat.one_mul,Nat.reducePow,Option.some.injEq,not_false_eq_true,Int.toNat_natCast,Nat.sub_zero,Nat.le_refl,Bool.or_false,Bool.false_or,Bool.or_true,Bool.true_or,Bool.and_true,Bool.true_and,Bool.and_false,Bool.false_and,Bool.or_self,Bool.and_self,List.append_eq,and_false,false_and]
 all_goals (try simp only [vcIf_iff,decide_eq_true_eq,decide_eq_false_iff_not,bne_iff_ne,ne_eq,beq_iff_eq,beq_eq_false_iff_ne,bne_eq_false_iff_eq,Bool.not_eq_true',Bool.not_eq_false',Int.ofNat_lt,Int.natCast_inj])
 all_goals (repeat' (first | apply And.intro | intro _))
 all_goals (first | omega | (simp_all;done) | grind [List.replicate_succ',List.append_assoc])
theorem ok_l1Mutate:FnOk Try.prog E 97 c_l1Mutate :=
 fn_ok (l:=L_l1Mutate) (perm:=fun _=>[]) tabOk mix ⟨ok_pick,ok_num,trivial⟩ Try.func97 rfl (by kernel_rfl) (by decide) (by kernel_rfl) (anns:=fun x _=>an_l1Mutate x.1 x.2.1) (fun ⟨rr,l,_⟩ k hp hk=>vc_l1Mutate rr l k hp (hk rfl)) (fun ⟨_,l,_⟩ _=>⟨(l,()),Nat.le_add_right _ _⟩)
abbrev c_l3Mutate:Con:=⟨[.rdr,.asn],[.asn],fun (rr,a,_)=>a.facts.length<=100000/\a.atoms.length<=100000,.inr fun (rr,a,_) r=>r.1.facts.length<=a.facts.length+14/\r.1.atoms.length<=a.atoms.length+7,fun (rr,a,_)=>4⟩
abbrev L_l3Mutate:List (FuncId × Con):=[(51,c_pick),(72,c_num),(95,c_l3Copy),(97,c_l1Mutate)]
def an_l3Mutate (rr:Unit) (a:GAsn):Nat->Option Ann
 | 8=>some { α:=Nat,ok:=fun i=>i=0 ∨ a.atoms.length+i<=7,mu:=fun i=>20 - i,i0:=fun _=>0,nx:=fun a _=>(fun i=>i+1) a,live:=[4,5],sets:=fun i=>[],mids:=[79,64,65],blks:=fun i=>[(95,.blk [.own 7,.own 8])],owns:=fun i=>[⟨7,.cell 95 0,.fact,a.facts⟩,⟨8,.cell 95 1,.atom,a.atoms ++ List.replicate i ⟨2,1,1⟩⟩],rd:=fun r _=>r,base:=100000 }
 | _=>none
theorem vc_l3Mutate (rr:Unit) (a:GAsn) (k:Nat) (hp:a.facts.length<=100000/\a.atoms.length<=100000) (hk:k+(4)<=1099511627776):vc tab (lookF L_l3Mutate) (an_l3Mutate rr a) (fun _=>[]) (bodyOf Try.f52) (entry (encs c_l3Mutate.aks (rr,a,())) (rdOf true k)) (retOk tab c_l3Mutate Try.f52.results.toList (rr,a,()) k):=by
 dsimp only [bodyOf,Try.f52,rdOf]
 simp (maxSteps:=10000000) only [c_l3Mutate,L_l3Mutate,an_l3Mutate,SE.lookF,c_pick,c_num,c_l3Copy,c_l1Mutate,tab2,tab3,tab4,tab5,tab7,tab9,tab12,tab13,tab21,tab22,tab23,tab24,tab25,tab26,tab29,tab30,tab31,tab38,tab39,tab40,tab41,tab65,tab66,tab67,tab68,tab71,tab77,tab78,tab93,tab94,tab104,tab105,tab110,tab111,tab112,tab119,tab121,tab130,tab139,tab141,tab149,tab151,tab156,tab157,tab158,SE.entry,SE.envOf,SE.rdOf,Option.get_some,SE.vc,SE.vcReg,SE.vcLoop,SE.condK,SE.seqK,SE.blockK,SE.vcOps,SE.vcStep,SE.vcOp,SE.vcTr,SE.vcDet_some,SE.vcDet_none,SE.vcIf_true,SE.vcIf_false,SE.vcEach,SE.pickOps,SE.gslot,SE.trOp,SE.moveId,SE.trMove,SE.trPick,SE.trAlloc,SE.trBox,SE.trBuild,SE.trBuildSlice,SE.trLoad,SE.trStore,SE.trNilCheck,SE.trBin,SE.trUn,SE.trConvert,SE.trFieldAddr,SE.trField,SE.trIndexAddr,SE.trIndex,SE.trSlice,SE.trMakeSlice,SE.trExtract,SE.trLen,SE.trAppend,SE.trCopy,SE.trFn,SE.trCall,SE.argsS,SE.ev,SE.constS,SE.junk,SE.sv,SE.upd_app,SE.adds,SE.sets,SE.nid,SE.St.app,SE.St.put,SE.free,SE.freeL,SE.allFree,SE.rids,SE.AK.rids,SE.castL,SE.rdl,SE.AK.dec,SE.decs,SE.AK.enc,SE.encs,SE.AK.res,SE.ress,SE.pack1,SE.zcells,SE.zeroOf,SE.partCells,SE.putc,SE.fills,SE.datas,SE.elemOf,SE.elemsOf,SE.notSpent,SE.cellsAt,SE.weak,SE.dcellsAt,SE.slAt,SE.rdPlus,SE.intAt,SE.updElem,SE.kill,SE.noJunk,SE.inK,SE.binI,SE.shf,SE.isShift,SE.eqCells,SE.aggS,SE.intOp,SE.nested,SE.hasRdr,SE.refsC,SE.refsCs,SE.ownsC,SE.refsAr,SE.rdFits,SE.costIf,SE.Con.post,SE.Con.det,SE.Ty.cells,SE.Ty.sz,SE.Ty.zero,SE.Ty.flat,SE.Ty.dec,SE.retOk,SE.loadsS,SE.loadS,SE.decRs,SE.decR,SE.outC,SE.rdC,SE.allDiff,SE.notIn,SE.notFrozen,SE.apartL,SE.rdEnd,SE.firstReg,SE.headC,SE.fitsC,SE.idsC,SE.keepE,SE.keepM,SE.keepB,SE.inL,SE.puts,SE.ownRes,SE.ownEnv,SE.renL,SE.srcId,SE.lookR,SE.envSame,SE.envSets,SE.memSame,SE.memBlks,SE.memOwns,SE.famsOf,SE.allIn,SE.closedE,SE.closedV,SE.closedM,SE.closedR,SE.rdLe,SE.S.refs,SE.S0.refs,SE.CV.refs,SE.refsL,SE.refsT,SE.S.ren,SE.S0.ren,SE.CV.ren,SE.Res.refs,SE.Res.ren,min_i64,max_i64,min_u16,max_u16,min_u8,max_u8,min_u64,max_u64,S.s.injEq,S0.c.injEq,CV.d.injEq,DC.val.injEq,Value.int.injEq,Value.bool.injEq,Value.string.injEq,eta_fact,eta_atom,eta_asn,eta_state,List.mem_cons,List.mem_nil_iff,or_false,false_or,or_true,true_or,Option.map_some,Option.map_none,Option.bind_some,Option.getD_some,Option.getD_none,Nat.reduceEqDiff,Nat.reduceAdd,Nat.reduceMul,Nat.reduceLeDiff,↓reduceIte,reduceCtorEq,true_and,and_true,and_self,forall_const,implies_true,true_implies,List.getElem?_toArray,List.getElem?_cons_succ,List.getElem?_cons_zero,List.append_nil,List.nil_append,List.cons_append,List.length_cons,List.length_nil,List.take_succ_cons,List.take_zero,List.drop_succ_cons,List.drop_zero,List.set_cons_zero,List.set_cons_succ,List.map_cons,List.map_nil,Nat.add_zero,Nat.zero_add,forall_eq,Prod.forall,Bool.not_true,Bool.not_false,Nat.lt_irrefl,Nat.zero_lt_succ,List.singleton_append,Prod.mk.injEq,Nat.zero_mul,Nat.one_mul,Nat.reducePow,Option.some.injEq,not_false_eq_true,Int.toNat_natCast,Nat.sub_zero,Nat.le_refl,Bool.or_false,Bool.false_or,Bool.or_true,Bool.true_or,Bool.and_true,Bool.true_and,Bool.and_false,Bool.false_and,Bool.or_self,Bool.and_self,List.append_eq,and_false,false_and]
 all_goals (try simp only [vcIf_iff,decide_eq_true_eq,decide_eq_false_iff_not,bne_iff_ne,ne_eq,beq_iff_eq,beq_eq_false_iff_ne,bne_eq_false_iff_eq,Bool.not_eq_true',Bool.not_eq_false',Int.ofNat_lt,Int.natCast_inj])
 all_goals (repeat' (first | apply And.intro | intro _))
 all_goals (first | omega | (simp_all;done) | grind [List.replicate_succ',List.append_assoc])
theorem ok_l3Mutate:FnOk Try.prog E 52 c_l3Mutate :=
 fn_ok (l:=L_l3Mutate) (perm:=fun _=>[]) tabOk mix ⟨ok_pick,ok_num,ok_l3Copy,ok_l1Mutate,trivial⟩ Try.func52 rfl (by kernel_rfl) (by decide) (by kernel_rfl) (anns:=fun x _=>an_l3Mutate x.1 x.2.1) (fun ⟨rr,a,_⟩ k hp hk=>vc_l3Mutate rr a k hp (hk rfl)) (fun ⟨_,a,_⟩ _=>⟨(a,()),⟨Nat.le_add_right _ _,Nat.le_add_right _ _⟩⟩)
abbrev c_l7Pick:Con:=⟨[.asn,.int],[.asn],fun (a,mask,_)=>a.facts.length<=1048576/\a.atoms.length<=1048576,.inl fun (a,mask,_)=>(⟨[],pkA mask a.atoms⟩,()),fun _=>0⟩
abbrev L_l7Pick:List (FuncId × Con):=[]
abbrev P_l7Pick:List (FuncId × PT):=[]
def an_l7Pick (a:GAsn) (mask:Int):Nat->St->Option Ann
 | 3,se=>some { α:=Nat,ok:=fun i=>i<=a.atoms.length,mu:=fun i=>a.atoms.length - i,i0:=fun _=>0,nx:=fun a _=>(fun i=>i+1) a,live:=[1,2,4,5],sets:=fun i=>[(6,sv (.int .i64 i))],mids:=[47,64,65,79],blks:=fun i=>[(95,.blk [.own 7,.own 8])],owns:=fun i=>[⟨7,.cell 95 0,.fact,[]⟩,⟨8,.cell 95 1,.atom,pk mask a.atoms i⟩],rd:=fun r _=>r,base:=100000 }
 | _,_=>none
def VC_l7Pick_1 (mask:Int):Prop:=RL [.s (.c (.d (.val (.int .i64 mask)))),.s (.c (.ptr 47 0)),.s (.c (.ptr 79 0)),.s (.c (.ptr 95 0))]
def VC_l7Pick_2 (a:GAsn):Prop:=RM [some (.blk [.d (.arr .fact a.facts),.d (.arr .atom a.atoms)]),some (.sl 64 .fact ([]:List GFact)),some (.sl 65 .atom ([]:List GAtom)),some (.blk [.own 64,.own 65])]
def VC_l7Pick_3 (i1:Nat):Prop:=([.s (.c (.d (.val (.int .i64 (((i1:Nat):Int)+(1:Int))))))]:List S)=[.s (.c (.d (.val (.int .i64 (((i1+1):Nat):Int)))))]
def VC_l7Pick (a:GAsn) (mask:Int) (k:Nat):Prop:=TN/\(TN/\TN/\TN/\True)/\(TN/\TN/\True)/\(TN/\TN/\TN/\True)/\(TF/\TF)/\True/\((0<=a.atoms.length)/\TT/\(VC_l7Pick_1 mask)/\(([.s (.c (.d (.val (.int .i64 (0:Int)))))]:List S)=[.s (.c (.d (.val (.int .i64 ((0:Nat):Int)))))])/\(VC_l7Pick_2 a)/\(RM [some (.blk [.own 112,.own 113])])/\(((some ([]:List GFact):Option (List GFact))=some [])/\((some ([]:List GAtom):Option (List GAtom))=some (pk mask a.atoms 0))/\True)/\TT)/\(∀ i1:Nat,(i1<=a.atoms.length)->True/\True/\True/\True/\True/\(vcIf (decide (((i1:Nat):Int) < ((a.atoms.length:Nat):Int))) (True/\True/\(0<=((i1:Nat):Int))/\True/\True/\(vcIf ((bits .and .i64 (Int.fdiv mask (2 ^ (min i1 (IntKind.bits .i64)))) (1:Int)) == (1:Int)) (True/\True/\True/\True/\True/\(0<=((i1:Nat):Int)/\((i1:Nat):Int) < ((a.atoms.length:Nat):Int))/\True/\(TN/\True)/\(TN/\TF/\TF/\((pk mask a.atoms i1).length+([(a.atoms.getD i1 (⟨0,0,0⟩:GAtom))]:List GAtom).length<=4294967296))/\True/\(TF/\TF)/\True/\(inK .i64 (((i1:Nat):Int)+(1:Int)))/\True/\((i1+1)<=a.atoms.length)/\(a.atoms.length - (i1+1) < a.atoms.length - i1)/\TT/\(VC_l7Pick_1 mask)/\(VC_l7Pick_3 i1)/\(VC_l7Pick_2 a)/\(RM [some (.blk [.own 7,.own 100448])])/\(((some []:Option (List GFact))=some [])/\((some ((pk mask a.atoms i1) ++ ([(a.atoms.getD i1 (⟨0,0,0⟩:GAtom))]:List GAtom)):Option (List GAtom))=some (pk mask a.atoms (i1+1)))/\True)/\TT) (True/\(inK .i64 (((i1:Nat):Int)+(1:Int)))/\True/\((i1+1)<=a.atoms.length)/\(a.atoms.length - (i1+1) < a.atoms.length - i1)/\TT/\(VC_l7Pick_1 mask)/\(VC_l7Pick_3 i1)/\(VC_l7Pick_2 a)/\(RM [some (.blk [.own 7,.own 8])])/\(((some []:Option (List GFact))=some [])/\((some (pk mask a.atoms i1):Option (List GAtom))=some (pk mask a.atoms (i1+1)))/\True)/\TT))) (True/\(TF/\TF)/\((((⟨[],pk mask a.atoms i1⟩:GAsn),()):GAsn × Unit)=(⟨[],pkA mask a.atoms⟩,()))/\((((7:Nat) ≠ 8)/\True)/\True/\True)/\((TF/\TF)/\(TF/\TF)/\True)/\True/\(True/\True/\True)/\TF)))
theorem vcn_l7Pick (a:GAsn) (mask:Int) (k:Nat) (hp:a.facts.length<=1048576/\a.atoms.length<=1048576):VC_l7Pick a mask k:=by
 unfold VC_l7Pick VC_l7Pick_3 VC_l7Pick_2 VC_l7Pick_1
 simp only [cln,Nat.reduceEqDiff,Nat.reduceLeDiff,Nat.reduceAdd]
 have hs:=pk_step mask a.atoms
 have hl:=pk_len mask a.atoms
 all_goals (try simp only [opn])
 all_goals (repeat' (first | apply And.intro | intro _))
 all_goals (first | omega | (simp_all;done) | grind [pkA,mbit,pk])
theorem ok_l7Pick:FnOk Try.prog E 75 c_l7Pick :=
 fn_okQ (l:=L_l7Pick) (lp:=P_l7Pick) (hp:=fun _=>false) (gcs:=fun _=>none) (perm:=fun _=>[]) tabOk mix trivial trivial Try.func75 rfl (by kernel_rfl) (by decide) (by kernel_rfl) (anns:=fun x _=>an_l7Pick x.1 x.2.1) (fun ⟨a,mask,_⟩ k hp _=>Eq.mp (by kernel_rfl) (vcn_l7Pick a mask k hp)) tot_fn
abbrev c_l6Chains:Con:=⟨[.rdr],[.asn],fun _=>True,.inr fun (rr,_) r=>r.1.facts.length<=1/\r.1.atoms.length<=4,fun (rr,_)=>13⟩
abbrev L_l6Chains:List (FuncId × Con):=[(51,c_pick),(72,c_num)]
abbrev P_l6Chains:List (FuncId × PT):=[]
def an_l6Chains (rr:Unit):Nat->St->Option Ann
 | 4,se=>some { α:=Int × Int × List GAtom,ok:=fun p=>0<=p.2.1/\p.2.1+p.2.2.length<=4,mu:=fun p=>p.2.1.toNat,i0:=fun st=>(intAt st 4,intAt st 5,([]:List GAtom)),nx:=fun p st=>(intAt st 4,p.2.1 - 1,slAt .atom st (.cell 63 1)),live:=[0,2,3],sets:=fun p=>[(4,sv (.int .i64 p.1)),(5,sv (.int .i64 p.2.1))],mids:=[32,33,47],blks:=fun p=>[(63,.blk [.own 7,.own 8])],owns:=fun p=>[⟨7,.cell 63 0,.fact,([]:List GFact)⟩,⟨8,.cell 63 1,.atom,p.2.2⟩],rd:=fun r p=>rdPlus r (2 * (4 - p.2.1.toNat)),base:=100000 }
 | _,_=>none
def VC_l6Chains_1 :Prop:=0 < ([(1:Int),(2:Int),(5:Int)]:List Int).length/\([(1:Int),(2:Int),(5:Int)]:List Int).length<=1000
def VC_l6Chains_2 :Prop:=RM [some (.sl 32 .fact ([]:List GFact)),some (.sl 33 .atom ([]:List GAtom)),some (.blk [.own 32,.own 33])]
def VC_l6Chains_3 (r5:Int × Unit) (p3:Int × Int × List GAtom) (r4:Int × Unit) (k:Nat):Prop:=(True/\(vcIf (r5.1 == (0:Int)) (True/\(TF/\TF)/\True/\True/\True/\(TN/\True)/\(TN/\TF/\TF/\(p3.2.2.length+([(⟨(2:Int),(p3.1:Int),r4.1⟩:GAtom)]:List GAtom).length<=4294967296))/\True/\(TF/\TF)/\True/\True/\True/\True/\(inK .i64 ((p3.2.1:Int) - (1:Int)))/\True/\(0<=(r4.1,p3.2.1 - 1,(p3.2.2 ++ ([(⟨(2:Int),(p3.1:Int),r4.1⟩:GAtom)]:List GAtom))).2.1/\(r4.1,p3.2.1 - 1,(p3.2.2 ++ ([(⟨(2:Int),(p3.1:Int),r4.1⟩:GAtom)]:List GAtom))).2.1+(r4.1,p3.2.1 - 1,(p3.2.2 ++ ([(⟨(2:Int),(p3.1:Int),r4.1⟩:GAtom)]:List GAtom))).2.2.length<=4)/\((r4.1,p3.2.1 - 1,(p3.2.2 ++ ([(⟨(2:Int),(p3.1:Int),r4.1⟩:GAtom)]:List GAtom))).2.1.toNat < p3.2.1.toNat)/\TT/\(RL [.s (.c (.rdr)),.s (.c (.ptr 47 0)),.s (.c (.ptr 63 0))])/\(([.s (.c (.d (.val (.int .i64 r4.1)))),.s (.c (.d (.val (.int .i64 ((p3.2.1:Int) - (1:Int))))))]:List S)=[.s (.c (.d (.val (.int .i64 ((r4.1,p3.2.1 - 1,(p3.2.2 ++ ([(⟨(2:Int),(p3.1:Int),r4.1⟩:GAtom)]:List GAtom))).1:Int))))),.s (.c (.d (.val (.int .i64 ((r4.1,p3.2.1 - 1,(p3.2.2 ++ ([(⟨(2:Int),(p3.1:Int),r4.1⟩:GAtom)]:List GAtom))).2.1:Int)))))])/\VC_l6Chains_2/\(RM [some (.blk [.own 7,.own 100496])])/\(((some ([]:List GFact):Option (List GFact))=some ([]:List GFact))/\((some (p3.2.2 ++ ([(⟨(2:Int),(p3.1:Int),r4.1⟩:GAtom)]:List GAtom)):Option (List GAtom))=some ((r4.1,p3.2.1 - 1,(p3.2.2 ++ ([(⟨(2:Int),(p3.1:Int),r4.1⟩:GAtom)]:List GAtom))).2.2))/\True)/\(k+1+1+(2 * (4 - p3.2.1.toNat))+1+1<=k+1+1+(2 * (4 - (r4.1,p3.2.1 - 1,(p3.2.2 ++ ([(⟨(2:Int),(p3.1:Int),r4.1⟩:GAtom)]:List GAtom))).2.1.toNat))/\k+1+1+(2 * (4 - (r4.1,p3.2.1 - 1,(p3.2.2 ++ ([(⟨(2:Int),(p3.1:Int),r4.1⟩:GAtom)]:List GAtom))).2.1.toNat))<=1099511627776)) (True/\True/\True/\(TN/\True)/\(TN/\TF/\TF/\(p3.2.2.length+([(⟨(1:Int),(p3.1:Int),r4.1⟩:GAtom)]:List GAtom).length<=4294967296))/\True/\(TF/\TF)/\True/\True/\True/\True/\(inK .i64 ((p3.2.1:Int) - (1:Int)))/\True/\(0<=(r4.1,p3.2.1 - 1,(p3.2.2 ++ ([(⟨(1:Int),(p3.1:Int),r4.1⟩:GAtom)]:List GAtom))).2.1/\(r4.1,p3.2.1 - 1,(p3.2.2 ++ ([(⟨(1:Int),(p3.1:Int),r4.1⟩:GAtom)]:List GAtom))).2.1+(r4.1,p3.2.1 - 1,(p3.2.2 ++ ([(⟨(1:Int),(p3.1:Int),r4.1⟩:GAtom)]:List GAtom))).2.2.length<=4)/\((r4.1,p3.2.1 - 1,(p3.2.2 ++ ([(⟨(1:Int),(p3.1:Int),r4.1⟩:GAtom)]:List GAtom))).2.1.toNat < p3.2.1.toNat)/\TT/\(RL [.s (.c (.rdr)),.s (.c (.ptr 47 0)),.s (.c (.ptr 63 0))])/\(([.s (.c (.d (.val (.int .i64 r4.1)))),.s (.c (.d (.val (.int .i64 ((p3.2.1:Int) - (1:Int))))))]:List S)=[.s (.c (.d (.val (.int .i64 ((r4.1,p3.2.1 - 1,(p3.2.2 ++ ([(⟨(1:Int),(p3.1:Int),r4.1⟩:GAtom)]:List GAtom))).1:Int))))),.s (.c (.d (.val (.int .i64 ((r4.1,p3.2.1 - 1,(p3.2.2 ++ ([(⟨(1:Int),(p3.1:Int),r4.1⟩:GAtom)]:List GAtom))).2.1:Int)))))])/\VC_l6Chains_2/\(RM [some (.blk [.own 7,.own 100496])])/\(((some ([]:List GFact):Option (List GFact))=some ([]:List GFact))/\((some (p3.2.2 ++ ([(⟨(1:Int),(p3.1:Int),r4.1⟩:GAtom)]:List GAtom)):Option (List GAtom))=some ((r4.1,p3.2.1 - 1,(p3.2.2 ++ ([(⟨(1:Int),(p3.1:Int),r4.1⟩:GAtom)]:List GAtom))).2.2))/\True)/\(k+1+1+(2 * (4 - p3.2.1.toNat))+1+1<=k+1+1+(2 * (4 - (r4.1,p3.2.1 - 1,(p3.2.2 ++ ([(⟨(1:Int),(p3.1:Int),r4.1⟩:GAtom)]:List GAtom))).2.1.toNat))/\k+1+1+(2 * (4 - (r4.1,p3.2.1 - 1,(p3.2.2 ++ ([(⟨(1:Int),(p3.1:Int),r4.1⟩:GAtom)]:List GAtom))).2.1.toNat))<=1099511627776))))
def VC_l6Chains_4 (r1:Int × Unit) (r2:Int × Unit) (k:Nat):Prop:=(((0<=(r1.1,r2.1,([]:List GAtom)).2.1/\(r1.1,r2.1,([]:List GAtom)).2.1+(r1.1,r2.1,([]:List GAtom)).2.2.length<=4)/\TT/\(RL [.s (.c (.rdr)),.s (.c (.ptr 47 0)),.s (.c (.ptr 63 0))])/\(([.s (.c (.d (.val (.int .i64 r1.1)))),.s (.c (.d (.val (.int .i64 r2.1))))]:List S)=[.s (.c (.d (.val (.int .i64 ((r1.1,r2.1,([]:List GAtom)).1:Int))))),.s (.c (.d (.val (.int .i64 ((r1.1,r2.1,([]:List GAtom)).2.1:Int)))))])/\VC_l6Chains_2/\(RM [some (.blk [.own 112,.own 113])])/\(((some ([]:List GFact):Option (List GFact))=some ([]:List GFact))/\((some ([]:List GAtom):Option (List GAtom))=some ((r1.1,r2.1,([]:List GAtom)).2.2))/\True)/\(k+1+1<=k+1+1+(2 * (4 - (r1.1,r2.1,([]:List GAtom)).2.1.toNat))/\k+1+1+(2 * (4 - (r1.1,r2.1,([]:List GAtom)).2.1.toNat))<=1099511627776))/\(∀ p3:Int × Int × List GAtom,(0<=p3.2.1/\p3.2.1+p3.2.2.length<=4)->True/\True/\(vcIf (decide ((0:Int) < (p3.2.1:Int))) (True/\True/\(TN/\True)/\((0 < ([(2:Int),(5:Int),(0:Int),(3:Int),(6:Int),(1:Int)]:List Int).length/\([(2:Int),(5:Int),(0:Int),(3:Int),(6:Int),(1:Int)]:List Int).length<=1000)/\(k+1+1+(2 * (4 - p3.2.1.toNat))+1<=1099511627776)/\True)/\(∀ r4:Int × Unit,(r4.1 ∈ ([(2:Int),(5:Int),(0:Int),(3:Int),(6:Int),(1:Int)]:List Int))->True/\(TN/\True)/\(TF/\TF)/\True/\(True/\(k+1+1+(2 * (4 - p3.2.1.toNat))+1+1<=1099511627776)/\True)/\(∀ r5:Int × Unit,(pickP (2:Int) r5.1)->(VC_l6Chains_3 r5 p3 r4 k)))) (True/\(True/\(k+1+1+(2 * (4 - p3.2.1.toNat))+1<=1099511627776)/\True)/\(∀ r6:Int × Unit,(pickP (3:Int) r6.1)->True/\(vcIf (r6.1 == (0:Int)) (True/\True/\True/\(TN/\True)/\(VC_l6Chains_1/\(k+1+1+(2 * (4 - p3.2.1.toNat))+1+1<=1099511627776)/\True)/\(∀ r7:Int × Unit,(r7.1 ∈ ([(1:Int),(2:Int),(5:Int)]:List Int))->True/\(TN/\True)/\((0 < ([(0:Int),(2:Int),(3:Int),(5:Int)]:List Int).length/\([(0:Int),(2:Int),(3:Int),(5:Int)]:List Int).length<=1000)/\(k+1+1+(2 * (4 - p3.2.1.toNat))+1+1+1<=1099511627776)/\True)/\(∀ r8:Int × Unit,(r8.1 ∈ ([(0:Int),(2:Int),(3:Int),(5:Int)]:List Int))->True/\(TN/\True)/\(TN/\TF/\TF/\(([]:List GFact).length+([(⟨false,r7.1,r8.1⟩:GFact)]:List GFact).length<=4294967296))/\True/\(TF/\TF)/\True/\(TF/\TF)/\((⟨([]:List GFact) ++ ([(⟨false,r7.1,r8.1⟩:GFact)]:List GFact),p3.2.2⟩:GAsn).facts.length<=1/\(⟨([]:List GFact) ++ ([(⟨false,r7.1,r8.1⟩:GFact)]:List GFact),p3.2.2⟩:GAsn).atoms.length<=4)/\((((100768:Nat) ≠ 8)/\True)/\True/\True)/\((TF/\TF)/\(TF/\TF)/\True)/\True/\(True/\True/\True)/\(k+1+1+(2 * (4 - p3.2.1.toNat))+1+1+1<=k+13)))) (True/\(TF/\TF)/\((⟨([]:List GFact),p3.2.2⟩:GAsn).facts.length<=1/\(⟨([]:List GFact),p3.2.2⟩:GAsn).atoms.length<=4)/\((((7:Nat) ≠ 8)/\True)/\True/\True)/\((TF/\TF)/\(TF/\TF)/\True)/\True/\(True/\True/\True)/\(k+1+1+(2 * (4 - p3.2.1.toNat))+1<=k+13))))))))
def VC_l6Chains (rr:Unit) (k:Nat):Prop:=(TN/\TN/\TN/\True)/\(TN/\TN/\True)/\(TN/\TN/\TN/\True)/\(TF/\TF)/\True/\(TN/\True)/\(VC_l6Chains_1/\(k+1<=1099511627776)/\True)/\(∀ r1:Int × Unit,(r1.1 ∈ ([(1:Int),(2:Int),(5:Int)]:List Int))->True/\True/\(TN/\True)/\((0 < ([(2:Int),(3:Int),(1:Int),(4:Int)]:List Int).length/\([(2:Int),(3:Int),(1:Int),(4:Int)]:List Int).length<=1000)/\(k+1+1<=1099511627776)/\True)/\(∀ r2:Int × Unit,(r2.1 ∈ ([(2:Int),(3:Int),(1:Int),(4:Int)]:List Int))->True/\(VC_l6Chains_4 r1 r2 k)))
theorem vcn_l6Chains (rr:Unit) (k:Nat) (hk:k+(13)<=1099511627776):VC_l6Chains rr k:=by
 unfold VC_l6Chains VC_l6Chains_4 VC_l6Chains_3 VC_l6Chains_2 VC_l6Chains_1
 simp only [cln,Nat.reduceEqDiff,Nat.reduceLeDiff,Nat.reduceAdd]
 all_goals (try simp only [opn])
 all_goals (repeat' (first | apply And.intro | intro _))
 all_goals (repeat (cases ‹_/\_›))
 all_goals (first | (exfalso;contradiction) | omega | with_reducible assumption | with_reducible rfl | skip)
 all_goals (try simp only [List.length_append,List.length_cons,List.length_nil,List.length_set,List.length_take,List.length_drop,List.mem_cons,List.mem_nil_iff,or_false] at *)
 all_goals (first
  | omega
  | (rcases ‹_ ∨ _› with h | h | h | h <;> omega)
  | exact Nat.le_trans fcL_len.1 ‹_› | exact Nat.le_trans fcL_len.2 ‹_›
  | grind [asV,fsV])
theorem ok_l6Chains:FnOk Try.prog E 49 c_l6Chains :=
 fn_okQ (l:=L_l6Chains) (lp:=P_l6Chains) (hp:=fun _=>false) (gcs:=fun _=>none) (perm:=fun _=>[]) tabOk mix ⟨ok_pick,ok_num,trivial⟩ trivial Try.func49 rfl (by kernel_rfl) (by decide) (by kernel_rfl) (anns:=fun x _=>an_l6Chains x.1) (fun ⟨rr,_⟩ k _ hk=>Eq.mp (by kernel_rfl) (vcn_l6Chains rr k (hk rfl))) (fun _ _=>⟨((⟨[],[]⟩:GAsn),()),⟨Nat.zero_le _,Nat.zero_le _⟩⟩)
end Go.Proofs.Ytopjgjelkpkmmaa
