/-
  Contracts of single functions of the program, each shown by the engine: what a call returns for arguments within the contract's bounds.
-/
import Derived.Test.YtopjgjelkpkmmaaProg
import Derived.KernelRfl
import Derived.Test.YtopjgjelkpkmmaaEc
import Derived.Test.YtopjgjelkpkmmaaEd
set_option linter.unusedSimpArgs false
set_option linter.unusedVariables false
set_option linter.unusedSectionVars false

namespace Go.Proofs.Ytopjgjelkpkmmaa
open Go.SE Go.RowKit
def E:Ty->TypeId
 | .int=>3
 | .bool=>4
 | .u8=>5
 | .fact=>94
 | .atom=>66
 | .cmd=>0
 | .ints=>29
 | .asn=>0
def tabL:List (TypeId × TI):=[
 (2,⟨1,8,.sc (.int .i64 0)⟩),
 (3,⟨1,8,.sc (.int .i64 0)⟩),
 (4,⟨1,1,.sc (.bool false)⟩),
 (5,⟨1,1,.sc (.int .u8 0)⟩),
 (7,⟨4,24,.st [.sc (.int .i64 0),.sc (.int .i64 0),.sc (.bool false),.sc (.int .u8 0)] [(0,1,false),(1,1,false),(2,1,false),(3,1,false)]⟩),
 (9,⟨1,16,.sc (.string ⟨#[]⟩)⟩),
 (12,⟨1,8,.sc (.int .u64 0)⟩),
 (13,⟨2,24,.st [.sc (.string ⟨#[]⟩),.sc (.int .u64 0)] [(0,1,false),(1,1,false)]⟩),
 (21,⟨1,4,.sc (.int .i32 0)⟩),
 (22,⟨1,24,.sl true 5 .u8⟩),
 (23,⟨1,24,.sl true 94 .fact⟩),
 (24,⟨1,24,.sl true 66 .atom⟩),
 (25,⟨2,48,.st [.sl .fact,.sl .atom] [(0,1,false),(1,1,false)]⟩),
 (26,⟨2,48,.st [.sl .fact,.sl .atom] [(0,1,false),(1,1,false)]⟩),
 (29,⟨1,24,.sl true 3 .int⟩),
 (30,⟨2,48,.st [.sl .int,.sl .int] [(0,1,false),(1,1,false)]⟩),
 (31,⟨2,48,.st [.sl .int,.sl .int] [(0,1,false),(1,1,false)]⟩),
 (38,⟨1,24,.sl false 139 .fact⟩),
 (39,⟨1,24,.sl false 141 .atom⟩),
 (40,⟨2,48,.st [.sl .fact,.sl .atom] [(0,1,false),(1,1,false)]⟩),
 (41,⟨2,48,.st [.sl .fact,.sl .atom] [(0,1,false),(1,1,false)]⟩),
 (65,⟨3,24,.st [.sc (.int .i64 0),.sc (.int .i64 0),.sc (.int .i64 0)] [(0,1,false),(1,1,false),(2,1,false)]⟩),
 (66,⟨3,24,.st [.sc (.int .i64 0),.sc (.int .i64 0),.sc (.int .i64 0)] [(0,1,false),(1,1,false),(2,1,false)]⟩),
 (67,⟨9,72,.ar 9 3 .int⟩),
 (68,⟨9,72,.ar 9 3 .int⟩),
 (71,⟨2,2,.ar 2 4 .bool⟩),
 (77,⟨1,2,.sc (.int .u16 0)⟩),
 (78,⟨1,2,.sc (.int .u16 0)⟩),
 (93,⟨3,24,.st [.sc (.bool false),.sc (.int .i64 0),.sc (.int .i64 0)] [(0,1,false),(1,1,false),(2,1,false)]⟩),
 (94,⟨3,24,.st [.sc (.bool false),.sc (.int .i64 0),.sc (.int .i64 0)] [(0,1,false),(1,1,false),(2,1,false)]⟩),
 (104,⟨4,96,.st [.sl .fact,.sl .atom,.sl .fact,.sl .atom] [(0,2,true),(2,2,true)]⟩),
 (105,⟨4,96,.st [.sl .fact,.sl .atom,.sl .fact,.sl .atom] [(0,2,true),(2,2,true)]⟩),
 (110,⟨1,8,.sc (.int .u64 0)⟩),
 (111,⟨2,32,.st [.sl .u8,.sc (.int .i64 0)] [(0,1,false),(1,1,false)]⟩),
 (112,⟨2,32,.st [.sl .u8,.sc (.int .i64 0)] [(0,1,false),(1,1,false)]⟩),
 (119,⟨1,2,.sc (.int .u16 0)⟩),
 (121,⟨1,24,.sl true 29 .ints⟩),
 (130,⟨1,24,.sl true 4 .bool⟩),
 (139,⟨3,24,.st [.sc (.bool false),.sc (.int .i64 0),.sc (.int .i64 0)] [(0,1,false),(1,1,false),(2,1,false)]⟩),
 (141,⟨3,24,.st [.sc (.int .i64 0),.sc (.int .i64 0),.sc (.int .i64 0)] [(0,1,false),(1,1,false),(2,1,false)]⟩),
 (149,⟨1,4,.sc (.int .u32 0)⟩),
 (151,⟨1,8,.sc (.int .u64 0)⟩),
 (156,⟨6,6,.ar 6 4 .bool⟩),
 (157,⟨8,40,.st [.sl .atom,.sc (.bool false),.sc (.bool false),.sc (.bool false),.sc (.bool false),.sc (.bool false),.sc (.bool false),.sc (.int .i64 0)] [(0,1,false),(1,6,true),(7,1,false)]⟩),
 (158,⟨8,40,.st [.sl .atom,.sc (.bool false),.sc (.bool false),.sc (.bool false),.sc (.bool false),.sc (.bool false),.sc (.bool false),.sc (.int .i64 0)] [(0,1,false),(1,6,true),(7,1,false)]⟩)]
def tab:TypeId->Option TI:=lookT tabL
theorem tab2:tab 2=some ⟨1,8,.sc (.int .i64 0)⟩:=rfl
theorem tab3:tab 3=some ⟨1,8,.sc (.int .i64 0)⟩:=rfl
theorem tab4:tab 4=some ⟨1,1,.sc (.bool false)⟩:=rfl
theorem tab5:tab 5=some ⟨1,1,.sc (.int .u8 0)⟩:=rfl
theorem tab7:tab 7=some ⟨4,24,.st [.sc (.int .i64 0),.sc (.int .i64 0),.sc (.bool false),.sc (.int .u8 0)] [(0,1,false),(1,1,false),(2,1,false),(3,1,false)]⟩:=rfl
theorem tab9:tab 9=some ⟨1,16,.sc (.string ⟨#[]⟩)⟩:=rfl
theorem tab12:tab 12=some ⟨1,8,.sc (.int .u64 0)⟩:=rfl
theorem tab13:tab 13=some ⟨2,24,.st [.sc (.string ⟨#[]⟩),.sc (.int .u64 0)] [(0,1,false),(1,1,false)]⟩:=rfl
theorem tab21:tab 21=some ⟨1,4,.sc (.int .i32 0)⟩:=rfl
theorem tab22:tab 22=some ⟨1,24,.sl true 5 .u8⟩:=rfl
theorem tab23:tab 23=some ⟨1,24,.sl true 94 .fact⟩:=rfl
theorem tab24:tab 24=some ⟨1,24,.sl true 66 .atom⟩:=rfl
theorem tab25:tab 25=some ⟨2,48,.st [.sl .fact,.sl .atom] [(0,1,false),(1,1,false)]⟩:=rfl
theorem tab26:tab 26=some ⟨2,48,.st [.sl .fact,.sl .atom] [(0,1,false),(1,1,false)]⟩:=rfl
theorem tab29:tab 29=some ⟨1,24,.sl true 3 .int⟩:=rfl
theorem tab30:tab 30=some ⟨2,48,.st [.sl .int,.sl .int] [(0,1,false),(1,1,false)]⟩:=rfl
theorem tab31:tab 31=some ⟨2,48,.st [.sl .int,.sl .int] [(0,1,false),(1,1,false)]⟩:=rfl
theorem tab38:tab 38=some ⟨1,24,.sl false 139 .fact⟩:=rfl
theorem tab39:tab 39=some ⟨1,24,.sl false 141 .atom⟩:=rfl
theorem tab40:tab 40=some ⟨2,48,.st [.sl .fact,.sl .atom] [(0,1,false),(1,1,false)]⟩:=rfl
theorem tab41:tab 41=some ⟨2,48,.st [.sl .fact,.sl .atom] [(0,1,false),(1,1,false)]⟩:=rfl
theorem tab65:tab 65=some ⟨3,24,.st [.sc (.int .i64 0),.sc (.int .i64 0),.sc (.int .i64 0)] [(0,1,false),(1,1,false),(2,1,false)]⟩:=rfl
theorem tab66:tab 66=some ⟨3,24,.st [.sc (.int .i64 0),.sc (.int .i64 0),.sc (.int .i64 0)] [(0,1,false),(1,1,false),(2,1,false)]⟩:=rfl
theorem tab67:tab 67=some ⟨9,72,.ar 9 3 .int⟩:=rfl
theorem tab68:tab 68=some ⟨9,72,.ar 9 3 .int⟩:=rfl
theorem tab71:tab 71=some ⟨2,2,.ar 2 4 .bool⟩:=rfl
theorem tab77:tab 77=some ⟨1,2,.sc (.int .u16 0)⟩:=rfl
theorem tab78:tab 78=some ⟨1,2,.sc (.int .u16 0)⟩:=rfl
theorem tab93:tab 93=some ⟨3,24,.st [.sc (.bool false),.sc (.int .i64 0),.sc (.int .i64 0)] [(0,1,false),(1,1,false),(2,1,false)]⟩:=rfl
theorem tab94:tab 94=some ⟨3,24,.st [.sc (.bool false),.sc (.int .i64 0),.sc (.int .i64 0)] [(0,1,false),(1,1,false),(2,1,false)]⟩:=rfl
theorem tab104:tab 104=some ⟨4,96,.st [.sl .fact,.sl .atom,.sl .fact,.sl .atom] [(0,2,true),(2,2,true)]⟩:=rfl
theorem tab105:tab 105=some ⟨4,96,.st [.sl .fact,.sl .atom,.sl .fact,.sl .atom] [(0,2,true),(2,2,true)]⟩:=rfl
theorem tab110:tab 110=some ⟨1,8,.sc (.int .u64 0)⟩:=rfl
theorem tab111:tab 111=some ⟨2,32,.st [.sl .u8,.sc (.int .i64 0)] [(0,1,false),(1,1,false)]⟩:=rfl
theorem tab112:tab 112=some ⟨2,32,.st [.sl .u8,.sc (.int .i64 0)] [(0,1,false),(1,1,false)]⟩:=rfl
theorem tab119:tab 119=some ⟨1,2,.sc (.int .u16 0)⟩:=rfl
theorem tab121:tab 121=some ⟨1,24,.sl true 29 .ints⟩:=rfl
theorem tab130:tab 130=some ⟨1,24,.sl true 4 .bool⟩:=rfl
theorem tab139:tab 139=some ⟨3,24,.st [.sc (.bool false),.sc (.int .i64 0),.sc (.int .i64 0)] [(0,1,false),(1,1,false),(2,1,false)]⟩:=rfl
theorem tab141:tab 141=some ⟨3,24,.st [.sc (.int .i64 0),.sc (.int .i64 0),.sc (.int .i64 0)] [(0,1,false),(1,1,false),(2,1,false)]⟩:=rfl
theorem tab149:tab 149=some ⟨1,4,.sc (.int .u32 0)⟩:=rfl
theorem tab151:tab 151=some ⟨1,8,.sc (.int .u64 0)⟩:=rfl
theorem tab156:tab 156=some ⟨6,6,.ar 6 4 .bool⟩:=rfl
theorem tab157:tab 157=some ⟨8,40,.st [.sl .atom,.sc (.bool false),.sc (.bool false),.sc (.bool false),.sc (.bool false),.sc (.bool false),.sc (.bool false),.sc (.int .i64 0)] [(0,1,false),(1,6,true),(7,1,false)]⟩:=rfl
theorem tab158:tab 158=some ⟨8,40,.st [.sl .atom,.sc (.bool false),.sc (.bool false),.sc (.bool false),.sc (.bool false),.sc (.bool false),.sc (.bool false),.sc (.int .i64 0)] [(0,1,false),(1,6,true),(7,1,false)]⟩:=rfl
theorem tabOk:TabOk Try.prog E tab:=tab_ok (by kernel_rfl)
theorem mix:Try.prog.follows .mixedOrders=true:=by kernel_rfl
end Go.Proofs.Ytopjgjelkpkmmaa

namespace Go.Proofs.Ytopjgjelkpkmmaa
open Go.SE Go.RowKit
set_option linter.unusedSimpArgs false
set_option linter.unusedVariables false
set_option maxHeartbeats 1000000
set_option maxRecDepth 100000
abbrev c_sameListsF:Con:=⟨[.sl .fact,.sl .fact],[.bool],fun (a,b,_)=>a.length<=281474976710656/\b.length<=281474976710656,.inl fun (a,b,_)=>(decide (a=b),()),fun _=>0⟩
abbrev L_sameListsF:List (FuncId × Con):=[]
def an_sameListsF (a:List GFact) (b:List GFact):Nat->Option Ann
 | 4=>some { α:=Nat,ok:=fun i=>i<=a.length/\a.length=b.length/\a.take i=b.take i,mu:=fun i=>a.length - i,i0:=fun _=>0,nx:=fun a _=>(fun i=>i+1) a,live:=[1,12,13],sets:=fun i=>[(14,sv (.int .i64 i))],mids:=[],blks:=fun i=>[],owns:=fun i=>[],rd:=fun r _=>r,base:=100000 }
 | _=>none
theorem vc_sameListsF (a:List GFact) (b:List GFact) (k:Nat) (hp:a.length<=281474976710656/\b.length<=281474976710656):vc tab (lookF L_sameListsF) (an_sameListsF a b) (fun _=>[]) (bodyOf Try.f76) (entry (encs c_sameListsF.aks (a,b,())) (rdOf false k)) (retOk tab c_sameListsF Try.f76.results.toList (a,b,()) k):=by
 dsimp only [bodyOf,Try.f76,rdOf]
 simp (maxSteps:=10000000) only [c_sameListsF,L_sameListsF,an_sameListsF,SE.lookF,tab2,tab3,tab4,tab5,tab7,tab9,tab12,tab13,tab21,tab22,tab23,tab24,tab25,tab26,tab29,tab30,tab31,tab38,tab39,tab40,tab41,tab65,tab66,tab67,tab68,tab71,tab77,tab78,tab93,tab94,tab104,tab105,tab110,tab111,tab112,tab119,tab121,tab130,tab139,tab141,tab149,tab151,tab156,tab157,tab158,SE.entry,SE.envOf,SE.rdOf,Option.get_some,SE.vc,SE.vcReg,SE.vcLoop,SE.condK,SE.seqK,SE.blockK,SE.vcOps,SE.vcStep,SE.vcOp,SE.vcTr,SE.vcDet_some,SE.vcDet_none,SE.vcIf_true,SE.vcIf_false,SE.vcEach,SE.pickOps,SE.gslot,SE.trOp,SE.moveId,SE.trMove,SE.trPick,SE.trAlloc,SE.trBox,SE.trBuild,SE.trBuildSlice,SE.trLoad,SE.trStore,SE.trNilCheck,SE.trBin,SE.trUn,SE.trConvert,SE.trFieldAddr,SE.trField,SE.trIndexAddr,SE.trIndex,SE.trSlice,SE.trMakeSlice,SE.trExtract,SE.trLen,SE.trAppend,SE.trCopy,SE.trFn,SE.trCall,SE.argsS,SE.ev,SE.constS,SE.junk,SE.sv,SE.upd_app,SE.adds,SE.sets,SE.nid,SE.St.app,SE.St.put,SE.free,SE.freeL,SE.allFree,SE.rids,SE.AK.rids,SE.castL,SE.rdl,SE.AK.dec,SE.decs,SE.AK.enc,SE.encs,SE.AK.res,SE.ress,SE.pack1,SE.zcells,SE.zeroOf,SE.partCells,SE.putc,SE.fills,SE.datas,SE.elemOf,SE.elemsOf,SE.notSpent,SE.cellsAt,SE.weak,SE.dcellsAt,SE.slAt,SE.rdPlus,SE.intAt,SE.updElem,SE.kill,SE.noJunk,SE.inK,SE.binI,SE.shf,SE.isShift,SE.eqCells,SE.aggS,SE.intOp,SE.nested,SE.hasRdr,SE.refsC,SE.refsCs,SE.ownsC,SE.refsAr,SE.rdFits,SE.costIf,SE.Con.post,SE.Con.det,SE.Ty.cells,SE.Ty.sz,SE.Ty.zero,SE.Ty.flat,SE.Ty.dec,SE.retOk,SE.loadsS,SE.loadS,SE.decRs,SE.decR,SE.outC,SE.rdC,SE.allDiff,SE.notIn,SE.notFrozen,SE.apartL,SE.rdEnd,SE.firstReg,SE.headC,SE.fitsC,SE.idsC,SE.keepE,SE.keepM,SE.keepB,SE.inL,SE.puts,SE.ownRes,SE.ownEnv,SE.renL,SE.srcId,SE.lookR,SE.envSame,SE.envSets,SE.memSame,SE.memBlks,SE.memOwns,SE.famsOf,SE.allIn,SE.closedE,SE.closedV,SE.closedM,SE.closedR,SE.rdLe,SE.S.refs,SE.S0.refs,SE.CV.refs,SE.refsL,SE.refsT,SE.S.ren,SE.S0.ren,SE.CV.ren,SE.Res.refs,SE.Res.ren,min_i64,max_i64,min_u16,max_u16,min_u8,max_u8,min_u64,max_u64,S.s.injEq,S0.c.injEq,CV.d.injEq,DC.val.injEq,Value.int.injEq,Value.bool.injEq,Value.string.injEq,eta_fact,eta_atom,eta_asn,eta_state,List.mem_cons,List.mem_nil_iff,or_false,false_or,or_true,true_or,Option.map_some,Option.map_none,Option.bind_some,Option.getD_some,Option.getD_none,Nat.reduceEqDiff,Nat.reduceAdd,Nat.reduceMul,Nat.reduceLeDiff,↓reduceIte,reduceCtorEq,true_and,and_true,and_self,forall_const,implies_true,true_implies,List.getElem?_toArray,List.getElem?_cons_succ,List.getElem?_cons_zero,List.append_nil,List.nil_append,List.cons_append,List.length_cons,List.length_nil,List.take_succ_cons,List.take_zero,List.drop_succ_cons,List.drop_zero,List.set_cons_zero,List.set_cons_succ,List.map_cons,List.map_nil,Nat.add_zero,Nat.zero_add,forall_eq,Prod.forall,Bool.not_true,Bool.not_false,Nat.lt_irrefl,Nat.zero_lt_succ,List.singleton_append,Prod.mk.injEq,Nat.zero_mul,Nat.one_mul,Nat.reducePow,Option.some.injEq,not_false_eq_true,Int.toNat_natCast,Nat.sub_zero,Nat.le_refl,Bool.or_false,Bool.false_or,Bool.or_true,Bool.true_or,Bool.and_true,Bool.true_and,Bool.and_false,Bool.false_and,Bool.or_self,Bool.and_self,List.append_eq,and_false,false_and,fact_beq,atom_beq]
 all_goals (try simp only [vcIf_iff,decide_eq_true_eq,decide_eq_false_iff_not,bne_iff_ne,ne_eq,beq_iff_eq,beq_eq_false_iff_ne,bne_eq_false_iff_eq,Bool.not_eq_true',Bool.not_eq_false',Int.ofNat_lt,Int.natCast_inj])
 all_goals (repeat' (first | apply And.intro | intro _))
 all_goals (first | omega | (simp_all;done) | grind [same_step,same_not,take_full,Ty.zero])
theorem ok_sameListsF:FnOk Try.prog E 76 c_sameListsF :=
 fn_ok (l:=L_sameListsF) (perm:=fun _=>[]) tabOk mix trivial Try.func76 rfl (by kernel_rfl) (by decide) (by kernel_rfl) (anns:=fun x _=>an_sameListsF x.1 x.2.1) (fun ⟨a,b,_⟩ k hp _=>vc_sameListsF a b k hp) tot_fn
abbrev c_sameListsA:Con:=⟨[.sl .atom,.sl .atom],[.bool],fun (a,b,_)=>a.length<=281474976710656/\b.length<=281474976710656,.inl fun (a,b,_)=>(decide (a=b),()),fun _=>0⟩
abbrev L_sameListsA:List (FuncId × Con):=[]
def an_sameListsA (a:List GAtom) (b:List GAtom):Nat->Option Ann
 | 4=>some { α:=Nat,ok:=fun i=>i<=a.length/\a.length=b.length/\a.take i=b.take i,mu:=fun i=>a.length - i,i0:=fun _=>0,nx:=fun a _=>(fun i=>i+1) a,live:=[1,12,13],sets:=fun i=>[(14,sv (.int .i64 i))],mids:=[],blks:=fun i=>[],owns:=fun i=>[],rd:=fun r _=>r,base:=100000 }
 | _=>none
theorem vc_sameListsA (a:List GAtom) (b:List GAtom) (k:Nat) (hp:a.length<=281474976710656/\b.length<=281474976710656):vc tab (lookF L_sameListsA) (an_sameListsA a b) (fun _=>[]) (bodyOf Try.f77) (entry (encs c_sameListsA.aks (a,b,())) (rdOf false k)) (retOk tab c_sameListsA Try.f77.results.toList (a,b,()) k):=by
 dsimp only [bodyOf,Try.f77,rdOf]
 simp (maxSteps:=10000000) only [c_sameListsA,L_sameListsA,an_sameListsA,SE.lookF,tab2,tab3,tab4,tab5,tab7,tab9,tab12,tab13,tab21,tab22,tab23,tab24,tab25,tab26,tab29,tab30,tab31,tab38,tab39,tab40,tab41,tab65,tab66,tab67,tab68,tab71,tab77,tab78,tab93,tab94,tab104,tab105,tab110,tab111,tab112,tab119,tab121,tab130,tab139,tab141,tab149,tab151,tab156,tab157,tab158,SE.entry,SE.envOf,SE.rdOf,Option.get_some,SE.vc,SE.vcReg,SE.vcLoop,SE.condK,SE.seqK,SE.blockK,SE.vcOps,SE.vcStep,SE.vcOp,SE.vcTr,SE.vcDet_some,SE.vcDet_none,SE.vcIf_true,SE.vcIf_false,SE.vcEach,SE.pickOps,SE.gslot,SE.trOp,SE.moveId,SE.trMove,SE.trPick,SE.trAlloc,SE.trBox,SE.trBuild,SE.trBuildSlice,SE.trLoad,SE.trStore,SE.trNilCheck,SE.trBin,SE.trUn,SE.trConvert,SE.trFieldAddr,SE.trField,SE.trIndexAddr,SE.trIndex,SE.trSlice,SE.trMakeSlice,SE.trExtract,SE.trLen,SE.trAppend,SE.trCopy,SE.trFn,SE.trCall,SE.argsS,SE.ev,SE.constS,SE.junk,SE.sv,SE.upd_app,SE.adds,SE.sets,SE.nid,SE.St.app,SE.St.put,SE.free,SE.freeL,SE.allFree,SE.rids,SE.AK.rids,SE.castL,SE.rdl,SE.AK.dec,SE.decs,SE.AK.enc,SE.encs,SE.AK.res,SE.ress,SE.pack1,SE.zcells,SE.zeroOf,SE.partCells,SE.putc,SE.fills,SE.datas,SE.elemOf,SE.elemsOf,SE.notSpent,SE.cellsAt,SE.weak,SE.dcellsAt,SE.slAt,SE.rdPlus,SE.intAt,SE.updElem,SE.kill,SE.noJunk,SE.inK,SE.binI,SE.shf,SE.isShift,SE.eqCells,SE.aggS,SE.intOp,SE.nested,SE.hasRdr,SE.refsC,SE.refsCs,SE.ownsC,SE.refsAr,SE.rdFits,SE.costIf,SE.Con.post,SE.Con.det,SE.Ty.cells,SE.Ty.sz,SE.Ty.zero,SE.Ty.flat,SE.Ty.dec,SE.retOk,SE.loadsS,SE.loadS,SE.decRs,SE.decR,SE.outC,SE.rdC,SE.allDiff,SE.notIn,SE.notFrozen,SE.apartL,SE.rdEnd,SE.firstReg,SE.headC,SE.fitsC,SE.idsC,SE.keepE,SE.keepM,SE.keepB,SE.inL,SE.puts,SE.ownRes,SE.ownEnv,SE.renL,SE.srcId,SE.lookR,SE.envSame,SE.envSets,SE.memSame,SE.memBlks,SE.memOwns,SE.famsOf,SE.allIn,SE.closedE,SE.closedV,SE.closedM,SE.closedR,SE.rdLe,SE.S.refs,SE.S0.refs,SE.CV.refs,SE.refsL,SE.refsT,SE.S.ren,SE.S0.ren,SE.CV.ren,SE.Res.refs,SE.Res.ren,min_i64,max_i64,min_u16,max_u16,min_u8,max_u8,min_u64,max_u64,S.s.injEq,S0.c.injEq,CV.d.injEq,DC.val.injEq,Value.int.injEq,Value.bool.injEq,Value.string.injEq,eta_fact,eta_atom,eta_asn,eta_state,List.mem_cons,List.mem_nil_iff,or_false,false_or,or_true,true_or,Option.map_some,Option.map_none,Option.bind_some,Option.getD_some,Option.getD_none,Nat.reduceEqDiff,Nat.reduceAdd,Nat.reduceMul,Nat.reduceLeDiff,↓reduceIte,reduceCtorEq,true_and,and_true,and_self,forall_const,implies_true,true_implies,List.getElem?_toArray,List.getElem?_cons_succ,List.getElem?_cons_zero,List.append_nil,List.nil_append,List.cons_append,List.length_cons,List.length_nil,List.take_succ_cons,List.take_zero,List.drop_succ_cons,List.drop_zero,List.set_cons_zero,List.set_cons_succ,List.map_cons,List.map_nil,Nat.add_zero,Nat.zero_add,forall_eq,Prod.forall,Bool.not_true,Bool.not_false,Nat.lt_irrefl,Nat.zero_lt_succ,List.singleton_append,Prod.mk.injEq,Nat.zero_mul,Nat.one_mul,Nat.reducePow,Option.some.injEq,not_false_eq_true,Int.toNat_natCast,Nat.sub_zero,Nat.le_refl,Bool.or_false,Bool.false_or,Bool.or_true,Bool.true_or,Bool.and_true,Bool.true_and,Bool.and_false,Bool.false_and,Bool.or_self,Bool.and_self,List.append_eq,and_false,false_and,fact_beq,atom_beq]
 all_goals (try simp only [vcIf_iff,decide_eq_true_eq,decide_eq_false_iff_not,bne_iff_ne,ne_eq,beq_iff_eq,beq_eq_false_iff_ne,bne_eq_false_iff_eq,Bool.not_eq_true',Bool.not_eq_false',Int.ofNat_lt,Int.natCast_inj])
 all_goals (repeat' (first | apply And.intro | intro _))
 all_goals (first | omega | (simp_all;done) | grind [same_step,same_not,take_full,Ty.zero])
theorem ok_sameListsA:FnOk Try.prog E 77 c_sameListsA :=
 fn_ok (l:=L_sameListsA) (perm:=fun _=>[]) tabOk mix trivial Try.func77 rfl (by kernel_rfl) (by decide) (by kernel_rfl) (anns:=fun x _=>an_sameListsA x.1 x.2.1) (fun ⟨a,b,_⟩ k hp _=>vc_sameListsA a b k hp) tot_fn
abbrev c_iAssertionSame:Con:=⟨[.asn,.asn],[.bool],fun (a,b,_)=>a.facts.length<=281474976710656/\a.atoms.length<=281474976710656/\b.facts.length<=281474976710656/\b.atoms.length<=281474976710656,.inl fun (a,b,_)=>(decide (a=b),()),fun _=>0⟩
abbrev L_iAssertionSame:List (FuncId × Con):=[(76,c_sameListsF),(77,c_sameListsA)]
theorem vc_iAssertionSame (a:GAsn) (b:GAsn) (k:Nat) (hp:a.facts.length<=281474976710656/\a.atoms.length<=281474976710656/\b.facts.length<=281474976710656/\b.atoms.length<=281474976710656):vc tab (lookF L_iAssertionSame) (fun _=>none) (fun _=>[]) (bodyOf Try.f31) (entry (encs c_iAssertionSame.aks (a,b,())) (rdOf false k)) (retOk tab c_iAssertionSame Try.f31.results.toList (a,b,()) k):=by
 dsimp only [bodyOf,Try.f31,rdOf]
 simp (maxSteps:=10000000) only [c_iAssertionSame,L_iAssertionSame,SE.lookF,c_sameListsF,c_sameListsA,tab2,tab3,tab4,tab5,tab7,tab9,tab12,tab13,tab21,tab22,tab23,tab24,tab25,tab26,tab29,tab30,tab31,tab38,tab39,tab40,tab41,tab65,tab66,tab67,tab68,tab71,tab77,tab78,tab93,tab94,tab104,tab105,tab110,tab111,tab112,tab119,tab121,tab130,tab139,tab141,tab149,tab151,tab156,tab157,tab158,SE.entry,SE.envOf,SE.rdOf,Option.get_some,SE.vc,SE.vcReg,SE.vcLoop,SE.condK,SE.seqK,SE.blockK,SE.vcOps,SE.vcStep,SE.vcOp,SE.vcTr,SE.vcDet_some,SE.vcDet_none,SE.vcIf_true,SE.vcIf_false,SE.vcEach,SE.pickOps,SE.gslot,SE.trOp,SE.moveId,SE.trMove,SE.trPick,SE.trAlloc,SE.trBox,SE.trBuild,SE.trBuildSlice,SE.trLoad,SE.trStore,SE.trNilCheck,SE.trBin,SE.trUn,SE.trConvert,SE.trFieldAddr,SE.trField,SE.trIndexAddr,SE.trIndex,SE.trSlice,SE.trMakeSlice,SE.trExtract,SE.trLen,SE.trAppend,SE.trCopy,SE.trFn,SE.trCall,SE.argsS,SE.ev,SE.constS,SE.junk,SE.sv,SE.upd_app,SE.adds,SE.sets,SE.nid,SE.St.app,SE.St.put,SE.free,SE.freeL,SE.allFree,SE.rids,SE.AK.rids,SE.castL,SE.rdl,SE.AK.dec,SE.decs,SE.AK.enc,SE.encs,SE.AK.res,SE.ress,SE.pack1,SE.zcells,SE.zeroOf,SE.partCells,SE.putc,SE.fills,SE.datas,SE.elemOf,SE.elemsOf,SE.notSpent,SE.cellsAt,SE.weak,SE.dcellsAt,SE.slAt,SE.rdPlus,SE.intAt,SE.updElem,SE.kill,SE.noJunk,SE.inK,SE.binI,SE.shf,SE.isShift,SE.eqCells,SE.aggS,SE.intOp,SE.nested,SE.hasRdr,SE.refsC,SE.refsCs,SE.ownsC,SE.refsAr,SE.rdFits,SE.costIf,SE.Con.post,SE.Con.det,SE.Ty.cells,SE.Ty.sz,SE.Ty.zero,SE.Ty.flat,SE.Ty.dec,SE.retOk,SE.loadsS,SE.loadS,SE.decRs,SE.decR,SE.outC,SE.rdC,SE.allDiff,SE.notIn,SE.notFrozen,SE.apartL,SE.rdEnd,SE.firstReg,SE.headC,SE.fitsC,SE.idsC,SE.keepE,SE.keepM,SE.keepB,SE.inL,SE.puts,SE.ownRes,SE.ownEnv,SE.renL,SE.srcId,SE.lookR,SE.envSame,SE.envSets,SE.memSame,SE.memBlks,SE.memOwns,SE.famsOf,SE.allIn,SE.closedE,SE.closedV,SE.closedM,SE.closedR,SE.rdLe,SE.S.refs,SE.S0.refs,SE.CV.refs,SE.refsL,SE.refsT,SE.S.ren,SE.S0.ren,SE.CV.ren,SE.Res.refs,SE.Res.ren,min_i64,max_i64,min_u16,max_u16,min_u8,max_u8,min_u64,max_u64,S.s.injEq,S0.c.injEq,CV.d.injEq,DC.val.injEq,Value.int.injEq,Value.bool.injEq,Value.string.injEq,eta_fact,eta_atom,eta_asn,eta_state,List.mem_cons,List.mem_nil_iff,or_false,false_or,or_true,true_or,Option.map_some,Option.map_none,Option.bind_some,Option.getD_some,Option.getD_none,Nat.reduceEqDiff,Nat.reduceAdd,Nat.reduceMul,Nat.reduceLeDiff,↓reduceIte,reduceCtorEq,true_and,and_true,and_self,forall_const,implies_true,true_implies,List.getElem?_toArray,List.getElem?_cons_succ,List.getElem?_cons_zero,List.append_nil,List.nil_append,List.cons_append,List.length_cons,List.length_nil,List.take_succ_cons,List.take_zero,List.drop_succ_cons,List.drop_zero,List.set_cons_zero,List.set_cons_succ,List.map_cons,List.map_nil,Nat.add_zero,Nat.zero_add,forall_eq,Prod.forall,Bool.not_true,Bool.not_false,Nat.lt_irrefl,Nat.zero_lt_succ,List.singleton_append,Prod.mk.injEq,Nat.zero_mul,Nat.one_mul,Nat.reducePow,Option.some.injEq,not_false_eq_true,Int.toNat_natCast,Nat.sub_zero,Nat.le_refl,Bool.or_false,Bool.false_or,Bool.or_true,Bool.true_or,Bool.and_true,Bool.true_and,Bool.and_false,Bool.false_and,Bool.or_self,Bool.and_self,List.append_eq,and_false,false_and]
 obtain ⟨a1,a2⟩:=a;obtain ⟨b1,b2⟩:=b
 all_goals (try simp only [vcIf_iff,decide_eq_true_eq,decide_eq_false_iff_not,bne_iff_ne,ne_eq,beq_iff_eq,beq_eq_false_iff_ne,bne_eq_false_iff_eq,Bool.not_eq_true',Bool.not_eq_false',Int.ofNat_lt,Int.natCast_inj])
 all_goals (repeat' (first | apply And.intro | intro _))
 all_goals (first | omega | (simp_all;done) | grind [])
theorem ok_iAssertionSame:FnOk Try.prog E 31 c_iAssertionSame :=
 fn_ok (l:=L_iAssertionSame) (perm:=fun _=>[]) tabOk mix ⟨ok_sameListsF,ok_sameListsA,trivial⟩ Try.func31 rfl (by kernel_rfl) (by decide) (by kernel_rfl) (anns:=fun x _=>fun _=>none) (fun ⟨a,b,_⟩ k hp _=>vc_iAssertionSame a b k hp) tot_fn
abbrev c_isTerm:Con:=⟨[.int],[.bool],fun _=>True,.inl fun (t,_)=>(isT t,()),fun _=>0⟩
abbrev L_isTerm:List (FuncId × Con):=[]
abbrev P_isTerm:List (FuncId × PT):=[]
def VC_isTerm (t:Int) (k:Nat):Prop:=True/\True/\True/\True/\(vcIf (decide ((0:Int)<=t)) (True/\True/\True/\True/\(((decide (t<=(8:Int)),()):Bool × Unit)=(isT t,()))/\True/\True/\True/\True/\TF) (True/\True/\(((false,()):Bool × Unit)=(isT t,()))/\True/\True/\True/\True/\TF))
theorem vcn_isTerm (t:Int) (k:Nat):VC_isTerm t k:=by
 unfold VC_isTerm
 simp only [cln,Nat.reduceEqDiff,Nat.reduceLeDiff,Nat.reduceAdd]
 cases h:decide (0<=t) <;> simp [vcIf,isT,h]
theorem ok_isTerm:FnOk Try.prog E 126 c_isTerm :=
 fn_okQ (l:=L_isTerm) (lp:=P_isTerm) (hp:=fun _=>false) (gcs:=fun _=>none) (perm:=fun _=>[]) tabOk mix trivial trivial Try.func126 rfl (by kernel_rfl) (by decide) (by kernel_rfl) (anns:=fun x _=>fun _ _=>none) (fun ⟨t,_⟩ k _ _=>Eq.mp (by kernel_rfl) (vcn_isTerm t k)) tot_fn
abbrev c_iFactValid:Con:=⟨[.fact],[.bool],fun _=>True,.inl fun (f,_)=>(fV f,()),fun _=>0⟩
abbrev L_iFactValid:List (FuncId × Con):=[(126,c_isTerm)]
abbrev P_iFactValid:List (FuncId × PT):=[]
def VC_iFactValid (f:GFact) (k:Nat):Prop:=TN/\True/\True/\True/\(True/\True/\True)/\True/\(vcIf (isT f.a) (True/\True/\(True/\True/\True)/\True/\True/\((((isT f.b),()):Bool × Unit)=(fV f,()))/\True/\True/\True/\True/\TF) (True/\True/\(((false,()):Bool × Unit)=(fV f,()))/\True/\True/\True/\True/\TF))
theorem vcn_iFactValid (f:GFact) (k:Nat):VC_iFactValid f k:=by
 unfold VC_iFactValid
 simp only [cln,Nat.reduceEqDiff,Nat.reduceLeDiff,Nat.reduceAdd]
 cases h:isT f.a <;> simp [vcIf,fV,h]
theorem ok_iFactValid:FnOk Try.prog E 125 c_iFactValid :=
 fn_okQ (l:=L_iFactValid) (lp:=P_iFactValid) (hp:=fun _=>false) (gcs:=fun _=>none) (perm:=fun _=>[]) tabOk mix ⟨ok_isTerm,trivial⟩ trivial Try.func125 rfl (by kernel_rfl) (by decide) (by kernel_rfl) (anns:=fun x _=>fun _ _=>none) (fun ⟨f,_⟩ k _ _=>Eq.mp (by kernel_rfl) (vcn_iFactValid f k)) tot_fn
abbrev c_iFactsValid:Con:=⟨[.sl .fact],[.bool],fun (l,_)=>l.length<=281474976710656,.inl fun (l,_)=>(fsV l,()),fun _=>0⟩
abbrev L_iFactsValid:List (FuncId × Con):=[(125,c_iFactValid)]
abbrev P_iFactsValid:List (FuncId × PT):=[]
def an_iFactsValid (l:List GFact):Nat->St->Option Ann
 | 4,se=>some { α:=Nat,ok:=fun i=>i<=l.length/\l.length<=12/\(l.take i).all fV=true,mu:=fun i=>l.length - i,i0:=fun _=>0,nx:=fun a _=>(fun i=>i+1) a,live:=[8,9],sets:=fun i=>[(10,sv (.int .i64 i))],mids:=[],blks:=fun i=>[],owns:=fun i=>[],rd:=fun r _=>r,base:=100000 }
 | _,_=>none
def VC_iFactsValid_1 (l:List GFact):Prop:=True/\(((false,()):Bool × Unit)=(fsV l,()))/\True/\True/\True/\True/\TF
def VC_iFactsValid_2 (l:List GFact):Prop:=RL [.s (.c (.d (.arr .fact l))),.s (.c (.d (.val (.int .i64 ((l.length:Nat):Int)))))]
def VC_iFactsValid (l:List GFact) (k:Nat):Prop:=True/\True/\True/\True/\(vcIf (decide ((12:Int) < ((l.length:Nat):Int))) (VC_iFactsValid_1 l) (True/\True/\True/\((0<=l.length/\l.length<=12/\(l.take 0).all fV=true)/\TT/\(VC_iFactsValid_2 l)/\(([.s (.c (.d (.val (.int .i64 (0:Int)))))]:List S)=[.s (.c (.d (.val (.int .i64 ((0:Nat):Int)))))])/\(RM [])/\(RM [])/\True/\TT)/\(∀ i1:Nat,(i1<=l.length/\l.length<=12/\(l.take i1).all fV=true)->True/\(vcIf (decide (((i1:Nat):Int) < ((l.length:Nat):Int))) ((0<=((i1:Nat):Int)/\((i1:Nat):Int) < ((l.length:Nat):Int))/\True/\(TN/\True)/\(TF/\TF)/\True/\(True/\True/\True)/\True/\(vcIf (!(fV (l.getD i1 (⟨false,0,0⟩:GFact)))) (VC_iFactsValid_1 l) ((inK .i64 (((i1:Nat):Int)+(1:Int)))/\True/\((i1+1)<=l.length/\l.length<=12/\(l.take (i1+1)).all fV=true)/\(l.length - (i1+1) < l.length - i1)/\TT/\(VC_iFactsValid_2 l)/\(([.s (.c (.d (.val (.int .i64 (((i1:Nat):Int)+(1:Int))))))]:List S)=[.s (.c (.d (.val (.int .i64 (((i1+1):Nat):Int)))))])/\(RM [])/\(RM [])/\True/\TT))) (True/\(((true,()):Bool × Unit)=(fsV l,()))/\True/\True/\True/\True/\TF)))))
theorem vcn_iFactsValid (l:List GFact) (k:Nat) (hp:l.length<=281474976710656):VC_iFactsValid l k:=by
 unfold VC_iFactsValid VC_iFactsValid_2 VC_iFactsValid_1
 simp only [cln,Nat.reduceEqDiff,Nat.reduceLeDiff,Nat.reduceAdd]
 all_goals (try simp only [opn])
 all_goals (repeat' (first | apply And.intro | intro _))
 all_goals (first | omega | (simp_all;done) | grind [fsV,take_all,all_take,take_full,Ty.zero])
theorem ok_iFactsValid:FnOk Try.prog E 84 c_iFactsValid :=
 fn_okQ (l:=L_iFactsValid) (lp:=P_iFactsValid) (hp:=fun _=>false) (gcs:=fun _=>none) (perm:=fun _=>[]) tabOk mix ⟨ok_iFactValid,trivial⟩ trivial Try.func84 rfl (by kernel_rfl) (by decide) (by kernel_rfl) (anns:=fun x _=>an_iFactsValid x.1) (fun ⟨l,_⟩ k hp _=>Eq.mp (by kernel_rfl) (vcn_iFactsValid l k hp)) tot_fn
abbrev c_iAtomValid:Con:=⟨[.atom],[.bool],fun _=>True,.inl fun (x,_)=>(atV x,()),fun _=>0⟩
abbrev L_iAtomValid:List (FuncId × Con):=[(126,c_isTerm)]
abbrev P_iAtomValid:List (FuncId × PT):=[]
def VC_iAtomValid_1 (x:GAtom):Prop:=True/\True/\(((false,()):Bool × Unit)=(atV x,()))/\True/\True/\True/\True/\TF
def VC_iAtomValid_2 (x:GAtom):Prop:=True/\True/\(True/\True/\True)/\True/\True/\(vcIf (isT x.a) (True/\True/\(True/\True/\True)/\True/\True/\((((isT x.b),()):Bool × Unit)=(atV x,()))/\True/\True/\True/\True/\TF) (VC_iAtomValid_1 x))
def VC_iAtomValid (x:GAtom) (k:Nat):Prop:=TN/\True/\True/\True/\True/\True/\(vcIf (x.kind == (1:Int)) (True/\True/\(VC_iAtomValid_2 x)) (True/\True/\True/\True/\True/\(vcIf (x.kind == (2:Int)) (VC_iAtomValid_2 x) (True/\True/\(VC_iAtomValid_1 x)))))
theorem vcn_iAtomValid (x:GAtom) (k:Nat):VC_iAtomValid x k:=by
 unfold VC_iAtomValid VC_iAtomValid_2 VC_iAtomValid_1
 simp only [cln,Nat.reduceEqDiff,Nat.reduceLeDiff,Nat.reduceAdd]
 all_goals (try simp only [opn])
 all_goals (repeat' (first | apply And.intro | intro _))
 all_goals (first | omega | (simp_all;done) | grind [atV])
theorem ok_iAtomValid:FnOk Try.prog E 85 c_iAtomValid :=
 fn_okQ (l:=L_iAtomValid) (lp:=P_iAtomValid) (hp:=fun _=>false) (gcs:=fun _=>none) (perm:=fun _=>[]) tabOk mix ⟨ok_isTerm,trivial⟩ trivial Try.func85 rfl (by kernel_rfl) (by decide) (by kernel_rfl) (anns:=fun x _=>fun _ _=>none) (fun ⟨x,_⟩ k _ _=>Eq.mp (by kernel_rfl) (vcn_iAtomValid x k)) tot_fn
abbrev c_iAssertionValid:Con:=⟨[.asn],[.bool],fun (a,_)=>a.facts.length<=281474976710656/\a.atoms.length<=281474976710656,.inl fun (a,_)=>(asV a,()),fun _=>0⟩
abbrev L_iAssertionValid:List (FuncId × Con):=[(84,c_iFactsValid),(85,c_iAtomValid)]
abbrev P_iAssertionValid:List (FuncId × PT):=[]
def an_iAssertionValid (a:GAsn):Nat->St->Option Ann
 | 4,se=>some { α:=Nat,ok:=fun i=>i<=a.atoms.length/\a.atoms.length<=6/\fsV a.facts=true/\(a.atoms.take i).all atV=true,mu:=fun i=>a.atoms.length - i,i0:=fun _=>0,nx:=fun a _=>(fun i=>i+1) a,live:=[16,17],sets:=fun i=>[(18,sv (.int .i64 i))],mids:=[],blks:=fun i=>[],owns:=fun i=>[],rd:=fun r _=>r,base:=100000 }
 | _,_=>none
def VC_iAssertionValid_1 (a:GAsn):Prop:=True/\(((false,()):Bool × Unit)=(asV a,()))/\True/\True/\True/\True/\TF
def VC_iAssertionValid_2 (a:GAsn):Prop:=RL [.s (.c (.d (.arr .atom a.atoms))),.s (.c (.d (.val (.int .i64 ((a.atoms.length:Nat):Int)))))]
def VC_iAssertionValid (a:GAsn) (k:Nat):Prop:=TN/\True/\True/\True/\((a.facts.length<=281474976710656)/\True/\True)/\True/\True/\(vcIf (!(fsV a.facts)) (True/\(VC_iAssertionValid_1 a)) (True/\True/\True/\True/\True/\(vcIf (decide ((6:Int) < ((a.atoms.length:Nat):Int))) (VC_iAssertionValid_1 a) (True/\True/\True/\True/\((0<=a.atoms.length/\a.atoms.length<=6/\fsV a.facts=true/\(a.atoms.take 0).all atV=true)/\TT/\(VC_iAssertionValid_2 a)/\(([.s (.c (.d (.val (.int .i64 (0:Int)))))]:List S)=[.s (.c (.d (.val (.int .i64 ((0:Nat):Int)))))])/\(RM [])/\(RM [])/\True/\TT)/\(∀ i1:Nat,(i1<=a.atoms.length/\a.atoms.length<=6/\fsV a.facts=true/\(a.atoms.take i1).all atV=true)->True/\(vcIf (decide (((i1:Nat):Int) < ((a.atoms.length:Nat):Int))) ((0<=((i1:Nat):Int)/\((i1:Nat):Int) < ((a.atoms.length:Nat):Int))/\True/\(TN/\True)/\(TF/\TF)/\True/\(True/\True/\True)/\True/\(vcIf (!(atV (a.atoms.getD i1 (⟨0,0,0⟩:GAtom)))) (VC_iAssertionValid_1 a) ((inK .i64 (((i1:Nat):Int)+(1:Int)))/\True/\((i1+1)<=a.atoms.length/\a.atoms.length<=6/\fsV a.facts=true/\(a.atoms.take (i1+1)).all atV=true)/\(a.atoms.length - (i1+1) < a.atoms.length - i1)/\TT/\(VC_iAssertionValid_2 a)/\(([.s (.c (.d (.val (.int .i64 (((i1:Nat):Int)+(1:Int))))))]:List S)=[.s (.c (.d (.val (.int .i64 (((i1+1):Nat):Int)))))])/\(RM [])/\(RM [])/\True/\TT))) (True/\(((true,()):Bool × Unit)=(asV a,()))/\True/\True/\True/\True/\TF)))))))
theorem vcn_iAssertionValid (a:GAsn) (k:Nat) (hp:a.facts.length<=281474976710656/\a.atoms.length<=281474976710656):VC_iAssertionValid a k:=by
 unfold VC_iAssertionValid VC_iAssertionValid_2 VC_iAssertionValid_1
 simp only [cln,Nat.reduceEqDiff,Nat.reduceLeDiff,Nat.reduceAdd]
 all_goals (try simp only [opn])
 all_goals (repeat' (first | apply And.intro | intro _))
 all_goals (first | omega | (simp_all;done) | grind [asV,take_all,all_take,take_full,Ty.zero])
theorem ok_iAssertionValid:FnOk Try.prog E 37 c_iAssertionValid :=
 fn_okQ (l:=L_iAssertionValid) (lp:=P_iAssertionValid) (hp:=fun _=>false) (gcs:=fun _=>none) (perm:=fun _=>[]) tabOk mix ⟨ok_iFactsValid,ok_iAtomValid,trivial⟩ trivial Try.func37 rfl (by kernel_rfl) (by decide) (by kernel_rfl) (anns:=fun x _=>an_iAssertionValid x.1) (fun ⟨a,_⟩ k hp _=>Eq.mp (by kernel_rfl) (vcn_iAssertionValid a k hp)) tot_fn
abbrev c_pickAtoms:Con:=⟨[.asn,.int],[.asn],fun (a,mask,_)=>a.facts.length<=1048576/\a.atoms.length<=1048576,.inl fun (a,mask,_)=>(⟨[],pkA mask a.atoms⟩,()),fun _=>0⟩
abbrev L_pickAtoms:List (FuncId × Con):=[]
abbrev P_pickAtoms:List (FuncId × PT):=[]
def an_pickAtoms (a:GAsn) (mask:Int):Nat->St->Option Ann
 | 3,se=>some { α:=Nat,ok:=fun i=>i<=a.atoms.length,mu:=fun i=>a.atoms.length - i,i0:=fun _=>0,nx:=fun a _=>(fun i=>i+1) a,live:=[1,4,5,9,10],sets:=fun i=>[(11,sv (.int .i64 i))],mids:=[64,65,79],blks:=fun i=>[(95,.blk [.own 7,.own 8])],owns:=fun i=>[⟨7,.cell 95 0,.fact,[]⟩,⟨8,.cell 95 1,.atom,pk mask a.atoms i⟩],rd:=fun r _=>r,base:=100000 }
 | _,_=>none
def VC_pickAtoms_1 (mask:Int) (a:GAsn):Prop:=RL [.s (.c (.d (.val (.int .i64 mask)))),.s (.c (.ptr 79 0)),.s (.c (.ptr 95 0)),.s (.c (.d (.arr .atom a.atoms))),.s (.c (.d (.val (.int .i64 ((a.atoms.length:Nat):Int)))))]
def VC_pickAtoms_2 :Prop:=RM [some (.sl 64 .fact ([]:List GFact)),some (.sl 65 .atom ([]:List GAtom)),some (.blk [.own 64,.own 65])]
def VC_pickAtoms_3 (i1:Nat):Prop:=([.s (.c (.d (.val (.int .i64 (((i1:Nat):Int)+(1:Int))))))]:List S)=[.s (.c (.d (.val (.int .i64 (((i1+1):Nat):Int)))))]
def VC_pickAtoms (a:GAsn) (mask:Int) (k:Nat):Prop:=TN/\(TN/\TN/\TN/\True)/\(TN/\TN/\TN/\True)/\True/\True/\True/\True/\((0<=a.atoms.length)/\TT/\(VC_pickAtoms_1 mask a)/\(([.s (.c (.d (.val (.int .i64 (0:Int)))))]:List S)=[.s (.c (.d (.val (.int .i64 ((0:Nat):Int)))))])/\VC_pickAtoms_2/\(RM [some (.blk [.own 80,.own 81])])/\(((some ([]:List GFact):Option (List GFact))=some [])/\((some ([]:List GAtom):Option (List GAtom))=some (pk mask a.atoms 0))/\True)/\TT)/\(∀ i1:Nat,(i1<=a.atoms.length)->True/\(vcIf (decide (((i1:Nat):Int) < ((a.atoms.length:Nat):Int))) (True/\(0<=((i1:Nat):Int)/\((i1:Nat):Int) < ((a.atoms.length:Nat):Int))/\True/\(TN/\True)/\True/\(TF/\TF)/\True/\True/\(0<=((i1:Nat):Int))/\True/\True/\(vcIf ((bits .and .i64 (Int.fdiv mask (2 ^ (min i1 (IntKind.bits .i64)))) (1:Int)) == (1:Int)) (True/\True/\True/\(TN/\True)/\(TN/\TF/\TF/\((pk mask a.atoms i1).length+([(a.atoms.getD i1 (⟨0,0,0⟩:GAtom))]:List GAtom).length<=4294967296))/\True/\(TF/\TF)/\(inK .i64 (((i1:Nat):Int)+(1:Int)))/\True/\((i1+1)<=a.atoms.length)/\(a.atoms.length - (i1+1) < a.atoms.length - i1)/\TT/\(VC_pickAtoms_1 mask a)/\(VC_pickAtoms_3 i1)/\VC_pickAtoms_2/\(RM [some (.blk [.own 7,.own 100400])])/\(((some []:Option (List GFact))=some [])/\((some ((pk mask a.atoms i1) ++ ([(a.atoms.getD i1 (⟨0,0,0⟩:GAtom))]:List GAtom)):Option (List GAtom))=some (pk mask a.atoms (i1+1)))/\True)/\TT) ((inK .i64 (((i1:Nat):Int)+(1:Int)))/\True/\((i1+1)<=a.atoms.length)/\(a.atoms.length - (i1+1) < a.atoms.length - i1)/\TT/\(VC_pickAtoms_1 mask a)/\(VC_pickAtoms_3 i1)/\VC_pickAtoms_2/\(RM [some (.blk [.own 7,.own 8])])/\(((some []:Option (List GFact))=some [])/\((some (pk mask a.atoms i1):Option (List GAtom))=some (pk mask a.atoms (i1+1)))/\True)/\TT))) (True/\(TF/\TF)/\((((⟨[],pk mask a.atoms i1⟩:GAsn),()):GAsn × Unit)=(⟨[],pkA mask a.atoms⟩,()))/\((((7:Nat) ≠ 8)/\True)/\True/\True)/\((TF/\TF)/\(TF/\TF)/\True)/\True/\(True/\True/\True)/\TF)))
theorem vcn_pickAtoms (a:GAsn) (mask:Int) (k:Nat) (hp:a.facts.length<=1048576/\a.atoms.length<=1048576):VC_pickAtoms a mask k:=by
 unfold VC_pickAtoms VC_pickAtoms_3 VC_pickAtoms_2 VC_pickAtoms_1
 simp only [cln,Nat.reduceEqDiff,Nat.reduceLeDiff,Nat.reduceAdd]
 have hs:=pk_step mask a.atoms
 have hl:=pk_len mask a.atoms
 all_goals (try simp only [opn])
 all_goals (repeat' (first | apply And.intro | intro _))
 all_goals (first | omega | (simp_all;done) | grind [pkA,mbit,pk])
theorem ok_pickAtoms:FnOk Try.prog E 73 c_pickAtoms :=
 fn_okQ (l:=L_pickAtoms) (lp:=P_pickAtoms) (hp:=fun _=>false) (gcs:=fun _=>none) (perm:=fun _=>[]) tabOk mix trivial trivial Try.func73 rfl (by kernel_rfl) (by decide) (by kernel_rfl) (anns:=fun x _=>an_pickAtoms x.1 x.2.1) (fun ⟨a,mask,_⟩ k hp _=>Eq.mp (by kernel_rfl) (vcn_pickAtoms a mask k hp)) tot_fn
end Go.Proofs.Ytopjgjelkpkmmaa
