/-
  Contracts of single functions of the program, each shown by the engine: what a call returns for arguments within the contract's bounds.
-/
import Derived.Test.YtkafaeeianofnaaFFnExactRunBasica
import Derived.Test.YtkafaeeianofnaaFFnExactRunBasicb
import Derived.Test.YtkafaeeianofnaaEd
import Derived.Test.YtkafaeeianofnaaEc
set_option linter.unusedSimpArgs false
set_option linter.unusedVariables false
set_option linter.unusedSectionVars false

namespace Go.Proofs.Ytkafaeeianofnaa
open Go.SE Go.RowKit
variable [Base]
set_option linter.unusedSectionVars false
set_option linter.unusedSimpArgs false
set_option linter.unusedVariables false
set_option maxHeartbeats 1000000
set_option maxRecDepth 100000
abbrev c_szCmdS:Con:=⟨[.sl .lcmd,.int],[.int],fun (l,left,_)=>BdL l/\0<=left/\left<=1048576,.inl fun (l,left,_)=>(sz1 left (l.length+wcL l),()),fun _=>0⟩
abbrev mu_szCmdS:Args c_szCmdS.aks->Nat:=fun (l,left,_)=>ndL l
abbrev c_szCmd:Con:=⟨[.lcmd,.int],[.int],fun (c,left,_)=>BdC c/\0<=left/\left<=1048576,.inl fun (c,left,_)=>(sz1 left (wtC c),()),fun _=>0⟩
abbrev mu_szCmd:Args c_szCmd.aks->Nat:=fun (c,left,_)=>ndC c
abbrev L_szCmd (m:Nat):List (FuncId × Con):=[(15,c_szCmdS.lim mu_szCmdS m),(68,c_szAssertion)]
abbrev P_szCmd:List (FuncId × PT):=[]
def VC_szCmd_1 (left:Int) (c:GCmd):Prop:=True/\((((-1:Int),()):Int × Unit)=(sz1 left (wtC c),()))/\True/\True/\True/\True/\TF
def VC_szCmd (c:GCmd) (left:Int) (m:Nat) (k:Nat):Prop:=TN/\True/\True/\True/\True/\((c.inv.facts.length<=281474976710656/\c.inv.atoms.length<=281474976710656/\0<=left/\left<=1048576)/\True/\True)/\True/\True/\True/\(vcIf (decide ((szA c.inv left) < (0:Int))) (VC_szCmd_1 left c) (True/\True/\True/\(((BdL c.body/\0<=(szA c.inv left)/\(szA c.inv left)<=1048576)/\ndL c.body < m)/\True/\True)/\True/\True/\True/\(vcIf (decide ((sz1 (szA c.inv left) (c.body.length+wcL c.body)) < (0:Int))) (VC_szCmd_1 left c) (True/\True/\True/\(((BdL c.els/\0<=(sz1 (szA c.inv left) (c.body.length+wcL c.body))/\(sz1 (szA c.inv left) (c.body.length+wcL c.body))<=1048576)/\ndL c.els < m)/\True/\True)/\True/\True/\True/\(vcIf (decide ((sz1 (sz1 (szA c.inv left) (c.body.length+wcL c.body)) (c.els.length+wcL c.els)) < (0:Int))) (VC_szCmd_1 left c) (True/\True/\((((sz1 (sz1 (szA c.inv left) (c.body.length+wcL c.body)) (c.els.length+wcL c.els)),()):Int × Unit)=(sz1 left (wtC c),()))/\True/\True/\True/\True/\TF))))))
theorem vcn_szCmd (c:GCmd) (left:Int) (m:Nat) (k:Nat) (hp:(BdC c/\0<=left/\left<=1048576)/\ndC c < m+1):VC_szCmd c left m k:=by
 unfold VC_szCmd VC_szCmd_1
 simp only [cln,Nat.reduceEqDiff,Nat.reduceLeDiff,Nat.reduceAdd,GCmd.eta]
 have e1:=ndC_eq c
 have e2:=wtC_eq c
 have b1:=hp.1.1.b
 have b2:=hp.1.1.e
 have b3:=hp.1.1.f
 have b4:=hp.1.1.a
 all_goals (try simp only [vcIf_iff,decide_eq_true_eq,decide_eq_false_iff_not,bne_iff_ne,ne_eq,beq_iff_eq,beq_eq_false_iff_ne,bne_eq_false_iff_eq,Bool.not_eq_true',Bool.not_eq_false',Int.ofNat_lt,Int.natCast_inj])
 all_goals (repeat' (first | apply And.intro | intro _))
 all_goals (first | omega | (simp_all;done) | grind [sz1,szA])
theorem okof_szCmd (m:Nat) (ih:FnOk Try.prog E 15 (c_szCmdS.lim mu_szCmdS m)):FnOk Try.prog E 33 (c_szCmd.lim mu_szCmd (m+1)) :=
 fn_okQ (con:=c_szCmd.lim mu_szCmd (m+1)) (fn:=Try.f33) (l:=L_szCmd m) (lp:=P_szCmd) (hp:=fun _=>false) (gcs:=fun _=>none) (perm:=fun _=>[]) tabOk mix ⟨ih,ok_szAssertion,trivial⟩ trivial Try.func33 rfl (by kernel_rfl) (show c_szCmd.aks.length<=Try.f33.ntmps by decide) (by kernel_rfl) (anns:=fun x _=>fun _ _=>none) (fun ⟨c,left,_⟩ k hp _=>Eq.mp (by kernel_rfl) (vcn_szCmd c left m k hp)) tot_fn
abbrev L_szCmdS (m:Nat):List (FuncId × Con):=[(33,c_szCmd.lim mu_szCmd (m+1))]
abbrev P_szCmdS:List (FuncId × PT):=[]
def an_szCmdS (l:List GCmd) (left:Int):Nat->St->Option Ann
 | 5,se=>some { α:=Nat,ok:=fun i=>i<=l.length/\l.length+wcL (l.take i)<=left,mu:=fun i=>l.length - i,i0:=fun _=>0,nx:=fun a _=>(fun i=>i+1) a,live:=[0],sets:=fun i=>[(5,sv (.int .i64 i)),(1,sv (.int .i64 (left - l.length - wcL (l.take i))))],mids:=[],blks:=fun i=>[],owns:=fun i=>[],rd:=fun r _=>r,base:=100000 }
 | _,_=>none
def VC_szCmdS_1 (left:Int) (l:List GCmd):Prop:=True/\((((-1:Int),()):Int × Unit)=(sz1 left (l.length+wcL l),()))/\True/\True/\True/\True/\TF
def VC_szCmdS (l:List GCmd) (left:Int) (m:Nat) (k:Nat):Prop:=True/\True/\True/\True/\(inK .i64 (left - ((l.length:Nat):Int)))/\True/\True/\True/\(vcIf (decide ((left - ((l.length:Nat):Int)) < (0:Int))) (VC_szCmdS_1 left l) (True/\((0<=l.length/\l.length+wcL (l.take 0)<=left)/\TT/\(RL [.s (.c (.d (.arr .lcmd l)))])/\(([.s (.c (.d (.val (.int .i64 (0:Int))))),.s (.c (.d (.val (.int .i64 (left - ((l.length:Nat):Int))))))]:List S)=[.s (.c (.d (.val (.int .i64 ((0:Nat):Int))))),.s (.c (.d (.val (.int .i64 (left - l.length - wcL (l.take 0):Int)))))])/\(RM [])/\(RM [])/\True/\TT)/\(∀ i1:Nat,(i1<=l.length/\l.length+wcL (l.take i1)<=left)->True/\True/\True/\True/\(vcIf (decide (((i1:Nat):Int) < ((l.length:Nat):Int))) (True/\True/\(0<=((i1:Nat):Int)/\((i1:Nat):Int) < ((l.length:Nat):Int))/\True/\True/\(((BdC (GCmd.mk ((l.getD i1 (Ty.zero .lcmd)).kind) ((l.getD i1 (Ty.zero .lcmd)).a) ((l.getD i1 (Ty.zero .lcmd)).b) ((l.getD i1 (Ty.zero .lcmd)).test) ((l.getD i1 (Ty.zero .lcmd)).inv) ((l.getD i1 (Ty.zero .lcmd)).body) ((l.getD i1 (Ty.zero .lcmd)).els))/\0<=(left - l.length - wcL (l.take i1):Int)/\(left - l.length - wcL (l.take i1):Int)<=1048576)/\ndC (GCmd.mk ((l.getD i1 (Ty.zero .lcmd)).kind) ((l.getD i1 (Ty.zero .lcmd)).a) ((l.getD i1 (Ty.zero .lcmd)).b) ((l.getD i1 (Ty.zero .lcmd)).test) ((l.getD i1 (Ty.zero .lcmd)).inv) ((l.getD i1 (Ty.zero .lcmd)).body) ((l.getD i1 (Ty.zero .lcmd)).els)) < m+1)/\True/\True)/\True/\True/\True/\(vcIf (decide ((sz1 (left - l.length - wcL (l.take i1):Int) (wtC (GCmd.mk ((l.getD i1 (Ty.zero .lcmd)).kind) ((l.getD i1 (Ty.zero .lcmd)).a) ((l.getD i1 (Ty.zero .lcmd)).b) ((l.getD i1 (Ty.zero .lcmd)).test) ((l.getD i1 (Ty.zero .lcmd)).inv) ((l.getD i1 (Ty.zero .lcmd)).body) ((l.getD i1 (Ty.zero .lcmd)).els)))) < (0:Int))) (VC_szCmdS_1 left l) (True/\(inK .i64 (((i1:Nat):Int)+(1:Int)))/\True/\((i1+1)<=l.length/\l.length+wcL (l.take (i1+1))<=left)/\(l.length - (i1+1) < l.length - i1)/\TT/\(RL [.s (.c (.d (.arr .lcmd l)))])/\(([.s (.c (.d (.val (.int .i64 (((i1:Nat):Int)+(1:Int)))))),.s (.c (.d (.val (.int .i64 (sz1 (left - l.length - wcL (l.take i1):Int) (wtC (GCmd.mk ((l.getD i1 (Ty.zero .lcmd)).kind) ((l.getD i1 (Ty.zero .lcmd)).a) ((l.getD i1 (Ty.zero .lcmd)).b) ((l.getD i1 (Ty.zero .lcmd)).test) ((l.getD i1 (Ty.zero .lcmd)).inv) ((l.getD i1 (Ty.zero .lcmd)).body) ((l.getD i1 (Ty.zero .lcmd)).els))))))))]:List S)=[.s (.c (.d (.val (.int .i64 (((i1+1):Nat):Int))))),.s (.c (.d (.val (.int .i64 (left - l.length - wcL (l.take (i1+1)):Int)))))])/\(RM [])/\(RM [])/\True/\TT))) (True/\True/\((((left - l.length - wcL (l.take i1):Int),()):Int × Unit)=(sz1 left (l.length+wcL l),()))/\True/\True/\True/\True/\TF)))))
theorem vcn_szCmdS (l:List GCmd) (left:Int) (m:Nat) (k:Nat) (hp:(BdL l/\0<=left/\left<=1048576)/\ndL l < m+1):VC_szCmdS l left m k:=by
 unfold VC_szCmdS VC_szCmdS_1
 simp only [cln,Nat.reduceEqDiff,Nat.reduceLeDiff,Nat.reduceAdd,GCmd.eta]
 have hl:=hp.1.1.len
 have hg:∀ i,i < l.length->BdC (l.getD i (Ty.zero .lcmd))/\ndC (l.getD i (Ty.zero .lcmd))<=ndL l/\wcL (l.take (i+1))=wcL (l.take i)+wtC (l.getD i (Ty.zero .lcmd))/\wcL (l.take (i+1))<=wcL l:=fun i hi=>⟨hp.1.1.get hi,ndL_get hi,wcL_step hi,wcL_take_le l (i+1)⟩
 all_goals (try simp only [vcIf_iff,decide_eq_true_eq,decide_eq_false_iff_not,bne_iff_ne,ne_eq,beq_iff_eq,beq_eq_false_iff_ne,bne_eq_false_iff_eq,Bool.not_eq_true',Bool.not_eq_false',Int.ofNat_lt,Int.natCast_inj])
 all_goals (repeat' (first | apply And.intro | intro _))
 all_goals (first | omega | (simp_all;done) | grind [sz1,wcL_nil,List.take_length])
theorem ok_szCmdS:FnOk Try.prog E 15 c_szCmdS :=
 fn_rec (mu:=mu_szCmdS) (fun m ih=>fn_okQ (con:=c_szCmdS.lim mu_szCmdS (m+1)) (fn:=Try.f15) (l:=L_szCmdS m) (lp:=P_szCmdS) (hp:=fun _=>false) (gcs:=fun _=>none) (perm:=fun _=>[]) tabOk mix ⟨(okof_szCmd m ih),trivial⟩ trivial Try.func15 rfl (by kernel_rfl) (show c_szCmdS.aks.length<=Try.f15.ntmps by decide) (by kernel_rfl) (anns:=fun x _=>an_szCmdS x.1 x.2.1) (fun ⟨l,left,_⟩ k hp _=>Eq.mp (by kernel_rfl) (vcn_szCmdS l left m k hp)) tot_fn) ⟨_,_,Try.func15,by kernel_rfl,rfl⟩ tot_fn
theorem ok_szCmd:FnOk Try.prog E 33 c_szCmd :=
 fn_lims (mu:=mu_szCmd) (fun m=>okof_szCmd m (lim_of ok_szCmdS)) tot_fn
abbrev c_toIntS:Con:=⟨[.sl .int],[.sl .int],fun (l,_)=>l.length<=1048576,.inl fun (l,_)=>(l,()),fun _=>0⟩
abbrev L_toIntS:List (FuncId × Con):=[]
def an_toIntS (l:List Int):Nat->Option Ann
 | 3=>some { α:=Nat,ok:=fun i=>i<=l.length,mu:=fun i=>l.length - i,i0:=fun _=>0,nx:=fun a _=>(fun i=>i+1) a,live:=[0],sets:=fun i=>[(4,sv (.int .i64 i))],mids:=[],blks:=fun i=>[],owns:=fun i=>[⟨7,.slot 3,.int,l.take i ++ List.replicate (l.length - i) 0⟩],rd:=fun r _=>r,base:=100000 }
 | _=>none
theorem vc_toIntS (l:List Int) (k:Nat) (hp:l.length<=1048576):vc tab (lookF L_toIntS) (an_toIntS l) (fun _=>[]) (bodyOf Try.f69) (entry (encs c_toIntS.aks (l,())) (rdOf false k)) (retOk tab c_toIntS Try.f69.results.toList (l,()) k):=by
 dsimp only [bodyOf,Try.f69,rdOf]
 simp (maxSteps:=10000000) only [c_toIntS,L_toIntS,an_toIntS,SE.lookF,tab2,tab3,tab4,tab5,tab7,tab9,tab12,tab13,tab21,tab22,tab23,tab28,tab35,tab40,tab41,tab42,tab43,tab44,tab45,tab46,tab47,tab48,tab49,tab56,tab57,tab58,tab59,tab60,tab61,tab62,tab63,tab77,tab78,tab79,tab81,tab82,tab83,tab89,tab90,tab94,tab102,tab103,tab113,tab114,tab118,tab119,tab122,tab145,tab156,tab168,SE.entry,SE.envOf,SE.rdOf,Option.get_some,SE.vc,SE.vcReg,SE.vcLoop,SE.condK,SE.seqK,SE.blockK,SE.vcOps,SE.vcStep,SE.vcOp,SE.vcTr,SE.vcDet_some,SE.vcDet_none,SE.vcIf_true,SE.vcIf_false,SE.vcEach,SE.pickOps,SE.gslot,SE.trOp,SE.moveId,SE.trMove,SE.trPick,SE.trAlloc,SE.trBox,SE.trBuild,SE.trBuildSlice,SE.trLoad,SE.trStore,SE.trNilCheck,SE.trBin,SE.trUn,SE.trConvert,SE.trFieldAddr,SE.trField,SE.trIndexAddr,SE.trIndex,SE.trSlice,SE.trMakeSlice,SE.trExtract,SE.trLen,SE.trAppend,SE.trCopy,SE.trFn,SE.trCall,SE.argsS,SE.ev,SE.constS,SE.junk,SE.sv,SE.upd_app,SE.adds,SE.sets,SE.nid,SE.St.app,SE.St.put,SE.free,SE.freeL,SE.allFree,SE.rids,SE.AK.rids,SE.castL,SE.rdl,SE.AK.dec,SE.decs,SE.AK.enc,SE.encs,SE.AK.res,SE.ress,SE.pack1,SE.zcells,SE.zeroOf,SE.partCells,SE.putc,SE.fills,SE.datas,SE.ownDC,SE.wkDC,SE.wkS,SE.xfix,SE.tightM,SE.rdn,SE.rdnC,SE.elemOf,SE.elemsOf,SE.elemX,SE.zeroC,SE.notSpent,SE.cellsAt,SE.weak,SE.dcellsAt,SE.slAt,SE.rdPlus,SE.intAt,SE.updElem,SE.kill,SE.noJunk,SE.inK,SE.binI,SE.shf,SE.isShift,SE.eqCells,SE.aggS,SE.intOp,SE.nested,SE.hasRdr,SE.refsC,SE.refsCs,SE.ownsC,SE.refsAr,SE.rdFits,SE.costIf,SE.Con.post,SE.Con.det,SE.Ty.cells,SE.Ty.sz,SE.Ty.zero,SE.Ty.flat,SE.Ty.dec,SE.retOk,SE.loadsS,SE.loadS,SE.decRs,SE.decR,SE.outC,SE.rdC,SE.allDiff,SE.notIn,SE.notFrozen,SE.apartL,SE.rdEnd,SE.firstReg,SE.headC,SE.fitsC,SE.idsC,SE.keepE,SE.keepM,SE.keepB,SE.inL,SE.puts,SE.ownRes,SE.ownEnv,SE.renL,SE.srcId,SE.lookR,SE.envSame,SE.envSets,SE.memSame,SE.memBlks,SE.memOwns,SE.famsOf,SE.allIn,SE.closedE,SE.closedV,SE.closedM,SE.closedR,SE.rdLe,SE.S.refs,SE.S0.refs,SE.CV.refs,SE.refsL,SE.refsT,SE.S.ren,SE.S0.ren,SE.CV.ren,SE.Res.refs,SE.Res.ren,min_i64,max_i64,min_u16,max_u16,min_u8,max_u8,min_u64,max_u64,S.s.injEq,S0.c.injEq,CV.d.injEq,DC.val.injEq,Value.int.injEq,Value.bool.injEq,Value.string.injEq,eta_fact,eta_atom,eta_asn,eta_state,List.mem_cons,List.mem_nil_iff,or_false,false_or,or_true,true_or,List.map_cons,List.map_nil,Option.map_some,Option.map_none,Option.bind_some,Option.getD_some,Option.getD_none,Nat.reduceEqDiff,Nat.reduceAdd,Nat.reduceMul,Nat.reduceLeDiff,↓reduceIte,reduceCtorEq,true_and,and_true,and_self,forall_const,implies_true,true_implies,List.getElem?_toArray,List.getElem?_cons_succ,List.getElem?_cons_zero,List.append_nil,List.nil_append,List.cons_append,List.length_cons,List.length_nil,List.take_succ_cons,List.take_zero,List.drop_succ_cons,List.drop_zero,List.set_cons_zero,List.set_cons_succ,List.map_cons,List.map_nil,Nat.add_zero,Nat.zero_add,forall_eq,Prod.forall,Bool.not_true,Bool.not_false,Nat.lt_irrefl,Nat.zero_lt_succ,List.singleton_append,Prod.mk.injEq,Nat.zero_mul,Nat.one_mul,Nat.reducePow,Option.some.injEq,not_false_eq_true,Int.toNat_natCast,Nat.sub_zero,Nat.le_refl,Bool.or_false,Bool.false_or,Bool.or_true,Bool.true_or,Bool.and_true,Bool.true_and,Bool.and_false,Bool.false_and,Bool.or_self,Bool.and_self,List.append_eq,and_false,false_and]
 all_goals (try simp only [vcIf_iff,decide_eq_true_eq,decide_eq_false_iff_not,bne_iff_ne,ne_eq,beq_iff_eq,beq_eq_false_iff_ne,bne_eq_false_iff_eq,Bool.not_eq_true',Bool.not_eq_false',Int.ofNat_lt,Int.natCast_inj])
 all_goals (repeat' (first | apply And.intro | intro _))
 all_goals (first | omega | (simp_all;done) | grind [copy_step,take_full])
theorem ok_toIntS:FnOk Try.prog E 69 c_toIntS :=
 fn_ok (l:=L_toIntS) (perm:=fun _=>[]) tabOk mix trivial Try.func69 rfl (by kernel_rfl) (by decide) (by kernel_rfl) (anns:=fun x _=>an_toIntS x.1) (fun ⟨l,_⟩ k hp _=>vc_toIntS l k hp) tot_fn
abbrev c_toState:Con:=⟨[.state],[.state],fun (s,_)=>s.vals.length<=1048576/\s.heap.length<=1048576,.inl fun (s,_)=>(s,()),fun _=>0⟩
abbrev L_toState:List (FuncId × Con):=[(69,c_toIntS)]
theorem vc_toState (s:GState) (k:Nat) (hp:s.vals.length<=1048576/\s.heap.length<=1048576):vc tab (lookF L_toState) (fun _=>none) (fun _=>[]) (bodyOf Try.f34) (entry (encs c_toState.aks (s,())) (rdOf false k)) (retOk tab c_toState Try.f34.results.toList (s,()) k):=by
 dsimp only [bodyOf,Try.f34,rdOf]
 simp (maxSteps:=10000000) only [c_toState,L_toState,SE.lookF,c_toIntS,tab2,tab3,tab4,tab5,tab7,tab9,tab12,tab13,tab21,tab22,tab23,tab28,tab35,tab40,tab41,tab42,tab43,tab44,tab45,tab46,tab47,tab48,tab49,tab56,tab57,tab58,tab59,tab60,tab61,tab62,tab63,tab77,tab78,tab79,tab81,tab82,tab83,tab89,tab90,tab94,tab102,tab103,tab113,tab114,tab118,tab119,tab122,tab145,tab156,tab168,SE.entry,SE.envOf,SE.rdOf,Option.get_some,SE.vc,SE.vcReg,SE.vcLoop,SE.condK,SE.seqK,SE.blockK,SE.vcOps,SE.vcStep,SE.vcOp,SE.vcTr,SE.vcDet_some,SE.vcDet_none,SE.vcIf_true,SE.vcIf_false,SE.vcEach,SE.pickOps,SE.gslot,SE.trOp,SE.moveId,SE.trMove,SE.trPick,SE.trAlloc,SE.trBox,SE.trBuild,SE.trBuildSlice,SE.trLoad,SE.trStore,SE.trNilCheck,SE.trBin,SE.trUn,SE.trConvert,SE.trFieldAddr,SE.trField,SE.trIndexAddr,SE.trIndex,SE.trSlice,SE.trMakeSlice,SE.trExtract,SE.trLen,SE.trAppend,SE.trCopy,SE.trFn,SE.trCall,SE.argsS,SE.ev,SE.constS,SE.junk,SE.sv,SE.upd_app,SE.adds,SE.sets,SE.nid,SE.St.app,SE.St.put,SE.free,SE.freeL,SE.allFree,SE.rids,SE.AK.rids,SE.castL,SE.rdl,SE.AK.dec,SE.decs,SE.AK.enc,SE.encs,SE.AK.res,SE.ress,SE.pack1,SE.zcells,SE.zeroOf,SE.partCells,SE.putc,SE.fills,SE.datas,SE.ownDC,SE.wkDC,SE.wkS,SE.xfix,SE.tightM,SE.rdn,SE.rdnC,SE.elemOf,SE.elemsOf,SE.elemX,SE.zeroC,SE.notSpent,SE.cellsAt,SE.weak,SE.dcellsAt,SE.slAt,SE.rdPlus,SE.intAt,SE.updElem,SE.kill,SE.noJunk,SE.inK,SE.binI,SE.shf,SE.isShift,SE.eqCells,SE.aggS,SE.intOp,SE.nested,SE.hasRdr,SE.refsC,SE.refsCs,SE.ownsC,SE.refsAr,SE.rdFits,SE.costIf,SE.Con.post,SE.Con.det,SE.Ty.cells,SE.Ty.sz,SE.Ty.zero,SE.Ty.flat,SE.Ty.dec,SE.retOk,SE.loadsS,SE.loadS,SE.decRs,SE.decR,SE.outC,SE.rdC,SE.allDiff,SE.notIn,SE.notFrozen,SE.apartL,SE.rdEnd,SE.firstReg,SE.headC,SE.fitsC,SE.idsC,SE.keepE,SE.keepM,SE.keepB,SE.inL,SE.puts,SE.ownRes,SE.ownEnv,SE.renL,SE.srcId,SE.lookR,SE.envSame,SE.envSets,SE.memSame,SE.memBlks,SE.memOwns,SE.famsOf,SE.allIn,SE.closedE,SE.closedV,SE.closedM,SE.closedR,SE.rdLe,SE.S.refs,SE.S0.refs,SE.CV.refs,SE.refsL,SE.refsT,SE.S.ren,SE.S0.ren,SE.CV.ren,SE.Res.refs,SE.Res.ren,min_i64,max_i64,min_u16,max_u16,min_u8,max_u8,min_u64,max_u64,S.s.injEq,S0.c.injEq,CV.d.injEq,DC.val.injEq,Value.int.injEq,Value.bool.injEq,Value.string.injEq,eta_fact,eta_atom,eta_asn,eta_state,List.mem_cons,List.mem_nil_iff,or_false,false_or,or_true,true_or,List.map_cons,List.map_nil,Option.map_some,Option.map_none,Option.bind_some,Option.getD_some,Option.getD_none,Nat.reduceEqDiff,Nat.reduceAdd,Nat.reduceMul,Nat.reduceLeDiff,↓reduceIte,reduceCtorEq,true_and,and_true,and_self,forall_const,implies_true,true_implies,List.getElem?_toArray,List.getElem?_cons_succ,List.getElem?_cons_zero,List.append_nil,List.nil_append,List.cons_append,List.length_cons,List.length_nil,List.take_succ_cons,List.take_zero,List.drop_succ_cons,List.drop_zero,List.set_cons_zero,List.set_cons_succ,List.map_cons,List.map_nil,Nat.add_zero,Nat.zero_add,forall_eq,Prod.forall,Bool.not_true,Bool.not_false,Nat.lt_irrefl,Nat.zero_lt_succ,List.singleton_append,Prod.mk.injEq,Nat.zero_mul,Nat.one_mul,Nat.reducePow,Option.some.injEq,not_false_eq_true,Int.toNat_natCast,Nat.sub_zero,Nat.le_refl,Bool.or_false,Bool.false_or,Bool.or_true,Bool.true_or,Bool.and_true,Bool.true_and,Bool.and_false,Bool.false_and,Bool.or_self,Bool.and_self,List.append_eq,and_false,false_and]
 all_goals (try simp only [vcIf_iff,decide_eq_true_eq,decide_eq_false_iff_not,bne_iff_ne,ne_eq,beq_iff_eq,beq_eq_false_iff_ne,bne_eq_false_iff_eq,Bool.not_eq_true',Bool.not_eq_false',Int.ofNat_lt,Int.natCast_inj])
 all_goals (repeat' (first | apply And.intro | intro _))
 all_goals (first | omega | (simp_all;done) | grind [])
theorem ok_toState:FnOk Try.prog E 34 c_toState :=
 fn_ok (l:=L_toState) (perm:=fun _=>[]) tabOk mix ⟨ok_toIntS,trivial⟩ Try.func34 rfl (by kernel_rfl) (by decide) (by kernel_rfl) (anns:=fun x _=>fun _=>none) (fun ⟨s,_⟩ k hp _=>vc_toState s k hp) tot_fn
abbrev c_toFact:Con:=⟨[.fact],[.fact],fun _=>True,.inl fun (f,_)=>(f,()),fun _=>0⟩
abbrev L_toFact:List (FuncId × Con):=[]
abbrev P_toFact:List (FuncId × PT):=[]
def VC_toFact (f:GFact) (k:Nat):Prop:=TN/\(TN/\True)/\(TN/\True)/\True/\True/\True/\(TF/\TF)/\True/\True/\True/\(TF/\TF)/\True/\True/\True/\(TF/\TF)/\True/\(TF/\TF)/\(((f,()):GFact × Unit)=(f,()))/\True/\True/\True/\True/\TF
theorem vcn_toFact (f:GFact) (k:Nat):VC_toFact f k:=by
 unfold VC_toFact
 simp only [cln,Nat.reduceEqDiff,Nat.reduceLeDiff,Nat.reduceAdd]
 all_goals (try simp only [opn])
 all_goals (repeat' (first | apply And.intro | intro _))
 all_goals (first | omega | (simp_all;done) | grind [])
theorem ok_toFact:FnOk Try.prog E 70 c_toFact :=
 fn_okQ (l:=L_toFact) (lp:=P_toFact) (hp:=fun _=>false) (gcs:=fun _=>none) (perm:=fun _=>[]) tabOk mix trivial trivial Try.func70 rfl (by kernel_rfl) (by decide) (by kernel_rfl) (anns:=fun x _=>fun _ _=>none) (fun ⟨f,_⟩ k _ _=>Eq.mp (by kernel_rfl) (vcn_toFact f k)) tot_fn
abbrev c_toFactS:Con:=⟨[.sl .lfact],[.sl .fact],fun (l,_)=>l.length<=1048576,.inl fun (l,_)=>(l,()),fun _=>0⟩
abbrev L_toFactS:List (FuncId × Con):=[(70,c_toFact)]
abbrev P_toFactS:List (FuncId × PT):=[]
def an_toFactS (l:List GFact):Nat->St->Option Ann
 | 3,se=>some { α:=Nat,ok:=fun i=>i<=l.length,mu:=fun i=>l.length - i,i0:=fun _=>0,nx:=fun a _=>(fun i=>i+1) a,live:=[0,2],sets:=fun i=>[(4,sv (.int .i64 i))],mids:=[32],blks:=fun i=>[],owns:=fun i=>[⟨7,.slot 3,.fact,l.take i ++ List.replicate (l.length - i) (⟨false,0,0⟩:GFact)⟩],rd:=fun r _=>r,base:=100000 }
 | _,_=>none
def VC_toFactS (l:List GFact) (k:Nat):Prop:=TN/\True/\True/\(TN/\(0<=((l.length:Nat):Int)/\((l.length:Nat):Int)<=((l.length:Nat):Int)/\((l.length:Nat):Int)<=4294967296/\True))/\True/\True/\((0<=l.length)/\TT/\(RL [.s (.c (.d (.arr .lfact l))),.s (.c (.own 32))])/\(([.s (.c (.d (.val (.int .i64 (0:Int)))))]:List S)=[.s (.c (.d (.val (.int .i64 ((0:Nat):Int)))))])/\(RM [some (.sl 32 .fact ([]:List GFact))])/\(RM [])/\(((some (List.replicate l.length (⟨false,0,0⟩:GFact)):Option (List GFact))=some (l.take 0 ++ List.replicate (l.length - 0) (⟨false,0,0⟩:GFact)))/\True)/\TT)/\(∀ i1:Nat,(i1<=l.length)->True/\True/\True/\True/\(vcIf (decide (((i1:Nat):Int) < ((l.length:Nat):Int))) (True/\True/\True/\True/\(0<=((i1:Nat):Int)/\((i1:Nat):Int) < ((l.length:Nat):Int))/\True/\(True/\True/\True)/\(0<=((i1:Nat):Int)/\((i1:Nat):Int) < (((l.take i1 ++ List.replicate (l.length - i1) (⟨false,0,0⟩:GFact)).length:Nat):Int))/\(TF/\TF/\True/\((7:Nat) ∉ ([]:List Nat)))/\True/\(inK .i64 (((i1:Nat):Int)+(1:Int)))/\True/\((i1+1)<=l.length)/\(l.length - (i1+1) < l.length - i1)/\TT/\(RL [.s (.c (.d (.arr .lfact l))),.s (.c (.own 32))])/\(([.s (.c (.d (.val (.int .i64 (((i1:Nat):Int)+(1:Int))))))]:List S)=[.s (.c (.d (.val (.int .i64 (((i1+1):Nat):Int)))))])/\(RM [some (.sl 32 .fact ([]:List GFact))])/\(RM [])/\(((some ((l.take i1 ++ List.replicate (l.length - i1) (⟨false,0,0⟩:GFact)).set i1 (l.getD i1 (⟨false,0,0⟩:GFact))):Option (List GFact))=some (l.take (i1+1) ++ List.replicate (l.length - (i1+1)) (⟨false,0,0⟩:GFact)))/\True)/\TT) (True/\True/\(((l.take i1 ++ List.replicate (l.length - i1) (⟨false,0,0⟩:GFact),()):(List GFact) × Unit)=(l,()))/\(True/\True)/\((TF/\TF)/\True)/\True/\(True/\True)/\TF)))
theorem vcn_toFactS (l:List GFact) (k:Nat) (hp:l.length<=1048576):VC_toFactS l k:=by
 unfold VC_toFactS
 simp only [cln,Nat.reduceEqDiff,Nat.reduceLeDiff,Nat.reduceAdd]
 all_goals (try simp only [opn])
 all_goals (repeat' (first | apply And.intro | intro _))
 all_goals (first | omega | (simp_all;done) | grind [copy_step,take_full])
theorem ok_toFactS:FnOk Try.prog E 111 c_toFactS :=
 fn_okQ (l:=L_toFactS) (lp:=P_toFactS) (hp:=fun _=>false) (gcs:=fun _=>none) (perm:=fun _=>[]) tabOk mix ⟨ok_toFact,trivial⟩ trivial Try.func111 rfl (by kernel_rfl) (by decide) (by kernel_rfl) (anns:=fun x _=>an_toFactS x.1) (fun ⟨l,_⟩ k hp _=>Eq.mp (by kernel_rfl) (vcn_toFactS l k hp)) tot_fn
abbrev c_toAtom:Con:=⟨[.atom],[.atom],fun _=>True,.inl fun (f,_)=>(f,()),fun _=>0⟩
abbrev L_toAtom:List (FuncId × Con):=[]
abbrev P_toAtom:List (FuncId × PT):=[]
def VC_toAtom (f:GAtom) (k:Nat):Prop:=TN/\(TN/\True)/\(TN/\True)/\True/\True/\True/\(TF/\TF)/\True/\True/\True/\(TF/\TF)/\True/\True/\True/\(TF/\TF)/\True/\(TF/\TF)/\(((f,()):GAtom × Unit)=(f,()))/\True/\True/\True/\True/\TF
theorem vcn_toAtom (f:GAtom) (k:Nat):VC_toAtom f k:=by
 unfold VC_toAtom
 simp only [cln,Nat.reduceEqDiff,Nat.reduceLeDiff,Nat.reduceAdd]
 all_goals (try simp only [opn])
 all_goals (repeat' (first | apply And.intro | intro _))
 all_goals (first | omega | (simp_all;done) | grind [])
theorem ok_toAtom:FnOk Try.prog E 127 c_toAtom :=
 fn_okQ (l:=L_toAtom) (lp:=P_toAtom) (hp:=fun _=>false) (gcs:=fun _=>none) (perm:=fun _=>[]) tabOk mix trivial trivial Try.func127 rfl (by kernel_rfl) (by decide) (by kernel_rfl) (anns:=fun x _=>fun _ _=>none) (fun ⟨f,_⟩ k _ _=>Eq.mp (by kernel_rfl) (vcn_toAtom f k)) tot_fn
abbrev c_toAtomS:Con:=⟨[.sl .latom],[.sl .atom],fun (l,_)=>l.length<=1048576,.inl fun (l,_)=>(l,()),fun _=>0⟩
abbrev L_toAtomS:List (FuncId × Con):=[(127,c_toAtom)]
abbrev P_toAtomS:List (FuncId × PT):=[]
def an_toAtomS (l:List GAtom):Nat->St->Option Ann
 | 3,se=>some { α:=Nat,ok:=fun i=>i<=l.length,mu:=fun i=>l.length - i,i0:=fun _=>0,nx:=fun a _=>(fun i=>i+1) a,live:=[0,2],sets:=fun i=>[(4,sv (.int .i64 i))],mids:=[32],blks:=fun i=>[],owns:=fun i=>[⟨7,.slot 3,.atom,l.take i ++ List.replicate (l.length - i) (⟨0,0,0⟩:GAtom)⟩],rd:=fun r _=>r,base:=100000 }
 | _,_=>none
def VC_toAtomS (l:List GAtom) (k:Nat):Prop:=TN/\True/\True/\(TN/\(0<=((l.length:Nat):Int)/\((l.length:Nat):Int)<=((l.length:Nat):Int)/\((l.length:Nat):Int)<=4294967296/\True))/\True/\True/\((0<=l.length)/\TT/\(RL [.s (.c (.d (.arr .latom l))),.s (.c (.own 32))])/\(([.s (.c (.d (.val (.int .i64 (0:Int)))))]:List S)=[.s (.c (.d (.val (.int .i64 ((0:Nat):Int)))))])/\(RM [some (.sl 32 .atom ([]:List GAtom))])/\(RM [])/\(((some (List.replicate l.length (⟨0,0,0⟩:GAtom)):Option (List GAtom))=some (l.take 0 ++ List.replicate (l.length - 0) (⟨0,0,0⟩:GAtom)))/\True)/\TT)/\(∀ i1:Nat,(i1<=l.length)->True/\True/\True/\True/\(vcIf (decide (((i1:Nat):Int) < ((l.length:Nat):Int))) (True/\True/\True/\True/\(0<=((i1:Nat):Int)/\((i1:Nat):Int) < ((l.length:Nat):Int))/\True/\(True/\True/\True)/\(0<=((i1:Nat):Int)/\((i1:Nat):Int) < (((l.take i1 ++ List.replicate (l.length - i1) (⟨0,0,0⟩:GAtom)).length:Nat):Int))/\(TF/\TF/\True/\((7:Nat) ∉ ([]:List Nat)))/\True/\(inK .i64 (((i1:Nat):Int)+(1:Int)))/\True/\((i1+1)<=l.length)/\(l.length - (i1+1) < l.length - i1)/\TT/\(RL [.s (.c (.d (.arr .latom l))),.s (.c (.own 32))])/\(([.s (.c (.d (.val (.int .i64 (((i1:Nat):Int)+(1:Int))))))]:List S)=[.s (.c (.d (.val (.int .i64 (((i1+1):Nat):Int)))))])/\(RM [some (.sl 32 .atom ([]:List GAtom))])/\(RM [])/\(((some ((l.take i1 ++ List.replicate (l.length - i1) (⟨0,0,0⟩:GAtom)).set i1 (l.getD i1 (⟨0,0,0⟩:GAtom))):Option (List GAtom))=some (l.take (i1+1) ++ List.replicate (l.length - (i1+1)) (⟨0,0,0⟩:GAtom)))/\True)/\TT) (True/\True/\(((l.take i1 ++ List.replicate (l.length - i1) (⟨0,0,0⟩:GAtom),()):(List GAtom) × Unit)=(l,()))/\(True/\True)/\((TF/\TF)/\True)/\True/\(True/\True)/\TF)))
theorem vcn_toAtomS (l:List GAtom) (k:Nat) (hp:l.length<=1048576):VC_toAtomS l k:=by
 unfold VC_toAtomS
 simp only [cln,Nat.reduceEqDiff,Nat.reduceLeDiff,Nat.reduceAdd]
 all_goals (try simp only [opn])
 all_goals (repeat' (first | apply And.intro | intro _))
 all_goals (first | omega | (simp_all;done) | grind [copy_step,take_full])
theorem ok_toAtomS:FnOk Try.prog E 112 c_toAtomS :=
 fn_okQ (l:=L_toAtomS) (lp:=P_toAtomS) (hp:=fun _=>false) (gcs:=fun _=>none) (perm:=fun _=>[]) tabOk mix ⟨ok_toAtom,trivial⟩ trivial Try.func112 rfl (by kernel_rfl) (by decide) (by kernel_rfl) (anns:=fun x _=>an_toAtomS x.1) (fun ⟨l,_⟩ k hp _=>Eq.mp (by kernel_rfl) (vcn_toAtomS l k hp)) tot_fn
abbrev c_toAssertion:Con:=⟨[.lasn],[.asn],fun (a,_)=>a.facts.length<=1048576/\a.atoms.length<=1048576,.inl fun (a,_)=>(a,()),fun _=>0⟩
abbrev L_toAssertion:List (FuncId × Con):=[(111,c_toFactS),(112,c_toAtomS)]
abbrev P_toAssertion:List (FuncId × PT):=[]
def VC_toAssertion (a:GAsn) (k:Nat):Prop:=TN/\(TN/\TN/\TN/\True)/\(TN/\TN/\TN/\True)/\True/\True/\((a.facts.length<=1048576)/\True/\TN/\True)/\True/\(TF/\TF)/\True/\True/\((a.atoms.length<=1048576)/\True/\TN/\True)/\True/\(TF/\TF)/\True/\(TF/\TF)/\(((a,()):GAsn × Unit)=(a,()))/\((((96:Nat) ≠ 160)/\True)/\True/\True)/\((TF/\TF)/\(TF/\TF)/\True)/\True/\(True/\True/\True)/\TF
theorem vcn_toAssertion (a:GAsn) (k:Nat) (hp:a.facts.length<=1048576/\a.atoms.length<=1048576):VC_toAssertion a k:=by
 unfold VC_toAssertion
 simp only [cln,Nat.reduceEqDiff,Nat.reduceLeDiff,Nat.reduceAdd]
 all_goals (try simp only [opn])
 all_goals (repeat' (first | apply And.intro | intro _))
 all_goals (first | omega | (simp_all;done) | grind [])
theorem ok_toAssertion:FnOk Try.prog E 71 c_toAssertion :=
 fn_okQ (l:=L_toAssertion) (lp:=P_toAssertion) (hp:=fun _=>false) (gcs:=fun _=>none) (perm:=fun _=>[]) tabOk mix ⟨ok_toFactS,ok_toAtomS,trivial⟩ trivial Try.func71 rfl (by kernel_rfl) (by decide) (by kernel_rfl) (anns:=fun x _=>fun _ _=>none) (fun ⟨a,_⟩ k hp _=>Eq.mp (by kernel_rfl) (vcn_toAssertion a k hp)) tot_fn
abbrev c_toCmdS:Con:=⟨[.sl .lcmd],[.sl .cmd],fun (l,_)=>l.length+wcL l<=1048576,.inl fun (l,_)=>(l,()),fun _=>0⟩
abbrev mu_toCmdS:Args c_toCmdS.aks->Nat:=fun (l,_)=>ndL l
abbrev c_toCmd:Con:=⟨[.lcmd],[.cmd],fun (c,_)=>wtC c<=1048576,.inl fun (c,_)=>(c,()),fun _=>0⟩
abbrev mu_toCmd:Args c_toCmd.aks->Nat:=fun (c,_)=>ndC c
abbrev L_toCmd (m:Nat):List (FuncId × Con):=[(16,c_toCmdS.lim mu_toCmdS m),(70,c_toFact),(71,c_toAssertion)]
abbrev P_toCmd:List (FuncId × PT):=[]
def VC_toCmd (c:GCmd) (m:Nat) (k:Nat):Prop:=TN/\(TN/\TN/\TN/\TN/\TN/\True)/\(TN/\TN/\TN/\TN/\TN/\True)/\True/\True/\True/\(TF/\TF)/\True/\True/\True/\(TF/\TF)/\True/\True/\True/\(TF/\TF)/\True/\True/\(True/\True/\True)/\True/\(TF/\TF)/\True/\True/\((c.inv.facts.length<=1048576/\c.inv.atoms.length<=1048576)/\True/\TN/\TN/\True)/\True/\(TF/\TF)/\True/\True/\(((c.body.length+wcL c.body<=1048576)/\ndL c.body < m)/\True/\True/\TN/\True)/\True/\(TF/\TF)/\True/\True/\(((c.els.length+wcL c.els<=1048576)/\ndL c.els < m)/\True/\True/\TN/\True)/\True/\(TF/\TF)/\True/\(TF/\TF)/\((((GCmd.mk c.kind c.a c.b c.test c.inv c.body c.els),()):GCmd × Unit)=(c,()))/\True/\True/\(TF/\TF/\TF/\TF/\True)/\True/\TF
theorem vcn_toCmd (c:GCmd) (m:Nat) (k:Nat) (hp:(wtC c<=1048576)/\ndC c < m+1):VC_toCmd c m k:=by
 unfold VC_toCmd
 simp only [cln,Nat.reduceEqDiff,Nat.reduceLeDiff,Nat.reduceAdd,GCmd.eta]
 have e1:=ndC_eq c
 have e2:=wtC_eq c
 all_goals (try simp only [vcIf_iff,decide_eq_true_eq,decide_eq_false_iff_not,bne_iff_ne,ne_eq,beq_iff_eq,beq_eq_false_iff_ne,bne_eq_false_iff_eq,Bool.not_eq_true',Bool.not_eq_false',Int.ofNat_lt,Int.natCast_inj])
 all_goals (repeat' (first | apply And.intro | intro _))
 all_goals (first | omega | (simp_all;done) | grind [GCmd.eta])
theorem okof_toCmd (m:Nat) (ih:FnOk Try.prog E 16 (c_toCmdS.lim mu_toCmdS m)):FnOk Try.prog E 35 (c_toCmd.lim mu_toCmd (m+1)) :=
 fn_okQ (con:=c_toCmd.lim mu_toCmd (m+1)) (fn:=Try.f35) (l:=L_toCmd m) (lp:=P_toCmd) (hp:=fun _=>false) (gcs:=fun _=>none) (perm:=fun _=>[]) tabOk mix ⟨ih,ok_toFact,ok_toAssertion,trivial⟩ trivial Try.func35 rfl (by kernel_rfl) (show c_toCmd.aks.length<=Try.f35.ntmps by decide) (by kernel_rfl) (anns:=fun x _=>fun _ _=>none) (fun ⟨c,_⟩ k hp _=>Eq.mp (by kernel_rfl) (vcn_toCmd c m k hp)) tot_fn
abbrev L_toCmdS (m:Nat):List (FuncId × Con):=[(35,c_toCmd.lim mu_toCmd (m+1))]
abbrev P_toCmdS:List (FuncId × PT):=[]
def an_toCmdS (l:List GCmd):Nat->St->Option Ann
 | 3,se=>some { α:=Nat,ok:=fun i=>i<=l.length,mu:=fun i=>l.length - i,i0:=fun _=>0,nx:=fun a _=>(fun i=>i+1) a,live:=[0,2],sets:=fun i=>[(4,sv (.int .i64 i))],mids:=[32],blks:=fun i=>[],owns:=fun i=>[⟨7,.slot 3,.cmd,l.take i ++ List.replicate (l.length - i) (Ty.zero .cmd)⟩],rd:=fun r _=>r,base:=100000 }
 | _,_=>none
def VC_toCmdS (l:List GCmd) (m:Nat) (k:Nat):Prop:=TN/\True/\True/\(TN/\(0<=((l.length:Nat):Int)/\((l.length:Nat):Int)<=((l.length:Nat):Int)/\((l.length:Nat):Int)<=4294967296/\((l.length:Nat):Int)=((l.length:Nat):Int)))/\True/\True/\((0<=l.length)/\TT/\(RL [.s (.c (.d (.arr .lcmd l))),.s (.c (.own 32))])/\(([.s (.c (.d (.val (.int .i64 (0:Int)))))]:List S)=[.s (.c (.d (.val (.int .i64 ((0:Nat):Int)))))])/\(RM [some (.sl 32 .cmd ([]:List GCmd))])/\(RM [])/\(((some (List.replicate l.length (Ty.zero .cmd)):Option (List GCmd))=some (l.take 0 ++ List.replicate (l.length - 0) (Ty.zero .cmd)))/\True)/\TT)/\(∀ i1:Nat,(i1<=l.length)->True/\True/\True/\True/\(vcIf (decide (((i1:Nat):Int) < ((l.length:Nat):Int))) (True/\True/\True/\True/\(0<=((i1:Nat):Int)/\((i1:Nat):Int) < ((l.length:Nat):Int))/\True/\(((wtC (GCmd.mk ((l.getD i1 (Ty.zero .lcmd)).kind) ((l.getD i1 (Ty.zero .lcmd)).a) ((l.getD i1 (Ty.zero .lcmd)).b) ((l.getD i1 (Ty.zero .lcmd)).test) ((l.getD i1 (Ty.zero .lcmd)).inv) ((l.getD i1 (Ty.zero .lcmd)).body) ((l.getD i1 (Ty.zero .lcmd)).els))<=1048576)/\ndC (GCmd.mk ((l.getD i1 (Ty.zero .lcmd)).kind) ((l.getD i1 (Ty.zero .lcmd)).a) ((l.getD i1 (Ty.zero .lcmd)).b) ((l.getD i1 (Ty.zero .lcmd)).test) ((l.getD i1 (Ty.zero .lcmd)).inv) ((l.getD i1 (Ty.zero .lcmd)).body) ((l.getD i1 (Ty.zero .lcmd)).els)) < m+1)/\True/\True/\True)/\(0<=((i1:Nat):Int)/\((i1:Nat):Int) < (((l.take i1 ++ List.replicate (l.length - i1) (Ty.zero .cmd)).length:Nat):Int))/\(TF/\TF/\True/\((7:Nat) ∉ ([]:List Nat)))/\True/\(inK .i64 (((i1:Nat):Int)+(1:Int)))/\True/\((i1+1)<=l.length)/\(l.length - (i1+1) < l.length - i1)/\TT/\(RL [.s (.c (.d (.arr .lcmd l))),.s (.c (.own 32))])/\(([.s (.c (.d (.val (.int .i64 (((i1:Nat):Int)+(1:Int))))))]:List S)=[.s (.c (.d (.val (.int .i64 (((i1+1):Nat):Int)))))])/\(RM [some (.sl 32 .cmd ([]:List GCmd))])/\(RM [])/\(((some ((l.take i1 ++ List.replicate (l.length - i1) (Ty.zero .cmd)).set i1 (GCmd.mk ((l.getD i1 (Ty.zero .lcmd)).kind) ((l.getD i1 (Ty.zero .lcmd)).a) ((l.getD i1 (Ty.zero .lcmd)).b) ((l.getD i1 (Ty.zero .lcmd)).test) ((l.getD i1 (Ty.zero .lcmd)).inv) ((l.getD i1 (Ty.zero .lcmd)).body) ((l.getD i1 (Ty.zero .lcmd)).els))):Option (List GCmd))=some (l.take (i1+1) ++ List.replicate (l.length - (i1+1)) (Ty.zero .cmd)))/\True)/\TT) (True/\True/\(((l.take i1 ++ List.replicate (l.length - i1) (Ty.zero .cmd),()):(List GCmd) × Unit)=(l,()))/\(True/\True)/\((TF/\TF)/\True)/\True/\(True/\True)/\TF)))
theorem vcn_toCmdS (l:List GCmd) (m:Nat) (k:Nat) (hp:(l.length+wcL l<=1048576)/\ndL l < m+1):VC_toCmdS l m k:=by
 unfold VC_toCmdS
 simp only [cln,Nat.reduceEqDiff,Nat.reduceLeDiff,Nat.reduceAdd,GCmd.eta]
 have hg:∀ i,i < l.length->ndC (l.getD i (Ty.zero .lcmd))<=ndL l/\wtC (l.getD i (Ty.zero .lcmd))<=wcL l:=fun i hi=>⟨ndL_get hi,wcL_get hi⟩
 all_goals (try simp only [vcIf_iff,decide_eq_true_eq,decide_eq_false_iff_not,bne_iff_ne,ne_eq,beq_iff_eq,beq_eq_false_iff_ne,bne_eq_false_iff_eq,Bool.not_eq_true',Bool.not_eq_false',Int.ofNat_lt,Int.natCast_inj])
 all_goals (repeat' (first | apply And.intro | intro _))
 all_goals (first | omega | (simp_all;done) | grind [copy_step,take_full])
theorem ok_toCmdS:FnOk Try.prog E 16 c_toCmdS :=
 fn_rec (mu:=mu_toCmdS) (fun m ih=>fn_okQ (con:=c_toCmdS.lim mu_toCmdS (m+1)) (fn:=Try.f16) (l:=L_toCmdS m) (lp:=P_toCmdS) (hp:=fun _=>false) (gcs:=fun _=>none) (perm:=fun _=>[]) tabOk mix ⟨(okof_toCmd m ih),trivial⟩ trivial Try.func16 rfl (by kernel_rfl) (show c_toCmdS.aks.length<=Try.f16.ntmps by decide) (by kernel_rfl) (anns:=fun x _=>an_toCmdS x.1) (fun ⟨l,_⟩ k hp _=>Eq.mp (by kernel_rfl) (vcn_toCmdS l m k hp)) tot_fn) ⟨_,_,Try.func16,by kernel_rfl,rfl⟩ tot_fn
theorem ok_toCmd:FnOk Try.prog E 35 c_toCmd :=
 fn_lims (mu:=mu_toCmd) (fun m=>okof_toCmd m (lim_of ok_toCmdS)) tot_fn
abbrev c_eqIntS:Con:=⟨[.sl .int,.sl .int],[.bool],fun (a,b,_)=>a.length<=281474976710656/\b.length<=281474976710656,.inl fun (a,b,_)=>(decide (a=b),()),fun _=>0⟩
abbrev L_eqIntS:List (FuncId × Con):=[]
def an_eqIntS (a:List Int) (b:List Int):Nat->Option Ann
 | 4=>some { α:=Nat,ok:=fun i=>i<=a.length/\a.length=b.length/\a.take i=b.take i,mu:=fun i=>a.length - i,i0:=fun _=>0,nx:=fun a _=>(fun i=>i+1) a,live:=[0,1],sets:=fun i=>[(5,sv (.int .i64 i))],mids:=[],blks:=fun i=>[],owns:=fun i=>[],rd:=fun r _=>r,base:=100000 }
 | _=>none
theorem vc_eqIntS (a:List Int) (b:List Int) (k:Nat) (hp:a.length<=281474976710656/\b.length<=281474976710656):vc tab (lookF L_eqIntS) (an_eqIntS a b) (fun _=>[]) (bodyOf Try.f72) (entry (encs c_eqIntS.aks (a,b,())) (rdOf false k)) (retOk tab c_eqIntS Try.f72.results.toList (a,b,()) k):=by
 dsimp only [bodyOf,Try.f72,rdOf]
 simp (maxSteps:=10000000) only [c_eqIntS,L_eqIntS,an_eqIntS,SE.lookF,tab2,tab3,tab4,tab5,tab7,tab9,tab12,tab13,tab21,tab22,tab23,tab28,tab35,tab40,tab41,tab42,tab43,tab44,tab45,tab46,tab47,tab48,tab49,tab56,tab57,tab58,tab59,tab60,tab61,tab62,tab63,tab77,tab78,tab79,tab81,tab82,tab83,tab89,tab90,tab94,tab102,tab103,tab113,tab114,tab118,tab119,tab122,tab145,tab156,tab168,SE.entry,SE.envOf,SE.rdOf,Option.get_some,SE.vc,SE.vcReg,SE.vcLoop,SE.condK,SE.seqK,SE.blockK,SE.vcOps,SE.vcStep,SE.vcOp,SE.vcTr,SE.vcDet_some,SE.vcDet_none,SE.vcIf_true,SE.vcIf_false,SE.vcEach,SE.pickOps,SE.gslot,SE.trOp,SE.moveId,SE.trMove,SE.trPick,SE.trAlloc,SE.trBox,SE.trBuild,SE.trBuildSlice,SE.trLoad,SE.trStore,SE.trNilCheck,SE.trBin,SE.trUn,SE.trConvert,SE.trFieldAddr,SE.trField,SE.trIndexAddr,SE.trIndex,SE.trSlice,SE.trMakeSlice,SE.trExtract,SE.trLen,SE.trAppend,SE.trCopy,SE.trFn,SE.trCall,SE.argsS,SE.ev,SE.constS,SE.junk,SE.sv,SE.upd_app,SE.adds,SE.sets,SE.nid,SE.St.app,SE.St.put,SE.free,SE.freeL,SE.allFree,SE.rids,SE.AK.rids,SE.castL,SE.rdl,SE.AK.dec,SE.decs,SE.AK.enc,SE.encs,SE.AK.res,SE.ress,SE.pack1,SE.zcells,SE.zeroOf,SE.partCells,SE.putc,SE.fills,SE.datas,SE.ownDC,SE.wkDC,SE.wkS,SE.xfix,SE.tightM,SE.rdn,SE.rdnC,SE.elemOf,SE.elemsOf,SE.elemX,SE.zeroC,SE.notSpent,SE.cellsAt,SE.weak,SE.dcellsAt,SE.slAt,SE.rdPlus,SE.intAt,SE.updElem,SE.kill,SE.noJunk,SE.inK,SE.binI,SE.shf,SE.isShift,SE.eqCells,SE.aggS,SE.intOp,SE.nested,SE.hasRdr,SE.refsC,SE.refsCs,SE.ownsC,SE.refsAr,SE.rdFits,SE.costIf,SE.Con.post,SE.Con.det,SE.Ty.cells,SE.Ty.sz,SE.Ty.zero,SE.Ty.flat,SE.Ty.dec,SE.retOk,SE.loadsS,SE.loadS,SE.decRs,SE.decR,SE.outC,SE.rdC,SE.allDiff,SE.notIn,SE.notFrozen,SE.apartL,SE.rdEnd,SE.firstReg,SE.headC,SE.fitsC,SE.idsC,SE.keepE,SE.keepM,SE.keepB,SE.inL,SE.puts,SE.ownRes,SE.ownEnv,SE.renL,SE.srcId,SE.lookR,SE.envSame,SE.envSets,SE.memSame,SE.memBlks,SE.memOwns,SE.famsOf,SE.allIn,SE.closedE,SE.closedV,SE.closedM,SE.closedR,SE.rdLe,SE.S.refs,SE.S0.refs,SE.CV.refs,SE.refsL,SE.refsT,SE.S.ren,SE.S0.ren,SE.CV.ren,SE.Res.refs,SE.Res.ren,min_i64,max_i64,min_u16,max_u16,min_u8,max_u8,min_u64,max_u64,S.s.injEq,S0.c.injEq,CV.d.injEq,DC.val.injEq,Value.int.injEq,Value.bool.injEq,Value.string.injEq,eta_fact,eta_atom,eta_asn,eta_state,List.mem_cons,List.mem_nil_iff,or_false,false_or,or_true,true_or,List.map_cons,List.map_nil,Option.map_some,Option.map_none,Option.bind_some,Option.getD_some,Option.getD_none,Nat.reduceEqDiff,Nat.reduceAdd,Nat.reduceMul,Nat.reduceLeDiff,↓reduceIte,reduceCtorEq,true_and,and_true,and_self,forall_const,implies_true,true_implies,List.getElem?_toArray,List.getElem?_cons_succ,List.getElem?_cons_zero,List.append_nil,List.nil_append,List.cons_append,List.length_cons,List.length_nil,List.take_succ_cons,List.take_zero,List.drop_succ_cons,List.drop_zero,List.set_cons_zero,List.set_cons_succ,List.map_cons,List.map_nil,Nat.add_zero,Nat.zero_add,forall_eq,Prod.forall,Bool.not_true,Bool.not_false,Nat.lt_irrefl,Nat.zero_lt_succ,List.singleton_append,Prod.mk.injEq,Nat.zero_mul,Nat.one_mul,Nat.reducePow,Option.some.injEq,not_false_eq_true,Int.toNat_natCast,Nat.sub_zero,Nat.le_refl,Bool.or_false,Bool.false_or,Bool.or_true,Bool.true_or,Bool.and_true,Bool.true_and,Bool.and_false,Bool.false_and,Bool.or_self,Bool.and_self,List.append_eq,and_false,false_and]
 all_goals (try simp only [vcIf_iff,decide_eq_true_eq,decide_eq_false_iff_not,bne_iff_ne,ne_eq,beq_iff_eq,beq_eq_false_iff_ne,bne_eq_false_iff_eq,Bool.not_eq_true',Bool.not_eq_false',Int.ofNat_lt,Int.natCast_inj])
 all_goals (repeat' (first | apply And.intro | intro _))
 all_goals (first | omega | (simp_all;done) | grind [same_step,same_not,take_full])
theorem ok_eqIntS:FnOk Try.prog E 72 c_eqIntS :=
 fn_ok (l:=L_eqIntS) (perm:=fun _=>[]) tabOk mix trivial Try.func72 rfl (by kernel_rfl) (by decide) (by kernel_rfl) (anns:=fun x _=>an_eqIntS x.1 x.2.1) (fun ⟨a,b,_⟩ k hp _=>vc_eqIntS a b k hp) tot_fn
abbrev c_eqState:Con:=⟨[.state,.state],[.bool],fun (a,b,_)=>a.vals.length<=281474976710656/\a.heap.length<=281474976710656/\b.vals.length<=281474976710656/\b.heap.length<=281474976710656,.inl fun (a,b,_)=>(decide (a=b),()),fun _=>0⟩
abbrev L_eqState:List (FuncId × Con):=[(72,c_eqIntS)]
theorem vc_eqState (a:GState) (b:GState) (k:Nat) (hp:a.vals.length<=281474976710656/\a.heap.length<=281474976710656/\b.vals.length<=281474976710656/\b.heap.length<=281474976710656):vc tab (lookF L_eqState) (fun _=>none) (fun _=>[]) (bodyOf Try.f36) (entry (encs c_eqState.aks (a,b,())) (rdOf false k)) (retOk tab c_eqState Try.f36.results.toList (a,b,()) k):=by
 dsimp only [bodyOf,Try.f36,rdOf]
 simp (maxSteps:=10000000) only [c_eqState,L_eqState,SE.lookF,c_eqIntS,tab2,tab3,tab4,tab5,tab7,tab9,tab12,tab13,tab21,tab22,tab23,tab28,tab35,tab40,tab41,tab42,tab43,tab44,tab45,tab46,tab47,tab48,tab49,tab56,tab57,tab58,tab59,tab60,tab61,tab62,tab63,tab77,tab78,tab79,tab81,tab82,tab83,tab89,tab90,tab94,tab102,tab103,tab113,tab114,tab118,tab119,tab122,tab145,tab156,tab168,SE.entry,SE.envOf,SE.rdOf,Option.get_some,SE.vc,SE.vcReg,SE.vcLoop,SE.condK,SE.seqK,SE.blockK,SE.vcOps,SE.vcStep,SE.vcOp,SE.vcTr,SE.vcDet_some,SE.vcDet_none,SE.vcIf_true,SE.vcIf_false,SE.vcEach,SE.pickOps,SE.gslot,SE.trOp,SE.moveId,SE.trMove,SE.trPick,SE.trAlloc,SE.trBox,SE.trBuild,SE.trBuildSlice,SE.trLoad,SE.trStore,SE.trNilCheck,SE.trBin,SE.trUn,SE.trConvert,SE.trFieldAddr,SE.trField,SE.trIndexAddr,SE.trIndex,SE.trSlice,SE.trMakeSlice,SE.trExtract,SE.trLen,SE.trAppend,SE.trCopy,SE.trFn,SE.trCall,SE.argsS,SE.ev,SE.constS,SE.junk,SE.sv,SE.upd_app,SE.adds,SE.sets,SE.nid,SE.St.app,SE.St.put,SE.free,SE.freeL,SE.allFree,SE.rids,SE.AK.rids,SE.castL,SE.rdl,SE.AK.dec,SE.decs,SE.AK.enc,SE.encs,SE.AK.res,SE.ress,SE.pack1,SE.zcells,SE.zeroOf,SE.partCells,SE.putc,SE.fills,SE.datas,SE.ownDC,SE.wkDC,SE.wkS,SE.xfix,SE.tightM,SE.rdn,SE.rdnC,SE.elemOf,SE.elemsOf,SE.elemX,SE.zeroC,SE.notSpent,SE.cellsAt,SE.weak,SE.dcellsAt,SE.slAt,SE.rdPlus,SE.intAt,SE.updElem,SE.kill,SE.noJunk,SE.inK,SE.binI,SE.shf,SE.isShift,SE.eqCells,SE.aggS,SE.intOp,SE.nested,SE.hasRdr,SE.refsC,SE.refsCs,SE.ownsC,SE.refsAr,SE.rdFits,SE.costIf,SE.Con.post,SE.Con.det,SE.Ty.cells,SE.Ty.sz,SE.Ty.zero,SE.Ty.flat,SE.Ty.dec,SE.retOk,SE.loadsS,SE.loadS,SE.decRs,SE.decR,SE.outC,SE.rdC,SE.allDiff,SE.notIn,SE.notFrozen,SE.apartL,SE.rdEnd,SE.firstReg,SE.headC,SE.fitsC,SE.idsC,SE.keepE,SE.keepM,SE.keepB,SE.inL,SE.puts,SE.ownRes,SE.ownEnv,SE.renL,SE.srcId,SE.lookR,SE.envSame,SE.envSets,SE.memSame,SE.memBlks,SE.memOwns,SE.famsOf,SE.allIn,SE.closedE,SE.closedV,SE.closedM,SE.closedR,SE.rdLe,SE.S.refs,SE.S0.refs,SE.CV.refs,SE.refsL,SE.refsT,SE.S.ren,SE.S0.ren,SE.CV.ren,SE.Res.refs,SE.Res.ren,min_i64,max_i64,min_u16,max_u16,min_u8,max_u8,min_u64,max_u64,S.s.injEq,S0.c.injEq,CV.d.injEq,DC.val.injEq,Value.int.injEq,Value.bool.injEq,Value.string.injEq,eta_fact,eta_atom,eta_asn,eta_state,List.mem_cons,List.mem_nil_iff,or_false,false_or,or_true,true_or,List.map_cons,List.map_nil,Option.map_some,Option.map_none,Option.bind_some,Option.getD_some,Option.getD_none,Nat.reduceEqDiff,Nat.reduceAdd,Nat.reduceMul,Nat.reduceLeDiff,↓reduceIte,reduceCtorEq,true_and,and_true,and_self,forall_const,implies_true,true_implies,List.getElem?_toArray,List.getElem?_cons_succ,List.getElem?_cons_zero,List.append_nil,List.nil_append,List.cons_append,List.length_cons,List.length_nil,List.take_succ_cons,List.take_zero,List.drop_succ_cons,List.drop_zero,List.set_cons_zero,List.set_cons_succ,List.map_cons,List.map_nil,Nat.add_zero,Nat.zero_add,forall_eq,Prod.forall,Bool.not_true,Bool.not_false,Nat.lt_irrefl,Nat.zero_lt_succ,List.singleton_append,Prod.mk.injEq,Nat.zero_mul,Nat.one_mul,Nat.reducePow,Option.some.injEq,not_false_eq_true,Int.toNat_natCast,Nat.sub_zero,Nat.le_refl,Bool.or_false,Bool.false_or,Bool.or_true,Bool.true_or,Bool.and_true,Bool.true_and,Bool.and_false,Bool.false_and,Bool.or_self,Bool.and_self,List.append_eq,and_false,false_and]
 obtain ⟨a1,a2⟩:=a;obtain ⟨b1,b2⟩:=b
 all_goals (try simp only [vcIf_iff,decide_eq_true_eq,decide_eq_false_iff_not,bne_iff_ne,ne_eq,beq_iff_eq,beq_eq_false_iff_ne,bne_eq_false_iff_eq,Bool.not_eq_true',Bool.not_eq_false',Int.ofNat_lt,Int.natCast_inj])
 all_goals (repeat' (first | apply And.intro | intro _))
 all_goals (first | omega | (simp_all;done) | grind [])
theorem ok_eqState:FnOk Try.prog E 36 c_eqState :=
 fn_ok (l:=L_eqState) (perm:=fun _=>[]) tabOk mix ⟨ok_eqIntS,trivial⟩ Try.func36 rfl (by kernel_rfl) (by decide) (by kernel_rfl) (anns:=fun x _=>fun _=>none) (fun ⟨a,b,_⟩ k hp _=>vc_eqState a b k hp) tot_fn
abbrev c_eqFact:Con:=⟨[.fact,.fact],[.bool],fun _=>True,.inl fun (f,g,_)=>(decide (f=g),()),fun _=>0⟩
abbrev L_eqFact:List (FuncId × Con):=[]
abbrev P_eqFact:List (FuncId × PT):=[]
def VC_eqFact_1 (f:GFact) (g:GFact):Prop:=True/\(((false,()):Bool × Unit)=(decide (f=g),()))/\True/\True/\True/\True/\TF
def VC_eqFact (f:GFact) (g:GFact) (k:Nat):Prop:=TN/\TN/\True/\True/\True/\True/\True/\True/\(vcIf (f.eq != g.eq) (VC_eqFact_1 f g) (True/\True/\True/\True/\True/\(vcIf (f.a != g.a) (VC_eqFact_1 f g) (True/\True/\True/\True/\True/\(vcIf (f.b != g.b) (VC_eqFact_1 f g) (True/\(((true,()):Bool × Unit)=(decide (f=g),()))/\True/\True/\True/\True/\TF))))))
theorem vcn_eqFact (f:GFact) (g:GFact) (k:Nat):VC_eqFact f g k:=by
 unfold VC_eqFact VC_eqFact_1
 simp only [cln,Nat.reduceEqDiff,Nat.reduceLeDiff,Nat.reduceAdd]
 obtain ⟨f1,f2,f3⟩:=f;obtain ⟨g1,g2,g3⟩:=g
 all_goals (try simp only [opn])
 all_goals (repeat' (first | apply And.intro | intro _))
 all_goals (first | omega | (simp_all;done) | grind [])
theorem ok_eqFact:FnOk Try.prog E 73 c_eqFact :=
 fn_okQ (l:=L_eqFact) (lp:=P_eqFact) (hp:=fun _=>false) (gcs:=fun _=>none) (perm:=fun _=>[]) tabOk mix trivial trivial Try.func73 rfl (by kernel_rfl) (by decide) (by kernel_rfl) (anns:=fun x _=>fun _ _=>none) (fun ⟨f,g,_⟩ k _ _=>Eq.mp (by kernel_rfl) (vcn_eqFact f g k)) tot_fn
abbrev c_eqFactS:Con:=⟨[.sl .fact,.sl .fact],[.bool],fun (a,b,_)=>a.length<=281474976710656/\b.length<=281474976710656,.inl fun (a,b,_)=>(decide (a=b),()),fun _=>0⟩
abbrev L_eqFactS:List (FuncId × Con):=[(73,c_eqFact)]
abbrev P_eqFactS:List (FuncId × PT):=[]
def an_eqFactS (a:List GFact) (b:List GFact):Nat->St->Option Ann
 | 4,se=>some { α:=Nat,ok:=fun i=>i<=a.length/\a.length=b.length/\a.take i=b.take i,mu:=fun i=>a.length - i,i0:=fun _=>0,nx:=fun a _=>(fun i=>i+1) a,live:=[0,1],sets:=fun i=>[(5,sv (.int .i64 i))],mids:=[],blks:=fun i=>[],owns:=fun i=>[],rd:=fun r _=>r,base:=100000 }
 | _,_=>none
def VC_eqFactS_1 (a:List GFact) (b:List GFact):Prop:=True/\(((false,()):Bool × Unit)=(decide (a=b),()))/\True/\True/\True/\True/\TF
def VC_eqFactS (a:List GFact) (b:List GFact) (k:Nat):Prop:=True/\True/\True/\True/\True/\True/\(vcIf (((a.length:Nat):Int) != ((b.length:Nat):Int)) (VC_eqFactS_1 a b) (True/\((0<=a.length/\a.length=b.length/\a.take 0=b.take 0)/\TT/\(RL [.s (.c (.d (.arr .fact a))),.s (.c (.d (.arr .fact b)))])/\(([.s (.c (.d (.val (.int .i64 (0:Int)))))]:List S)=[.s (.c (.d (.val (.int .i64 ((0:Nat):Int)))))])/\(RM [])/\(RM [])/\True/\TT)/\(∀ i1:Nat,(i1<=a.length/\a.length=b.length/\a.take i1=b.take i1)->True/\True/\True/\True/\(vcIf (decide (((i1:Nat):Int) < ((a.length:Nat):Int))) (True/\True/\(0<=((i1:Nat):Int)/\((i1:Nat):Int) < ((a.length:Nat):Int))/\True/\True/\True/\(0<=((i1:Nat):Int)/\((i1:Nat):Int) < ((b.length:Nat):Int))/\True/\(True/\True/\True)/\True/\(vcIf (!(decide ((a.getD i1 (⟨false,0,0⟩:GFact))=(b.getD i1 (⟨false,0,0⟩:GFact))))) (VC_eqFactS_1 a b) (True/\(inK .i64 (((i1:Nat):Int)+(1:Int)))/\True/\((i1+1)<=a.length/\a.length=b.length/\a.take (i1+1)=b.take (i1+1))/\(a.length - (i1+1) < a.length - i1)/\TT/\(RL [.s (.c (.d (.arr .fact a))),.s (.c (.d (.arr .fact b)))])/\(([.s (.c (.d (.val (.int .i64 (((i1:Nat):Int)+(1:Int))))))]:List S)=[.s (.c (.d (.val (.int .i64 (((i1+1):Nat):Int)))))])/\(RM [])/\(RM [])/\True/\TT))) (True/\(((true,()):Bool × Unit)=(decide (a=b),()))/\True/\True/\True/\True/\TF)))))
theorem vcn_eqFactS (a:List GFact) (b:List GFact) (k:Nat) (hp:a.length<=281474976710656/\b.length<=281474976710656):VC_eqFactS a b k:=by
 unfold VC_eqFactS VC_eqFactS_1
 simp only [cln,Nat.reduceEqDiff,Nat.reduceLeDiff,Nat.reduceAdd]
 all_goals (try simp only [opn])
 all_goals (repeat' (first | apply And.intro | intro _))
 all_goals (first | omega | (simp_all;done) | grind [same_step,same_not,take_full])
theorem ok_eqFactS:FnOk Try.prog E 113 c_eqFactS :=
 fn_okQ (l:=L_eqFactS) (lp:=P_eqFactS) (hp:=fun _=>false) (gcs:=fun _=>none) (perm:=fun _=>[]) tabOk mix ⟨ok_eqFact,trivial⟩ trivial Try.func113 rfl (by kernel_rfl) (by decide) (by kernel_rfl) (anns:=fun x _=>an_eqFactS x.1 x.2.1) (fun ⟨a,b,_⟩ k hp _=>Eq.mp (by kernel_rfl) (vcn_eqFactS a b k hp)) tot_fn
abbrev c_eqAtom:Con:=⟨[.atom,.atom],[.bool],fun _=>True,.inl fun (f,g,_)=>(decide (f=g),()),fun _=>0⟩
abbrev L_eqAtom:List (FuncId × Con):=[]
abbrev P_eqAtom:List (FuncId × PT):=[]
def VC_eqAtom_1 (f:GAtom) (g:GAtom):Prop:=True/\(((false,()):Bool × Unit)=(decide (f=g),()))/\True/\True/\True/\True/\TF
def VC_eqAtom (f:GAtom) (g:GAtom) (k:Nat):Prop:=TN/\TN/\True/\True/\True/\True/\True/\True/\(vcIf (f.kind != g.kind) (VC_eqAtom_1 f g) (True/\True/\True/\True/\True/\(vcIf (f.a != g.a) (VC_eqAtom_1 f g) (True/\True/\True/\True/\True/\(vcIf (f.b != g.b) (VC_eqAtom_1 f g) (True/\(((true,()):Bool × Unit)=(decide (f=g),()))/\True/\True/\True/\True/\TF))))))
theorem vcn_eqAtom (f:GAtom) (g:GAtom) (k:Nat):VC_eqAtom f g k:=by
 unfold VC_eqAtom VC_eqAtom_1
 simp only [cln,Nat.reduceEqDiff,Nat.reduceLeDiff,Nat.reduceAdd]
 obtain ⟨f1,f2,f3⟩:=f;obtain ⟨g1,g2,g3⟩:=g
 all_goals (try simp only [opn])
 all_goals (repeat' (first | apply And.intro | intro _))
 all_goals (first | omega | (simp_all;done) | grind [])
theorem ok_eqAtom:FnOk Try.prog E 128 c_eqAtom :=
 fn_okQ (l:=L_eqAtom) (lp:=P_eqAtom) (hp:=fun _=>false) (gcs:=fun _=>none) (perm:=fun _=>[]) tabOk mix trivial trivial Try.func128 rfl (by kernel_rfl) (by decide) (by kernel_rfl) (anns:=fun x _=>fun _ _=>none) (fun ⟨f,g,_⟩ k _ _=>Eq.mp (by kernel_rfl) (vcn_eqAtom f g k)) tot_fn
abbrev c_eqAtomS:Con:=⟨[.sl .atom,.sl .atom],[.bool],fun (a,b,_)=>a.length<=281474976710656/\b.length<=281474976710656,.inl fun (a,b,_)=>(decide (a=b),()),fun _=>0⟩
abbrev L_eqAtomS:List (FuncId × Con):=[(128,c_eqAtom)]
abbrev P_eqAtomS:List (FuncId × PT):=[]
def an_eqAtomS (a:List GAtom) (b:List GAtom):Nat->St->Option Ann
 | 4,se=>some { α:=Nat,ok:=fun i=>i<=a.length/\a.length=b.length/\a.take i=b.take i,mu:=fun i=>a.length - i,i0:=fun _=>0,nx:=fun a _=>(fun i=>i+1) a,live:=[0,1],sets:=fun i=>[(5,sv (.int .i64 i))],mids:=[],blks:=fun i=>[],owns:=fun i=>[],rd:=fun r _=>r,base:=100000 }
 | _,_=>none
def VC_eqAtomS_1 (a:List GAtom) (b:List GAtom):Prop:=True/\(((false,()):Bool × Unit)=(decide (a=b),()))/\True/\True/\True/\True/\TF
def VC_eqAtomS (a:List GAtom) (b:List GAtom) (k:Nat):Prop:=True/\True/\True/\True/\True/\True/\(vcIf (((a.length:Nat):Int) != ((b.length:Nat):Int)) (VC_eqAtomS_1 a b) (True/\((0<=a.length/\a.length=b.length/\a.take 0=b.take 0)/\TT/\(RL [.s (.c (.d (.arr .atom a))),.s (.c (.d (.arr .atom b)))])/\(([.s (.c (.d (.val (.int .i64 (0:Int)))))]:List S)=[.s (.c (.d (.val (.int .i64 ((0:Nat):Int)))))])/\(RM [])/\(RM [])/\True/\TT)/\(∀ i1:Nat,(i1<=a.length/\a.length=b.length/\a.take i1=b.take i1)->True/\True/\True/\True/\(vcIf (decide (((i1:Nat):Int) < ((a.length:Nat):Int))) (True/\True/\(0<=((i1:Nat):Int)/\((i1:Nat):Int) < ((a.length:Nat):Int))/\True/\True/\True/\(0<=((i1:Nat):Int)/\((i1:Nat):Int) < ((b.length:Nat):Int))/\True/\(True/\True/\True)/\True/\(vcIf (!(decide ((a.getD i1 (⟨0,0,0⟩:GAtom))=(b.getD i1 (⟨0,0,0⟩:GAtom))))) (VC_eqAtomS_1 a b) (True/\(inK .i64 (((i1:Nat):Int)+(1:Int)))/\True/\((i1+1)<=a.length/\a.length=b.length/\a.take (i1+1)=b.take (i1+1))/\(a.length - (i1+1) < a.length - i1)/\TT/\(RL [.s (.c (.d (.arr .atom a))),.s (.c (.d (.arr .atom b)))])/\(([.s (.c (.d (.val (.int .i64 (((i1:Nat):Int)+(1:Int))))))]:List S)=[.s (.c (.d (.val (.int .i64 (((i1+1):Nat):Int)))))])/\(RM [])/\(RM [])/\True/\TT))) (True/\(((true,()):Bool × Unit)=(decide (a=b),()))/\True/\True/\True/\True/\TF)))))
theorem vcn_eqAtomS (a:List GAtom) (b:List GAtom) (k:Nat) (hp:a.length<=281474976710656/\b.length<=281474976710656):VC_eqAtomS a b k:=by
 unfold VC_eqAtomS VC_eqAtomS_1
 simp only [cln,Nat.reduceEqDiff,Nat.reduceLeDiff,Nat.reduceAdd]
 all_goals (try simp only [opn])
 all_goals (repeat' (first | apply And.intro | intro _))
 all_goals (first | omega | (simp_all;done) | grind [same_step,same_not,take_full])
theorem ok_eqAtomS:FnOk Try.prog E 114 c_eqAtomS :=
 fn_okQ (l:=L_eqAtomS) (lp:=P_eqAtomS) (hp:=fun _=>false) (gcs:=fun _=>none) (perm:=fun _=>[]) tabOk mix ⟨ok_eqAtom,trivial⟩ trivial Try.func114 rfl (by kernel_rfl) (by decide) (by kernel_rfl) (anns:=fun x _=>an_eqAtomS x.1 x.2.1) (fun ⟨a,b,_⟩ k hp _=>Eq.mp (by kernel_rfl) (vcn_eqAtomS a b k hp)) tot_fn
abbrev c_eqAssertion:Con:=⟨[.asn,.asn],[.bool],fun (a,b,_)=>a.facts.length<=281474976710656/\a.atoms.length<=281474976710656/\b.facts.length<=281474976710656/\b.atoms.length<=281474976710656,.inl fun (a,b,_)=>(decide (a=b),()),fun _=>0⟩
abbrev L_eqAssertion:List (FuncId × Con):=[(113,c_eqFactS),(114,c_eqAtomS)]
abbrev P_eqAssertion:List (FuncId × PT):=[]
def VC_eqAssertion_1 (a:GAsn) (b:GAsn):Prop:=True/\(((false,()):Bool × Unit)=(decide (a=b),()))/\True/\True/\True/\True/\TF
def VC_eqAssertion (a:GAsn) (b:GAsn) (k:Nat):Prop:=TN/\TN/\True/\True/\True/\True/\True/\((a.facts.length<=281474976710656/\b.facts.length<=281474976710656)/\True/\True)/\True/\(vcIf (!(decide (a.facts=b.facts))) (VC_eqAssertion_1 a b) (True/\True/\True/\True/\((a.atoms.length<=281474976710656/\b.atoms.length<=281474976710656)/\True/\True)/\True/\(vcIf (!(decide (a.atoms=b.atoms))) (VC_eqAssertion_1 a b) (True/\(((true,()):Bool × Unit)=(decide (a=b),()))/\True/\True/\True/\True/\TF))))
theorem vcn_eqAssertion (a:GAsn) (b:GAsn) (k:Nat) (hp:a.facts.length<=281474976710656/\a.atoms.length<=281474976710656/\b.facts.length<=281474976710656/\b.atoms.length<=281474976710656):VC_eqAssertion a b k:=by
 unfold VC_eqAssertion VC_eqAssertion_1
 simp only [cln,Nat.reduceEqDiff,Nat.reduceLeDiff,Nat.reduceAdd]
 obtain ⟨a1,a2⟩:=a;obtain ⟨b1,b2⟩:=b
 all_goals (try simp only [opn])
 all_goals (repeat' (first | apply And.intro | intro _))
 all_goals (first | omega | (simp_all;done) | grind [])
theorem ok_eqAssertion:FnOk Try.prog E 74 c_eqAssertion :=
 fn_okQ (l:=L_eqAssertion) (lp:=P_eqAssertion) (hp:=fun _=>false) (gcs:=fun _=>none) (perm:=fun _=>[]) tabOk mix ⟨ok_eqFactS,ok_eqAtomS,trivial⟩ trivial Try.func74 rfl (by kernel_rfl) (by decide) (by kernel_rfl) (anns:=fun x _=>fun _ _=>none) (fun ⟨a,b,_⟩ k hp _=>Eq.mp (by kernel_rfl) (vcn_eqAssertion a b k hp)) tot_fn
end Go.Proofs.Ytkafaeeianofnaa
