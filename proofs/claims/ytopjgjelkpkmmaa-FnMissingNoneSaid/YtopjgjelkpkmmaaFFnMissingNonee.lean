/-
  Contracts of single functions of the program, each shown by the engine: what a call returns for arguments within the contract's bounds.
-/
import Derived.Test.YtopjgjelkpkmmaaFFnMissingNonea
import Derived.Test.YtopjgjelkpkmmaaFFnMissingNoned
import Derived.Test.YtopjgjelkpkmmaaEd
import Derived.Test.YtopjgjelkpkmmaaEe
import Derived.Test.YtopjgjelkpkmmaaFFnMissingNonec
import Derived.Test.YtopjgjelkpkmmaaFFnMissingNoneb
import Derived.Test.YtopjgjelkpkmmaaEc
set_option linter.unusedSimpArgs false
set_option linter.unusedVariables false
set_option linter.unusedSectionVars false

namespace Go.Proofs.Ytopjgjelkpkmmaa
open Go.SE Go.RowKit
set_option linter.unusedSimpArgs false
set_option linter.unusedVariables false
set_option maxHeartbeats 1000000
set_option maxRecDepth 100000
abbrev c_l3Mutate:Con:=⟨[.rdr,.asn],[.asn],fun (rr,a,_)=>a.facts.length<=100000/\a.atoms.length<=100000,.inr fun (rr,a,_) r=>r.1.facts.length<=a.facts.length+14/\r.1.atoms.length<=a.atoms.length+7,fun (rr,a,_)=>4⟩
abbrev L_l3Mutate:List (FuncId × Con):=[(51,c_pick),(72,c_num),(95,c_l3Copy),(97,c_l1Mutate)]
def an_l3Mutate (rr:Unit) (a:GAsn):Nat->Option Ann
 | 8=>some { α:=Nat,ok:=fun i=>i=0 ∨ a.atoms.length+i<=7,mu:=fun i=>20 - i,i0:=fun _=>0,nx:=fun a _=>(fun i=>i+1) a,live:=[4,5],sets:=fun i=>[],mids:=[79,64,65],blks:=fun i=>[(95,.blk [.own 7,.own 8])],owns:=fun i=>[⟨7,.cell 95 0,.fact,a.facts⟩,⟨8,.cell 95 1,.atom,a.atoms ++ List.replicate i ⟨2,1,1⟩⟩],rd:=fun r _=>r,base:=100000 }
 | _=>none
theorem vc_l3Mutate (rr:Unit) (a:GAsn) (k:Nat) (hp:a.facts.length<=100000/\a.atoms.length<=100000) (hk:k+(4)<=1099511627776):vc tab (lookF L_l3Mutate) (an_l3Mutate rr a) (fun _=>[]) (bodyOf Try.f52) (entry (encs c_l3Mutate.aks (rr,a,())) (rdOf true k)) (retOk tab c_l3Mutate Try.f52.results.toList (rr,a,()) k):=by
 dsimp only [bodyOf,Try.f52,rdOf]
 simp (maxSteps:=10000000) only [c_l3Mutate,L_l3Mutate,an_l3Mutate,SE.lookF,c_pick,c_num,c_l3Copy,c_l1Mutate,tab2,tab3,tab4,tab5,tab7,tab9,tab12,tab13,tab21,tab22,tab23,tab24,tab25,tab26,tab29,tab30,tab31,tab38,tab39,tab40,tab41,tab65,tab66,tab67,tab68,tab71,tab77,tab78,tab93,tab94,tab104,tab105,tab110,tab111,tab112,tab119,tab121,tab130,tab139,tab141,tab149,tab151,tab156,tab157,tab158,SE.entry,SE.envOf,SE.rdOf,Option.get_some,SE.vc,SE.vcReg,SE.vcLoop,SE.condK,SE.seqK,SE.blockK,SE.vcOps,SE.vcStep,SE.vcOp,SE.vcTr,SE.vcDet_some,SE.vcDet_none,SE.vcIf_true,SE.vcIf_false,SE.vcEach,SE.pickOps,SE.gslot,SE.trOp,SE.moveId,SE.trMove,SE.trPick,SE.trAlloc,SE.trBox,SE.trBuild,SE.trBuildSlice,SE.trLoad,SE.trStore,SE.trNilCheck,SE.trBin,SE.trUn,SE.trConvert,SE.trFieldAddr,SE.trField,SE.trIndexAddr,SE.trIndex,SE.trSlice,SE.trMakeSlice,SE.trExtract,SE.trLen,SE.trAppend,SE.trCopy,SE.trFn,SE.trCall,SE.argsS,SE.ev,SE.constS,SE.junk,SE.sv,SE.upd_app,SE.adds,SE.sets,SE.nid,SE.St.app,SE.St.put,SE.free,SE.freeL,SE.allFree,SE.rids,SE.AK.rids,SE.castL,SE.rdl,SE.AK.dec,SE.decs,SE.AK.enc,SE.encs,SE.AK.res,SE.ress,SE.pack1,SE.zcells,SE.zeroOf,SE.partCells,SE.putc,SE.fills,SE.datas,SE.elemOf,SE.elemsOf,SE.notSpent,SE.cellsAt,SE.weak,SE.dcellsAt,SE.slAt,SE.rdPlus,SE.intAt,SE.updElem,SE.kill,SE.noJunk,SE.inK,SE.binI,SE.shf,SE.isShift,SE.eqCells,SE.aggS,SE.intOp,SE.nested,SE.hasRdr,SE.refsC,SE.refsCs,SE.ownsC,SE.refsAr,SE.rdFits,SE.costIf,SE.Con.post,SE.Con.det,SE.Ty.cells,SE.Ty.sz,SE.Ty.zero,SE.Ty.flat,SE.Ty.dec,SE.retOk,SE.loadsS,SE.loadS,SE.decRs,SE.decR,SE.outC,SE.rdC,SE.allDiff,SE.notIn,SE.notFrozen,SE.apartL,SE.rdEnd,SE.firstReg,SE.headC,SE.fitsC,SE.idsC,SE.keepE,SE.keepM,SE.keepB,SE.inL,SE.puts,SE.ownRes,SE.ownEnv,SE.renL,SE.srcId,SE.lookR,SE.envSame,SE.envSets,SE.memSame,SE.memBlks,SE.memOwns,SE.famsOf,SE.allIn,SE.closedE,SE.closedV,SE.closedM,SE.closedR,SE.rdLe,SE.S.refs,SE.S0.refs,SE.CV.refs,SE.refsL,SE.refsT,SE.S.ren,SE.S0.ren,SE.CV.ren,SE.Res.refs,SE.Res.ren,min_i64,max_i64,min_u16,max_u16,min_u8,max_u8,min_u64,max_u64,S.s.injEq,S0.c.injEq,CV.d.injEq,DC.val.injEq,Value.int.injEq,Value.bool.injEq,Value.string.injEq,eta_fact,eta_atom,eta_asn,eta_state,List.mem_cons,List.mem_nil_iff,or_false,false_or,or_true,true_or,Option.map_some,Option.map_none,Option.bind_some,Option.getD_some,Option.getD_none,Nat.reduceEqDiff,Nat.reduceAdd,Nat.reduceMul,Nat.reduceLeDiff,↓reduceIte,reduceCtorEq,true_and,and_true,and_self,forall_const,implies_true,true_implies,List.getElem?_toArray,List.getElem?_cons_succ,List.getElem?_cons_zero,List.append_nil,List.nil_append,List.cons_append,List.length_cons,List.length_nil,List.take_succ_cons,List.take_zero,List.drop_succ_cons,List.drop_zero,List.set_cons_zero,List.set_cons_succ,List.map_cons,List.map_nil,Nat.add_zero,Nat.zero_add,forall_eq,Prod.forall,Bool.not_true,Bool.not_false,Nat.lt_irrefl,Nat.zero_lt_succ,List.singleton_append,Prod.mk.injEq,Nat.zero_mul,Nat.one_mul,Nat.reducePow,Option.some.injEq,not_false_eq_true,Int.toNat_natCast,Nat.sub_zero,Nat.le_refl,Bool.or_false,Bool.false_or,Bool.or_true,Bool.true_or,Bool.and_true,Bool.true_and,Bool.and_false,Bool.false_and,Bool.or_self,Bool.and_self,List.append_eq,and_false,false_and]
 all_goals (try simp only [vcIf_iff,decide_eq_true_eq,decide_eq_false_iff_not,bne_iff_ne,ne_eq,beq_iff_eq,beq_eq_false_iff_ne,bne_eq_false_iff_eq,Bool.not_eq_true',Bool.not_eq_false',Int.ofNat_lt,Int.natCast_inj])
 all_goals (repeat' (first | apply And.intro | intro _))
 all_goals (first | omega | (simp_all;done) | grind [List.replicate_succ',List.append_assoc])
theorem ok_l3Mutate:FnOk Try.prog E 52 c_l3Mutate :=
 fn_ok (l:=L_l3Mutate) (perm:=fun _=>[]) tabOk mix ⟨ok_pick,ok_num,ok_l3Copy,ok_l1Mutate,trivial⟩ Try.func52 rfl (by kernel_rfl) (by decide) (by kernel_rfl) (anns:=fun x _=>an_l3Mutate x.1 x.2.1) (fun ⟨rr,a,_⟩ k hp hk=>vc_l3Mutate rr a k hp (hk rfl)) (fun ⟨_,a,_⟩ _=>⟨(a,()),⟨Nat.le_add_right _ _,Nat.le_add_right _ _⟩⟩)
abbrev c_l7Pick:Con:=⟨[.asn,.int],[.asn],fun (a,mask,_)=>a.facts.length<=1048576/\a.atoms.length<=1048576,.inl fun (a,mask,_)=>(⟨[],pkA mask a.atoms⟩,()),fun _=>0⟩
abbrev L_l7Pick:List (FuncId × Con):=[]
abbrev P_l7Pick:List (FuncId × PT):=[]
def an_l7Pick (a:GAsn) (mask:Int):Nat->St->Option Ann
 | 3,se=>some { α:=Nat,ok:=fun i=>i<=a.atoms.length,mu:=fun i=>a.atoms.length - i,i0:=fun _=>0,nx:=fun a _=>(fun i=>i+1) a,live:=[1,2,4,5],sets:=fun i=>[(6,sv (.int .i64 i))],mids:=[47,64,65,79],blks:=fun i=>[(95,.blk [.own 7,.own 8])],owns:=fun i=>[⟨7,.cell 95 0,.fact,[]⟩,⟨8,.cell 95 1,.atom,pk mask a.atoms i⟩],rd:=fun r _=>r,base:=100000 }
 | _,_=>none
def VC_l7Pick_1 (mask:Int):Prop:=RL [.s (.c (.d (.val (.int .i64 mask)))),.s (.c (.ptr 47 0)),.s (.c (.ptr 79 0)),.s (.c (.ptr 95 0))]
def VC_l7Pick_2 (a:GAsn):Prop:=RM [some (.blk [.d (.arr .fact a.facts),.d (.arr .atom a.atoms)]),some (.sl 64 .fact ([]:List GFact)),some (.sl 65 .atom ([]:List GAtom)),some (.blk [.own 64,.own 65])]
def VC_l7Pick_3 (i1:Nat):Prop:=([.s (.c (.d (.val (.int .i64 (((i1:Nat):Int)+(1:Int))))))]:List S)=[.s (.c (.d (.val (.int .i64 (((i1+1):Nat):Int)))))]
def VC_l7Pick (a:GAsn) (mask:Int) (k:Nat):Prop:=TN/\(TN/\TN/\TN/\True)/\(TN/\TN/\True)/\(TN/\TN/\TN/\True)/\(TF/\TF)/\True/\((0<=a.atoms.length)/\TT/\(VC_l7Pick_1 mask)/\(([.s (.c (.d (.val (.int .i64 (0:Int)))))]:List S)=[.s (.c (.d (.val (.int .i64 ((0:Nat):Int)))))])/\(VC_l7Pick_2 a)/\(RM [some (.blk [.own 112,.own 113])])/\(((some ([]:List GFact):Option (List GFact))=some [])/\((some ([]:List GAtom):Option (List GAtom))=some (pk mask a.atoms 0))/\True)/\TT)/\(∀ i1:Nat,(i1<=a.atoms.length)->True/\True/\True/\True/\True/\(vcIf (decide (((i1:Nat):Int) < ((a.atoms.length:Nat):Int))) (True/\True/\(0<=((i1:Nat):Int))/\True/\True/\(vcIf ((bits .and .i64 (Int.fdiv mask (2 ^ (min i1 (IntKind.bits .i64)))) (1:Int)) == (1:Int)) (True/\True/\True/\True/\True/\(0<=((i1:Nat):Int)/\((i1:Nat):Int) < ((a.atoms.length:Nat):Int))/\True/\(TN/\True)/\(TN/\TF/\TF/\((pk mask a.atoms i1).length+([(a.atoms.getD i1 (⟨0,0,0⟩:GAtom))]:List GAtom).length<=4294967296))/\True/\(TF/\TF)/\True/\(inK .i64 (((i1:Nat):Int)+(1:Int)))/\True/\((i1+1)<=a.atoms.length)/\(a.atoms.length - (i1+1) < a.atoms.length - i1)/\TT/\(VC_l7Pick_1 mask)/\(VC_l7Pick_3 i1)/\(VC_l7Pick_2 a)/\(RM [some (.blk [.own 7,.own 100448])])/\(((some []:Option (List GFact))=some [])/\((some ((pk mask a.atoms i1) ++ ([(a.atoms.getD i1 (⟨0,0,0⟩:GAtom))]:List GAtom)):Option (List GAtom))=some (pk mask a.atoms (i1+1)))/\True)/\TT) (True/\(inK .i64 (((i1:Nat):Int)+(1:Int)))/\True/\((i1+1)<=a.atoms.length)/\(a.atoms.length - (i1+1) < a.atoms.length - i1)/\TT/\(VC_l7Pick_1 mask)/\(VC_l7Pick_3 i1)/\(VC_l7Pick_2 a)/\(RM [some (.blk [.own 7,.own 8])])/\(((some []:Option (List GFact))=some [])/\((some (pk mask a.atoms i1):Option (List GAtom))=some (pk mask a.atoms (i1+1)))/\True)/\TT))) (True/\(TF/\TF)/\((((⟨[],pk mask a.atoms i1⟩:GAsn),()):GAsn × Unit)=(⟨[],pkA mask a.atoms⟩,()))/\((((7:Nat) ≠ 8)/\True)/\True/\True)/\((TF/\TF)/\(TF/\TF)/\True)/\True/\(True/\True/\True)/\TF)))
theorem vcn_l7Pick (a:GAsn) (mask:Int) (k:Nat) (hp:a.facts.length<=1048576/\a.atoms.length<=1048576):VC_l7Pick a mask k:=by
 unfold VC_l7Pick VC_l7Pick_3 VC_l7Pick_2 VC_l7Pick_1
 simp only [cln,Nat.reduceEqDiff,Nat.reduceLeDiff,Nat.reduceAdd]
 have hs:=pk_step mask a.atoms
 have hl:=pk_len mask a.atoms
 all_goals (try simp only [opn])
 all_goals (repeat' (first | apply And.intro | intro _))
 all_goals (first | omega | (simp_all;done) | grind [pkA,mbit,pk])
theorem ok_l7Pick:FnOk Try.prog E 75 c_l7Pick :=
 fn_okQ (l:=L_l7Pick) (lp:=P_l7Pick) (hp:=fun _=>false) (gcs:=fun _=>none) (perm:=fun _=>[]) tabOk mix trivial trivial Try.func75 rfl (by kernel_rfl) (by decide) (by kernel_rfl) (anns:=fun x _=>an_l7Pick x.1 x.2.1) (fun ⟨a,mask,_⟩ k hp _=>Eq.mp (by kernel_rfl) (vcn_l7Pick a mask k hp)) tot_fn
abbrev c_l6Chains:Con:=⟨[.rdr],[.asn],fun _=>True,.inr fun (rr,_) r=>r.1.facts.length<=1/\r.1.atoms.length<=4,fun (rr,_)=>13⟩
abbrev L_l6Chains:List (FuncId × Con):=[(51,c_pick),(72,c_num)]
abbrev P_l6Chains:List (FuncId × PT):=[]
def an_l6Chains (rr:Unit):Nat->St->Option Ann
 | 4,se=>some { α:=Int × Int × List GAtom,ok:=fun p=>0<=p.2.1/\p.2.1+p.2.2.length<=4,mu:=fun p=>p.2.1.toNat,i0:=fun st=>(intAt st 4,intAt st 5,([]:List GAtom)),nx:=fun p st=>(intAt st 4,p.2.1 - 1,slAt .atom st (.cell 63 1)),live:=[0,2,3],sets:=fun p=>[(4,sv (.int .i64 p.1)),(5,sv (.int .i64 p.2.1))],mids:=[32,33,47],blks:=fun p=>[(63,.blk [.own 7,.own 8])],owns:=fun p=>[⟨7,.cell 63 0,.fact,([]:List GFact)⟩,⟨8,.cell 63 1,.atom,p.2.2⟩],rd:=fun r p=>rdPlus r (2 * (4 - p.2.1.toNat)),base:=100000 }
 | _,_=>none
def VC_l6Chains_1 :Prop:=0 < ([(1:Int),(2:Int),(5:Int)]:List Int).length/\([(1:Int),(2:Int),(5:Int)]:List Int).length<=1000
def VC_l6Chains_2 :Prop:=RM [some (.sl 32 .fact ([]:List GFact)),some (.sl 33 .atom ([]:List GAtom)),some (.blk [.own 32,.own 33])]
def VC_l6Chains_3 (r5:Int × Unit) (p3:Int × Int × List GAtom) (r4:Int × Unit) (k:Nat):Prop:=(True/\(vcIf (r5.1 == (0:Int)) (True/\(TF/\TF)/\True/\True/\True/\(TN/\True)/\(TN/\TF/\TF/\(p3.2.2.length+([(⟨(2:Int),(p3.1:Int),r4.1⟩:GAtom)]:List GAtom).length<=4294967296))/\True/\(TF/\TF)/\True/\True/\True/\True/\(inK .i64 ((p3.2.1:Int) - (1:Int)))/\True/\(0<=(r4.1,p3.2.1 - 1,(p3.2.2 ++ ([(⟨(2:Int),(p3.1:Int),r4.1⟩:GAtom)]:List GAtom))).2.1/\(r4.1,p3.2.1 - 1,(p3.2.2 ++ ([(⟨(2:Int),(p3.1:Int),r4.1⟩:GAtom)]:List GAtom))).2.1+(r4.1,p3.2.1 - 1,(p3.2.2 ++ ([(⟨(2:Int),(p3.1:Int),r4.1⟩:GAtom)]:List GAtom))).2.2.length<=4)/\((r4.1,p3.2.1 - 1,(p3.2.2 ++ ([(⟨(2:Int),(p3.1:Int),r4.1⟩:GAtom)]:List GAtom))).2.1.toNat < p3.2.1.toNat)/\TT/\(RL [.s (.c (.rdr)),.s (.c (.ptr 47 0)),.s (.c (.ptr 63 0))])/\(([.s (.c (.d (.val (.int .i64 r4.1)))),.s (.c (.d (.val (.int .i64 ((p3.2.1:Int) - (1:Int))))))]:List S)=[.s (.c (.d (.val (.int .i64 ((r4.1,p3.2.1 - 1,(p3.2.2 ++ ([(⟨(2:Int),(p3.1:Int),r4.1⟩:GAtom)]:List GAtom))).1:Int))))),.s (.c (.d (.val (.int .i64 ((r4.1,p3.2.1 - 1,(p3.2.2 ++ ([(⟨(2:Int),(p3.1:Int),r4.1⟩:GAtom)]:List GAtom))).2.1:Int)))))])/\VC_l6Chains_2/\(RM [some (.blk [.own 7,.own 100496])])/\(((some ([]:List GFact):Option (List GFact))=some ([]:List GFact))/\((some (p3.2.2 ++ ([(⟨(2:Int),(p3.1:Int),r4.1⟩:GAtom)]:List GAtom)):Option (List GAtom))=some ((r4.1,p3.2.1 - 1,(p3.2.2 ++ ([(⟨(2:Int),(p3.1:Int),r4.1⟩:GAtom)]:List GAtom))).2.2))/\True)/\(k+1+1+(2 * (4 - p3.2.1.toNat))+1+1<=k+1+1+(2 * (4 - (r4.1,p3.2.1 - 1,(p3.2.2 ++ ([(⟨(2:Int),(p3.1:Int),r4.1⟩:GAtom)]:List GAtom))).2.1.toNat))/\k+1+1+(2 * (4 - (r4.1,p3.2.1 - 1,(p3.2.2 ++ ([(⟨(2:Int),(p3.1:Int),r4.1⟩:GAtom)]:List GAtom))).2.1.toNat))<=1099511627776)) (True/\True/\True/\(TN/\True)/\(TN/\TF/\TF/\(p3.2.2.length+([(⟨(1:Int),(p3.1:Int),r4.1⟩:GAtom)]:List GAtom).length<=4294967296))/\True/\(TF/\TF)/\True/\True/\True/\True/\(inK .i64 ((p3.2.1:Int) - (1:Int)))/\True/\(0<=(r4.1,p3.2.1 - 1,(p3.2.2 ++ ([(⟨(1:Int),(p3.1:Int),r4.1⟩:GAtom)]:List GAtom))).2.1/\(r4.1,p3.2.1 - 1,(p3.2.2 ++ ([(⟨(1:Int),(p3.1:Int),r4.1⟩:GAtom)]:List GAtom))).2.1+(r4.1,p3.2.1 - 1,(p3.2.2 ++ ([(⟨(1:Int),(p3.1:Int),r4.1⟩:GAtom)]:List GAtom))).2.2.length<=4)/\((r4.1,p3.2.1 - 1,(p3.2.2 ++ ([(⟨(1:Int),(p3.1:Int),r4.1⟩:GAtom)]:List GAtom))).2.1.toNat < p3.2.1.toNat)/\TT/\(RL [.s (.c (.rdr)),.s (.c (.ptr 47 0)),.s (.c (.ptr 63 0))])/\(([.s (.c (.d (.val (.int .i64 r4.1)))),.s (.c (.d (.val (.int .i64 ((p3.2.1:Int) - (1:Int))))))]:List S)=[.s (.c (.d (.val (.int .i64 ((r4.1,p3.2.1 - 1,(p3.2.2 ++ ([(⟨(1:Int),(p3.1:Int),r4.1⟩:GAtom)]:List GAtom))).1:Int))))),.s (.c (.d (.val (.int .i64 ((r4.1,p3.2.1 - 1,(p3.2.2 ++ ([(⟨(1:Int),(p3.1:Int),r4.1⟩:GAtom)]:List GAtom))).2.1:Int)))))])/\VC_l6Chains_2/\(RM [some (.blk [.own 7,.own 100496])])/\(((some ([]:List GFact):Option (List GFact))=some ([]:List GFact))/\((some (p3.2.2 ++ ([(⟨(1:Int),(p3.1:Int),r4.1⟩:GAtom)]:List GAtom)):Option (List GAtom))=some ((r4.1,p3.2.1 - 1,(p3.2.2 ++ ([(⟨(1:Int),(p3.1:Int),r4.1⟩:GAtom)]:List GAtom))).2.2))/\True)/\(k+1+1+(2 * (4 - p3.2.1.toNat))+1+1<=k+1+1+(2 * (4 - (r4.1,p3.2.1 - 1,(p3.2.2 ++ ([(⟨(1:Int),(p3.1:Int),r4.1⟩:GAtom)]:List GAtom))).2.1.toNat))/\k+1+1+(2 * (4 - (r4.1,p3.2.1 - 1,(p3.2.2 ++ ([(⟨(1:Int),(p3.1:Int),r4.1⟩:GAtom)]:List GAtom))).2.1.toNat))<=1099511627776))))
def VC_l6Chains_4 (r1:Int × Unit) (r2:Int × Unit) (k:Nat):Prop:=(((0<=(r1.1,r2.1,([]:List GAtom)).2.1/\(r1.1,r2.1,([]:List GAtom)).2.1+(r1.1,r2.1,([]:List GAtom)).2.2.length<=4)/\TT/\(RL [.s (.c (.rdr)),.s (.c (.ptr 47 0)),.s (.c (.ptr 63 0))])/\(([.s (.c (.d (.val (.int .i64 r1.1)))),.s (.c (.d (.val (.int .i64 r2.1))))]:List S)=[.s (.c (.d (.val (.int .i64 ((r1.1,r2.1,([]:List GAtom)).1:Int))))),.s (.c (.d (.val (.int .i64 ((r1.1,r2.1,([]:List GAtom)).2.1:Int)))))])/\VC_l6Chains_2/\(RM [some (.blk [.own 112,.own 113])])/\(((some ([]:List GFact):Option (List GFact))=some ([]:List GFact))/\((some ([]:List GAtom):Option (List GAtom))=some ((r1.1,r2.1,([]:List GAtom)).2.2))/\True)/\(k+1+1<=k+1+1+(2 * (4 - (r1.1,r2.1,([]:List GAtom)).2.1.toNat))/\k+1+1+(2 * (4 - (r1.1,r2.1,([]:List GAtom)).2.1.toNat))<=1099511627776))/\(∀ p3:Int × Int × List GAtom,(0<=p3.2.1/\p3.2.1+p3.2.2.length<=4)->True/\True/\(vcIf (decide ((0:Int) < (p3.2.1:Int))) (True/\True/\(TN/\True)/\((0 < ([(2:Int),(5:Int),(0:Int),(3:Int),(6:Int),(1:Int)]:List Int).length/\([(2:Int),(5:Int),(0:Int),(3:Int),(6:Int),(1:Int)]:List Int).length<=1000)/\(k+1+1+(2 * (4 - p3.2.1.toNat))+1<=1099511627776)/\True)/\(∀ r4:Int × Unit,(r4.1 ∈ ([(2:Int),(5:Int),(0:Int),(3:Int),(6:Int),(1:Int)]:List Int))->True/\(TN/\True)/\(TF/\TF)/\True/\(True/\(k+1+1+(2 * (4 - p3.2.1.toNat))+1+1<=1099511627776)/\True)/\(∀ r5:Int × Unit,(pickP (2:Int) r5.1)->(VC_l6Chains_3 r5 p3 r4 k)))) (True/\(True/\(k+1+1+(2 * (4 - p3.2.1.toNat))+1<=1099511627776)/\True)/\(∀ r6:Int × Unit,(pickP (3:Int) r6.1)->True/\(vcIf (r6.1 == (0:Int)) (True/\True/\True/\(TN/\True)/\(VC_l6Chains_1/\(k+1+1+(2 * (4 - p3.2.1.toNat))+1+1<=1099511627776)/\True)/\(∀ r7:Int × Unit,(r7.1 ∈ ([(1:Int),(2:Int),(5:Int)]:List Int))->True/\(TN/\True)/\((0 < ([(0:Int),(2:Int),(3:Int),(5:Int)]:List Int).length/\([(0:Int),(2:Int),(3:Int),(5:Int)]:List Int).length<=1000)/\(k+1+1+(2 * (4 - p3.2.1.toNat))+1+1+1<=1099511627776)/\True)/\(∀ r8:Int × Unit,(r8.1 ∈ ([(0:Int),(2:Int),(3:Int),(5:Int)]:List Int))->True/\(TN/\True)/\(TN/\TF/\TF/\(([]:List GFact).length+([(⟨false,r7.1,r8.1⟩:GFact)]:List GFact).length<=4294967296))/\True/\(TF/\TF)/\True/\(TF/\TF)/\((⟨([]:List GFact) ++ ([(⟨false,r7.1,r8.1⟩:GFact)]:List GFact),p3.2.2⟩:GAsn).facts.length<=1/\(⟨([]:List GFact) ++ ([(⟨false,r7.1,r8.1⟩:GFact)]:List GFact),p3.2.2⟩:GAsn).atoms.length<=4)/\((((100768:Nat) ≠ 8)/\True)/\True/\True)/\((TF/\TF)/\(TF/\TF)/\True)/\True/\(True/\True/\True)/\(k+1+1+(2 * (4 - p3.2.1.toNat))+1+1+1<=k+13)))) (True/\(TF/\TF)/\((⟨([]:List GFact),p3.2.2⟩:GAsn).facts.length<=1/\(⟨([]:List GFact),p3.2.2⟩:GAsn).atoms.length<=4)/\((((7:Nat) ≠ 8)/\True)/\True/\True)/\((TF/\TF)/\(TF/\TF)/\True)/\True/\(True/\True/\True)/\(k+1+1+(2 * (4 - p3.2.1.toNat))+1<=k+13))))))))
def VC_l6Chains (rr:Unit) (k:Nat):Prop:=(TN/\TN/\TN/\True)/\(TN/\TN/\True)/\(TN/\TN/\TN/\True)/\(TF/\TF)/\True/\(TN/\True)/\(VC_l6Chains_1/\(k+1<=1099511627776)/\True)/\(∀ r1:Int × Unit,(r1.1 ∈ ([(1:Int),(2:Int),(5:Int)]:List Int))->True/\True/\(TN/\True)/\((0 < ([(2:Int),(3:Int),(1:Int),(4:Int)]:List Int).length/\([(2:Int),(3:Int),(1:Int),(4:Int)]:List Int).length<=1000)/\(k+1+1<=1099511627776)/\True)/\(∀ r2:Int × Unit,(r2.1 ∈ ([(2:Int),(3:Int),(1:Int),(4:Int)]:List Int))->True/\(VC_l6Chains_4 r1 r2 k)))
theorem vcn_l6Chains (rr:Unit) (k:Nat) (hk:k+(13)<=1099511627776):VC_l6Chains rr k:=by
 unfold VC_l6Chains VC_l6Chains_4 VC_l6Chains_3 VC_l6Chains_2 VC_l6Chains_1
 simp only [cln,Nat.reduceEqDiff,Nat.reduceLeDiff,Nat.reduceAdd]
 all_goals (try simp only [opn])
 all_goals (repeat' (first | apply And.intro | intro _))
 all_goals (repeat (cases ‹_/\_›))
 all_goals (first | (exfalso;contradiction) | omega | with_reducible assumption | with_reducible rfl | skip)
 all_goals (try simp only [List.length_append,List.length_cons,List.length_nil,List.length_set,List.length_take,List.length_drop,List.mem_cons,List.mem_nil_iff,or_false] at *)
 all_goals (first
  | omega
  | (rcases ‹_ ∨ _› with h | h | h | h <;> omega)
  | exact Nat.le_trans fcL_len.1 ‹_› | exact Nat.le_trans fcL_len.2 ‹_›
  | grind [asV,fsV])
theorem ok_l6Chains:FnOk Try.prog E 49 c_l6Chains :=
 fn_okQ (l:=L_l6Chains) (lp:=P_l6Chains) (hp:=fun _=>false) (gcs:=fun _=>none) (perm:=fun _=>[]) tabOk mix ⟨ok_pick,ok_num,trivial⟩ trivial Try.func49 rfl (by kernel_rfl) (by decide) (by kernel_rfl) (anns:=fun x _=>an_l6Chains x.1) (fun ⟨rr,_⟩ k _ hk=>Eq.mp (by kernel_rfl) (vcn_l6Chains rr k (hk rfl))) (fun _ _=>⟨((⟨[],[]⟩:GAsn),()),⟨Nat.zero_le _,Nat.zero_le _⟩⟩)
abbrev c_l7Small:Con:=⟨[.rdr],[.dasn],fun _=>True,.inr fun (rr,_) r=>r.1.facts.length<=1/\r.1.atoms.length<=4,fun (rr,_)=>13⟩
abbrev L_l7Small:List (FuncId × Con):=[(49,c_l6Chains)]
abbrev P_l7Small:List (FuncId × PT):=[]
def VC_l7Small (rr:Unit) (k:Nat):Prop:=(TN/\TN/\TN/\True)/\True/\(True/\(k+13<=1099511627776)/\TN/\TN/\True)/\(∀ r1:GAsn × Unit,(r1.1.facts.length<=1/\r1.1.atoms.length<=4)->(TN/\TN/\TN/\True)/\(TF/\TF)/\True/\True/\True/\True/\(vcIf (decide ((3:Int) < ((r1.1.atoms.length:Nat):Int))) (True/\True/\(TF/\(0<=(0:Int))/\((0:Int)<=(3:Int))/\((3:Int)<=((r1.1.atoms.length:Nat):Int)))/\True/\(TF/\TF)/\True/\(TF/\TF)/\((⟨r1.1.facts,(r1.1.atoms.drop 0).take (3 - 0)⟩:GAsn).facts.length<=1/\(⟨r1.1.facts,(r1.1.atoms.drop 0).take (3 - 0)⟩:GAsn).atoms.length<=4)/\True/\True/\(TF/\True)/\True/\(k+13<=k+13)) (True/\(TF/\TF)/\(r1.1.facts.length<=1/\r1.1.atoms.length<=4)/\True/\True/\(TF/\TF/\True)/\True/\(k+13<=k+13))))
theorem vcn_l7Small (rr:Unit) (k:Nat) (hk:k+(13)<=1099511627776):VC_l7Small rr k:=by
 unfold VC_l7Small
 simp only [cln,Nat.reduceEqDiff,Nat.reduceLeDiff,Nat.reduceAdd]
 all_goals (try simp only [opn])
 all_goals (repeat' (first | apply And.intro | intro _))
 all_goals (repeat (cases ‹_/\_›))
 all_goals (first | (exfalso;contradiction) | omega | with_reducible assumption | with_reducible rfl | skip)
 all_goals (try simp only [List.length_append,List.length_cons,List.length_nil,List.length_set,List.length_take,List.length_drop,List.mem_cons,List.mem_nil_iff,or_false] at *)
 all_goals (first
  | omega
  | (rcases ‹_ ∨ _› with h | h | h | h <;> omega)
  | exact Nat.le_trans fcL_len.1 ‹_› | exact Nat.le_trans fcL_len.2 ‹_›
  | grind [asV,fsV])
theorem ok_l7Small:FnOk Try.prog E 86 c_l7Small :=
 fn_okQ (l:=L_l7Small) (lp:=P_l7Small) (hp:=fun _=>false) (gcs:=fun _=>none) (perm:=fun _=>[]) tabOk mix ⟨ok_l6Chains,trivial⟩ trivial Try.func86 rfl (by kernel_rfl) (by decide) (by kernel_rfl) (anns:=fun x _=>fun _ _=>none) (fun ⟨rr,_⟩ k _ hk=>Eq.mp (by kernel_rfl) (vcn_l7Small rr k (hk rfl))) (fun _ _=>⟨((⟨[],[]⟩:GAsn),()),⟨Nat.zero_le _,Nat.zero_le _⟩⟩)
abbrev c_DrawMissingOf:Con:=⟨[.sl .u8],[.asn,.asn],fun _=>True,.inr fun (code,_) r=>r.1.facts.length<=40/\r.1.atoms.length<=40/\r.2.1.facts.length<=40/\r.2.1.atoms.length<=40,fun (code,_)=>40⟩
abbrev L_DrawMissingOf:List (FuncId × Con):=[(51,c_pick),(52,c_l3Mutate),(75,c_l7Pick),(86,c_l7Small)]
abbrev P_DrawMissingOf:List (FuncId × PT):=[]
def VC_DrawMissingOf_1 (r1:GAsn × Unit) (r4:GAsn × Unit):Prop:=True/\True/\((r1.1.facts.length<=100000/\r1.1.atoms.length<=100000)/\(0+13+1+1+4+4<=1099511627776)/\TN/\TN/\True)/\(∀ r5:GAsn × Unit,(r5.1.facts.length<=r1.1.facts.length+14/\r5.1.atoms.length<=r1.1.atoms.length+7)->(TF/\TF)/\(TF/\TF)/\(r4.1.facts.length<=40/\r4.1.atoms.length<=40/\r5.1.facts.length<=40/\r5.1.atoms.length<=40)/\((((512:Nat) ≠ 513)/\((512:Nat) ≠ 560)/\((512:Nat) ≠ 561)/\True)/\(((513:Nat) ≠ 560)/\((513:Nat) ≠ 561)/\True)/\(((560:Nat) ≠ 561)/\True)/\True/\True)/\((TF/\TF)/\(TF/\TF)/\(TF/\TF)/\(TF/\TF)/\True)/\True/\(True/\True/\True/\True/\True)/\(0+13+1+1+4+4<=0+40))
def VC_DrawMissingOf_2 (r2:Int × Unit) (r1:GAsn × Unit):Prop:=True/\True/\(((⟨[],(pkA r2.1 r1.1.atoms)⟩:GAsn).facts.length<=100000/\(⟨[],(pkA r2.1 r1.1.atoms)⟩:GAsn).atoms.length<=100000)/\(0+13+1+1+4<=1099511627776)/\TN/\TN/\True)/\(∀ r6:GAsn × Unit,(r6.1.facts.length<=(⟨[],(pkA r2.1 r1.1.atoms)⟩:GAsn).facts.length+14/\r6.1.atoms.length<=(⟨[],(pkA r2.1 r1.1.atoms)⟩:GAsn).atoms.length+7)->(VC_DrawMissingOf_1 r1 r6))
def VC_DrawMissingOf (code:List UInt8) (k:Nat):Prop:=(TN/\TN/\TN/\True)/\(TN/\TN/\TN/\True)/\(((7:Nat) < 36)/\((8:Nat) < 36)/\((4:Nat) < 36)/\((7:Nat) ≠ 0))/\((none:Option Nat)=none)/\TT/\TT/\True/\True/\(True/\True/\(0+13<=1099511627776)/\True)/\(∀ r1:GAsn × Unit,(r1.1.facts.length<=1/\r1.1.atoms.length<=4)->(TN/\TN/\TN/\True)/\(TF/\TF)/\True/\True/\(True/\(0+13+1<=1099511627776)/\True)/\(∀ r2:Int × Unit,(pickP (8:Int) r2.1)->((r1.1.facts.length<=1048576/\r1.1.atoms.length<=1048576)/\True/\TN/\TN/\True)/\(TN/\TN/\TN/\True)/\(TF/\TF)/\True/\(True/\(0+13+1+1<=1099511627776)/\True)/\(∀ r3:Int × Unit,(pickP (3:Int) r3.1)->True/\True/\(vcIf (r3.1 == (0:Int)) (True/\True/\True/\True/\True/\(vcIf (decide ((((pkA r2.1 r1.1.atoms).length:Nat):Int) < (3:Int))) (True/\True/\True/\(TN/\True)/\(TN/\TF/\TF/\((pkA r2.1 r1.1.atoms).length+([(⟨(1:Int),(3:Int),(0:Int)⟩:GAtom)]:List GAtom).length<=4294967296))/\True/\(TF/\TF)/\True/\True/\(((⟨[],(pkA r2.1 r1.1.atoms) ++ ([(⟨(1:Int),(3:Int),(0:Int)⟩:GAtom)]:List GAtom)⟩:GAsn).facts.length<=100000/\(⟨[],(pkA r2.1 r1.1.atoms) ++ ([(⟨(1:Int),(3:Int),(0:Int)⟩:GAtom)]:List GAtom)⟩:GAsn).atoms.length<=100000)/\(0+13+1+1+4<=1099511627776)/\TN/\TN/\True)/\(∀ r4:GAsn × Unit,(r4.1.facts.length<=(⟨[],(pkA r2.1 r1.1.atoms) ++ ([(⟨(1:Int),(3:Int),(0:Int)⟩:GAtom)]:List GAtom)⟩:GAsn).facts.length+14/\r4.1.atoms.length<=(⟨[],(pkA r2.1 r1.1.atoms) ++ ([(⟨(1:Int),(3:Int),(0:Int)⟩:GAtom)]:List GAtom)⟩:GAsn).atoms.length+7)->(VC_DrawMissingOf_1 r1 r4))) (VC_DrawMissingOf_2 r2 r1))) (True/\(VC_DrawMissingOf_2 r2 r1))))))
theorem vcn_DrawMissingOf (code:List UInt8) (k:Nat):VC_DrawMissingOf code k:=by
 unfold VC_DrawMissingOf VC_DrawMissingOf_2 VC_DrawMissingOf_1
 simp only [cln,Nat.reduceEqDiff,Nat.reduceLeDiff,Nat.reduceAdd]
 all_goals (try simp only [opn])
 all_goals (repeat' (first | apply And.intro | intro _))
 all_goals (repeat (cases ‹_/\_›))
 all_goals (first | (exfalso;contradiction) | omega | with_reducible assumption | with_reducible rfl | skip)
 all_goals (try simp only [List.length_append,List.length_cons,List.length_nil,List.length_set,List.length_take,List.length_drop,List.mem_cons,List.mem_nil_iff,or_false] at *)
 all_goals (first
  | omega
  | (rcases ‹_ ∨ _› with h | h | h | h <;> omega)
  | exact Nat.le_trans fcL_len.1 ‹_› | exact Nat.le_trans fcL_len.2 ‹_›
  | grind [asV,fsV,pkA_le,fcL_len])
theorem ok_DrawMissingOf:FnOk Try.prog E 41 c_DrawMissingOf :=
 draw_fnQ (hp:=fun _=>false) (perm:=fun _=>[]) (gl:=([0,2,3],[32,33,47,48,49,63])) tabOk mix (kall_of (l:=L_DrawMissingOf) ⟨ok_pick,ok_l3Mutate,ok_l7Pick,ok_l7Small,trivial⟩) (pall_of (l:=P_DrawMissingOf) trivial) open_l18Open fn_l18Open Try.func41 rfl (by kernel_rfl) (by decide) (by kernel_rfl) rfl rfl (anns:=fun x=>fun _ _=>none) (fun ⟨code,_⟩ _=>Eq.mp (by kernel_rfl) (vcn_DrawMissingOf code 0)) (fun _ _=>⟨((⟨[],[]⟩:GAsn),(⟨[],[]⟩:GAsn),()),⟨Nat.zero_le _,Nat.zero_le _,Nat.zero_le _,Nat.zero_le _⟩⟩)
abbrev c_firstCase:Con:=⟨[.asn],[.kase,.bool],fun (a,_)=>asV a=true,.inl fun (a,_)=>((casesF a).headD (List.replicate 9 0),!(casesF a).isEmpty,()),fun _=>0⟩
abbrev L_firstCase:List (FuncId × Con):=[]
abbrev P_firstCase:List (FuncId × PT):=[(98,pt_possibleCases)]
def hp_firstCase:Nat->Bool
 | 1=>true
 | _=>false
def ra_firstCase (a:GAsn):St->Option RAnn:=fun se=>some ⟨fun _=>false,[2,3],[47,63],fun i=>[],[47,63],fun i=>[],fun i=>[],300000⟩
def VC_firstCase_1 (c2_0:Int) (c2_1:Int) (c2_2:Int) (c2_3:Int) (c2_4:Int) (c2_5:Int) (c2_6:Int) (c2_7:Int) (c2_8:Int):Prop:=(([c2_0,c2_1,c2_2,c2_3,c2_4,c2_5,c2_6,c2_7,c2_8]:List Int).length=(List.replicate 9 (0:Int)).length)/\TF/\TF
def VC_firstCase (a:GAsn) (k:Nat):Prop:=TT/\TN/\(TN/\True)/\(TN/\True)/\TT/\True/\((2:Nat)<=12)/\TN/\True/\True/\((a.facts.length<=281474976710656/\a.atoms.length<=281474976710656)/\True/\True)/\((0<=(tsA a)/\(tsA a) < 512)/\True/\True)/\True/\True/\(TN/\True)/\(TF/\TF)/\True/\True/\((((134:Nat)=134)/\((none:Option Nat)=none)/\(itPre a (bits .or .u16 (tsWith (tsA a) (0:Int)) (0:Int))))/\TT/\TT/\(RL [.s (.c (.ptr 47 0)),.s (.c (.ptr 63 0))])/\(RL [])/\(RM [some (.vec .int (List.replicate 9 (0:Int))),some (.blk [.d (.val (.bool false))])])/\(RM [])/\True/\TT)/\(∀ i1:Nat,∀ c2_0:Int,∀ c2_1:Int,∀ c2_2:Int,∀ c2_3:Int,∀ c2_4:Int,∀ c2_5:Int,∀ c2_6:Int,∀ c2_7:Int,∀ c2_8:Int,((itEn a (bits .or .u16 (tsWith (tsA a) (0:Int)) (0:Int)))[i1]?=some ([c2_0,c2_1,c2_2,c2_3,c2_4,c2_5,c2_6,c2_7,c2_8]:List Int))->(((itEn a (bits .or .u16 (tsWith (tsA a) (0:Int)) (0:Int))).take i1).all (fun _=>false)=true)->TT/\(TN/\True)/\(VC_firstCase_1 c2_0 c2_1 c2_2 c2_3 c2_4 c2_5 c2_6 c2_7 c2_8)/\((none:Option Nat)=none)/\TT/\(9=([c2_0,c2_1,c2_2,c2_3,c2_4,c2_5,c2_6,c2_7,c2_8]:List Int).length * 1)/\(VC_firstCase_1 c2_0 c2_1 c2_2 c2_3 c2_4 c2_5 c2_6 c2_7 c2_8)/\(TF/\TF)/\(false=false)/\((none:Option Nat)=none)/\((none:Option Nat)=none)/\(((([c2_0,c2_1,c2_2,c2_3,c2_4,c2_5,c2_6,c2_7,c2_8]:List Int),true,()):(List Int) × Bool × Unit)=((casesF a).headD (List.replicate 9 0),!(casesF a).isEmpty,()))/\True/\True/\True/\True/\TF)/\(((itEn a (bits .or .u16 (tsWith (tsA a) (0:Int)) (0:Int))).all (fun _=>false)=true)->TT/\True/\(((List.replicate 9 (0:Int)).length=(List.replicate 9 (0:Int)).length)/\TF/\TF)/\(TF/\TF)/\((none:Option Nat)=none)/\(((List.replicate 9 (0:Int),false,()):(List Int) × Bool × Unit)=((casesF a).headD (List.replicate 9 0),!(casesF a).isEmpty,()))/\True/\True/\True/\True/\TF)
theorem vcn_firstCase (a:GAsn) (k:Nat) (hp:asV a=true):VC_firstCase a k:=by
 unfold VC_firstCase VC_firstCase_1
 simp only [cln,Nat.reduceEqDiff,Nat.reduceLeDiff,Nat.reduceAdd]
 have hs:=asV_small hp
 have hb:=tsA_bd a
 have hw:=tsWith_bd (t:=0) hb.1 hb.2
 have ho:=tsOr hw.1 hw.2 (y:=0) (by decide) (by decide)
 have hi:=itEn_or hp (s:=0) (by decide) (by decide)
 rw [itEn_zero hp]
 all_goals (repeat' (first | apply And.intro | intro _))
 all_goals (first | omega | assumption | rfl | exact hs.1 | exact hs.2 | exact hi.2 | (rw [itEn_zero hp] at *;exact hi.2) | exact ho.1 | exact ho.2.1 | (simp_all;done) | exact (head_hit ‹_› ‹_›).1 | exact (head_hit (d:=[]) ‹_› ‹_›).2 | exact (head_none ‹_›).1 | exact (head_none (d:=[]) ‹_›).2 | skip)
abbrev spc_firstCase (a:GAsn):SpCode Bool:=spR tab (lookF L_firstCase) (lookP P_firstCase) hp_firstCase (fun _=>none) (fun _ _ _=>none) (fun _=>[]) Try.f91.ntmps 134 itPre itEn (ra_firstCase a)
theorem spcok_firstCase (a:GAsn) (wE:World) (ro0:Nat->Option (Array Value)) (ρ:Nat):SpcOk Fence.wide 0 Try.prog E (AC wE ro0 ρ) Try.f91.ntmps (spc_firstCase a) :=
 spR_ok tabOk (kall_of (l:=L_firstCase) trivial) (pall_of (l:=P_firstCase) ⟨ptok_possibleCases,trivial⟩) mix it_ok it_len it_run
theorem vcr_firstCase:∀ x:Args c_firstCase.aks,c_firstCase.pre x->vcY tab (lookF L_firstCase) (lookP P_firstCase) noSpB (spc_firstCase x.1) (fun b=>!b) hp_firstCase (fun _=>none) (fun _ _ _=>none) (fun _=>[]) (bodyOf Try.f91) (entry (encs c_firstCase.aks x) none) false (retR tab c_firstCase Try.f91.results.toList x) :=
 fun ⟨a,_⟩ hp=>Eq.mp (by kernel_rfl) (vcn_firstCase a 0 hp)
theorem ok_firstCase:FnOk Try.prog E 91 c_firstCase :=
 fnR_ok (con:=c_firstCase) (fn:=Try.f91) (l:=L_firstCase) (lp:=P_firstCase) (hp:=hp_firstCase) (gcs:=fun _=>none) (perm:=fun _=>[]) (spc:=fun x=>spc_firstCase x.1) (anns:=fun x=>(fun _ _ _=>none)) tabOk mix trivial ⟨ptok_possibleCases,trivial⟩ rfl Try.func91 rfl (by kernel_rfl) (by decide) (by kernel_rfl) (fun x _=>spcok_firstCase x.1) vcr_firstCase tot_fn
abbrev c_iConsistent:Con:=⟨[.asn],[.bool],fun (a,_)=>a.facts.length<=281474976710656/\a.atoms.length<=281474976710656,.inl fun (a,_)=>(asV a && !(casesF a).isEmpty,()),fun _=>0⟩
abbrev L_iConsistent:List (FuncId × Con):=[(37,c_iAssertionValid),(91,c_firstCase)]
abbrev P_iConsistent:List (FuncId × PT):=[]
def VC_iConsistent (a:GAsn) (k:Nat):Prop:=TN/\True/\True/\((a.facts.length<=281474976710656/\a.atoms.length<=281474976710656)/\True/\True)/\True/\(vcIf (!(asV a)) (True/\(((false,()):Bool × Unit)=(asV a && !(casesF a).isEmpty,()))/\True/\True/\True/\True/\TF) (True/\((asV a=true)/\True/\True)/\True/\True/\True/\(TN/\True)/\((((casesF a).headD (List.replicate 9 0)).length=(List.replicate 9 (0:Int)).length)/\TF/\TF)/\True/\True/\True/\((((!(casesF a).isEmpty),()):Bool × Unit)=(asV a && !(casesF a).isEmpty,()))/\True/\True/\True/\True/\TF))
theorem vcn_iConsistent (a:GAsn) (k:Nat) (hp:a.facts.length<=281474976710656/\a.atoms.length<=281474976710656):VC_iConsistent a k:=by
 unfold VC_iConsistent
 simp only [cln,Nat.reduceEqDiff,Nat.reduceLeDiff,Nat.reduceAdd]
 have hl:=casesF_len a
 all_goals (try simp only [opn])
 all_goals (repeat' (first | apply And.intro | intro _))
 all_goals (first | omega | (simp_all;done) | grind [])
theorem ok_iConsistent:FnOk Try.prog E 44 c_iConsistent :=
 fn_okQ (l:=L_iConsistent) (lp:=P_iConsistent) (hp:=fun _=>false) (gcs:=fun _=>none) (perm:=fun _=>[]) tabOk mix ⟨ok_iAssertionValid,ok_firstCase,trivial⟩ trivial Try.func44 rfl (by kernel_rfl) (by decide) (by kernel_rfl) (anns:=fun x _=>fun _ _=>none) (fun ⟨a,_⟩ k hp _=>Eq.mp (by kernel_rfl) (vcn_iConsistent a k hp)) tot_fn
abbrev L_repairWith:List (FuncId × Con):=[(32,c_iStarAssertions),(35,c_iFrameOf),(44,c_iConsistent),(73,c_pickAtoms)]
abbrev P_repairWith:List (FuncId × PT):=[]
abbrev pt_repairWith:PT:=inl tab (lookF L_repairWith) (lookP P_repairWith) (fun _=>false) (fun _ _=>none) (fun _ _ _ _=>none) (fun _=>[]) Try.f89.ntmps (bodyOf Try.f89) Try.f89.results.toList
theorem ptok_repairWith:PTOk Try.prog E 89 pt_repairWith :=
 pt_ok (l:=L_repairWith) (lp:=P_repairWith) tabOk mix ⟨ok_iStarAssertions,ok_iFrameOf,ok_iConsistent,ok_pickAtoms,trivial⟩ trivial Try.func89 rfl (by kernel_rfl) (by kernel_rfl)
abbrev cw_miAcc:WCon:=⟨fun m a b=>asV a=true/\asV b=true/\0<=m/\m < pkTop b,fun m a b=>mxB a b m,fun m a b=>(⟨[],pkA m b.atoms⟩:GAsn),fun m a b=>frmL (mxS a b m) b⟩
abbrev pt_miAcc:PT:=ptW cw_miAcc
abbrev L_miAcc:List (FuncId × Con):=[]
abbrev P_miAcc:List (FuncId × PT):=[(89,pt_repairWith)]
def hp_miAcc:Nat->Bool
 | 1=>true
 | _=>false
def VC_miAcc_1 (a:GAsn) (b:GAsn) (m:Int) (v0:Value) (v1:Value) (v2:Value) (v3:Value):Prop:=(TN/\TN/\TN/\TN/\True)/\(TF/\TF)/\True/\True/\True/\True/\(TN/\TN/\TN/\TN/\TN/\True)/\(TF/\TF)/\True/\True/\True/\True/\((false:Bool)=mxB a b m)/\(TF/\TF)/\((v0:Value)=v0)/\((v1:Value)=v1)/\((v2:Value)=v2)/\((v3:Value)=v3)
def VC_miAcc (m:Int) (a:GAsn) (b:GAsn) (v0 v1 v2 v3:Value) (k:Nat):Prop:=True/\True/\True/\True/\((3:Nat)<=41)/\TN/\TN/\(TN/\TN/\TN/\TN/\TN/\True)/\True/\True/\True/\((b.facts.length<=1048576/\b.atoms.length<=1048576)/\True/\TN/\TN/\True)/\(TN/\TN/\TN/\True)/\(TF/\TF)/\True/\True/\((a.facts.length<=1048576/\a.atoms.length<=1048576/\(⟨[],(pkA m b.atoms)⟩:GAsn).facts.length<=1048576/\(⟨[],(pkA m b.atoms)⟩:GAsn).atoms.length<=1048576)/\True/\TN/\TN/\True)/\True/\True/\True/\(TN/\TN/\TN/\True)/\(TF/\TF)/\True/\True/\True/\True/\(vcIf (!(starOk a (⟨[],(pkA m b.atoms)⟩:GAsn))) (True/\(VC_miAcc_1 a b m v0 v1 v2 v3)) (True/\(((starL a (⟨[],(pkA m b.atoms)⟩:GAsn)).facts.length<=281474976710656/\(starL a (⟨[],(pkA m b.atoms)⟩:GAsn)).atoms.length<=281474976710656)/\True/\True)/\True/\True/\(vcIf (!(asV (starL a (⟨[],(pkA m b.atoms)⟩:GAsn)) && !(casesF (starL a (⟨[],(pkA m b.atoms)⟩:GAsn))).isEmpty)) (VC_miAcc_1 a b m v0 v1 v2 v3) (True/\True/\(((starL a (⟨[],(pkA m b.atoms)⟩:GAsn)).facts.length<=281474976710656/\(starL a (⟨[],(pkA m b.atoms)⟩:GAsn)).atoms.length<=281474976710656/\b.facts.length<=281474976710656/\b.atoms.length<=281474976710656)/\True/\TN/\TN/\True)/\True/\True/\True/\(TN/\TN/\TN/\True)/\(TF/\TF)/\True/\True/\True/\(vcIf (!(frmB (starL a (⟨[],(pkA m b.atoms)⟩:GAsn)) b)) (VC_miAcc_1 a b m v0 v1 v2 v3) (True/\True/\(TN/\TN/\TN/\TN/\True)/\(TF/\TF)/\True/\True/\True/\True/\(TN/\TN/\TN/\TN/\TN/\True)/\(TF/\TF)/\True/\True/\True/\(TF/\TF)/\True/\True/\((true:Bool)=mxB a b m)/\(TF/\TF)/\((((⟨[],(pkA m b.atoms)⟩:GAsn),(frmL (starL a (⟨[],(pkA m b.atoms)⟩:GAsn)) b),()):GAsn × GAsn × Unit)=((⟨[],pkA m b.atoms⟩:GAsn),frmL (mxS a b m) b,()))/\((((214240:Nat) ≠ 214241)/\((214240:Nat) ≠ 214528)/\((214240:Nat) ≠ 214529)/\True)/\(((214241:Nat) ≠ 214528)/\((214241:Nat) ≠ 214529)/\True)/\(((214528:Nat) ≠ 214529)/\True)/\True/\True)/\((TF/\TF)/\(TF/\TF)/\(TF/\TF)/\(TF/\TF)/\True)/\True))))))
theorem vcn_miAcc (m:Int) (a:GAsn) (b:GAsn) (v0 v1 v2 v3:Value) (k:Nat) (hp:asV a=true/\asV b=true/\0<=m/\m < pkTop b):VC_miAcc m a b v0 v1 v2 v3 k:=by
 unfold VC_miAcc VC_miAcc_1
 simp only [cln,Nat.reduceEqDiff,Nat.reduceLeDiff,Nat.reduceAdd]
 all_goals (try simp only [opn])
 all_goals (try simp only [pkTop_w])
 all_goals (repeat' (first | apply And.intro | intro _))
 all_goals (repeat (cases ‹_/\_›))
 all_goals (first | with_reducible exact True.intro | (exfalso;contradiction) | omega | with_reducible assumption | with_reducible rfl | skip)
 all_goals (have hA:=fo_len6 ‹asV a=true›;have hB:=fo_len6 ‹asV b=true›;have hT:=pkTop_eq ‹asV b=true›)
 all_goals (first
  | omega
  | (with_reducible refine Nat.le_trans (m:=200) ?_ (by decide);first | with_reducible exact mxs200F (by omega) | with_reducible exact mxs200A (by omega) (by omega) | with_reducible exact pk200 (by omega))
  | with_reducible exact (mxN1 ‹_› ‹_› ‹_›).symm | with_reducible exact (mxN2 ‹_› ‹_›).symm | with_reducible exact (mxN3 ‹_› ‹_›).symm
  | with_reducible exact (mxY ‹_› ‹_› ‹_›).symm
  | with_reducible exact mx_fr ‹_›
  | skip)
theorem ptok_miAcc:PTOk Try.prog E 88 pt_miAcc :=
 clw_ok (c:=cw_miAcc) (fn:=Try.f88) (l:=L_miAcc) (lp:=P_miAcc) (hp:=hp_miAcc) (perm:=fun _=>[]) tabOk mix trivial ⟨ptok_repairWith,trivial⟩ Try.func88 rfl (by kernel_rfl) (show 4<=Try.f88.ntmps by decide) (by kernel_rfl) (anns:=fun _ _=>none) (fun m a b v0 v1 v2 v3 hp=>Eq.mp (by kernel_rfl) (vcn_miAcc m a b v0 v1 v2 v3 0 hp))
abbrev c_iMissingOf:Con:=⟨[.asn,.asn],[.asn,.asn,.bool],fun (a,b,_)=>a.facts.length<=281474976710656/\a.atoms.length<=281474976710656/\b.facts.length<=281474976710656/\b.atoms.length<=281474976710656,.inl fun (a,b,_)=>(miL a b,miF a b,miB a b,()),fun _=>0⟩
abbrev L_iMissingOf:List (FuncId × Con):=[(37,c_iAssertionValid)]
abbrev P_iMissingOf:List (FuncId × PT):=[(81,ptLMW 88 cw_miAcc)]
def perm_iMissingOf:Nat->List (List Nat)
 | 5=>[[0,1,2,3,4,5,6,7],[0,1,2,4,3,5,6,7],[0,1,4,2,3,5,6,7],[0,2,1,3,4,5,6,7],[0,2,1,4,3,5,6,7],[0,2,3,1,4,5,6,7],[0,2,3,4,1,5,6,7],[0,2,4,1,3,5,6,7],[0,2,4,3,1,5,6,7],[0,4,1,2,3,5,6,7],[0,4,2,1,3,5,6,7],[0,4,2,3,1,5,6,7],[2,0,1,3,4,5,6,7],[2,0,1,4,3,5,6,7],[2,0,3,1,4,5,6,7],[2,0,3,4,1,5,6,7],[2,0,4,1,3,5,6,7],[2,0,4,3,1,5,6,7],[2,3,0,1,4,5,6,7],[2,3,0,4,1,5,6,7],[2,3,4,0,1,5,6,7],[2,4,0,1,3,5,6,7],[2,4,0,3,1,5,6,7],[2,4,3,0,1,5,6,7],[4,0,1,2,3,5,6,7],[4,0,2,1,3,5,6,7],[4,0,2,3,1,5,6,7],[4,2,0,1,3,5,6,7],[4,2,0,3,1,5,6,7],[4,2,3,0,1,5,6,7],[0,1,2,3,5,4,6,7],[0,1,2,4,5,3,6,7],[0,1,4,2,5,3,6,7],[0,2,1,3,5,4,6,7],[0,2,1,4,5,3,6,7],[0,2,3,1,5,4,6,7],[0,2,4,1,5,3,6,7],[0,4,1,2,5,3,6,7],[0,4,2,1,5,3,6,7],[2,0,1,3,5,4,6,7],[2,0,1,4,5,3,6,7],[2,0,3,1,5,4,6,7],[2,0,4,1,5,3,6,7],[2,3,0,1,5,4,6,7],[2,4,0,1,5,3,6,7],[4,0,1,2,5,3,6,7],[4,0,2,1,5,3,6,7],[4,2,0,1,5,3,6,7],[0,1,2,3,5,6,4,7],[0,2,1,3,5,6,4,7],[0,2,3,1,5,6,4,7],[2,0,1,3,5,6,4,7],[2,0,3,1,5,6,4,7],[2,3,0,1,5,6,4,7],[0,1,2,5,3,4,6,7],[0,1,2,5,4,3,6,7],[0,1,4,5,2,3,6,7],[0,2,1,5,3,4,6,7],[0,2,1,5,4,3,6,7],[0,4,1,5,2,3,6,7],[2,0,1,5,3,4,6,7],[2,0,1,5,4,3,6,7],[4,0,1,5,2,3,6,7],[0,1,2,5,3,6,4,7],[0,2,1,5,3,6,4,7],[2,0,1,5,3,6,4,7],[0,1,5,2,3,4,6,7],[0,1,5,2,4,3,6,7],[0,1,5,4,2,3,6,7],[0,1,5,2,3,6,4,7]]
 | _=>[]
def hp_iMissingOf:Nat->Bool
 | 4=>true
 | _=>false
def VC_iMissingOf_1 (a:GAsn) (b:GAsn):Prop:=(((⟨([]:List GFact),([]:List GAtom)⟩:GAsn),(⟨([]:List GFact),([]:List GAtom)⟩:GAsn),false,()):GAsn × GAsn × Bool × Unit)=(miL a b,miF a b,miB a b,())
def VC_iMissingOf_2 :Prop:=((TF/\TF)/\(TF/\TF)/\(TF/\TF)/\(TF/\TF)/\True)/\True/\(True/\True/\True/\True/\True)/\TF
def VC_iMissingOf_3 (a:GAsn) (b:GAsn):Prop:=(TN/\TN/\True)/\(TN/\TN/\True)/\(TF/\TF)/\(TF/\TF)/\True/\(VC_iMissingOf_1 a b)/\((((288:Nat) ≠ 289)/\((288:Nat) ≠ 304)/\((288:Nat) ≠ 305)/\True)/\(((289:Nat) ≠ 304)/\((289:Nat) ≠ 305)/\True)/\(((304:Nat) ≠ 305)/\True)/\True/\True)/\VC_iMissingOf_2
def VC_iMissingOf_4 (a:GAsn) (b:GAsn):Prop:=True/\(VC_iMissingOf_1 a b)/\((((112:Nat) ≠ 113)/\((112:Nat) ≠ 114)/\((112:Nat) ≠ 115)/\True)/\(((113:Nat) ≠ 114)/\((113:Nat) ≠ 115)/\True)/\(((114:Nat) ≠ 115)/\True)/\True/\True)/\VC_iMissingOf_2
def VC_iMissingOf_5 (a:GAsn) (b:GAsn):Prop:=(TF/\TF)/\(VC_iMissingOf_4 a b)
def VC_iMissingOf_6 (a:GAsn) (b:GAsn):Prop:=True/\True/\True/\True/\True/\(TF/\TF)/\(VC_iMissingOf_5 a b)
def VC_iMissingOf_7 (a:GAsn) (b:GAsn):Prop:=True/\(VC_iMissingOf_5 a b)
def VC_iMissingOf_8 (a:GAsn) (b:GAsn):Prop:=True/\True/\True/\True/\(TF/\TF)/\(VC_iMissingOf_7 a b)
def VC_iMissingOf_9 (a:GAsn) (b:GAsn):Prop:=(TF/\TF)/\True/\(VC_iMissingOf_4 a b)
def VC_iMissingOf_10 (a:GAsn) (b:GAsn):Prop:=True/\True/\True/\True/\(TF/\TF)/\(VC_iMissingOf_9 a b)
def VC_iMissingOf_11 (a:GAsn) (b:GAsn):Prop:=True/\(VC_iMissingOf_7 a b)
def VC_iMissingOf_12 (a:GAsn) (b:GAsn):Prop:=True/\True/\True/\(TF/\TF)/\(VC_iMissingOf_11 a b)
def VC_iMissingOf_13 (a:GAsn) (b:GAsn):Prop:=True/\(VC_iMissingOf_9 a b)
def VC_iMissingOf_14 (a:GAsn) (b:GAsn):Prop:=True/\True/\True/\(TF/\TF)/\(VC_iMissingOf_13 a b)
def VC_iMissingOf_15 (a:GAsn) (b:GAsn):Prop:=True/\True/\(TF/\TF)/\True/\(VC_iMissingOf_11 a b)
def VC_iMissingOf_16 (a:GAsn) (b:GAsn):Prop:=True/\((((⟨[],pkA (lmI (fun m1=>mxB a b m1) ((b.atoms.length:Nat):Int)) b.atoms⟩:GAsn),(frmL (mxS a b (lmI (fun m1=>mxB a b m1) ((b.atoms.length:Nat):Int))) b),true,()):GAsn × GAsn × Bool × Unit)=(miL a b,miF a b,miB a b,()))/\((((27525120:Nat) ≠ 27525121)/\((27525120:Nat) ≠ 27525122)/\((27525120:Nat) ≠ 27525123)/\True)/\(((27525121:Nat) ≠ 27525122)/\((27525121:Nat) ≠ 27525123)/\True)/\(((27525122:Nat) ≠ 27525123)/\True)/\True/\True)/\VC_iMissingOf_2
def VC_iMissingOf_17 (a:GAsn) (b:GAsn):Prop:=(TF/\TF)/\(VC_iMissingOf_16 a b)
def VC_iMissingOf_18 (a:GAsn) (b:GAsn):Prop:=True/\True/\True/\True/\True/\(TF/\TF)/\(VC_iMissingOf_17 a b)
def VC_iMissingOf_19 (a:GAsn) (b:GAsn):Prop:=True/\(VC_iMissingOf_17 a b)
def VC_iMissingOf_20 (a:GAsn) (b:GAsn):Prop:=True/\True/\True/\True/\(TF/\TF)/\(VC_iMissingOf_19 a b)
def VC_iMissingOf_21 (a:GAsn) (b:GAsn):Prop:=(TF/\TF)/\True/\(VC_iMissingOf_16 a b)
def VC_iMissingOf_22 (a:GAsn) (b:GAsn):Prop:=True/\True/\True/\True/\(TF/\TF)/\(VC_iMissingOf_21 a b)
def VC_iMissingOf_23 (a:GAsn) (b:GAsn):Prop:=True/\(VC_iMissingOf_19 a b)
def VC_iMissingOf_24 (a:GAsn) (b:GAsn):Prop:=True/\True/\True/\(TF/\TF)/\(VC_iMissingOf_23 a b)
def VC_iMissingOf_25 (a:GAsn) (b:GAsn):Prop:=True/\(VC_iMissingOf_21 a b)
def VC_iMissingOf_26 (a:GAsn) (b:GAsn):Prop:=True/\True/\True/\(TF/\TF)/\(VC_iMissingOf_25 a b)
def VC_iMissingOf_27 (a:GAsn) (b:GAsn):Prop:=True/\True/\(TF/\TF)/\True/\(VC_iMissingOf_23 a b)
def VC_iMissingOf_28 (a:GAsn) (b:GAsn):Prop:=(((lmB (fun m1=>mxB a b m1) ((b.atoms.length:Nat):Int)=false)->True/\True/\True/\True/\True/\(VC_iMissingOf_6 a b)/\(VC_iMissingOf_6 a b)/\(VC_iMissingOf_6 a b)/\(VC_iMissingOf_6 a b)/\(VC_iMissingOf_6 a b)/\(VC_iMissingOf_6 a b)/\(VC_iMissingOf_6 a b)/\(VC_iMissingOf_6 a b)/\(VC_iMissingOf_6 a b)/\(VC_iMissingOf_6 a b)/\(VC_iMissingOf_6 a b)/\(VC_iMissingOf_6 a b)/\(VC_iMissingOf_6 a b)/\(VC_iMissingOf_6 a b)/\(VC_iMissingOf_6 a b)/\(VC_iMissingOf_6 a b)/\(VC_iMissingOf_6 a b)/\(VC_iMissingOf_6 a b)/\(VC_iMissingOf_6 a b)/\(VC_iMissingOf_6 a b)/\(VC_iMissingOf_6 a b)/\(VC_iMissingOf_6 a b)/\(VC_iMissingOf_6 a b)/\(VC_iMissingOf_6 a b)/\(VC_iMissingOf_6 a b)/\(VC_iMissingOf_6 a b)/\(VC_iMissingOf_6 a b)/\(VC_iMissingOf_6 a b)/\(VC_iMissingOf_6 a b)/\(VC_iMissingOf_6 a b)/\(VC_iMissingOf_8 a b)/\(VC_iMissingOf_8 a b)/\(VC_iMissingOf_8 a b)/\(VC_iMissingOf_8 a b)/\(VC_iMissingOf_8 a b)/\(VC_iMissingOf_8 a b)/\(VC_iMissingOf_8 a b)/\(VC_iMissingOf_8 a b)/\(VC_iMissingOf_8 a b)/\(VC_iMissingOf_8 a b)/\(VC_iMissingOf_8 a b)/\(VC_iMissingOf_8 a b)/\(VC_iMissingOf_8 a b)/\(VC_iMissingOf_8 a b)/\(VC_iMissingOf_8 a b)/\(VC_iMissingOf_8 a b)/\(VC_iMissingOf_8 a b)/\(VC_iMissingOf_8 a b)/\(VC_iMissingOf_10 a b)/\(VC_iMissingOf_10 a b)/\(VC_iMissingOf_10 a b)/\(VC_iMissingOf_10 a b)/\(VC_iMissingOf_10 a b)/\(VC_iMissingOf_10 a b)/\(VC_iMissingOf_12 a b)/\(VC_iMissingOf_12 a b)/\(VC_iMissingOf_12 a b)/\(VC_iMissingOf_12 a b)/\(VC_iMissingOf_12 a b)/\(VC_iMissingOf_12 a b)/\(VC_iMissingOf_12 a b)/\(VC_iMissingOf_12 a b)/\(VC_iMissingOf_12 a b)/\(VC_iMissingOf_14 a b)/\(VC_iMissingOf_14 a b)/\(VC_iMissingOf_14 a b)/\(VC_iMissingOf_15 a b)/\(VC_iMissingOf_15 a b)/\(VC_iMissingOf_15 a b)/\(True/\True/\(TF/\TF)/\True/\(VC_iMissingOf_13 a b))/\True)/\((lmB (fun m1=>mxB a b m1) ((b.atoms.length:Nat):Int)=true)->True/\True/\True/\True/\True/\(VC_iMissingOf_18 a b)/\(VC_iMissingOf_18 a b)/\(VC_iMissingOf_18 a b)/\(VC_iMissingOf_18 a b)/\(VC_iMissingOf_18 a b)/\(VC_iMissingOf_18 a b)/\(VC_iMissingOf_18 a b)/\(VC_iMissingOf_18 a b)/\(VC_iMissingOf_18 a b)/\(VC_iMissingOf_18 a b)/\(VC_iMissingOf_18 a b)/\(VC_iMissingOf_18 a b)/\(VC_iMissingOf_18 a b)/\(VC_iMissingOf_18 a b)/\(VC_iMissingOf_18 a b)/\(VC_iMissingOf_18 a b)/\(VC_iMissingOf_18 a b)/\(VC_iMissingOf_18 a b)/\(VC_iMissingOf_18 a b)/\(VC_iMissingOf_18 a b)/\(VC_iMissingOf_18 a b)/\(VC_iMissingOf_18 a b)/\(VC_iMissingOf_18 a b)/\(VC_iMissingOf_18 a b)/\(VC_iMissingOf_18 a b)/\(VC_iMissingOf_18 a b)/\(VC_iMissingOf_18 a b)/\(VC_iMissingOf_18 a b)/\(VC_iMissingOf_18 a b)/\(VC_iMissingOf_18 a b)/\(VC_iMissingOf_20 a b)/\(VC_iMissingOf_20 a b)/\(VC_iMissingOf_20 a b)/\(VC_iMissingOf_20 a b)/\(VC_iMissingOf_20 a b)/\(VC_iMissingOf_20 a b)/\(VC_iMissingOf_20 a b)/\(VC_iMissingOf_20 a b)/\(VC_iMissingOf_20 a b)/\(VC_iMissingOf_20 a b)/\(VC_iMissingOf_20 a b)/\(VC_iMissingOf_20 a b)/\(VC_iMissingOf_20 a b)/\(VC_iMissingOf_20 a b)/\(VC_iMissingOf_20 a b)/\(VC_iMissingOf_20 a b)/\(VC_iMissingOf_20 a b)/\(VC_iMissingOf_20 a b)/\(VC_iMissingOf_22 a b)/\(VC_iMissingOf_22 a b)/\(VC_iMissingOf_22 a b)/\(VC_iMissingOf_22 a b)/\(VC_iMissingOf_22 a b)/\(VC_iMissingOf_22 a b)/\(VC_iMissingOf_24 a b)/\(VC_iMissingOf_24 a b)/\(VC_iMissingOf_24 a b)/\(VC_iMissingOf_24 a b)/\(VC_iMissingOf_24 a b)/\(VC_iMissingOf_24 a b)/\(VC_iMissingOf_24 a b)/\(VC_iMissingOf_24 a b)/\(VC_iMissingOf_24 a b)/\(VC_iMissingOf_26 a b)/\(VC_iMissingOf_26 a b)/\(VC_iMissingOf_26 a b)/\(VC_iMissingOf_27 a b)/\(VC_iMissingOf_27 a b)/\(VC_iMissingOf_27 a b)/\(True/\True/\(TF/\TF)/\True/\(VC_iMissingOf_25 a b))/\True))
def VC_iMissingOf (a:GAsn) (b:GAsn) (k:Nat):Prop:=TN/\TN/\(TN/\TN/\TN/\True)/\(TN/\TN/\TN/\True)/\True/\True/\((a.facts.length<=281474976710656/\a.atoms.length<=281474976710656)/\True/\True)/\True/\True/\(vcIf (!(asV a)) (True/\(VC_iMissingOf_3 a b)) (True/\((b.facts.length<=281474976710656/\b.atoms.length<=281474976710656)/\True/\True)/\True/\True/\(vcIf (!(asV b)) (VC_iMissingOf_3 a b) ((TN/\TN/\TN/\TN/\TN/\True)/\True/\True/\True/\True/\((88:Nat)=88)/\((47:Nat) ≠ 127)/\((63:Nat) ≠ 127)/\((none:Option Nat)=none)/\(0<=((b.atoms.length:Nat):Int)/\((b.atoms.length:Nat):Int)<=62)/\TF/\TF/\(TN/\TN/\TN/\TN/\True)/\(∀ m1:Int,(0:Int)<=m1->m1 < (2:Int) ^ (((b.atoms.length:Nat):Int)).toNat->asV a=true/\asV b=true/\0<=m1/\m1 < pkTop b)/\(VC_iMissingOf_28 a b)))))
theorem vcn_iMissingOf (a:GAsn) (b:GAsn) (k:Nat) (hp:a.facts.length<=281474976710656/\a.atoms.length<=281474976710656/\b.facts.length<=281474976710656/\b.atoms.length<=281474976710656):VC_iMissingOf a b k:=by
 simp only [VC_iMissingOf,VC_iMissingOf_28,VC_iMissingOf_27,VC_iMissingOf_26,VC_iMissingOf_25,VC_iMissingOf_24,VC_iMissingOf_23,VC_iMissingOf_22,VC_iMissingOf_21,VC_iMissingOf_20,VC_iMissingOf_19,VC_iMissingOf_18,VC_iMissingOf_17,VC_iMissingOf_16,VC_iMissingOf_15,VC_iMissingOf_14,VC_iMissingOf_13,VC_iMissingOf_12,VC_iMissingOf_11,VC_iMissingOf_10,VC_iMissingOf_9,VC_iMissingOf_8,VC_iMissingOf_7,VC_iMissingOf_6,VC_iMissingOf_5,VC_iMissingOf_4,VC_iMissingOf_3,VC_iMissingOf_2,VC_iMissingOf_1,and_self,and_self_left]
 simp only [cln,Nat.reduceEqDiff,Nat.reduceLeDiff,Nat.reduceAdd]
 all_goals (try simp only [opn])
 all_goals (repeat' (first | apply And.intro | intro _))
 all_goals (repeat (cases ‹_/\_›))
 all_goals (first | with_reducible exact True.intro | (exfalso;contradiction) | omega | with_reducible assumption | with_reducible rfl | skip)
 all_goals (first
  | with_reducible exact (mi_n1 ‹_›).1 | with_reducible exact (mi_n1 ‹_›).2.1 | with_reducible exact (mi_n1 ‹_›).2.2 | with_reducible exact (mi_n2 ‹_›).1 | with_reducible exact (mi_n2 ‹_›).2.1 | with_reducible exact (mi_n2 ‹_›).2.2
  | with_reducible exact (mi_lf ‹_›).1 | with_reducible exact (mi_lf ‹_›).2.1 | with_reducible exact (mi_lf ‹_›).2.2
  | with_reducible exact (mi_lt ‹_› ‹_› ‹_›).1 | with_reducible exact (mi_lt ‹_› ‹_› ‹_›).2.1 | with_reducible exact (mi_lt ‹_› ‹_› ‹_›).2.2.1 | with_reducible exact (mi_lt ‹_› ‹_› ‹_›).2.2.2
  | with_reducible exact mi_pre ‹_› ‹_› | exact mi_pre ‹_› ‹_›
  | (have h9:=fo_len6 ‹asV b=true›;omega)
  | skip)
theorem ok_iMissingOf:FnOk Try.prog E 42 c_iMissingOf :=
 fn_okQ (l:=L_iMissingOf) (lp:=P_iMissingOf) (hp:=hp_iMissingOf) (gcs:=fun _=>none) (perm:=perm_iMissingOf) tabOk mix ⟨ok_iAssertionValid,trivial⟩ ⟨(ptok_lmW (c:=cw_miAcc) ptok_miAcc),trivial⟩ Try.func42 rfl (by kernel_rfl) (by decide) (by kernel_rfl) (anns:=fun x _=>fun _ _=>none) (fun ⟨a,b,_⟩ k hp _=>Eq.mp (by kernel_rfl) (vcn_iMissingOf a b k hp)) tot_fn
abbrev c_l1Is:Con:=⟨[.int],[.bool],fun _=>True,.inl fun (t,_)=>(isT t,()),fun _=>0⟩
abbrev L_l1Is:List (FuncId × Con):=[]
abbrev P_l1Is:List (FuncId × PT):=[]
def VC_l1Is (t:Int) (k:Nat):Prop:=True/\True/\True/\True/\(vcIf (decide ((0:Int)<=t)) (True/\True/\True/\True/\(((decide (t<=(8:Int)),()):Bool × Unit)=(isT t,()))/\True/\True/\True/\True/\TF) (True/\True/\(((false,()):Bool × Unit)=(isT t,()))/\True/\True/\True/\True/\TF))
theorem vcn_l1Is (t:Int) (k:Nat):VC_l1Is t k:=by
 unfold VC_l1Is
 simp only [cln,Nat.reduceEqDiff,Nat.reduceLeDiff,Nat.reduceAdd]
 cases h:decide (0<=t) <;> simp [vcIf,isT,h]
theorem ok_l1Is:FnOk Try.prog E 151 c_l1Is :=
 fn_okQ (l:=L_l1Is) (lp:=P_l1Is) (hp:=fun _=>false) (gcs:=fun _=>none) (perm:=fun _=>[]) tabOk mix trivial trivial Try.func151 rfl (by kernel_rfl) (by decide) (by kernel_rfl) (anns:=fun x _=>fun _ _=>none) (fun ⟨t,_⟩ k _ _=>Eq.mp (by kernel_rfl) (vcn_l1Is t k)) tot_fn
abbrev c_l3Atom:Con:=⟨[.atom],[.bool],fun _=>True,.inl fun (x,_)=>(atV x,()),fun _=>0⟩
abbrev L_l3Atom:List (FuncId × Con):=[(151,c_l1Is)]
abbrev P_l3Atom:List (FuncId × PT):=[]
def VC_l3Atom_1 (x:GAtom):Prop:=True/\True/\(((false,()):Bool × Unit)=(atV x,()))/\True/\True/\True/\True/\TF
def VC_l3Atom_2 (x:GAtom):Prop:=True/\True/\(True/\True/\True)/\True/\True/\(vcIf (isT x.a) (True/\True/\(True/\True/\True)/\True/\True/\((((isT x.b),()):Bool × Unit)=(atV x,()))/\True/\True/\True/\True/\TF) (VC_l3Atom_1 x))
def VC_l3Atom (x:GAtom) (k:Nat):Prop:=TN/\True/\True/\True/\True/\True/\(vcIf (x.kind == (1:Int)) (True/\True/\(VC_l3Atom_2 x)) (True/\True/\True/\True/\True/\(vcIf (x.kind == (2:Int)) (VC_l3Atom_2 x) (True/\True/\(VC_l3Atom_1 x)))))
theorem vcn_l3Atom (x:GAtom) (k:Nat):VC_l3Atom x k:=by
 unfold VC_l3Atom VC_l3Atom_2 VC_l3Atom_1
 simp only [cln,Nat.reduceEqDiff,Nat.reduceLeDiff,Nat.reduceAdd]
 all_goals (try simp only [opn])
 all_goals (repeat' (first | apply And.intro | intro _))
 all_goals (first | omega | (simp_all;done) | grind [atV])
theorem ok_l3Atom:FnOk Try.prog E 122 c_l3Atom :=
 fn_okQ (l:=L_l3Atom) (lp:=P_l3Atom) (hp:=fun _=>false) (gcs:=fun _=>none) (perm:=fun _=>[]) tabOk mix ⟨ok_l1Is,trivial⟩ trivial Try.func122 rfl (by kernel_rfl) (by decide) (by kernel_rfl) (anns:=fun x _=>fun _ _=>none) (fun ⟨x,_⟩ k _ _=>Eq.mp (by kernel_rfl) (vcn_l3Atom x k)) tot_fn
abbrev c_sFactValid:Con:=⟨[.fact],[.bool],fun _=>True,.inl fun (f,_)=>(fV f,()),fun _=>0⟩
abbrev L_sFactValid:List (FuncId × Con):=[(151,c_l1Is)]
abbrev P_sFactValid:List (FuncId × PT):=[]
def VC_sFactValid (f:GFact) (k:Nat):Prop:=TN/\True/\True/\True/\(True/\True/\True)/\True/\(vcIf (isT f.a) (True/\True/\(True/\True/\True)/\True/\True/\((((isT f.b),()):Bool × Unit)=(fV f,()))/\True/\True/\True/\True/\TF) (True/\True/\(((false,()):Bool × Unit)=(fV f,()))/\True/\True/\True/\True/\TF))
theorem vcn_sFactValid (f:GFact) (k:Nat):VC_sFactValid f k:=by
 unfold VC_sFactValid
 simp only [cln,Nat.reduceEqDiff,Nat.reduceLeDiff,Nat.reduceAdd]
 cases h:isT f.a <;> simp [vcIf,fV,h]
theorem ok_sFactValid:FnOk Try.prog E 152 c_sFactValid :=
 fn_okQ (l:=L_sFactValid) (lp:=P_sFactValid) (hp:=fun _=>false) (gcs:=fun _=>none) (perm:=fun _=>[]) tabOk mix ⟨ok_l1Is,trivial⟩ trivial Try.func152 rfl (by kernel_rfl) (by decide) (by kernel_rfl) (anns:=fun x _=>fun _ _=>none) (fun ⟨f,_⟩ k _ _=>Eq.mp (by kernel_rfl) (vcn_sFactValid f k)) tot_fn
abbrev c_sFactsValid:Con:=⟨[.sl .fact],[.bool],fun (l,_)=>l.length<=281474976710656,.inl fun (l,_)=>(fsV l,()),fun _=>0⟩
abbrev L_sFactsValid:List (FuncId × Con):=[(152,c_sFactValid)]
abbrev P_sFactsValid:List (FuncId × PT):=[]
def an_sFactsValid (l:List GFact):Nat->St->Option Ann
 | 2,se=>some { α:=Nat,ok:=fun i=>i<=l.length/\(l.take i).all fV=true,mu:=fun i=>l.length - i,i0:=fun _=>0,nx:=fun a _=>(fun i=>i+1) a,live:=[0],sets:=fun i=>[(3,sv (.int .i64 i))],mids:=[],blks:=fun i=>[],owns:=fun i=>[],rd:=fun r _=>r,base:=100000 }
 | _,_=>none
def VC_sFactsValid (l:List GFact) (k:Nat):Prop:=True/\True/\((0<=l.length/\(l.take 0).all fV=true)/\TT/\(RL [.s (.c (.d (.arr .fact l)))])/\(([.s (.c (.d (.val (.int .i64 (0:Int)))))]:List S)=[.s (.c (.d (.val (.int .i64 ((0:Nat):Int)))))])/\(RM [])/\(RM [])/\True/\TT)/\(∀ i1:Nat,(i1<=l.length/\(l.take i1).all fV=true)->True/\True/\True/\True/\(vcIf (decide (((i1:Nat):Int) < ((l.length:Nat):Int))) (True/\True/\(0<=((i1:Nat):Int)/\((i1:Nat):Int) < ((l.length:Nat):Int))/\True/\(True/\True/\True)/\True/\(vcIf (!(fV (l.getD i1 (⟨false,0,0⟩:GFact)))) (True/\(((false,()):Bool × Unit)=(fsV l,()))/\True/\True/\True/\True/\TF) (True/\(inK .i64 (((i1:Nat):Int)+(1:Int)))/\True/\((i1+1)<=l.length/\(l.take (i1+1)).all fV=true)/\(l.length - (i1+1) < l.length - i1)/\TT/\(RL [.s (.c (.d (.arr .fact l)))])/\(([.s (.c (.d (.val (.int .i64 (((i1:Nat):Int)+(1:Int))))))]:List S)=[.s (.c (.d (.val (.int .i64 (((i1+1):Nat):Int)))))])/\(RM [])/\(RM [])/\True/\TT))) (True/\True/\True/\True/\(((decide (((l.length:Nat):Int)<=(12:Int)),()):Bool × Unit)=(fsV l,()))/\True/\True/\True/\True/\TF)))
theorem vcn_sFactsValid (l:List GFact) (k:Nat) (hp:l.length<=281474976710656):VC_sFactsValid l k:=by
 unfold VC_sFactsValid
 simp only [cln,Nat.reduceEqDiff,Nat.reduceLeDiff,Nat.reduceAdd]
 all_goals (try simp only [opn])
 all_goals (repeat' (first | apply And.intro | intro _))
 all_goals (first | omega | (simp_all;done) | grind [fsV,take_all,all_take,take_full,Ty.zero])
theorem ok_sFactsValid:FnOk Try.prog E 123 c_sFactsValid :=
 fn_okQ (l:=L_sFactsValid) (lp:=P_sFactsValid) (hp:=fun _=>false) (gcs:=fun _=>none) (perm:=fun _=>[]) tabOk mix ⟨ok_sFactValid,trivial⟩ trivial Try.func123 rfl (by kernel_rfl) (by decide) (by kernel_rfl) (anns:=fun x _=>an_sFactsValid x.1) (fun ⟨l,_⟩ k hp _=>Eq.mp (by kernel_rfl) (vcn_sFactsValid l k hp)) tot_fn
abbrev c_sAssertionValid:Con:=⟨[.asn],[.bool],fun (a,_)=>a.facts.length<=281474976710656/\a.atoms.length<=281474976710656,.inl fun (a,_)=>(asV a,()),fun _=>0⟩
abbrev L_sAssertionValid:List (FuncId × Con):=[(122,c_l3Atom),(123,c_sFactsValid)]
abbrev P_sAssertionValid:List (FuncId × PT):=[]
def an_sAssertionValid (a:GAsn):Nat->St->Option Ann
 | 2,se=>some { α:=Nat,ok:=fun i=>i<=a.atoms.length/\(a.atoms.take i).all atV=true,mu:=fun i=>a.atoms.length - i,i0:=fun _=>0,nx:=fun a _=>(fun i=>i+1) a,live:=[1],sets:=fun i=>[(3,sv (.int .i64 i))],mids:=[31],blks:=fun i=>[],owns:=fun i=>[],rd:=fun r _=>r,base:=100000 }
 | _,_=>none
def VC_sAssertionValid_1 (a:GAsn):Prop:=(RM [some (.blk [.d (.arr .fact a.facts),.d (.arr .atom a.atoms)])])/\(RM [])/\True/\TT
def VC_sAssertionValid_2 (a:GAsn):Prop:=True/\(((false,()):Bool × Unit)=(asV a,()))/\True/\True/\True/\True/\TF
def VC_sAssertionValid (a:GAsn) (k:Nat):Prop:=TN/\True/\True/\((0<=a.atoms.length/\(a.atoms.take 0).all atV=true)/\TT/\(RL [.s (.c (.ptr 31 0))])/\(([.s (.c (.d (.val (.int .i64 (0:Int)))))]:List S)=[.s (.c (.d (.val (.int .i64 ((0:Nat):Int)))))])/\(VC_sAssertionValid_1 a))/\(∀ i1:Nat,(i1<=a.atoms.length/\(a.atoms.take i1).all atV=true)->True/\True/\True/\True/\True/\(vcIf (decide (((i1:Nat):Int) < ((a.atoms.length:Nat):Int))) (True/\True/\True/\(0<=((i1:Nat):Int)/\((i1:Nat):Int) < ((a.atoms.length:Nat):Int))/\True/\(True/\True/\True)/\True/\(vcIf (!(atV (a.atoms.getD i1 (⟨0,0,0⟩:GAtom)))) (VC_sAssertionValid_2 a) (True/\(inK .i64 (((i1:Nat):Int)+(1:Int)))/\True/\((i1+1)<=a.atoms.length/\(a.atoms.take (i1+1)).all atV=true)/\(a.atoms.length - (i1+1) < a.atoms.length - i1)/\TT/\(RL [.s (.c (.ptr 31 0))])/\(([.s (.c (.d (.val (.int .i64 (((i1:Nat):Int)+(1:Int))))))]:List S)=[.s (.c (.d (.val (.int .i64 (((i1+1):Nat):Int)))))])/\(VC_sAssertionValid_1 a)))) (True/\True/\((a.facts.length<=281474976710656)/\True/\True)/\True/\(vcIf (fsV a.facts) (True/\True/\True/\True/\True/\True/\(((decide (((a.atoms.length:Nat):Int)<=(6:Int)),()):Bool × Unit)=(asV a,()))/\True/\True/\True/\True/\TF) (True/\(VC_sAssertionValid_2 a))))))
theorem vcn_sAssertionValid (a:GAsn) (k:Nat) (hp:a.facts.length<=281474976710656/\a.atoms.length<=281474976710656):VC_sAssertionValid a k:=by
 unfold VC_sAssertionValid VC_sAssertionValid_2 VC_sAssertionValid_1
 simp only [cln,Nat.reduceEqDiff,Nat.reduceLeDiff,Nat.reduceAdd]
 all_goals (try simp only [opn])
 all_goals (repeat' (first | apply And.intro | intro _))
 all_goals (first | omega | (simp_all;done) | grind [asV,take_all,all_take,take_full,Ty.zero])
theorem ok_sAssertionValid:FnOk Try.prog E 74 c_sAssertionValid :=
 fn_okQ (l:=L_sAssertionValid) (lp:=P_sAssertionValid) (hp:=fun _=>false) (gcs:=fun _=>none) (perm:=fun _=>[]) tabOk mix ⟨ok_l3Atom,ok_sFactsValid,trivial⟩ trivial Try.func74 rfl (by kernel_rfl) (by decide) (by kernel_rfl) (anns:=fun x _=>an_sAssertionValid x.1) (fun ⟨a,_⟩ k hp _=>Eq.mp (by kernel_rfl) (vcn_sAssertionValid a k hp)) tot_fn
end Go.Proofs.Ytopjgjelkpkmmaa
