/-
  Contracts of single functions of the program, each shown by the engine: what a call returns for arguments within the contract's bounds.
-/
import Derived.Test.YtopjgjelkpkmmaaFFnExactCounterModela
import Derived.Test.YtopjgjelkpkmmaaEd
import Derived.Test.YtopjgjelkpkmmaaFFnExactCounterModelf
import Derived.Test.YtopjgjelkpkmmaaEe
set_option linter.unusedSimpArgs false
set_option linter.unusedVariables false
set_option linter.unusedSectionVars false

namespace Go.Proofs.Ytopjgjelkpkmmaa
open Go.SE Go.RowKit
set_option linter.unusedSimpArgs false
set_option linter.unusedVariables false
set_option maxHeartbeats 1000000
set_option maxRecDepth 100000
abbrev c_szAtomS:Con:=⟨[.sl .atom,.int],[.int],fun (l,left,_)=>l.length<=281474976710656/\0<=left/\left<=1048576,.inl fun (l,left,_)=>(sz1 left l.length,()),fun _=>0⟩
abbrev L_szAtomS:List (FuncId × Con):=[]
abbrev P_szAtomS:List (FuncId × PT):=[]
def VC_szAtomS (l:List GAtom) (left:Int) (k:Nat):Prop:=True/\True/\True/\True/\(inK .i64 (left - ((l.length:Nat):Int)))/\True/\True/\True/\(vcIf (decide ((left - ((l.length:Nat):Int)) < (0:Int))) (True/\((((-1:Int),()):Int × Unit)=(sz1 left l.length,()))/\True/\True/\True/\True/\TF) (True/\True/\(((left - ((l.length:Nat):Int),()):Int × Unit)=(sz1 left l.length,()))/\True/\True/\True/\True/\TF))
theorem vcn_szAtomS (l:List GAtom) (left:Int) (k:Nat) (hp:l.length<=281474976710656/\0<=left/\left<=1048576):VC_szAtomS l left k:=by
 unfold VC_szAtomS
 simp only [cln,Nat.reduceEqDiff,Nat.reduceLeDiff,Nat.reduceAdd]
 unfold sz1
 by_cases h:left - l.length < 0 <;> simp [vcIf,h] <;> omega
theorem ok_szAtomS:FnOk Try.prog E 62 c_szAtomS :=
 fn_okQ (l:=L_szAtomS) (lp:=P_szAtomS) (hp:=fun _=>false) (gcs:=fun _=>none) (perm:=fun _=>[]) tabOk mix trivial trivial Try.func62 rfl (by kernel_rfl) (by decide) (by kernel_rfl) (anns:=fun x _=>fun _ _=>none) (fun ⟨l,left,_⟩ k hp _=>Eq.mp (by kernel_rfl) (vcn_szAtomS l left k hp)) tot_fn
abbrev c_szAssertion:Con:=⟨[.asn,.int],[.int],fun (a,left,_)=>a.facts.length<=281474976710656/\a.atoms.length<=281474976710656/\0<=left/\left<=1048576,.inl fun (a,left,_)=>(szA a left,()),fun _=>0⟩
abbrev L_szAssertion:List (FuncId × Con):=[(61,c_szFactS),(62,c_szAtomS)]
abbrev P_szAssertion:List (FuncId × PT):=[]
def VC_szAssertion_1 (a:GAsn) (left:Int):Prop:=True/\((((-1:Int),()):Int × Unit)=(szA a left,()))/\True/\True/\True/\True/\TF
def VC_szAssertion (a:GAsn) (left:Int) (k:Nat):Prop:=TN/\True/\True/\True/\True/\((a.facts.length<=281474976710656/\0<=left/\left<=1048576)/\True/\True)/\True/\True/\True/\(vcIf (decide ((sz1 left a.facts.length) < (0:Int))) (VC_szAssertion_1 a left) (True/\True/\True/\((a.atoms.length<=281474976710656/\0<=(sz1 left a.facts.length)/\(sz1 left a.facts.length)<=1048576)/\True/\True)/\True/\True/\True/\(vcIf (decide ((sz1 (sz1 left a.facts.length) a.atoms.length) < (0:Int))) (VC_szAssertion_1 a left) (True/\True/\((((sz1 (sz1 left a.facts.length) a.atoms.length),()):Int × Unit)=(szA a left,()))/\True/\True/\True/\True/\TF))))
theorem vcn_szAssertion (a:GAsn) (left:Int) (k:Nat) (hp:a.facts.length<=281474976710656/\a.atoms.length<=281474976710656/\0<=left/\left<=1048576):VC_szAssertion a left k:=by
 unfold VC_szAssertion VC_szAssertion_1
 simp only [cln,Nat.reduceEqDiff,Nat.reduceLeDiff,Nat.reduceAdd]
 all_goals (try simp only [opn])
 all_goals (repeat' (first | apply And.intro | intro _))
 all_goals (first | omega | (simp_all;done) | grind [szA,sz1])
theorem ok_szAssertion:FnOk Try.prog E 21 c_szAssertion :=
 fn_okQ (l:=L_szAssertion) (lp:=P_szAssertion) (hp:=fun _=>false) (gcs:=fun _=>none) (perm:=fun _=>[]) tabOk mix ⟨ok_szFactS,ok_szAtomS,trivial⟩ trivial Try.func21 rfl (by kernel_rfl) (by decide) (by kernel_rfl) (anns:=fun x _=>fun _ _=>none) (fun ⟨a,left,_⟩ k hp _=>Eq.mp (by kernel_rfl) (vcn_szAssertion a left k hp)) tot_fn
abbrev c_toFact:Con:=⟨[.fact],[.fact],fun _=>True,.inl fun (f,_)=>(f,()),fun _=>0⟩
abbrev L_toFact:List (FuncId × Con):=[]
abbrev P_toFact:List (FuncId × PT):=[]
def VC_toFact (f:GFact) (k:Nat):Prop:=TN/\(TN/\True)/\(TN/\True)/\True/\True/\True/\(TF/\TF)/\True/\True/\True/\(TF/\TF)/\True/\True/\True/\(TF/\TF)/\True/\(TF/\TF)/\(((f,()):GFact × Unit)=(f,()))/\True/\True/\True/\True/\TF
theorem vcn_toFact (f:GFact) (k:Nat):VC_toFact f k:=by
 unfold VC_toFact
 simp only [cln,Nat.reduceEqDiff,Nat.reduceLeDiff,Nat.reduceAdd]
 all_goals (try simp only [opn])
 all_goals (repeat' (first | apply And.intro | intro _))
 all_goals (first | omega | (simp_all;done) | grind [])
theorem ok_toFact:FnOk Try.prog E 118 c_toFact :=
 fn_okQ (l:=L_toFact) (lp:=P_toFact) (hp:=fun _=>false) (gcs:=fun _=>none) (perm:=fun _=>[]) tabOk mix trivial trivial Try.func118 rfl (by kernel_rfl) (by decide) (by kernel_rfl) (anns:=fun x _=>fun _ _=>none) (fun ⟨f,_⟩ k _ _=>Eq.mp (by kernel_rfl) (vcn_toFact f k)) tot_fn
abbrev c_toFactS:Con:=⟨[.sl .fact],[.sl .fact],fun (l,_)=>l.length<=1048576,.inl fun (l,_)=>(l,()),fun _=>0⟩
abbrev L_toFactS:List (FuncId × Con):=[(118,c_toFact)]
abbrev P_toFactS:List (FuncId × PT):=[]
def an_toFactS (l:List GFact):Nat->St->Option Ann
 | 3,se=>some { α:=Nat,ok:=fun i=>i<=l.length,mu:=fun i=>l.length - i,i0:=fun _=>0,nx:=fun a _=>(fun i=>i+1) a,live:=[0,2],sets:=fun i=>[(4,sv (.int .i64 i))],mids:=[32],blks:=fun i=>[],owns:=fun i=>[⟨7,.slot 3,.fact,l.take i ++ List.replicate (l.length - i) (⟨false,0,0⟩:GFact)⟩],rd:=fun r _=>r,base:=100000 }
 | _,_=>none
def VC_toFactS (l:List GFact) (k:Nat):Prop:=TN/\True/\True/\(TN/\(0<=((l.length:Nat):Int)/\((l.length:Nat):Int)<=((l.length:Nat):Int)/\((l.length:Nat):Int)<=4294967296))/\True/\True/\((0<=l.length)/\TT/\(RL [.s (.c (.d (.arr .fact l))),.s (.c (.own 32))])/\(([.s (.c (.d (.val (.int .i64 (0:Int)))))]:List S)=[.s (.c (.d (.val (.int .i64 ((0:Nat):Int)))))])/\(RM [some (.sl 32 .fact ([]:List GFact))])/\(RM [])/\(((some (List.replicate l.length (⟨false,0,0⟩:GFact)):Option (List GFact))=some (l.take 0 ++ List.replicate (l.length - 0) (⟨false,0,0⟩:GFact)))/\True)/\TT)/\(∀ i1:Nat,(i1<=l.length)->True/\True/\True/\True/\(vcIf (decide (((i1:Nat):Int) < ((l.length:Nat):Int))) (True/\True/\True/\True/\(0<=((i1:Nat):Int)/\((i1:Nat):Int) < ((l.length:Nat):Int))/\True/\(True/\True/\True)/\(0<=((i1:Nat):Int)/\((i1:Nat):Int) < (((l.take i1 ++ List.replicate (l.length - i1) (⟨false,0,0⟩:GFact)).length:Nat):Int))/\(TF/\TF/\True/\((7:Nat) ∉ ([]:List Nat)))/\True/\(inK .i64 (((i1:Nat):Int)+(1:Int)))/\True/\((i1+1)<=l.length)/\(l.length - (i1+1) < l.length - i1)/\TT/\(RL [.s (.c (.d (.arr .fact l))),.s (.c (.own 32))])/\(([.s (.c (.d (.val (.int .i64 (((i1:Nat):Int)+(1:Int))))))]:List S)=[.s (.c (.d (.val (.int .i64 (((i1+1):Nat):Int)))))])/\(RM [some (.sl 32 .fact ([]:List GFact))])/\(RM [])/\(((some ((l.take i1 ++ List.replicate (l.length - i1) (⟨false,0,0⟩:GFact)).set i1 (l.getD i1 (⟨false,0,0⟩:GFact))):Option (List GFact))=some (l.take (i1+1) ++ List.replicate (l.length - (i1+1)) (⟨false,0,0⟩:GFact)))/\True)/\TT) (True/\True/\(((l.take i1 ++ List.replicate (l.length - i1) (⟨false,0,0⟩:GFact),()):(List GFact) × Unit)=(l,()))/\(True/\True)/\((TF/\TF)/\True)/\True/\(True/\True)/\TF)))
theorem vcn_toFactS (l:List GFact) (k:Nat) (hp:l.length<=1048576):VC_toFactS l k:=by
 unfold VC_toFactS
 simp only [cln,Nat.reduceEqDiff,Nat.reduceLeDiff,Nat.reduceAdd]
 all_goals (try simp only [opn])
 all_goals (repeat' (first | apply And.intro | intro _))
 all_goals (first | omega | (simp_all;done) | grind [copy_step,take_full])
theorem ok_toFactS:FnOk Try.prog E 63 c_toFactS :=
 fn_okQ (l:=L_toFactS) (lp:=P_toFactS) (hp:=fun _=>false) (gcs:=fun _=>none) (perm:=fun _=>[]) tabOk mix ⟨ok_toFact,trivial⟩ trivial Try.func63 rfl (by kernel_rfl) (by decide) (by kernel_rfl) (anns:=fun x _=>an_toFactS x.1) (fun ⟨l,_⟩ k hp _=>Eq.mp (by kernel_rfl) (vcn_toFactS l k hp)) tot_fn
abbrev c_toAtom:Con:=⟨[.atom],[.atom],fun _=>True,.inl fun (f,_)=>(f,()),fun _=>0⟩
abbrev L_toAtom:List (FuncId × Con):=[]
abbrev P_toAtom:List (FuncId × PT):=[]
def VC_toAtom (f:GAtom) (k:Nat):Prop:=TN/\(TN/\True)/\(TN/\True)/\True/\True/\True/\(TF/\TF)/\True/\True/\True/\(TF/\TF)/\True/\True/\True/\(TF/\TF)/\True/\(TF/\TF)/\(((f,()):GAtom × Unit)=(f,()))/\True/\True/\True/\True/\TF
theorem vcn_toAtom (f:GAtom) (k:Nat):VC_toAtom f k:=by
 unfold VC_toAtom
 simp only [cln,Nat.reduceEqDiff,Nat.reduceLeDiff,Nat.reduceAdd]
 all_goals (try simp only [opn])
 all_goals (repeat' (first | apply And.intro | intro _))
 all_goals (first | omega | (simp_all;done) | grind [])
theorem ok_toAtom:FnOk Try.prog E 119 c_toAtom :=
 fn_okQ (l:=L_toAtom) (lp:=P_toAtom) (hp:=fun _=>false) (gcs:=fun _=>none) (perm:=fun _=>[]) tabOk mix trivial trivial Try.func119 rfl (by kernel_rfl) (by decide) (by kernel_rfl) (anns:=fun x _=>fun _ _=>none) (fun ⟨f,_⟩ k _ _=>Eq.mp (by kernel_rfl) (vcn_toAtom f k)) tot_fn
abbrev c_toAtomS:Con:=⟨[.sl .atom],[.sl .atom],fun (l,_)=>l.length<=1048576,.inl fun (l,_)=>(l,()),fun _=>0⟩
abbrev L_toAtomS:List (FuncId × Con):=[(119,c_toAtom)]
abbrev P_toAtomS:List (FuncId × PT):=[]
def an_toAtomS (l:List GAtom):Nat->St->Option Ann
 | 3,se=>some { α:=Nat,ok:=fun i=>i<=l.length,mu:=fun i=>l.length - i,i0:=fun _=>0,nx:=fun a _=>(fun i=>i+1) a,live:=[0,2],sets:=fun i=>[(4,sv (.int .i64 i))],mids:=[32],blks:=fun i=>[],owns:=fun i=>[⟨7,.slot 3,.atom,l.take i ++ List.replicate (l.length - i) (⟨0,0,0⟩:GAtom)⟩],rd:=fun r _=>r,base:=100000 }
 | _,_=>none
def VC_toAtomS (l:List GAtom) (k:Nat):Prop:=TN/\True/\True/\(TN/\(0<=((l.length:Nat):Int)/\((l.length:Nat):Int)<=((l.length:Nat):Int)/\((l.length:Nat):Int)<=4294967296))/\True/\True/\((0<=l.length)/\TT/\(RL [.s (.c (.d (.arr .atom l))),.s (.c (.own 32))])/\(([.s (.c (.d (.val (.int .i64 (0:Int)))))]:List S)=[.s (.c (.d (.val (.int .i64 ((0:Nat):Int)))))])/\(RM [some (.sl 32 .atom ([]:List GAtom))])/\(RM [])/\(((some (List.replicate l.length (⟨0,0,0⟩:GAtom)):Option (List GAtom))=some (l.take 0 ++ List.replicate (l.length - 0) (⟨0,0,0⟩:GAtom)))/\True)/\TT)/\(∀ i1:Nat,(i1<=l.length)->True/\True/\True/\True/\(vcIf (decide (((i1:Nat):Int) < ((l.length:Nat):Int))) (True/\True/\True/\True/\(0<=((i1:Nat):Int)/\((i1:Nat):Int) < ((l.length:Nat):Int))/\True/\(True/\True/\True)/\(0<=((i1:Nat):Int)/\((i1:Nat):Int) < (((l.take i1 ++ List.replicate (l.length - i1) (⟨0,0,0⟩:GAtom)).length:Nat):Int))/\(TF/\TF/\True/\((7:Nat) ∉ ([]:List Nat)))/\True/\(inK .i64 (((i1:Nat):Int)+(1:Int)))/\True/\((i1+1)<=l.length)/\(l.length - (i1+1) < l.length - i1)/\TT/\(RL [.s (.c (.d (.arr .atom l))),.s (.c (.own 32))])/\(([.s (.c (.d (.val (.int .i64 (((i1:Nat):Int)+(1:Int))))))]:List S)=[.s (.c (.d (.val (.int .i64 (((i1+1):Nat):Int)))))])/\(RM [some (.sl 32 .atom ([]:List GAtom))])/\(RM [])/\(((some ((l.take i1 ++ List.replicate (l.length - i1) (⟨0,0,0⟩:GAtom)).set i1 (l.getD i1 (⟨0,0,0⟩:GAtom))):Option (List GAtom))=some (l.take (i1+1) ++ List.replicate (l.length - (i1+1)) (⟨0,0,0⟩:GAtom)))/\True)/\TT) (True/\True/\(((l.take i1 ++ List.replicate (l.length - i1) (⟨0,0,0⟩:GAtom),()):(List GAtom) × Unit)=(l,()))/\(True/\True)/\((TF/\TF)/\True)/\True/\(True/\True)/\TF)))
theorem vcn_toAtomS (l:List GAtom) (k:Nat) (hp:l.length<=1048576):VC_toAtomS l k:=by
 unfold VC_toAtomS
 simp only [cln,Nat.reduceEqDiff,Nat.reduceLeDiff,Nat.reduceAdd]
 all_goals (try simp only [opn])
 all_goals (repeat' (first | apply And.intro | intro _))
 all_goals (first | omega | (simp_all;done) | grind [copy_step,take_full])
theorem ok_toAtomS:FnOk Try.prog E 64 c_toAtomS :=
 fn_okQ (l:=L_toAtomS) (lp:=P_toAtomS) (hp:=fun _=>false) (gcs:=fun _=>none) (perm:=fun _=>[]) tabOk mix ⟨ok_toAtom,trivial⟩ trivial Try.func64 rfl (by kernel_rfl) (by decide) (by kernel_rfl) (anns:=fun x _=>an_toAtomS x.1) (fun ⟨l,_⟩ k hp _=>Eq.mp (by kernel_rfl) (vcn_toAtomS l k hp)) tot_fn
abbrev c_toAssertion:Con:=⟨[.asn],[.asn],fun (a,_)=>a.facts.length<=1048576/\a.atoms.length<=1048576,.inl fun (a,_)=>(a,()),fun _=>0⟩
abbrev L_toAssertion:List (FuncId × Con):=[(63,c_toFactS),(64,c_toAtomS)]
abbrev P_toAssertion:List (FuncId × PT):=[]
def VC_toAssertion (a:GAsn) (k:Nat):Prop:=TN/\(TN/\TN/\TN/\True)/\(TN/\TN/\TN/\True)/\True/\True/\((a.facts.length<=1048576)/\True/\TN/\True)/\True/\(TF/\TF)/\True/\True/\((a.atoms.length<=1048576)/\True/\TN/\True)/\True/\(TF/\TF)/\True/\(TF/\TF)/\(((a,()):GAsn × Unit)=(a,()))/\((((96:Nat) ≠ 160)/\True)/\True/\True)/\((TF/\TF)/\(TF/\TF)/\True)/\True/\(True/\True/\True)/\TF
theorem vcn_toAssertion (a:GAsn) (k:Nat) (hp:a.facts.length<=1048576/\a.atoms.length<=1048576):VC_toAssertion a k:=by
 unfold VC_toAssertion
 simp only [cln,Nat.reduceEqDiff,Nat.reduceLeDiff,Nat.reduceAdd]
 all_goals (try simp only [opn])
 all_goals (repeat' (first | apply And.intro | intro _))
 all_goals (first | omega | (simp_all;done) | grind [])
theorem ok_toAssertion:FnOk Try.prog E 22 c_toAssertion :=
 fn_okQ (l:=L_toAssertion) (lp:=P_toAssertion) (hp:=fun _=>false) (gcs:=fun _=>none) (perm:=fun _=>[]) tabOk mix ⟨ok_toFactS,ok_toAtomS,trivial⟩ trivial Try.func22 rfl (by kernel_rfl) (by decide) (by kernel_rfl) (anns:=fun x _=>fun _ _=>none) (fun ⟨a,_⟩ k hp _=>Eq.mp (by kernel_rfl) (vcn_toAssertion a k hp)) tot_fn
abbrev c_eqIntS:Con:=⟨[.sl .int,.sl .int],[.bool],fun (a,b,_)=>a.length<=281474976710656/\b.length<=281474976710656,.inl fun (a,b,_)=>(decide (a=b),()),fun _=>0⟩
abbrev L_eqIntS:List (FuncId × Con):=[]
def an_eqIntS (a:List Int) (b:List Int):Nat->Option Ann
 | 4=>some { α:=Nat,ok:=fun i=>i<=a.length/\a.length=b.length/\a.take i=b.take i,mu:=fun i=>a.length - i,i0:=fun _=>0,nx:=fun a _=>(fun i=>i+1) a,live:=[0,1],sets:=fun i=>[(5,sv (.int .i64 i))],mids:=[],blks:=fun i=>[],owns:=fun i=>[],rd:=fun r _=>r,base:=100000 }
 | _=>none
theorem vc_eqIntS (a:List Int) (b:List Int) (k:Nat) (hp:a.length<=281474976710656/\b.length<=281474976710656):vc tab (lookF L_eqIntS) (an_eqIntS a b) (fun _=>[]) (bodyOf Try.f65) (entry (encs c_eqIntS.aks (a,b,())) (rdOf false k)) (retOk tab c_eqIntS Try.f65.results.toList (a,b,()) k):=by
 dsimp only [bodyOf,Try.f65,rdOf]
 simp (maxSteps:=10000000) only [c_eqIntS,L_eqIntS,an_eqIntS,SE.lookF,tab2,tab3,tab4,tab5,tab7,tab9,tab12,tab13,tab21,tab22,tab23,tab24,tab25,tab26,tab29,tab30,tab31,tab38,tab39,tab40,tab41,tab65,tab66,tab67,tab68,tab71,tab77,tab78,tab93,tab94,tab104,tab105,tab110,tab111,tab112,tab119,tab121,tab130,tab139,tab141,tab149,tab151,tab156,tab157,tab158,SE.entry,SE.envOf,SE.rdOf,Option.get_some,SE.vc,SE.vcReg,SE.vcLoop,SE.condK,SE.seqK,SE.blockK,SE.vcOps,SE.vcStep,SE.vcOp,SE.vcTr,SE.vcDet_some,SE.vcDet_none,SE.vcIf_true,SE.vcIf_false,SE.vcEach,SE.pickOps,SE.gslot,SE.trOp,SE.moveId,SE.trMove,SE.trPick,SE.trAlloc,SE.trBox,SE.trBuild,SE.trBuildSlice,SE.trLoad,SE.trStore,SE.trNilCheck,SE.trBin,SE.trUn,SE.trConvert,SE.trFieldAddr,SE.trField,SE.trIndexAddr,SE.trIndex,SE.trSlice,SE.trMakeSlice,SE.trExtract,SE.trLen,SE.trAppend,SE.trCopy,SE.trFn,SE.trCall,SE.argsS,SE.ev,SE.constS,SE.junk,SE.sv,SE.upd_app,SE.adds,SE.sets,SE.nid,SE.St.app,SE.St.put,SE.free,SE.freeL,SE.allFree,SE.rids,SE.AK.rids,SE.castL,SE.rdl,SE.AK.dec,SE.decs,SE.AK.enc,SE.encs,SE.AK.res,SE.ress,SE.pack1,SE.zcells,SE.zeroOf,SE.partCells,SE.putc,SE.fills,SE.datas,SE.elemOf,SE.elemsOf,SE.notSpent,SE.cellsAt,SE.weak,SE.dcellsAt,SE.slAt,SE.rdPlus,SE.intAt,SE.updElem,SE.kill,SE.noJunk,SE.inK,SE.binI,SE.shf,SE.isShift,SE.eqCells,SE.aggS,SE.intOp,SE.nested,SE.hasRdr,SE.refsC,SE.refsCs,SE.ownsC,SE.refsAr,SE.rdFits,SE.costIf,SE.Con.post,SE.Con.det,SE.Ty.cells,SE.Ty.sz,SE.Ty.zero,SE.Ty.flat,SE.Ty.dec,SE.retOk,SE.loadsS,SE.loadS,SE.decRs,SE.decR,SE.outC,SE.rdC,SE.allDiff,SE.notIn,SE.notFrozen,SE.apartL,SE.rdEnd,SE.firstReg,SE.headC,SE.fitsC,SE.idsC,SE.keepE,SE.keepM,SE.keepB,SE.inL,SE.puts,SE.ownRes,SE.ownEnv,SE.renL,SE.srcId,SE.lookR,SE.envSame,SE.envSets,SE.memSame,SE.memBlks,SE.memOwns,SE.famsOf,SE.allIn,SE.closedE,SE.closedV,SE.closedM,SE.closedR,SE.rdLe,SE.S.refs,SE.S0.refs,SE.CV.refs,SE.refsL,SE.refsT,SE.S.ren,SE.S0.ren,SE.CV.ren,SE.Res.refs,SE.Res.ren,min_i64,max_i64,min_u16,max_u16,min_u8,max_u8,min_u64,max_u64,S.s.injEq,S0.c.injEq,CV.d.injEq,DC.val.injEq,Value.int.injEq,Value.bool.injEq,Value.string.injEq,eta_fact,eta_atom,eta_asn,eta_state,List.mem_cons,List.mem_nil_iff,or_false,false_or,or_true,true_or,Option.map_some,Option.map_none,Option.bind_some,Option.getD_some,Option.getD_none,Nat.reduceEqDiff,Nat.reduceAdd,Nat.reduceMul,Nat.reduceLeDiff,↓reduceIte,reduceCtorEq,true_and,and_true,and_self,forall_const,implies_true,true_implies,List.getElem?_toArray,List.getElem?_cons_succ,List.getElem?_cons_zero,List.append_nil,List.nil_append,List.cons_append,List.length_cons,List.length_nil,List.take_succ_cons,List.take_zero,List.drop_succ_cons,List.drop_zero,List.set_cons_zero,List.set_cons_succ,List.map_cons,List.map_nil,Nat.add_zero,Nat.zero_add,forall_eq,Prod.forall,Bool.not_true,Bool.not_false,Nat.lt_irrefl,Nat.zero_lt_succ,List.singleton_append,Prod.mk.injEq,Nat.zero_mul,Nat.one_mul,Nat.reducePow,Option.some.injEq,not_false_eq_true,Int.toNat_natCast,Nat.sub_zero,Nat.le_refl,Bool.or_false,Bool.false_or,Bool.or_true,Bool.true_or,Bool.and_true,Bool.true_and,Bool.and_false,Bool.false_and,Bool.or_self,Bool.and_self,List.append_eq,and_false,false_and]
 all_goals (try simp only [vcIf_iff,decide_eq_true_eq,decide_eq_false_iff_not,bne_iff_ne,ne_eq,beq_iff_eq,beq_eq_false_iff_ne,bne_eq_false_iff_eq,Bool.not_eq_true',Bool.not_eq_false',Int.ofNat_lt,Int.natCast_inj])
 all_goals (repeat' (first | apply And.intro | intro _))
 all_goals (first | omega | (simp_all;done) | grind [same_step,same_not,take_full])
theorem ok_eqIntS:FnOk Try.prog E 65 c_eqIntS :=
 fn_ok (l:=L_eqIntS) (perm:=fun _=>[]) tabOk mix trivial Try.func65 rfl (by kernel_rfl) (by decide) (by kernel_rfl) (anns:=fun x _=>an_eqIntS x.1 x.2.1) (fun ⟨a,b,_⟩ k hp _=>vc_eqIntS a b k hp) tot_fn
abbrev c_eqState:Con:=⟨[.state,.state],[.bool],fun (a,b,_)=>a.vals.length<=281474976710656/\a.heap.length<=281474976710656/\b.vals.length<=281474976710656/\b.heap.length<=281474976710656,.inl fun (a,b,_)=>(decide (a=b),()),fun _=>0⟩
abbrev L_eqState:List (FuncId × Con):=[(65,c_eqIntS)]
theorem vc_eqState (a:GState) (b:GState) (k:Nat) (hp:a.vals.length<=281474976710656/\a.heap.length<=281474976710656/\b.vals.length<=281474976710656/\b.heap.length<=281474976710656):vc tab (lookF L_eqState) (fun _=>none) (fun _=>[]) (bodyOf Try.f23) (entry (encs c_eqState.aks (a,b,())) (rdOf false k)) (retOk tab c_eqState Try.f23.results.toList (a,b,()) k):=by
 dsimp only [bodyOf,Try.f23,rdOf]
 simp (maxSteps:=10000000) only [c_eqState,L_eqState,SE.lookF,c_eqIntS,tab2,tab3,tab4,tab5,tab7,tab9,tab12,tab13,tab21,tab22,tab23,tab24,tab25,tab26,tab29,tab30,tab31,tab38,tab39,tab40,tab41,tab65,tab66,tab67,tab68,tab71,tab77,tab78,tab93,tab94,tab104,tab105,tab110,tab111,tab112,tab119,tab121,tab130,tab139,tab141,tab149,tab151,tab156,tab157,tab158,SE.entry,SE.envOf,SE.rdOf,Option.get_some,SE.vc,SE.vcReg,SE.vcLoop,SE.condK,SE.seqK,SE.blockK,SE.vcOps,SE.vcStep,SE.vcOp,SE.vcTr,SE.vcDet_some,SE.vcDet_none,SE.vcIf_true,SE.vcIf_false,SE.vcEach,SE.pickOps,SE.gslot,SE.trOp,SE.moveId,SE.trMove,SE.trPick,SE.trAlloc,SE.trBox,SE.trBuild,SE.trBuildSlice,SE.trLoad,SE.trStore,SE.trNilCheck,SE.trBin,SE.trUn,SE.trConvert,SE.trFieldAddr,SE.trField,SE.trIndexAddr,SE.trIndex,SE.trSlice,SE.trMakeSlice,SE.trExtract,SE.trLen,SE.trAppend,SE.trCopy,SE.trFn,SE.trCall,SE.argsS,SE.ev,SE.constS,SE.junk,SE.sv,SE.upd_app,SE.adds,SE.sets,SE.nid,SE.St.app,SE.St.put,SE.free,SE.freeL,SE.allFree,SE.rids,SE.AK.rids,SE.castL,SE.rdl,SE.AK.dec,SE.decs,SE.AK.enc,SE.encs,SE.AK.res,SE.ress,SE.pack1,SE.zcells,SE.zeroOf,SE.partCells,SE.putc,SE.fills,SE.datas,SE.elemOf,SE.elemsOf,SE.notSpent,SE.cellsAt,SE.weak,SE.dcellsAt,SE.slAt,SE.rdPlus,SE.intAt,SE.updElem,SE.kill,SE.noJunk,SE.inK,SE.binI,SE.shf,SE.isShift,SE.eqCells,SE.aggS,SE.intOp,SE.nested,SE.hasRdr,SE.refsC,SE.refsCs,SE.ownsC,SE.refsAr,SE.rdFits,SE.costIf,SE.Con.post,SE.Con.det,SE.Ty.cells,SE.Ty.sz,SE.Ty.zero,SE.Ty.flat,SE.Ty.dec,SE.retOk,SE.loadsS,SE.loadS,SE.decRs,SE.decR,SE.outC,SE.rdC,SE.allDiff,SE.notIn,SE.notFrozen,SE.apartL,SE.rdEnd,SE.firstReg,SE.headC,SE.fitsC,SE.idsC,SE.keepE,SE.keepM,SE.keepB,SE.inL,SE.puts,SE.ownRes,SE.ownEnv,SE.renL,SE.srcId,SE.lookR,SE.envSame,SE.envSets,SE.memSame,SE.memBlks,SE.memOwns,SE.famsOf,SE.allIn,SE.closedE,SE.closedV,SE.closedM,SE.closedR,SE.rdLe,SE.S.refs,SE.S0.refs,SE.CV.refs,SE.refsL,SE.refsT,SE.S.ren,SE.S0.ren,SE.CV.ren,SE.Res.refs,SE.Res.ren,min_i64,max_i64,min_u16,max_u16,min_u8,max_u8,min_u64,max_u64,S.s.injEq,S0.c.injEq,CV.d.injEq,DC.val.injEq,Value.int.injEq,Value.bool.injEq,Value.string.injEq,eta_fact,eta_atom,eta_asn,eta_state,List.mem_cons,List.mem_nil_iff,or_false,false_or,or_true,true_or,Option.map_some,Option.map_none,Option.bind_some,Option.getD_some,Option.getD_none,Nat.reduceEqDiff,Nat.reduceAdd,Nat.reduceMul,Nat.reduceLeDiff,↓reduceIte,reduceCtorEq,true_and,and_true,and_self,forall_const,implies_true,true_implies,List.getElem?_toArray,List.getElem?_cons_succ,List.getElem?_cons_zero,List.append_nil,List.nil_append,List.cons_append,List.length_cons,List.length_nil,List.take_succ_cons,List.take_zero,List.drop_succ_cons,List.drop_zero,List.set_cons_zero,List.set_cons_succ,List.map_cons,List.map_nil,Nat.add_zero,Nat.zero_add,forall_eq,Prod.forall,Bool.not_true,Bool.not_false,Nat.lt_irrefl,Nat.zero_lt_succ,List.singleton_append,Prod.mk.injEq,Nat.zero_mul,Nat.one_mul,Nat.reducePow,Option.some.injEq,not_false_eq_true,Int.toNat_natCast,Nat.sub_zero,Nat.le_refl,Bool.or_false,Bool.false_or,Bool.or_true,Bool.true_or,Bool.and_true,Bool.true_and,Bool.and_false,Bool.false_and,Bool.or_self,Bool.and_self,List.append_eq,and_false,false_and]
 obtain ⟨a1,a2⟩:=a;obtain ⟨b1,b2⟩:=b
 all_goals (try simp only [vcIf_iff,decide_eq_true_eq,decide_eq_false_iff_not,bne_iff_ne,ne_eq,beq_iff_eq,beq_eq_false_iff_ne,bne_eq_false_iff_eq,Bool.not_eq_true',Bool.not_eq_false',Int.ofNat_lt,Int.natCast_inj])
 all_goals (repeat' (first | apply And.intro | intro _))
 all_goals (first | omega | (simp_all;done) | grind [])
theorem ok_eqState:FnOk Try.prog E 23 c_eqState :=
 fn_ok (l:=L_eqState) (perm:=fun _=>[]) tabOk mix ⟨ok_eqIntS,trivial⟩ Try.func23 rfl (by kernel_rfl) (by decide) (by kernel_rfl) (anns:=fun x _=>fun _=>none) (fun ⟨a,b,_⟩ k hp _=>vc_eqState a b k hp) tot_fn
abbrev c_eqFact:Con:=⟨[.fact,.fact],[.bool],fun _=>True,.inl fun (f,g,_)=>(decide (f=g),()),fun _=>0⟩
abbrev L_eqFact:List (FuncId × Con):=[]
abbrev P_eqFact:List (FuncId × PT):=[]
def VC_eqFact_1 (f:GFact) (g:GFact):Prop:=True/\(((false,()):Bool × Unit)=(decide (f=g),()))/\True/\True/\True/\True/\TF
def VC_eqFact (f:GFact) (g:GFact) (k:Nat):Prop:=TN/\TN/\True/\True/\True/\True/\True/\True/\(vcIf (f.eq != g.eq) (VC_eqFact_1 f g) (True/\True/\True/\True/\True/\(vcIf (f.a != g.a) (VC_eqFact_1 f g) (True/\True/\True/\True/\True/\(vcIf (f.b != g.b) (VC_eqFact_1 f g) (True/\(((true,()):Bool × Unit)=(decide (f=g),()))/\True/\True/\True/\True/\TF))))))
theorem vcn_eqFact (f:GFact) (g:GFact) (k:Nat):VC_eqFact f g k:=by
 unfold VC_eqFact VC_eqFact_1
 simp only [cln,Nat.reduceEqDiff,Nat.reduceLeDiff,Nat.reduceAdd]
 obtain ⟨f1,f2,f3⟩:=f;obtain ⟨g1,g2,g3⟩:=g
 all_goals (try simp only [opn])
 all_goals (repeat' (first | apply And.intro | intro _))
 all_goals (first | omega | (simp_all;done) | grind [])
theorem ok_eqFact:FnOk Try.prog E 120 c_eqFact :=
 fn_okQ (l:=L_eqFact) (lp:=P_eqFact) (hp:=fun _=>false) (gcs:=fun _=>none) (perm:=fun _=>[]) tabOk mix trivial trivial Try.func120 rfl (by kernel_rfl) (by decide) (by kernel_rfl) (anns:=fun x _=>fun _ _=>none) (fun ⟨f,g,_⟩ k _ _=>Eq.mp (by kernel_rfl) (vcn_eqFact f g k)) tot_fn
abbrev c_eqFactS:Con:=⟨[.sl .fact,.sl .fact],[.bool],fun (a,b,_)=>a.length<=281474976710656/\b.length<=281474976710656,.inl fun (a,b,_)=>(decide (a=b),()),fun _=>0⟩
abbrev L_eqFactS:List (FuncId × Con):=[(120,c_eqFact)]
abbrev P_eqFactS:List (FuncId × PT):=[]
def an_eqFactS (a:List GFact) (b:List GFact):Nat->St->Option Ann
 | 4,se=>some { α:=Nat,ok:=fun i=>i<=a.length/\a.length=b.length/\a.take i=b.take i,mu:=fun i=>a.length - i,i0:=fun _=>0,nx:=fun a _=>(fun i=>i+1) a,live:=[0,1],sets:=fun i=>[(5,sv (.int .i64 i))],mids:=[],blks:=fun i=>[],owns:=fun i=>[],rd:=fun r _=>r,base:=100000 }
 | _,_=>none
def VC_eqFactS_1 (a:List GFact) (b:List GFact):Prop:=True/\(((false,()):Bool × Unit)=(decide (a=b),()))/\True/\True/\True/\True/\TF
def VC_eqFactS (a:List GFact) (b:List GFact) (k:Nat):Prop:=True/\True/\True/\True/\True/\True/\(vcIf (((a.length:Nat):Int) != ((b.length:Nat):Int)) (VC_eqFactS_1 a b) (True/\((0<=a.length/\a.length=b.length/\a.take 0=b.take 0)/\TT/\(RL [.s (.c (.d (.arr .fact a))),.s (.c (.d (.arr .fact b)))])/\(([.s (.c (.d (.val (.int .i64 (0:Int)))))]:List S)=[.s (.c (.d (.val (.int .i64 ((0:Nat):Int)))))])/\(RM [])/\(RM [])/\True/\TT)/\(∀ i1:Nat,(i1<=a.length/\a.length=b.length/\a.take i1=b.take i1)->True/\True/\True/\True/\(vcIf (decide (((i1:Nat):Int) < ((a.length:Nat):Int))) (True/\True/\(0<=((i1:Nat):Int)/\((i1:Nat):Int) < ((a.length:Nat):Int))/\True/\True/\True/\(0<=((i1:Nat):Int)/\((i1:Nat):Int) < ((b.length:Nat):Int))/\True/\(True/\True/\True)/\True/\(vcIf (!(decide ((a.getD i1 (⟨false,0,0⟩:GFact))=(b.getD i1 (⟨false,0,0⟩:GFact))))) (VC_eqFactS_1 a b) (True/\(inK .i64 (((i1:Nat):Int)+(1:Int)))/\True/\((i1+1)<=a.length/\a.length=b.length/\a.take (i1+1)=b.take (i1+1))/\(a.length - (i1+1) < a.length - i1)/\TT/\(RL [.s (.c (.d (.arr .fact a))),.s (.c (.d (.arr .fact b)))])/\(([.s (.c (.d (.val (.int .i64 (((i1:Nat):Int)+(1:Int))))))]:List S)=[.s (.c (.d (.val (.int .i64 (((i1+1):Nat):Int)))))])/\(RM [])/\(RM [])/\True/\TT))) (True/\(((true,()):Bool × Unit)=(decide (a=b),()))/\True/\True/\True/\True/\TF)))))
theorem vcn_eqFactS (a:List GFact) (b:List GFact) (k:Nat) (hp:a.length<=281474976710656/\b.length<=281474976710656):VC_eqFactS a b k:=by
 unfold VC_eqFactS VC_eqFactS_1
 simp only [cln,Nat.reduceEqDiff,Nat.reduceLeDiff,Nat.reduceAdd]
 all_goals (try simp only [opn])
 all_goals (repeat' (first | apply And.intro | intro _))
 all_goals (first | omega | (simp_all;done) | grind [same_step,same_not,take_full])
theorem ok_eqFactS:FnOk Try.prog E 66 c_eqFactS :=
 fn_okQ (l:=L_eqFactS) (lp:=P_eqFactS) (hp:=fun _=>false) (gcs:=fun _=>none) (perm:=fun _=>[]) tabOk mix ⟨ok_eqFact,trivial⟩ trivial Try.func66 rfl (by kernel_rfl) (by decide) (by kernel_rfl) (anns:=fun x _=>an_eqFactS x.1 x.2.1) (fun ⟨a,b,_⟩ k hp _=>Eq.mp (by kernel_rfl) (vcn_eqFactS a b k hp)) tot_fn
abbrev c_eqAtom:Con:=⟨[.atom,.atom],[.bool],fun _=>True,.inl fun (f,g,_)=>(decide (f=g),()),fun _=>0⟩
abbrev L_eqAtom:List (FuncId × Con):=[]
abbrev P_eqAtom:List (FuncId × PT):=[]
def VC_eqAtom_1 (f:GAtom) (g:GAtom):Prop:=True/\(((false,()):Bool × Unit)=(decide (f=g),()))/\True/\True/\True/\True/\TF
def VC_eqAtom (f:GAtom) (g:GAtom) (k:Nat):Prop:=TN/\TN/\True/\True/\True/\True/\True/\True/\(vcIf (f.kind != g.kind) (VC_eqAtom_1 f g) (True/\True/\True/\True/\True/\(vcIf (f.a != g.a) (VC_eqAtom_1 f g) (True/\True/\True/\True/\True/\(vcIf (f.b != g.b) (VC_eqAtom_1 f g) (True/\(((true,()):Bool × Unit)=(decide (f=g),()))/\True/\True/\True/\True/\TF))))))
theorem vcn_eqAtom (f:GAtom) (g:GAtom) (k:Nat):VC_eqAtom f g k:=by
 unfold VC_eqAtom VC_eqAtom_1
 simp only [cln,Nat.reduceEqDiff,Nat.reduceLeDiff,Nat.reduceAdd]
 obtain ⟨f1,f2,f3⟩:=f;obtain ⟨g1,g2,g3⟩:=g
 all_goals (try simp only [opn])
 all_goals (repeat' (first | apply And.intro | intro _))
 all_goals (first | omega | (simp_all;done) | grind [])
theorem ok_eqAtom:FnOk Try.prog E 121 c_eqAtom :=
 fn_okQ (l:=L_eqAtom) (lp:=P_eqAtom) (hp:=fun _=>false) (gcs:=fun _=>none) (perm:=fun _=>[]) tabOk mix trivial trivial Try.func121 rfl (by kernel_rfl) (by decide) (by kernel_rfl) (anns:=fun x _=>fun _ _=>none) (fun ⟨f,g,_⟩ k _ _=>Eq.mp (by kernel_rfl) (vcn_eqAtom f g k)) tot_fn
abbrev c_eqAtomS:Con:=⟨[.sl .atom,.sl .atom],[.bool],fun (a,b,_)=>a.length<=281474976710656/\b.length<=281474976710656,.inl fun (a,b,_)=>(decide (a=b),()),fun _=>0⟩
abbrev L_eqAtomS:List (FuncId × Con):=[(121,c_eqAtom)]
abbrev P_eqAtomS:List (FuncId × PT):=[]
def an_eqAtomS (a:List GAtom) (b:List GAtom):Nat->St->Option Ann
 | 4,se=>some { α:=Nat,ok:=fun i=>i<=a.length/\a.length=b.length/\a.take i=b.take i,mu:=fun i=>a.length - i,i0:=fun _=>0,nx:=fun a _=>(fun i=>i+1) a,live:=[0,1],sets:=fun i=>[(5,sv (.int .i64 i))],mids:=[],blks:=fun i=>[],owns:=fun i=>[],rd:=fun r _=>r,base:=100000 }
 | _,_=>none
def VC_eqAtomS_1 (a:List GAtom) (b:List GAtom):Prop:=True/\(((false,()):Bool × Unit)=(decide (a=b),()))/\True/\True/\True/\True/\TF
def VC_eqAtomS (a:List GAtom) (b:List GAtom) (k:Nat):Prop:=True/\True/\True/\True/\True/\True/\(vcIf (((a.length:Nat):Int) != ((b.length:Nat):Int)) (VC_eqAtomS_1 a b) (True/\((0<=a.length/\a.length=b.length/\a.take 0=b.take 0)/\TT/\(RL [.s (.c (.d (.arr .atom a))),.s (.c (.d (.arr .atom b)))])/\(([.s (.c (.d (.val (.int .i64 (0:Int)))))]:List S)=[.s (.c (.d (.val (.int .i64 ((0:Nat):Int)))))])/\(RM [])/\(RM [])/\True/\TT)/\(∀ i1:Nat,(i1<=a.length/\a.length=b.length/\a.take i1=b.take i1)->True/\True/\True/\True/\(vcIf (decide (((i1:Nat):Int) < ((a.length:Nat):Int))) (True/\True/\(0<=((i1:Nat):Int)/\((i1:Nat):Int) < ((a.length:Nat):Int))/\True/\True/\True/\(0<=((i1:Nat):Int)/\((i1:Nat):Int) < ((b.length:Nat):Int))/\True/\(True/\True/\True)/\True/\(vcIf (!(decide ((a.getD i1 (⟨0,0,0⟩:GAtom))=(b.getD i1 (⟨0,0,0⟩:GAtom))))) (VC_eqAtomS_1 a b) (True/\(inK .i64 (((i1:Nat):Int)+(1:Int)))/\True/\((i1+1)<=a.length/\a.length=b.length/\a.take (i1+1)=b.take (i1+1))/\(a.length - (i1+1) < a.length - i1)/\TT/\(RL [.s (.c (.d (.arr .atom a))),.s (.c (.d (.arr .atom b)))])/\(([.s (.c (.d (.val (.int .i64 (((i1:Nat):Int)+(1:Int))))))]:List S)=[.s (.c (.d (.val (.int .i64 (((i1+1):Nat):Int)))))])/\(RM [])/\(RM [])/\True/\TT))) (True/\(((true,()):Bool × Unit)=(decide (a=b),()))/\True/\True/\True/\True/\TF)))))
theorem vcn_eqAtomS (a:List GAtom) (b:List GAtom) (k:Nat) (hp:a.length<=281474976710656/\b.length<=281474976710656):VC_eqAtomS a b k:=by
 unfold VC_eqAtomS VC_eqAtomS_1
 simp only [cln,Nat.reduceEqDiff,Nat.reduceLeDiff,Nat.reduceAdd]
 all_goals (try simp only [opn])
 all_goals (repeat' (first | apply And.intro | intro _))
 all_goals (first | omega | (simp_all;done) | grind [same_step,same_not,take_full])
theorem ok_eqAtomS:FnOk Try.prog E 67 c_eqAtomS :=
 fn_okQ (l:=L_eqAtomS) (lp:=P_eqAtomS) (hp:=fun _=>false) (gcs:=fun _=>none) (perm:=fun _=>[]) tabOk mix ⟨ok_eqAtom,trivial⟩ trivial Try.func67 rfl (by kernel_rfl) (by decide) (by kernel_rfl) (anns:=fun x _=>an_eqAtomS x.1 x.2.1) (fun ⟨a,b,_⟩ k hp _=>Eq.mp (by kernel_rfl) (vcn_eqAtomS a b k hp)) tot_fn
abbrev c_eqAssertion:Con:=⟨[.asn,.asn],[.bool],fun (a,b,_)=>a.facts.length<=281474976710656/\a.atoms.length<=281474976710656/\b.facts.length<=281474976710656/\b.atoms.length<=281474976710656,.inl fun (a,b,_)=>(decide (a=b),()),fun _=>0⟩
abbrev L_eqAssertion:List (FuncId × Con):=[(66,c_eqFactS),(67,c_eqAtomS)]
abbrev P_eqAssertion:List (FuncId × PT):=[]
def VC_eqAssertion_1 (a:GAsn) (b:GAsn):Prop:=True/\(((false,()):Bool × Unit)=(decide (a=b),()))/\True/\True/\True/\True/\TF
def VC_eqAssertion (a:GAsn) (b:GAsn) (k:Nat):Prop:=TN/\TN/\True/\True/\True/\True/\True/\((a.facts.length<=281474976710656/\b.facts.length<=281474976710656)/\True/\True)/\True/\(vcIf (!(decide (a.facts=b.facts))) (VC_eqAssertion_1 a b) (True/\True/\True/\True/\((a.atoms.length<=281474976710656/\b.atoms.length<=281474976710656)/\True/\True)/\True/\(vcIf (!(decide (a.atoms=b.atoms))) (VC_eqAssertion_1 a b) (True/\(((true,()):Bool × Unit)=(decide (a=b),()))/\True/\True/\True/\True/\TF))))
theorem vcn_eqAssertion (a:GAsn) (b:GAsn) (k:Nat) (hp:a.facts.length<=281474976710656/\a.atoms.length<=281474976710656/\b.facts.length<=281474976710656/\b.atoms.length<=281474976710656):VC_eqAssertion a b k:=by
 unfold VC_eqAssertion VC_eqAssertion_1
 simp only [cln,Nat.reduceEqDiff,Nat.reduceLeDiff,Nat.reduceAdd]
 obtain ⟨a1,a2⟩:=a;obtain ⟨b1,b2⟩:=b
 all_goals (try simp only [opn])
 all_goals (repeat' (first | apply And.intro | intro _))
 all_goals (first | omega | (simp_all;done) | grind [])
theorem ok_eqAssertion:FnOk Try.prog E 24 c_eqAssertion :=
 fn_okQ (l:=L_eqAssertion) (lp:=P_eqAssertion) (hp:=fun _=>false) (gcs:=fun _=>none) (perm:=fun _=>[]) tabOk mix ⟨ok_eqFactS,ok_eqAtomS,trivial⟩ trivial Try.func24 rfl (by kernel_rfl) (by decide) (by kernel_rfl) (anns:=fun x _=>fun _ _=>none) (fun ⟨a,b,_⟩ k hp _=>Eq.mp (by kernel_rfl) (vcn_eqAssertion a b k hp)) tot_fn
abbrev m_markFactS:MCon:=⟨[],.fact,[.int],fun _ l (n,_)=>0<=n/\n<=4611686018427387904/\l.length<=281474976710656,fun _ l (n,_)=>.int .i64 (n+3 * (l.length:Int)),fun _ l (n,_)=>mkF l n⟩
abbrev pt_markFactS:PT:=ptM m_markFactS
abbrev L_markFactS:List (FuncId × Con):=[]
abbrev P_markFactS:List (FuncId × PT):=[]
def an_markFactS (l:List GFact) (n:Int):Nat->St->Option Ann
 | 2,se=>some { α:=Nat,ok:=fun i=>i<=l.length,mu:=fun i=>l.length - i,i0:=fun _=>0,nx:=fun a _=>(fun i=>i+1) a,live:=[4],sets:=fun i=>[(5,sv (.int .i64 i)),(1,sv (.int .i64 (n+3 * (i:Int))))],mids:=[],blks:=fun i=>[],owns:=fun i=>[⟨7,.slot 0,.fact,mkU (fF n) l i⟩],rd:=fun r _=>r,base:=100000 }
 | _,_=>none
def VC_markFactS_1 (i1:Nat) (l:List GFact) (n:Int):Prop:=((inK .i64 (((i1:Nat):Int)+(1:Int)))/\True/\((i1+1)<=l.length)/\(l.length - (i1+1) < l.length - i1)/\TT/\(RL [.s (.c (.d (.val (.int .i64 (0:Int)))))])/\(([.s (.c (.d (.val (.int .i64 (((i1:Nat):Int)+(1:Int)))))),.s (.c (.d (.val (.int .i64 ((((n+3 * (i1:Int):Int)+(1:Int))+(1:Int))+(1:Int))))))]:List S)=[.s (.c (.d (.val (.int .i64 (((i1+1):Nat):Int))))),.s (.c (.d (.val (.int .i64 (n+3 * ((i1+1):Int):Int)))))])/\(RM [])/\(RM [])/\(((some ((((mkU (fF n) l i1).set i1 (⟨(Int.tmod (n+3 * (i1:Int):Int) (3:Int)) == (0:Int),((mkU (fF n) l i1).getD i1 (⟨false,0,0⟩:GFact)).a,((mkU (fF n) l i1).getD i1 (⟨false,0,0⟩:GFact)).b⟩:GFact)).set i1 (⟨(((mkU (fF n) l i1).set i1 (⟨(Int.tmod (n+3 * (i1:Int):Int) (3:Int)) == (0:Int),((mkU (fF n) l i1).getD i1 (⟨false,0,0⟩:GFact)).a,((mkU (fF n) l i1).getD i1 (⟨false,0,0⟩:GFact)).b⟩:GFact)).getD i1 (⟨false,0,0⟩:GFact)).eq,(n+3 * (i1:Int):Int)+(1:Int),(((mkU (fF n) l i1).set i1 (⟨(Int.tmod (n+3 * (i1:Int):Int) (3:Int)) == (0:Int),((mkU (fF n) l i1).getD i1 (⟨false,0,0⟩:GFact)).a,((mkU (fF n) l i1).getD i1 (⟨false,0,0⟩:GFact)).b⟩:GFact)).getD i1 (⟨false,0,0⟩:GFact)).b⟩:GFact)).set i1 (⟨((((mkU (fF n) l i1).set i1 (⟨(Int.tmod (n+3 * (i1:Int):Int) (3:Int)) == (0:Int),((mkU (fF n) l i1).getD i1 (⟨false,0,0⟩:GFact)).a,((mkU (fF n) l i1).getD i1 (⟨false,0,0⟩:GFact)).b⟩:GFact)).set i1 (⟨(((mkU (fF n) l i1).set i1 (⟨(Int.tmod (n+3 * (i1:Int):Int) (3:Int)) == (0:Int),((mkU (fF n) l i1).getD i1 (⟨false,0,0⟩:GFact)).a,((mkU (fF n) l i1).getD i1 (⟨false,0,0⟩:GFact)).b⟩:GFact)).getD i1 (⟨false,0,0⟩:GFact)).eq,(n+3 * (i1:Int):Int)+(1:Int),(((mkU (fF n) l i1).set i1 (⟨(Int.tmod (n+3 * (i1:Int):Int) (3:Int)) == (0:Int),((mkU (fF n) l i1).getD i1 (⟨false,0,0⟩:GFact)).a,((mkU (fF n) l i1).getD i1 (⟨false,0,0⟩:GFact)).b⟩:GFact)).getD i1 (⟨false,0,0⟩:GFact)).b⟩:GFact)).getD i1 (⟨false,0,0⟩:GFact)).eq,((((mkU (fF n) l i1).set i1 (⟨(Int.tmod (n+3 * (i1:Int):Int) (3:Int)) == (0:Int),((mkU (fF n) l i1).getD i1 (⟨false,0,0⟩:GFact)).a,((mkU (fF n) l i1).getD i1 (⟨false,0,0⟩:GFact)).b⟩:GFact)).set i1 (⟨(((mkU (fF n) l i1).set i1 (⟨(Int.tmod (n+3 * (i1:Int):Int) (3:Int)) == (0:Int),((mkU (fF n) l i1).getD i1 (⟨false,0,0⟩:GFact)).a,((mkU (fF n) l i1).getD i1 (⟨false,0,0⟩:GFact)).b⟩:GFact)).getD i1 (⟨false,0,0⟩:GFact)).eq,(n+3 * (i1:Int):Int)+(1:Int),(((mkU (fF n) l i1).set i1 (⟨(Int.tmod (n+3 * (i1:Int):Int) (3:Int)) == (0:Int),((mkU (fF n) l i1).getD i1 (⟨false,0,0⟩:GFact)).a,((mkU (fF n) l i1).getD i1 (⟨false,0,0⟩:GFact)).b⟩:GFact)).getD i1 (⟨false,0,0⟩:GFact)).b⟩:GFact)).getD i1 (⟨false,0,0⟩:GFact)).a,((n+3 * (i1:Int):Int)+(1:Int))+(1:Int)⟩:GFact)):Option (List GFact))=some (mkU (fF n) l (i1+1)))/\True)/\TT)
def VC_markFactS (l:List GFact) (n:Int) (k:Nat):Prop:=True/\True/\((0<=l.length)/\TT/\(RL [.s (.c (.d (.val (.int .i64 (0:Int)))))])/\(([.s (.c (.d (.val (.int .i64 (0:Int))))),.s (.c (.d (.val (.int .i64 n))))]:List S)=[.s (.c (.d (.val (.int .i64 ((0:Nat):Int))))),.s (.c (.d (.val (.int .i64 (n+3 * (0:Int):Int)))))])/\(RM [])/\(RM [])/\(((some l:Option (List GFact))=some (mkU (fF n) l 0))/\True)/\TT)/\(∀ i1:Nat,(i1<=l.length)->True/\True/\True/\True/\(vcIf (decide (((i1:Nat):Int) < (((mkU (fF n) l i1).length:Nat):Int))) (True/\True/\True/\((3:Int) ≠ 0)/\True/\(0<=((i1:Nat):Int)/\((i1:Nat):Int) < (((mkU (fF n) l i1).length:Nat):Int))/\True/\(TF/\TF/\True/\((7:Nat) ∉ ([]:List Nat)))/\True/\(inK .i64 ((n+3 * (i1:Int):Int)+(1:Int)))/\True/\True/\True/\True/\(0<=((i1:Nat):Int)/\((i1:Nat):Int) < ((((mkU (fF n) l i1).set i1 (⟨(Int.tmod (n+3 * (i1:Int):Int) (3:Int)) == (0:Int),((mkU (fF n) l i1).getD i1 (⟨false,0,0⟩:GFact)).a,((mkU (fF n) l i1).getD i1 (⟨false,0,0⟩:GFact)).b⟩:GFact)).length:Nat):Int))/\True/\(TF/\TF/\True/\((7:Nat) ∉ ([]:List Nat)))/\True/\(inK .i64 (((n+3 * (i1:Int):Int)+(1:Int))+(1:Int)))/\True/\True/\True/\True/\(0<=((i1:Nat):Int)/\((i1:Nat):Int) < (((((mkU (fF n) l i1).set i1 (⟨(Int.tmod (n+3 * (i1:Int):Int) (3:Int)) == (0:Int),((mkU (fF n) l i1).getD i1 (⟨false,0,0⟩:GFact)).a,((mkU (fF n) l i1).getD i1 (⟨false,0,0⟩:GFact)).b⟩:GFact)).set i1 (⟨(((mkU (fF n) l i1).set i1 (⟨(Int.tmod (n+3 * (i1:Int):Int) (3:Int)) == (0:Int),((mkU (fF n) l i1).getD i1 (⟨false,0,0⟩:GFact)).a,((mkU (fF n) l i1).getD i1 (⟨false,0,0⟩:GFact)).b⟩:GFact)).getD i1 (⟨false,0,0⟩:GFact)).eq,(n+3 * (i1:Int):Int)+(1:Int),(((mkU (fF n) l i1).set i1 (⟨(Int.tmod (n+3 * (i1:Int):Int) (3:Int)) == (0:Int),((mkU (fF n) l i1).getD i1 (⟨false,0,0⟩:GFact)).a,((mkU (fF n) l i1).getD i1 (⟨false,0,0⟩:GFact)).b⟩:GFact)).getD i1 (⟨false,0,0⟩:GFact)).b⟩:GFact)).length:Nat):Int))/\True/\(TF/\TF/\True/\((7:Nat) ∉ ([]:List Nat)))/\True/\(inK .i64 ((((n+3 * (i1:Int):Int)+(1:Int))+(1:Int))+(1:Int)))/\True/\True/\(VC_markFactS_1 i1 l n)) (True/\True/\((some [.c (.d (.val (.int .i64 (n+3 * (i1:Int):Int))))]:Option (List S0))=some [.c (.d (.val (.int .i64 (n+3 * (l.length:Int)))))])/\((some (mkU (fF n) l i1):Option (List GFact))=some (mkF l n)))))
theorem vcn_markFactS (l:List GFact) (n:Int) (k:Nat) (hp:0<=n/\n<=4611686018427387904/\l.length<=281474976710656):VC_markFactS l n k:=by
 unfold VC_markFactS VC_markFactS_1
 simp only [cln,Nat.reduceEqDiff,Nat.reduceLeDiff,Nat.reduceAdd]
 all_goals (try simp only [opn])
 all_goals (repeat' (first | apply And.intro | intro _))
 all_goals (try simp (disch:=assumption) only [set3_len,mkU_sl,mkU_len] at *)
 all_goals (first | omega | (simp_all;done) | exact mkU_zero.symm | exact mkU_full ‹_› ‹_› | (rw [← mkU_set ‹_›];(try simp (disch:=assumption) only [set_twice,mkU_gs,fF]);first | done | rfl | (congr 2 <;> omega) | (congr 3 <;> omega)) | grind [mkU_zero,mkU_full])
theorem ptok_markFactS:PTOk Try.prog E 68 pt_markFactS :=
 mut_ok (l:=L_markFactS) (lp:=P_markFactS) (hp:=fun _=>false) (perm:=fun _=>[]) tabOk mix trivial trivial Try.func68 rfl (by kernel_rfl) rfl (by decide) (by kernel_rfl) (anns:=fun x l y=>an_markFactS l y.1) (fun _ l ⟨n,_⟩ hp=>Eq.mp (by kernel_rfl) (vcn_markFactS l n 0 hp))
abbrev m_markAtomS:MCon:=⟨[],.atom,[.int],fun _ l (n,_)=>0<=n/\n<=4611686018427387904/\l.length<=281474976710656,fun _ l (n,_)=>.int .i64 (n+3 * (l.length:Int)),fun _ l (n,_)=>mkG l n⟩
abbrev pt_markAtomS:PT:=ptM m_markAtomS
abbrev L_markAtomS:List (FuncId × Con):=[]
abbrev P_markAtomS:List (FuncId × PT):=[]
def an_markAtomS (l:List GAtom) (n:Int):Nat->St->Option Ann
 | 2,se=>some { α:=Nat,ok:=fun i=>i<=l.length,mu:=fun i=>l.length - i,i0:=fun _=>0,nx:=fun a _=>(fun i=>i+1) a,live:=[4],sets:=fun i=>[(5,sv (.int .i64 i)),(1,sv (.int .i64 (n+3 * (i:Int))))],mids:=[],blks:=fun i=>[],owns:=fun i=>[⟨7,.slot 0,.atom,mkU (fG n) l i⟩],rd:=fun r _=>r,base:=100000 }
 | _,_=>none
def VC_markAtomS_1 (i1:Nat) (n:Int) (l:List GAtom):Prop:=((0<=((i1:Nat):Int)/\((i1:Nat):Int) < (((((mkU (fG n) l i1).set i1 (⟨(n+3 * (i1:Int):Int),((mkU (fG n) l i1).getD i1 (⟨0,0,0⟩:GAtom)).a,((mkU (fG n) l i1).getD i1 (⟨0,0,0⟩:GAtom)).b⟩:GAtom)).set i1 (⟨(((mkU (fG n) l i1).set i1 (⟨(n+3 * (i1:Int):Int),((mkU (fG n) l i1).getD i1 (⟨0,0,0⟩:GAtom)).a,((mkU (fG n) l i1).getD i1 (⟨0,0,0⟩:GAtom)).b⟩:GAtom)).getD i1 (⟨0,0,0⟩:GAtom)).kind,(n+3 * (i1:Int):Int)+(1:Int),(((mkU (fG n) l i1).set i1 (⟨(n+3 * (i1:Int):Int),((mkU (fG n) l i1).getD i1 (⟨0,0,0⟩:GAtom)).a,((mkU (fG n) l i1).getD i1 (⟨0,0,0⟩:GAtom)).b⟩:GAtom)).getD i1 (⟨0,0,0⟩:GAtom)).b⟩:GAtom)).length:Nat):Int))/\True/\(TF/\TF/\True/\((7:Nat) ∉ ([]:List Nat)))/\True/\(inK .i64 ((((n+3 * (i1:Int):Int)+(1:Int))+(1:Int))+(1:Int)))/\True/\True/\(inK .i64 (((i1:Nat):Int)+(1:Int)))/\True/\((i1+1)<=l.length)/\(l.length - (i1+1) < l.length - i1)/\TT/\(RL [.s (.c (.d (.val (.int .i64 (0:Int)))))])/\(([.s (.c (.d (.val (.int .i64 (((i1:Nat):Int)+(1:Int)))))),.s (.c (.d (.val (.int .i64 ((((n+3 * (i1:Int):Int)+(1:Int))+(1:Int))+(1:Int))))))]:List S)=[.s (.c (.d (.val (.int .i64 (((i1+1):Nat):Int))))),.s (.c (.d (.val (.int .i64 (n+3 * ((i1+1):Int):Int)))))])/\(RM [])/\(RM [])/\(((some ((((mkU (fG n) l i1).set i1 (⟨(n+3 * (i1:Int):Int),((mkU (fG n) l i1).getD i1 (⟨0,0,0⟩:GAtom)).a,((mkU (fG n) l i1).getD i1 (⟨0,0,0⟩:GAtom)).b⟩:GAtom)).set i1 (⟨(((mkU (fG n) l i1).set i1 (⟨(n+3 * (i1:Int):Int),((mkU (fG n) l i1).getD i1 (⟨0,0,0⟩:GAtom)).a,((mkU (fG n) l i1).getD i1 (⟨0,0,0⟩:GAtom)).b⟩:GAtom)).getD i1 (⟨0,0,0⟩:GAtom)).kind,(n+3 * (i1:Int):Int)+(1:Int),(((mkU (fG n) l i1).set i1 (⟨(n+3 * (i1:Int):Int),((mkU (fG n) l i1).getD i1 (⟨0,0,0⟩:GAtom)).a,((mkU (fG n) l i1).getD i1 (⟨0,0,0⟩:GAtom)).b⟩:GAtom)).getD i1 (⟨0,0,0⟩:GAtom)).b⟩:GAtom)).set i1 (⟨((((mkU (fG n) l i1).set i1 (⟨(n+3 * (i1:Int):Int),((mkU (fG n) l i1).getD i1 (⟨0,0,0⟩:GAtom)).a,((mkU (fG n) l i1).getD i1 (⟨0,0,0⟩:GAtom)).b⟩:GAtom)).set i1 (⟨(((mkU (fG n) l i1).set i1 (⟨(n+3 * (i1:Int):Int),((mkU (fG n) l i1).getD i1 (⟨0,0,0⟩:GAtom)).a,((mkU (fG n) l i1).getD i1 (⟨0,0,0⟩:GAtom)).b⟩:GAtom)).getD i1 (⟨0,0,0⟩:GAtom)).kind,(n+3 * (i1:Int):Int)+(1:Int),(((mkU (fG n) l i1).set i1 (⟨(n+3 * (i1:Int):Int),((mkU (fG n) l i1).getD i1 (⟨0,0,0⟩:GAtom)).a,((mkU (fG n) l i1).getD i1 (⟨0,0,0⟩:GAtom)).b⟩:GAtom)).getD i1 (⟨0,0,0⟩:GAtom)).b⟩:GAtom)).getD i1 (⟨0,0,0⟩:GAtom)).kind,((((mkU (fG n) l i1).set i1 (⟨(n+3 * (i1:Int):Int),((mkU (fG n) l i1).getD i1 (⟨0,0,0⟩:GAtom)).a,((mkU (fG n) l i1).getD i1 (⟨0,0,0⟩:GAtom)).b⟩:GAtom)).set i1 (⟨(((mkU (fG n) l i1).set i1 (⟨(n+3 * (i1:Int):Int),((mkU (fG n) l i1).getD i1 (⟨0,0,0⟩:GAtom)).a,((mkU (fG n) l i1).getD i1 (⟨0,0,0⟩:GAtom)).b⟩:GAtom)).getD i1 (⟨0,0,0⟩:GAtom)).kind,(n+3 * (i1:Int):Int)+(1:Int),(((mkU (fG n) l i1).set i1 (⟨(n+3 * (i1:Int):Int),((mkU (fG n) l i1).getD i1 (⟨0,0,0⟩:GAtom)).a,((mkU (fG n) l i1).getD i1 (⟨0,0,0⟩:GAtom)).b⟩:GAtom)).getD i1 (⟨0,0,0⟩:GAtom)).b⟩:GAtom)).getD i1 (⟨0,0,0⟩:GAtom)).a,((n+3 * (i1:Int):Int)+(1:Int))+(1:Int)⟩:GAtom)):Option (List GAtom))=some (mkU (fG n) l (i1+1)))/\True)/\TT)
def VC_markAtomS (l:List GAtom) (n:Int) (k:Nat):Prop:=True/\True/\((0<=l.length)/\TT/\(RL [.s (.c (.d (.val (.int .i64 (0:Int)))))])/\(([.s (.c (.d (.val (.int .i64 (0:Int))))),.s (.c (.d (.val (.int .i64 n))))]:List S)=[.s (.c (.d (.val (.int .i64 ((0:Nat):Int))))),.s (.c (.d (.val (.int .i64 (n+3 * (0:Int):Int)))))])/\(RM [])/\(RM [])/\(((some l:Option (List GAtom))=some (mkU (fG n) l 0))/\True)/\TT)/\(∀ i1:Nat,(i1<=l.length)->True/\True/\True/\True/\(vcIf (decide (((i1:Nat):Int) < (((mkU (fG n) l i1).length:Nat):Int))) (True/\True/\True/\(0<=((i1:Nat):Int)/\((i1:Nat):Int) < (((mkU (fG n) l i1).length:Nat):Int))/\True/\(TF/\TF/\True/\((7:Nat) ∉ ([]:List Nat)))/\True/\(inK .i64 ((n+3 * (i1:Int):Int)+(1:Int)))/\True/\True/\True/\True/\(0<=((i1:Nat):Int)/\((i1:Nat):Int) < ((((mkU (fG n) l i1).set i1 (⟨(n+3 * (i1:Int):Int),((mkU (fG n) l i1).getD i1 (⟨0,0,0⟩:GAtom)).a,((mkU (fG n) l i1).getD i1 (⟨0,0,0⟩:GAtom)).b⟩:GAtom)).length:Nat):Int))/\True/\(TF/\TF/\True/\((7:Nat) ∉ ([]:List Nat)))/\True/\(inK .i64 (((n+3 * (i1:Int):Int)+(1:Int))+(1:Int)))/\True/\True/\True/\True/\(VC_markAtomS_1 i1 n l)) (True/\True/\((some [.c (.d (.val (.int .i64 (n+3 * (i1:Int):Int))))]:Option (List S0))=some [.c (.d (.val (.int .i64 (n+3 * (l.length:Int)))))])/\((some (mkU (fG n) l i1):Option (List GAtom))=some (mkG l n)))))
theorem vcn_markAtomS (l:List GAtom) (n:Int) (k:Nat) (hp:0<=n/\n<=4611686018427387904/\l.length<=281474976710656):VC_markAtomS l n k:=by
 unfold VC_markAtomS VC_markAtomS_1
 simp only [cln,Nat.reduceEqDiff,Nat.reduceLeDiff,Nat.reduceAdd]
 all_goals (try simp only [opn])
 all_goals (repeat' (first | apply And.intro | intro _))
 all_goals (try simp (disch:=assumption) only [set3_len,mkU_sl,mkU_len] at *)
 all_goals (first | omega | (simp_all;done) | exact mkU_zero.symm | exact mkU_full ‹_› ‹_› | (rw [← mkU_set ‹_›];(try simp (disch:=assumption) only [set_twice,mkU_gs,fG]);first | done | rfl | (congr 2 <;> omega) | (congr 3 <;> omega)) | grind [mkU_zero,mkU_full])
theorem ptok_markAtomS:PTOk Try.prog E 69 pt_markAtomS :=
 mut_ok (l:=L_markAtomS) (lp:=P_markAtomS) (hp:=fun _=>false) (perm:=fun _=>[]) tabOk mix trivial trivial Try.func69 rfl (by kernel_rfl) rfl (by decide) (by kernel_rfl) (anns:=fun x l y=>an_markAtomS l y.1) (fun _ l ⟨n,_⟩ hp=>Eq.mp (by kernel_rfl) (vcn_markAtomS l n 0 hp))
abbrev L_markAssertion:List (FuncId × Con):=[]
abbrev P_markAssertion:List (FuncId × PT):=[(68,pt_markFactS),(69,pt_markAtomS)]
def hp_markAssertion:Nat->Bool
 | 1=>true
 | 2=>true
 | _=>false
abbrev pt_markAssertion:PT:=inl tab (lookF L_markAssertion) (lookP P_markAssertion) (hp_markAssertion) (fun _ _=>none) (fun _ _ _ _=>none) (fun _=>[]) Try.f25.ntmps (bodyOf Try.f25) Try.f25.results.toList
theorem ptok_markAssertion:PTOk Try.prog E 25 pt_markAssertion :=
 pt_ok (l:=L_markAssertion) (lp:=P_markAssertion) tabOk mix trivial ⟨ptok_markFactS,ptok_markAtomS,trivial⟩ Try.func25 rfl (by kernel_rfl) (by kernel_rfl)
abbrev m_markIntS:MCon:=⟨[],.int,[.int],fun _ l (n,_)=>0<=n/\n<=4611686018427387904/\l.length<=281474976710656,fun _ l (n,_)=>.int .i64 (n+(l.length:Int)),fun _ l (n,_)=>mkI l n⟩
abbrev pt_markIntS:PT:=ptM m_markIntS
abbrev L_markIntS:List (FuncId × Con):=[]
abbrev P_markIntS:List (FuncId × PT):=[]
def an_markIntS (l:List Int) (n:Int):Nat->St->Option Ann
 | 2,se=>some { α:=Nat,ok:=fun i=>i<=l.length,mu:=fun i=>l.length - i,i0:=fun _=>0,nx:=fun a _=>(fun i=>i+1) a,live:=[4],sets:=fun i=>[(5,sv (.int .i64 i)),(1,sv (.int .i64 (n+(i:Int))))],mids:=[],blks:=fun i=>[],owns:=fun i=>[⟨7,.slot 0,.int,mkU (fI n) l i⟩],rd:=fun r _=>r,base:=100000 }
 | _,_=>none
def VC_markIntS (l:List Int) (n:Int) (k:Nat):Prop:=True/\True/\((0<=l.length)/\TT/\(RL [.s (.c (.d (.val (.int .i64 (0:Int)))))])/\(([.s (.c (.d (.val (.int .i64 (0:Int))))),.s (.c (.d (.val (.int .i64 n))))]:List S)=[.s (.c (.d (.val (.int .i64 ((0:Nat):Int))))),.s (.c (.d (.val (.int .i64 (n+(0:Int):Int)))))])/\(RM [])/\(RM [])/\(((some l:Option (List Int))=some (mkU (fI n) l 0))/\True)/\TT)/\(∀ i1:Nat,(i1<=l.length)->True/\True/\True/\True/\(vcIf (decide (((i1:Nat):Int) < (((mkU (fI n) l i1).length:Nat):Int))) (True/\True/\True/\(0<=((i1:Nat):Int)/\((i1:Nat):Int) < (((mkU (fI n) l i1).length:Nat):Int))/\(TF/\TF/\True/\((7:Nat) ∉ ([]:List Nat)))/\True/\(inK .i64 ((n+(i1:Int):Int)+(1:Int)))/\True/\True/\(inK .i64 (((i1:Nat):Int)+(1:Int)))/\True/\((i1+1)<=l.length)/\(l.length - (i1+1) < l.length - i1)/\TT/\(RL [.s (.c (.d (.val (.int .i64 (0:Int)))))])/\(([.s (.c (.d (.val (.int .i64 (((i1:Nat):Int)+(1:Int)))))),.s (.c (.d (.val (.int .i64 ((n+(i1:Int):Int)+(1:Int))))))]:List S)=[.s (.c (.d (.val (.int .i64 (((i1+1):Nat):Int))))),.s (.c (.d (.val (.int .i64 (n+((i1+1):Int):Int)))))])/\(RM [])/\(RM [])/\(((some ((mkU (fI n) l i1).set i1 (n+(i1:Int):Int)):Option (List Int))=some (mkU (fI n) l (i1+1)))/\True)/\TT) (True/\True/\((some [.c (.d (.val (.int .i64 (n+(i1:Int):Int))))]:Option (List S0))=some [.c (.d (.val (.int .i64 (n+(l.length:Int)))))])/\((some (mkU (fI n) l i1):Option (List Int))=some (mkI l n)))))
theorem vcn_markIntS (l:List Int) (n:Int) (k:Nat) (hp:0<=n/\n<=4611686018427387904/\l.length<=281474976710656):VC_markIntS l n k:=by
 unfold VC_markIntS
 simp only [cln,Nat.reduceEqDiff,Nat.reduceLeDiff,Nat.reduceAdd]
 all_goals (try simp only [opn])
 all_goals (repeat' (first | apply And.intro | intro _))
 all_goals (try simp (disch:=assumption) only [set3_len,mkU_sl,mkU_len] at *)
 all_goals (first | omega | (simp_all;done) | exact mkU_zero.symm | exact mkU_full ‹_› ‹_› | (rw [← mkU_set ‹_›];(try simp (disch:=assumption) only [set_twice,mkU_gs,fI]);first | done | rfl | (congr 2 <;> omega) | (congr 3 <;> omega)) | grind [mkU_zero,mkU_full])
theorem ptok_markIntS:PTOk Try.prog E 70 pt_markIntS :=
 mut_ok (l:=L_markIntS) (lp:=P_markIntS) (hp:=fun _=>false) (perm:=fun _=>[]) tabOk mix trivial trivial Try.func70 rfl (by kernel_rfl) rfl (by decide) (by kernel_rfl) (anns:=fun x l y=>an_markIntS l y.1) (fun _ l ⟨n,_⟩ hp=>Eq.mp (by kernel_rfl) (vcn_markIntS l n 0 hp))
abbrev L_markState:List (FuncId × Con):=[]
abbrev P_markState:List (FuncId × PT):=[(70,pt_markIntS)]
def hp_markState:Nat->Bool
 | 1=>true
 | 2=>true
 | _=>false
abbrev pt_markState:PT:=inl tab (lookF L_markState) (lookP P_markState) (hp_markState) (fun _ _=>none) (fun _ _ _ _=>none) (fun _=>[]) Try.f26.ntmps (bodyOf Try.f26) Try.f26.results.toList
theorem ptok_markState:PTOk Try.prog E 26 pt_markState :=
 pt_ok (l:=L_markState) (lp:=P_markState) tabOk mix trivial ⟨ptok_markIntS,trivial⟩ Try.func26 rfl (by kernel_rfl) (by kernel_rfl)
abbrev c_heldIntS:Con:=⟨[.sl .int,.int],[.int],fun (l,n,_)=>0<=n/\n<=4611686018427387904/\l.length<=281474976710656,.inl fun (l,n,_)=>(hdI l n,()),fun _=>0⟩
abbrev L_heldIntS:List (FuncId × Con):=[]
abbrev P_heldIntS:List (FuncId × PT):=[]
def an_heldIntS (l:List Int) (n:Int):Nat->St->Option Ann
 | 2,se=>some { α:=Nat,ok:=fun i=>i<=l.length/\hdI' (fI n) l i,mu:=fun i=>l.length - i,i0:=fun _=>0,nx:=fun a _=>(fun i=>i+1) a,live:=[0],sets:=fun i=>[(5,sv (.int .i64 i)),(1,sv (.int .i64 (n+(i:Int))))],mids:=[],blks:=fun i=>[],owns:=fun i=>[],rd:=fun r _=>r,base:=100000 }
 | _,_=>none
def VC_heldIntS (l:List Int) (n:Int) (k:Nat):Prop:=True/\True/\((0<=l.length/\hdI' (fI n) l 0)/\TT/\(RL [.s (.c (.d (.arr .int l)))])/\(([.s (.c (.d (.val (.int .i64 (0:Int))))),.s (.c (.d (.val (.int .i64 n))))]:List S)=[.s (.c (.d (.val (.int .i64 ((0:Nat):Int))))),.s (.c (.d (.val (.int .i64 (n+(0:Int):Int)))))])/\(RM [])/\(RM [])/\True/\TT)/\(∀ i1:Nat,(i1<=l.length/\hdI' (fI n) l i1)->True/\True/\True/\True/\(vcIf (decide (((i1:Nat):Int) < ((l.length:Nat):Int))) (True/\True/\(0<=((i1:Nat):Int)/\((i1:Nat):Int) < ((l.length:Nat):Int))/\True/\True/\True/\(vcIf ((l.getD i1 (0:Int)) != (n+(i1:Int):Int)) (True/\((((-1:Int),()):Int × Unit)=(hdI l n,()))/\True/\True/\True/\True/\TF) (True/\(inK .i64 ((n+(i1:Int):Int)+(1:Int)))/\True/\True/\(inK .i64 (((i1:Nat):Int)+(1:Int)))/\True/\((i1+1)<=l.length/\hdI' (fI n) l (i1+1))/\(l.length - (i1+1) < l.length - i1)/\TT/\(RL [.s (.c (.d (.arr .int l)))])/\(([.s (.c (.d (.val (.int .i64 (((i1:Nat):Int)+(1:Int)))))),.s (.c (.d (.val (.int .i64 ((n+(i1:Int):Int)+(1:Int))))))]:List S)=[.s (.c (.d (.val (.int .i64 (((i1+1):Nat):Int))))),.s (.c (.d (.val (.int .i64 (n+((i1+1):Int):Int)))))])/\(RM [])/\(RM [])/\True/\TT))) (True/\True/\((((n+(i1:Int):Int),()):Int × Unit)=(hdI l n,()))/\True/\True/\True/\True/\TF)))
theorem vcn_heldIntS (l:List Int) (n:Int) (k:Nat) (hp:0<=n/\n<=4611686018427387904/\l.length<=281474976710656):VC_heldIntS l n k:=by
 unfold VC_heldIntS
 simp only [cln,Nat.reduceEqDiff,Nat.reduceLeDiff,Nat.reduceAdd]
 all_goals (try simp only [opn])
 all_goals (repeat' (first | apply And.intro | intro _))
 all_goals (repeat (cases ‹_/\_›))
 all_goals (first | omega | exact hd_zero _ _ | (simp_all;done) | skip)
 all_goals (first | (refine hd_step (d:=Ty.zero .int) ‹_› ‹_› ?_;simp only [Ty.zero,fI] at *;first | assumption | (cases h:l.getD _ _;simp_all;omega) | grind) | (have h5:=hd_full ‹_› ‹_› ‹_›;unfold hdI mkI;rw [decide_eq_true h5,cond_true];omega) | (have h5:l ≠ mkI l n:=hd_not (d:=Ty.zero .int) ‹_› (fun e=>by simp only [Ty.zero,fI] at *;first | (simp_all;done) | (simp_all;omega));unfold hdI;rw [decide_eq_false h5];rfl) | grind)
theorem ok_heldIntS:FnOk Try.prog E 71 c_heldIntS :=
 fn_okQ (l:=L_heldIntS) (lp:=P_heldIntS) (hp:=fun _=>false) (gcs:=fun _=>none) (perm:=fun _=>[]) tabOk mix trivial trivial Try.func71 rfl (by kernel_rfl) (by decide) (by kernel_rfl) (anns:=fun x _=>an_heldIntS x.1 x.2.1) (fun ⟨l,n,_⟩ k hp _=>Eq.mp (by kernel_rfl) (vcn_heldIntS l n k hp)) tot_fn
abbrev c_heldState:Con:=⟨[.state,.int],[.int],fun (s,n,_)=>s.vals.length<=281474976710656/\s.heap.length<=281474976710656/\0<=n/\n<=2305843009213693952,.inl fun (s,n,_)=>(hdS s n,()),fun _=>0⟩
abbrev L_heldState:List (FuncId × Con):=[(71,c_heldIntS)]
abbrev P_heldState:List (FuncId × PT):=[]
def VC_heldState_1 (s:GState) (n:Int):Prop:=True/\((((-1:Int),()):Int × Unit)=(hdS s n,()))/\True/\True/\True/\True/\TF
def VC_heldState (s:GState) (n:Int) (k:Nat):Prop:=TN/\True/\True/\True/\True/\((0<=n/\n<=4611686018427387904/\s.vals.length<=281474976710656)/\True/\True)/\True/\True/\True/\(vcIf (decide ((hdI s.vals n) < (0:Int))) (VC_heldState_1 s n) (True/\True/\True/\((0<=(hdI s.vals n)/\(hdI s.vals n)<=4611686018427387904/\s.heap.length<=281474976710656)/\True/\True)/\True/\True/\True/\(vcIf (decide ((hdI s.heap (hdI s.vals n)) < (0:Int))) (VC_heldState_1 s n) (True/\True/\((((hdI s.heap (hdI s.vals n)),()):Int × Unit)=(hdS s n,()))/\True/\True/\True/\True/\TF))))
theorem vcn_heldState (s:GState) (n:Int) (k:Nat) (hp:s.vals.length<=281474976710656/\s.heap.length<=281474976710656/\0<=n/\n<=2305843009213693952):VC_heldState s n k:=by
 unfold VC_heldState VC_heldState_1
 simp only [cln,Nat.reduceEqDiff,Nat.reduceLeDiff,Nat.reduceAdd]
 have h1:=hdI_le s.vals n hp.2.2.1
 all_goals (try simp only [opn])
 all_goals (repeat' (first | apply And.intro | intro _))
 all_goals (repeat (cases ‹_/\_›))
 all_goals (first | omega | rfl | assumption | (simp_all;done) | skip)
 all_goals (first | omega | (unfold hdS;rw [if_pos ‹_›];done) | (unfold hdS;rw [if_neg ‹_›,if_pos ‹_›];done) | (unfold hdS;rw [if_neg ‹_›,if_neg ‹_›];done) | skip)
theorem ok_heldState:FnOk Try.prog E 27 c_heldState :=
 fn_okQ (l:=L_heldState) (lp:=P_heldState) (hp:=fun _=>false) (gcs:=fun _=>none) (perm:=fun _=>[]) tabOk mix ⟨ok_heldIntS,trivial⟩ trivial Try.func27 rfl (by kernel_rfl) (by decide) (by kernel_rfl) (anns:=fun x _=>fun _ _=>none) (fun ⟨s,n,_⟩ k hp _=>Eq.mp (by kernel_rfl) (vcn_heldState s n k hp)) tot_fn
end Go.Proofs.Ytopjgjelkpkmmaa
