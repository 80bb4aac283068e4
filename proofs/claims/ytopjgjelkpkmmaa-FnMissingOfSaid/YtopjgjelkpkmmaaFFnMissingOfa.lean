/-
  Contracts of single functions of the program, each shown by the engine: what a call returns for arguments within the contract's bounds.
-/
import Derived.Test.YtopjgjelkpkmmaaProg
import Derived.KernelRfl
import Derived.Test.YtopjgjelkpkmmaaEc
import Derived.Test.YtopjgjelkpkmmaaEd
import Derived.Test.YtopjgjelkpkmmaaEe
set_option linter.unusedSimpArgs false
set_option linter.unusedVariables false
set_option linter.unusedSectionVars false

namespace Go.Proofs.Ytopjgjelkpkmmaa
open Go.SE Go.RowKit
def E:Ty->TypeId
 | .int=>3
 | .bool=>4
 | .u8=>5
 | .fact=>94
 | .atom=>66
 | .cmd=>0
 | .ints=>29
 | .asn=>0
def tabL:List (TypeId × TI):=[
 (2,⟨1,8,.sc (.int .i64 0)⟩),
 (3,⟨1,8,.sc (.int .i64 0)⟩),
 (4,⟨1,1,.sc (.bool false)⟩),
 (5,⟨1,1,.sc (.int .u8 0)⟩),
 (7,⟨4,24,.st [.sc (.int .i64 0),.sc (.int .i64 0),.sc (.bool false),.sc (.int .u8 0)] [(0,1,false),(1,1,false),(2,1,false),(3,1,false)]⟩),
 (9,⟨1,16,.sc (.string ⟨#[]⟩)⟩),
 (12,⟨1,8,.sc (.int .u64 0)⟩),
 (13,⟨2,24,.st [.sc (.string ⟨#[]⟩),.sc (.int .u64 0)] [(0,1,false),(1,1,false)]⟩),
 (21,⟨1,4,.sc (.int .i32 0)⟩),
 (22,⟨1,24,.sl true 5 .u8⟩),
 (23,⟨1,24,.sl true 94 .fact⟩),
 (24,⟨1,24,.sl true 66 .atom⟩),
 (25,⟨2,48,.st [.sl .fact,.sl .atom] [(0,1,false),(1,1,false)]⟩),
 (26,⟨2,48,.st [.sl .fact,.sl .atom] [(0,1,false),(1,1,false)]⟩),
 (29,⟨1,24,.sl true 3 .int⟩),
 (30,⟨2,48,.st [.sl .int,.sl .int] [(0,1,false),(1,1,false)]⟩),
 (31,⟨2,48,.st [.sl .int,.sl .int] [(0,1,false),(1,1,false)]⟩),
 (38,⟨1,24,.sl false 139 .fact⟩),
 (39,⟨1,24,.sl false 141 .atom⟩),
 (40,⟨2,48,.st [.sl .fact,.sl .atom] [(0,1,false),(1,1,false)]⟩),
 (41,⟨2,48,.st [.sl .fact,.sl .atom] [(0,1,false),(1,1,false)]⟩),
 (65,⟨3,24,.st [.sc (.int .i64 0),.sc (.int .i64 0),.sc (.int .i64 0)] [(0,1,false),(1,1,false),(2,1,false)]⟩),
 (66,⟨3,24,.st [.sc (.int .i64 0),.sc (.int .i64 0),.sc (.int .i64 0)] [(0,1,false),(1,1,false),(2,1,false)]⟩),
 (67,⟨9,72,.ar 9 3 .int⟩),
 (68,⟨9,72,.ar 9 3 .int⟩),
 (71,⟨2,2,.ar 2 4 .bool⟩),
 (77,⟨1,2,.sc (.int .u16 0)⟩),
 (78,⟨1,2,.sc (.int .u16 0)⟩),
 (93,⟨3,24,.st [.sc (.bool false),.sc (.int .i64 0),.sc (.int .i64 0)] [(0,1,false),(1,1,false),(2,1,false)]⟩),
 (94,⟨3,24,.st [.sc (.bool false),.sc (.int .i64 0),.sc (.int .i64 0)] [(0,1,false),(1,1,false),(2,1,false)]⟩),
 (104,⟨4,96,.st [.sl .fact,.sl .atom,.sl .fact,.sl .atom] [(0,2,true),(2,2,true)]⟩),
 (105,⟨4,96,.st [.sl .fact,.sl .atom,.sl .fact,.sl .atom] [(0,2,true),(2,2,true)]⟩),
 (110,⟨1,8,.sc (.int .u64 0)⟩),
 (111,⟨2,32,.st [.sl .u8,.sc (.int .i64 0)] [(0,1,false),(1,1,false)]⟩),
 (112,⟨2,32,.st [.sl .u8,.sc (.int .i64 0)] [(0,1,false),(1,1,false)]⟩),
 (119,⟨1,2,.sc (.int .u16 0)⟩),
 (121,⟨1,24,.sl true 29 .ints⟩),
 (130,⟨1,24,.sl true 4 .bool⟩),
 (139,⟨3,24,.st [.sc (.bool false),.sc (.int .i64 0),.sc (.int .i64 0)] [(0,1,false),(1,1,false),(2,1,false)]⟩),
 (141,⟨3,24,.st [.sc (.int .i64 0),.sc (.int .i64 0),.sc (.int .i64 0)] [(0,1,false),(1,1,false),(2,1,false)]⟩),
 (149,⟨1,4,.sc (.int .u32 0)⟩),
 (151,⟨1,8,.sc (.int .u64 0)⟩),
 (156,⟨6,6,.ar 6 4 .bool⟩),
 (157,⟨8,40,.st [.sl .atom,.sc (.bool false),.sc (.bool false),.sc (.bool false),.sc (.bool false),.sc (.bool false),.sc (.bool false),.sc (.int .i64 0)] [(0,1,false),(1,6,true),(7,1,false)]⟩),
 (158,⟨8,40,.st [.sl .atom,.sc (.bool false),.sc (.bool false),.sc (.bool false),.sc (.bool false),.sc (.bool false),.sc (.bool false),.sc (.int .i64 0)] [(0,1,false),(1,6,true),(7,1,false)]⟩)]
def tab:TypeId->Option TI:=lookT tabL
theorem tab2:tab 2=some ⟨1,8,.sc (.int .i64 0)⟩:=rfl
theorem tab3:tab 3=some ⟨1,8,.sc (.int .i64 0)⟩:=rfl
theorem tab4:tab 4=some ⟨1,1,.sc (.bool false)⟩:=rfl
theorem tab5:tab 5=some ⟨1,1,.sc (.int .u8 0)⟩:=rfl
theorem tab7:tab 7=some ⟨4,24,.st [.sc (.int .i64 0),.sc (.int .i64 0),.sc (.bool false),.sc (.int .u8 0)] [(0,1,false),(1,1,false),(2,1,false),(3,1,false)]⟩:=rfl
theorem tab9:tab 9=some ⟨1,16,.sc (.string ⟨#[]⟩)⟩:=rfl
theorem tab12:tab 12=some ⟨1,8,.sc (.int .u64 0)⟩:=rfl
theorem tab13:tab 13=some ⟨2,24,.st [.sc (.string ⟨#[]⟩),.sc (.int .u64 0)] [(0,1,false),(1,1,false)]⟩:=rfl
theorem tab21:tab 21=some ⟨1,4,.sc (.int .i32 0)⟩:=rfl
theorem tab22:tab 22=some ⟨1,24,.sl true 5 .u8⟩:=rfl
theorem tab23:tab 23=some ⟨1,24,.sl true 94 .fact⟩:=rfl
theorem tab24:tab 24=some ⟨1,24,.sl true 66 .atom⟩:=rfl
theorem tab25:tab 25=some ⟨2,48,.st [.sl .fact,.sl .atom] [(0,1,false),(1,1,false)]⟩:=rfl
theorem tab26:tab 26=some ⟨2,48,.st [.sl .fact,.sl .atom] [(0,1,false),(1,1,false)]⟩:=rfl
theorem tab29:tab 29=some ⟨1,24,.sl true 3 .int⟩:=rfl
theorem tab30:tab 30=some ⟨2,48,.st [.sl .int,.sl .int] [(0,1,false),(1,1,false)]⟩:=rfl
theorem tab31:tab 31=some ⟨2,48,.st [.sl .int,.sl .int] [(0,1,false),(1,1,false)]⟩:=rfl
theorem tab38:tab 38=some ⟨1,24,.sl false 139 .fact⟩:=rfl
theorem tab39:tab 39=some ⟨1,24,.sl false 141 .atom⟩:=rfl
theorem tab40:tab 40=some ⟨2,48,.st [.sl .fact,.sl .atom] [(0,1,false),(1,1,false)]⟩:=rfl
theorem tab41:tab 41=some ⟨2,48,.st [.sl .fact,.sl .atom] [(0,1,false),(1,1,false)]⟩:=rfl
theorem tab65:tab 65=some ⟨3,24,.st [.sc (.int .i64 0),.sc (.int .i64 0),.sc (.int .i64 0)] [(0,1,false),(1,1,false),(2,1,false)]⟩:=rfl
theorem tab66:tab 66=some ⟨3,24,.st [.sc (.int .i64 0),.sc (.int .i64 0),.sc (.int .i64 0)] [(0,1,false),(1,1,false),(2,1,false)]⟩:=rfl
theorem tab67:tab 67=some ⟨9,72,.ar 9 3 .int⟩:=rfl
theorem tab68:tab 68=some ⟨9,72,.ar 9 3 .int⟩:=rfl
theorem tab71:tab 71=some ⟨2,2,.ar 2 4 .bool⟩:=rfl
theorem tab77:tab 77=some ⟨1,2,.sc (.int .u16 0)⟩:=rfl
theorem tab78:tab 78=some ⟨1,2,.sc (.int .u16 0)⟩:=rfl
theorem tab93:tab 93=some ⟨3,24,.st [.sc (.bool false),.sc (.int .i64 0),.sc (.int .i64 0)] [(0,1,false),(1,1,false),(2,1,false)]⟩:=rfl
theorem tab94:tab 94=some ⟨3,24,.st [.sc (.bool false),.sc (.int .i64 0),.sc (.int .i64 0)] [(0,1,false),(1,1,false),(2,1,false)]⟩:=rfl
theorem tab104:tab 104=some ⟨4,96,.st [.sl .fact,.sl .atom,.sl .fact,.sl .atom] [(0,2,true),(2,2,true)]⟩:=rfl
theorem tab105:tab 105=some ⟨4,96,.st [.sl .fact,.sl .atom,.sl .fact,.sl .atom] [(0,2,true),(2,2,true)]⟩:=rfl
theorem tab110:tab 110=some ⟨1,8,.sc (.int .u64 0)⟩:=rfl
theorem tab111:tab 111=some ⟨2,32,.st [.sl .u8,.sc (.int .i64 0)] [(0,1,false),(1,1,false)]⟩:=rfl
theorem tab112:tab 112=some ⟨2,32,.st [.sl .u8,.sc (.int .i64 0)] [(0,1,false),(1,1,false)]⟩:=rfl
theorem tab119:tab 119=some ⟨1,2,.sc (.int .u16 0)⟩:=rfl
theorem tab121:tab 121=some ⟨1,24,.sl true 29 .ints⟩:=rfl
theorem tab130:tab 130=some ⟨1,24,.sl true 4 .bool⟩:=rfl
theorem tab139:tab 139=some ⟨3,24,.st [.sc (.bool false),.sc (.int .i64 0),.sc (.int .i64 0)] [(0,1,false),(1,1,false),(2,1,false)]⟩:=rfl
theorem tab141:tab 141=some ⟨3,24,.st [.sc (.int .i64 0),.sc (.int .i64 0),.sc (.int .i64 0)] [(0,1,false),(1,1,false),(2,1,false)]⟩:=rfl
theorem tab149:tab 149=some ⟨1,4,.sc (.int .u32 0)⟩:=rfl
theorem tab151:tab 151=some ⟨1,8,.sc (.int .u64 0)⟩:=rfl
theorem tab156:tab 156=some ⟨6,6,.ar 6 4 .bool⟩:=rfl
theorem tab157:tab 157=some ⟨8,40,.st [.sl .atom,.sc (.bool false),.sc (.bool false),.sc (.bool false),.sc (.bool false),.sc (.bool false),.sc (.bool false),.sc (.int .i64 0)] [(0,1,false),(1,6,true),(7,1,false)]⟩:=rfl
theorem tab158:tab 158=some ⟨8,40,.st [.sl .atom,.sc (.bool false),.sc (.bool false),.sc (.bool false),.sc (.bool false),.sc (.bool false),.sc (.bool false),.sc (.int .i64 0)] [(0,1,false),(1,6,true),(7,1,false)]⟩:=rfl
theorem tabOk:TabOk Try.prog E tab:=tab_ok (by kernel_rfl)
theorem mix:Try.prog.follows .mixedOrders=true:=by kernel_rfl
end Go.Proofs.Ytopjgjelkpkmmaa

namespace Go.Proofs.Ytopjgjelkpkmmaa
open Go.SE Go.RowKit
set_option linter.unusedSimpArgs false
set_option linter.unusedVariables false
set_option maxHeartbeats 1000000
set_option maxRecDepth 100000
abbrev c_isTerm:Con:=⟨[.int],[.bool],fun _=>True,.inl fun (t,_)=>(isT t,()),fun _=>0⟩
abbrev L_isTerm:List (FuncId × Con):=[]
abbrev P_isTerm:List (FuncId × PT):=[]
def VC_isTerm (t:Int) (k:Nat):Prop:=True/\True/\True/\True/\(vcIf (decide ((0:Int)<=t)) (True/\True/\True/\True/\(((decide (t<=(8:Int)),()):Bool × Unit)=(isT t,()))/\True/\True/\True/\True/\TF) (True/\True/\(((false,()):Bool × Unit)=(isT t,()))/\True/\True/\True/\True/\TF))
theorem vcn_isTerm (t:Int) (k:Nat):VC_isTerm t k:=by
 unfold VC_isTerm
 simp only [cln,Nat.reduceEqDiff,Nat.reduceLeDiff,Nat.reduceAdd]
 cases h:decide (0<=t) <;> simp [vcIf,isT,h]
theorem ok_isTerm:FnOk Try.prog E 126 c_isTerm :=
 fn_okQ (l:=L_isTerm) (lp:=P_isTerm) (hp:=fun _=>false) (gcs:=fun _=>none) (perm:=fun _=>[]) tabOk mix trivial trivial Try.func126 rfl (by kernel_rfl) (by decide) (by kernel_rfl) (anns:=fun x _=>fun _ _=>none) (fun ⟨t,_⟩ k _ _=>Eq.mp (by kernel_rfl) (vcn_isTerm t k)) tot_fn
abbrev c_iFactValid:Con:=⟨[.fact],[.bool],fun _=>True,.inl fun (f,_)=>(fV f,()),fun _=>0⟩
abbrev L_iFactValid:List (FuncId × Con):=[(126,c_isTerm)]
abbrev P_iFactValid:List (FuncId × PT):=[]
def VC_iFactValid (f:GFact) (k:Nat):Prop:=TN/\True/\True/\True/\(True/\True/\True)/\True/\(vcIf (isT f.a) (True/\True/\(True/\True/\True)/\True/\True/\((((isT f.b),()):Bool × Unit)=(fV f,()))/\True/\True/\True/\True/\TF) (True/\True/\(((false,()):Bool × Unit)=(fV f,()))/\True/\True/\True/\True/\TF))
theorem vcn_iFactValid (f:GFact) (k:Nat):VC_iFactValid f k:=by
 unfold VC_iFactValid
 simp only [cln,Nat.reduceEqDiff,Nat.reduceLeDiff,Nat.reduceAdd]
 cases h:isT f.a <;> simp [vcIf,fV,h]
theorem ok_iFactValid:FnOk Try.prog E 125 c_iFactValid :=
 fn_okQ (l:=L_iFactValid) (lp:=P_iFactValid) (hp:=fun _=>false) (gcs:=fun _=>none) (perm:=fun _=>[]) tabOk mix ⟨ok_isTerm,trivial⟩ trivial Try.func125 rfl (by kernel_rfl) (by decide) (by kernel_rfl) (anns:=fun x _=>fun _ _=>none) (fun ⟨f,_⟩ k _ _=>Eq.mp (by kernel_rfl) (vcn_iFactValid f k)) tot_fn
abbrev c_iFactsValid:Con:=⟨[.sl .fact],[.bool],fun (l,_)=>l.length<=281474976710656,.inl fun (l,_)=>(fsV l,()),fun _=>0⟩
abbrev L_iFactsValid:List (FuncId × Con):=[(125,c_iFactValid)]
abbrev P_iFactsValid:List (FuncId × PT):=[]
def an_iFactsValid (l:List GFact):Nat->St->Option Ann
 | 4,se=>some { α:=Nat,ok:=fun i=>i<=l.length/\l.length<=12/\(l.take i).all fV=true,mu:=fun i=>l.length - i,i0:=fun _=>0,nx:=fun a _=>(fun i=>i+1) a,live:=[8,9],sets:=fun i=>[(10,sv (.int .i64 i))],mids:=[],blks:=fun i=>[],owns:=fun i=>[],rd:=fun r _=>r,base:=100000 }
 | _,_=>none
def VC_iFactsValid_1 (l:List GFact):Prop:=True/\(((false,()):Bool × Unit)=(fsV l,()))/\True/\True/\True/\True/\TF
def VC_iFactsValid_2 (l:List GFact):Prop:=RL [.s (.c (.d (.arr .fact l))),.s (.c (.d (.val (.int .i64 ((l.length:Nat):Int)))))]
def VC_iFactsValid (l:List GFact) (k:Nat):Prop:=True/\True/\True/\True/\(vcIf (decide ((12:Int) < ((l.length:Nat):Int))) (VC_iFactsValid_1 l) (True/\True/\True/\((0<=l.length/\l.length<=12/\(l.take 0).all fV=true)/\TT/\(VC_iFactsValid_2 l)/\(([.s (.c (.d (.val (.int .i64 (0:Int)))))]:List S)=[.s (.c (.d (.val (.int .i64 ((0:Nat):Int)))))])/\(RM [])/\(RM [])/\True/\TT)/\(∀ i1:Nat,(i1<=l.length/\l.length<=12/\(l.take i1).all fV=true)->True/\(vcIf (decide (((i1:Nat):Int) < ((l.length:Nat):Int))) ((0<=((i1:Nat):Int)/\((i1:Nat):Int) < ((l.length:Nat):Int))/\True/\(TN/\True)/\(TF/\TF)/\True/\(True/\True/\True)/\True/\(vcIf (!(fV (l.getD i1 (⟨false,0,0⟩:GFact)))) (VC_iFactsValid_1 l) ((inK .i64 (((i1:Nat):Int)+(1:Int)))/\True/\((i1+1)<=l.length/\l.length<=12/\(l.take (i1+1)).all fV=true)/\(l.length - (i1+1) < l.length - i1)/\TT/\(VC_iFactsValid_2 l)/\(([.s (.c (.d (.val (.int .i64 (((i1:Nat):Int)+(1:Int))))))]:List S)=[.s (.c (.d (.val (.int .i64 (((i1+1):Nat):Int)))))])/\(RM [])/\(RM [])/\True/\TT))) (True/\(((true,()):Bool × Unit)=(fsV l,()))/\True/\True/\True/\True/\TF)))))
theorem vcn_iFactsValid (l:List GFact) (k:Nat) (hp:l.length<=281474976710656):VC_iFactsValid l k:=by
 unfold VC_iFactsValid VC_iFactsValid_2 VC_iFactsValid_1
 simp only [cln,Nat.reduceEqDiff,Nat.reduceLeDiff,Nat.reduceAdd]
 all_goals (try simp only [opn])
 all_goals (repeat' (first | apply And.intro | intro _))
 all_goals (first | omega | (simp_all;done) | grind [fsV,take_all,all_take,take_full,Ty.zero])
theorem ok_iFactsValid:FnOk Try.prog E 84 c_iFactsValid :=
 fn_okQ (l:=L_iFactsValid) (lp:=P_iFactsValid) (hp:=fun _=>false) (gcs:=fun _=>none) (perm:=fun _=>[]) tabOk mix ⟨ok_iFactValid,trivial⟩ trivial Try.func84 rfl (by kernel_rfl) (by decide) (by kernel_rfl) (anns:=fun x _=>an_iFactsValid x.1) (fun ⟨l,_⟩ k hp _=>Eq.mp (by kernel_rfl) (vcn_iFactsValid l k hp)) tot_fn
abbrev c_iAtomValid:Con:=⟨[.atom],[.bool],fun _=>True,.inl fun (x,_)=>(atV x,()),fun _=>0⟩
abbrev L_iAtomValid:List (FuncId × Con):=[(126,c_isTerm)]
abbrev P_iAtomValid:List (FuncId × PT):=[]
def VC_iAtomValid_1 (x:GAtom):Prop:=True/\True/\(((false,()):Bool × Unit)=(atV x,()))/\True/\True/\True/\True/\TF
def VC_iAtomValid_2 (x:GAtom):Prop:=True/\True/\(True/\True/\True)/\True/\True/\(vcIf (isT x.a) (True/\True/\(True/\True/\True)/\True/\True/\((((isT x.b),()):Bool × Unit)=(atV x,()))/\True/\True/\True/\True/\TF) (VC_iAtomValid_1 x))
def VC_iAtomValid (x:GAtom) (k:Nat):Prop:=TN/\True/\True/\True/\True/\True/\(vcIf (x.kind == (1:Int)) (True/\True/\(VC_iAtomValid_2 x)) (True/\True/\True/\True/\True/\(vcIf (x.kind == (2:Int)) (VC_iAtomValid_2 x) (True/\True/\(VC_iAtomValid_1 x)))))
theorem vcn_iAtomValid (x:GAtom) (k:Nat):VC_iAtomValid x k:=by
 unfold VC_iAtomValid VC_iAtomValid_2 VC_iAtomValid_1
 simp only [cln,Nat.reduceEqDiff,Nat.reduceLeDiff,Nat.reduceAdd]
 all_goals (try simp only [opn])
 all_goals (repeat' (first | apply And.intro | intro _))
 all_goals (first | omega | (simp_all;done) | grind [atV])
theorem ok_iAtomValid:FnOk Try.prog E 85 c_iAtomValid :=
 fn_okQ (l:=L_iAtomValid) (lp:=P_iAtomValid) (hp:=fun _=>false) (gcs:=fun _=>none) (perm:=fun _=>[]) tabOk mix ⟨ok_isTerm,trivial⟩ trivial Try.func85 rfl (by kernel_rfl) (by decide) (by kernel_rfl) (anns:=fun x _=>fun _ _=>none) (fun ⟨x,_⟩ k _ _=>Eq.mp (by kernel_rfl) (vcn_iAtomValid x k)) tot_fn
abbrev c_iAssertionValid:Con:=⟨[.asn],[.bool],fun (a,_)=>a.facts.length<=281474976710656/\a.atoms.length<=281474976710656,.inl fun (a,_)=>(asV a,()),fun _=>0⟩
abbrev L_iAssertionValid:List (FuncId × Con):=[(84,c_iFactsValid),(85,c_iAtomValid)]
abbrev P_iAssertionValid:List (FuncId × PT):=[]
def an_iAssertionValid (a:GAsn):Nat->St->Option Ann
 | 4,se=>some { α:=Nat,ok:=fun i=>i<=a.atoms.length/\a.atoms.length<=6/\fsV a.facts=true/\(a.atoms.take i).all atV=true,mu:=fun i=>a.atoms.length - i,i0:=fun _=>0,nx:=fun a _=>(fun i=>i+1) a,live:=[16,17],sets:=fun i=>[(18,sv (.int .i64 i))],mids:=[],blks:=fun i=>[],owns:=fun i=>[],rd:=fun r _=>r,base:=100000 }
 | _,_=>none
def VC_iAssertionValid_1 (a:GAsn):Prop:=True/\(((false,()):Bool × Unit)=(asV a,()))/\True/\True/\True/\True/\TF
def VC_iAssertionValid_2 (a:GAsn):Prop:=RL [.s (.c (.d (.arr .atom a.atoms))),.s (.c (.d (.val (.int .i64 ((a.atoms.length:Nat):Int)))))]
def VC_iAssertionValid (a:GAsn) (k:Nat):Prop:=TN/\True/\True/\True/\((a.facts.length<=281474976710656)/\True/\True)/\True/\True/\(vcIf (!(fsV a.facts)) (True/\(VC_iAssertionValid_1 a)) (True/\True/\True/\True/\True/\(vcIf (decide ((6:Int) < ((a.atoms.length:Nat):Int))) (VC_iAssertionValid_1 a) (True/\True/\True/\True/\((0<=a.atoms.length/\a.atoms.length<=6/\fsV a.facts=true/\(a.atoms.take 0).all atV=true)/\TT/\(VC_iAssertionValid_2 a)/\(([.s (.c (.d (.val (.int .i64 (0:Int)))))]:List S)=[.s (.c (.d (.val (.int .i64 ((0:Nat):Int)))))])/\(RM [])/\(RM [])/\True/\TT)/\(∀ i1:Nat,(i1<=a.atoms.length/\a.atoms.length<=6/\fsV a.facts=true/\(a.atoms.take i1).all atV=true)->True/\(vcIf (decide (((i1:Nat):Int) < ((a.atoms.length:Nat):Int))) ((0<=((i1:Nat):Int)/\((i1:Nat):Int) < ((a.atoms.length:Nat):Int))/\True/\(TN/\True)/\(TF/\TF)/\True/\(True/\True/\True)/\True/\(vcIf (!(atV (a.atoms.getD i1 (⟨0,0,0⟩:GAtom)))) (VC_iAssertionValid_1 a) ((inK .i64 (((i1:Nat):Int)+(1:Int)))/\True/\((i1+1)<=a.atoms.length/\a.atoms.length<=6/\fsV a.facts=true/\(a.atoms.take (i1+1)).all atV=true)/\(a.atoms.length - (i1+1) < a.atoms.length - i1)/\TT/\(VC_iAssertionValid_2 a)/\(([.s (.c (.d (.val (.int .i64 (((i1:Nat):Int)+(1:Int))))))]:List S)=[.s (.c (.d (.val (.int .i64 (((i1+1):Nat):Int)))))])/\(RM [])/\(RM [])/\True/\TT))) (True/\(((true,()):Bool × Unit)=(asV a,()))/\True/\True/\True/\True/\TF)))))))
theorem vcn_iAssertionValid (a:GAsn) (k:Nat) (hp:a.facts.length<=281474976710656/\a.atoms.length<=281474976710656):VC_iAssertionValid a k:=by
 unfold VC_iAssertionValid VC_iAssertionValid_2 VC_iAssertionValid_1
 simp only [cln,Nat.reduceEqDiff,Nat.reduceLeDiff,Nat.reduceAdd]
 all_goals (try simp only [opn])
 all_goals (repeat' (first | apply And.intro | intro _))
 all_goals (first | omega | (simp_all;done) | grind [asV,take_all,all_take,take_full,Ty.zero])
theorem ok_iAssertionValid:FnOk Try.prog E 37 c_iAssertionValid :=
 fn_okQ (l:=L_iAssertionValid) (lp:=P_iAssertionValid) (hp:=fun _=>false) (gcs:=fun _=>none) (perm:=fun _=>[]) tabOk mix ⟨ok_iFactsValid,ok_iAtomValid,trivial⟩ trivial Try.func37 rfl (by kernel_rfl) (by decide) (by kernel_rfl) (anns:=fun x _=>an_iAssertionValid x.1) (fun ⟨a,_⟩ k hp _=>Eq.mp (by kernel_rfl) (vcn_iAssertionValid a k hp)) tot_fn
abbrev c_tsWith:Con:=⟨[.u16,.int],[.u16],fun (s,t,_)=>0<=s/\s < 512,.inl fun (s,t,_)=>(tsWith s t,()),fun _=>0⟩
abbrev L_tsWith:List (FuncId × Con):=[(126,c_isTerm)]
abbrev P_tsWith:List (FuncId × PT):=[]
def VC_tsWith (s:Int) (t:Int) (k:Nat):Prop:=True/\True/\(True/\True/\True)/\True/\(vcIf (!(isT t)) (True/\True/\(((s,()):Int × Unit)=(tsWith s t,()))/\True/\True/\True/\True/\TF) (True/\True/\(0<=t)/\True/\True/\(((bits .or .u16 s (IntKind.wrap .u16 ((1:Int) * 2 ^ (min t.toNat (IntKind.bits .u16)))),()):Int × Unit)=(tsWith s t,()))/\True/\True/\True/\True/\TF))
theorem vcn_tsWith (s:Int) (t:Int) (k:Nat) (hp:0<=s/\s < 512):VC_tsWith s t k:=by
 unfold VC_tsWith
 simp only [cln,Nat.reduceEqDiff,Nat.reduceLeDiff,Nat.reduceAdd]
 simp only [vcIf_iff]
 exact ⟨fun h=>(tsWith_no (by simpa using h)).symm,fun h=>⟨(isT_iff.1 (by simpa using h)).1,tsWith_eq hp.1 hp.2 (by simpa using h)⟩⟩
theorem ok_tsWith:FnOk Try.prog E 133 c_tsWith :=
 fn_okQ (l:=L_tsWith) (lp:=P_tsWith) (hp:=fun _=>false) (gcs:=fun _=>none) (perm:=fun _=>[]) tabOk mix ⟨ok_isTerm,trivial⟩ trivial Try.func133 rfl (by kernel_rfl) (by decide) (by kernel_rfl) (anns:=fun x _=>fun _ _=>none) (fun ⟨s,t,_⟩ k hp _=>Eq.mp (by kernel_rfl) (vcn_tsWith s t k hp)) tot_fn
abbrev c_termsIn:Con:=⟨[.asn],[.u16],fun (a,_)=>a.facts.length<=281474976710656/\a.atoms.length<=281474976710656,.inl fun (a,_)=>(tsA a,()),fun _=>0⟩
abbrev L_termsIn:List (FuncId × Con):=[(133,c_tsWith)]
abbrev P_termsIn:List (FuncId × PT):=[]
def an_termsIn (a:GAsn):Nat->St->Option Ann
 | 3,se=>some { α:=Nat,ok:=fun i=>i<=a.facts.length,mu:=fun i=>a.facts.length - i,i0:=fun _=>0,nx:=fun a _=>(fun i=>i+1) a,live:=[1,2,9,10],sets:=fun i=>[(11,sv (.int .i64 i)),(3,sv (.int .u16 (tsF (a.facts.take i))))],mids:=[31],blks:=fun i=>[],owns:=fun i=>[],rd:=fun r _=>r,base:=100000 }
 | 8,se=>some { α:=Nat,ok:=fun i=>i<=a.atoms.length,mu:=fun i=>a.atoms.length - i,i0:=fun _=>0,nx:=fun a _=>(fun i=>i+1) a,live:=[2,24,25],sets:=fun i=>[(26,sv (.int .i64 i)),(3,sv (.int .u16 (tsG (tsF a.facts) (a.atoms.take i))))],mids:=[],blks:=fun i=>[],owns:=fun i=>[],rd:=fun r _=>r,base:=200000 }
 | _,_=>none
def VC_termsIn_1 (a:GAsn):Prop:=RL [.s (.c (.ptr 31 0)),.s (.c (.d (.val (.int .u16 (0:Int))))),.s (.c (.d (.arr .fact a.facts))),.s (.c (.d (.val (.int .i64 ((a.facts.length:Nat):Int)))))]
def VC_termsIn_2 (a:GAsn):Prop:=(RM [some (.blk [.d (.arr .fact a.facts),.d (.arr .atom a.atoms)])])/\(RM [])/\True/\TT
def VC_termsIn_3 (a:GAsn):Prop:=RL [.s (.c (.d (.val (.int .u16 (0:Int))))),.s (.c (.d (.arr .atom a.atoms))),.s (.c (.d (.val (.int .i64 ((a.atoms.length:Nat):Int)))))]
def VC_termsIn_4 (a:GAsn):Prop:=(((0<=a.facts.length)/\TT/\(VC_termsIn_1 a)/\(([.s (.c (.d (.val (.int .i64 (0:Int))))),.s (.c (.d (.val (.int .u16 (0:Int)))))]:List S)=[.s (.c (.d (.val (.int .i64 ((0:Nat):Int))))),.s (.c (.d (.val (.int .u16 (tsF (a.facts.take 0):Int)))))])/\(VC_termsIn_2 a))/\(∀ i1:Nat,(i1<=a.facts.length)->True/\(vcIf (decide (((i1:Nat):Int) < ((a.facts.length:Nat):Int))) ((0<=((i1:Nat):Int)/\((i1:Nat):Int) < ((a.facts.length:Nat):Int))/\True/\(TN/\True)/\(TF/\TF)/\True/\True/\True/\((0<=(tsF (a.facts.take i1):Int)/\(tsF (a.facts.take i1):Int) < 512)/\True/\True)/\True/\True/\((0<=(tsWith (tsF (a.facts.take i1):Int) ((a.facts.getD i1 (⟨false,0,0⟩:GFact)).a))/\(tsWith (tsF (a.facts.take i1):Int) ((a.facts.getD i1 (⟨false,0,0⟩:GFact)).a)) < 512)/\True/\True)/\True/\(inK .i64 (((i1:Nat):Int)+(1:Int)))/\True/\((i1+1)<=a.facts.length)/\(a.facts.length - (i1+1) < a.facts.length - i1)/\TT/\(VC_termsIn_1 a)/\(([.s (.c (.d (.val (.int .i64 (((i1:Nat):Int)+(1:Int)))))),.s (.c (.d (.val (.int .u16 (tsWith (tsWith (tsF (a.facts.take i1):Int) ((a.facts.getD i1 (⟨false,0,0⟩:GFact)).a)) ((a.facts.getD i1 (⟨false,0,0⟩:GFact)).b))))))]:List S)=[.s (.c (.d (.val (.int .i64 (((i1+1):Nat):Int))))),.s (.c (.d (.val (.int .u16 (tsF (a.facts.take (i1+1)):Int)))))])/\(VC_termsIn_2 a)) (True/\True/\True/\True/\((0<=a.atoms.length)/\TT/\(VC_termsIn_3 a)/\(([.s (.c (.d (.val (.int .i64 (0:Int))))),.s (.c (.d (.val (.int .u16 (tsF (a.facts.take i1):Int)))))]:List S)=[.s (.c (.d (.val (.int .i64 ((0:Nat):Int))))),.s (.c (.d (.val (.int .u16 (tsG (tsF a.facts) (a.atoms.take 0):Int)))))])/\(RM [])/\(RM [])/\True/\TT)/\(∀ i2:Nat,(i2<=a.atoms.length)->True/\(vcIf (decide (((i2:Nat):Int) < ((a.atoms.length:Nat):Int))) ((0<=((i2:Nat):Int)/\((i2:Nat):Int) < ((a.atoms.length:Nat):Int))/\True/\(TN/\True)/\(TF/\TF)/\True/\True/\True/\((0<=(tsG (tsF a.facts) (a.atoms.take i2):Int)/\(tsG (tsF a.facts) (a.atoms.take i2):Int) < 512)/\True/\True)/\True/\True/\((0<=(tsWith (tsG (tsF a.facts) (a.atoms.take i2):Int) ((a.atoms.getD i2 (⟨0,0,0⟩:GAtom)).a))/\(tsWith (tsG (tsF a.facts) (a.atoms.take i2):Int) ((a.atoms.getD i2 (⟨0,0,0⟩:GAtom)).a)) < 512)/\True/\True)/\True/\(inK .i64 (((i2:Nat):Int)+(1:Int)))/\True/\((i2+1)<=a.atoms.length)/\(a.atoms.length - (i2+1) < a.atoms.length - i2)/\TT/\(VC_termsIn_3 a)/\(([.s (.c (.d (.val (.int .i64 (((i2:Nat):Int)+(1:Int)))))),.s (.c (.d (.val (.int .u16 (tsWith (tsWith (tsG (tsF a.facts) (a.atoms.take i2):Int) ((a.atoms.getD i2 (⟨0,0,0⟩:GAtom)).a)) ((a.atoms.getD i2 (⟨0,0,0⟩:GAtom)).b))))))]:List S)=[.s (.c (.d (.val (.int .i64 (((i2+1):Nat):Int))))),.s (.c (.d (.val (.int .u16 (tsG (tsF a.facts) (a.atoms.take (i2+1)):Int)))))])/\(RM [])/\(RM [])/\True/\TT) (True/\True/\((((tsG (tsF a.facts) (a.atoms.take i2):Int),()):Int × Unit)=(tsA a,()))/\True/\True/\True/\True/\TF)))))))
def VC_termsIn (a:GAsn) (k:Nat):Prop:=TN/\True/\True/\True/\True/\True/\True/\(VC_termsIn_4 a)
theorem vcn_termsIn (a:GAsn) (k:Nat) (hp:a.facts.length<=281474976710656/\a.atoms.length<=281474976710656):VC_termsIn a k:=by
 unfold VC_termsIn VC_termsIn_4 VC_termsIn_3 VC_termsIn_2 VC_termsIn_1
 simp only [cln,Nat.reduceEqDiff,Nat.reduceLeDiff,Nat.reduceAdd]
 have hF:=tsF_bd
 have hW1:∀ s t,0<=s->s < 512->0<=tsWith s t:=fun _ _ h0 h1=>(tsWith_bd h0 h1).1
 have hW2:∀ s t,0<=s->s < 512->tsWith s t < 512:=fun _ _ h0 h1=>(tsWith_bd h0 h1).2
 have hF0:tsF []=0:=rfl
 have hG0:∀ z,tsG z []=z:=fun _=>rfl
 have hG:=fun l=>tsG_bd l _ (tsF_bd a.facts)
 all_goals (try simp only [opn])
 all_goals (repeat' (first | apply And.intro | intro _))
 all_goals (first | omega | (simp_all;done) | grind [tsF_step,tsG_step,tsA,take_full,Ty.zero])
theorem ok_termsIn:FnOk Try.prog E 99 c_termsIn :=
 fn_okQ (l:=L_termsIn) (lp:=P_termsIn) (hp:=fun _=>false) (gcs:=fun _=>none) (perm:=fun _=>[]) tabOk mix ⟨ok_tsWith,trivial⟩ trivial Try.func99 rfl (by kernel_rfl) (by decide) (by kernel_rfl) (anns:=fun x _=>an_termsIn x.1) (fun ⟨a,_⟩ k hp _=>Eq.mp (by kernel_rfl) (vcn_termsIn a k hp)) tot_fn
abbrev c_tsHas:Con:=⟨[.u16,.int],[.bool],fun (s,t,_)=>0<=s/\s < 512,.inl fun (s,t,_)=>(tsHas s t,()),fun _=>0⟩
abbrev L_tsHas:List (FuncId × Con):=[(126,c_isTerm)]
abbrev P_tsHas:List (FuncId × PT):=[]
def VC_tsHas (s:Int) (t:Int) (k:Nat):Prop:=True/\True/\(True/\True/\True)/\True/\(vcIf (isT t) (True/\True/\(0<=t)/\True/\True/\True/\True/\((((bits .and .u16 (Int.fdiv s (2 ^ (min t.toNat (IntKind.bits .u16)))) (1:Int)) == (1:Int),()):Bool × Unit)=(tsHas s t,()))/\True/\True/\True/\True/\TF) (True/\True/\(((false,()):Bool × Unit)=(tsHas s t,()))/\True/\True/\True/\True/\TF))
theorem vcn_tsHas (s:Int) (t:Int) (k:Nat) (hp:0<=s/\s < 512):VC_tsHas s t k:=by
 unfold VC_tsHas
 simp only [cln,Nat.reduceEqDiff,Nat.reduceLeDiff,Nat.reduceAdd]
 simp only [vcIf_iff]
 exact ⟨fun h=>⟨(isT_iff.1 h).1,tsHas_eq hp.1 hp.2 h⟩,fun h=>by simp [tsHas,h]⟩
theorem ok_tsHas:FnOk Try.prog E 156 c_tsHas :=
 fn_okQ (l:=L_tsHas) (lp:=P_tsHas) (hp:=fun _=>false) (gcs:=fun _=>none) (perm:=fun _=>[]) tabOk mix ⟨ok_isTerm,trivial⟩ trivial Try.func156 rfl (by kernel_rfl) (by decide) (by kernel_rfl) (anns:=fun x _=>fun _ _=>none) (fun ⟨s,t,_⟩ k hp _=>Eq.mp (by kernel_rfl) (vcn_tsHas s t k hp)) tot_fn
abbrev c_isFilled:Con:=⟨[.pkase,.atom],[.bool],fun (c,x,_)=>c.length=9/\atV x=true,.inl fun (c,x,_)=>(filB c x,()),fun _=>0⟩
abbrev L_isFilled:List (FuncId × Con):=[]
abbrev P_isFilled:List (FuncId × PT):=[]
def VC_isFilled (c:List Int) (x:GAtom) (k:Nat):Prop:=TN/\True/\True/\True/\True/\True/\(vcIf (x.kind == (1:Int)) (True/\True/\(((true,()):Bool × Unit)=(filB c x,()))/\True/\True/\True/\True/\TF) (True/\True/\True/\True/\(0<=x.a/\x.a < ((9:Nat):Int)/\c.length=9)/\True/\True/\True/\True/\True/\(0<=x.b/\x.b < ((9:Nat):Int)/\c.length=9)/\True/\True/\True/\True/\((((c.getD x.a.toNat (0:Int)) != (c.getD x.b.toNat (0:Int)),()):Bool × Unit)=(filB c x,()))/\True/\True/\True/\True/\TF))
theorem vcn_isFilled (c:List Int) (x:GAtom) (k:Nat) (hp:c.length=9/\atV x=true):VC_isFilled c x k:=by
 unfold VC_isFilled
 simp only [cln,Nat.reduceEqDiff,Nat.reduceLeDiff,Nat.reduceAdd]
 have h1:=atV_isT hp.2
 have h2:=isT_iff.1 h1.1
 have h3:=isT_iff.1 h1.2
 all_goals (try simp only [opn])
 all_goals (repeat' (first | apply And.intro | intro _))
 all_goals (first | omega | (simp_all;done) | grind [filB,cl])
theorem ok_isFilled:FnOk Try.prog E 139 c_isFilled :=
 fn_okQ (l:=L_isFilled) (lp:=P_isFilled) (hp:=fun _=>false) (gcs:=fun _=>none) (perm:=fun _=>[]) tabOk mix trivial trivial Try.func139 rfl (by kernel_rfl) (by decide) (by kernel_rfl) (anns:=fun x _=>fun _ _=>none) (fun ⟨c,x,_⟩ k hp _=>Eq.mp (by kernel_rfl) (vcn_isFilled c x k hp)) tot_fn
abbrev c_factHolds:Con:=⟨[.pkase,.fact],[.bool],fun (c,f,_)=>c.length=9/\fV f=true,.inl fun (c,f,_)=>(fh c f,()),fun _=>0⟩
abbrev L_factHolds:List (FuncId × Con):=[]
abbrev P_factHolds:List (FuncId × PT):=[]
def VC_factHolds (c:List Int) (f:GFact) (k:Nat):Prop:=TN/\True/\True/\True/\True/\True/\(0<=f.a/\f.a < ((9:Nat):Int)/\c.length=9)/\True/\True/\True/\True/\True/\(0<=f.b/\f.b < ((9:Nat):Int)/\c.length=9)/\True/\True/\True/\True/\True/\True/\(((((c.getD f.a.toNat (0:Int)) == (c.getD f.b.toNat (0:Int))) == f.eq,()):Bool × Unit)=(fh c f,()))/\True/\True/\True/\True/\TF
theorem vcn_factHolds (c:List Int) (f:GFact) (k:Nat) (hp:c.length=9/\fV f=true):VC_factHolds c f k:=by
 unfold VC_factHolds
 simp only [cln,Nat.reduceEqDiff,Nat.reduceLeDiff,Nat.reduceAdd]
 have h1:=fV_isT hp.2
 have h2:=isT_iff.1 h1.1
 have h3:=isT_iff.1 h1.2
 all_goals (try simp only [opn])
 all_goals (repeat' (first | apply And.intro | intro _))
 all_goals (first | omega | (simp_all;done) | grind [fh,cl])
theorem ok_factHolds:FnOk Try.prog E 158 c_factHolds :=
 fn_okQ (l:=L_factHolds) (lp:=P_factHolds) (hp:=fun _=>false) (gcs:=fun _=>none) (perm:=fun _=>[]) tabOk mix trivial trivial Try.func158 rfl (by kernel_rfl) (by decide) (by kernel_rfl) (anns:=fun x _=>fun _ _=>none) (fun ⟨c,f,_⟩ k hp _=>Eq.mp (by kernel_rfl) (vcn_factHolds c f k hp)) tot_fn
abbrev c_possible:Con:=⟨[.pkase,.asn,.int],[.bool],fun (c,a,last,_)=>c.length=9/\asV a=true/\0<=last/\last<=8,.inl fun (c,a,last,_)=>(possI a c last,()),fun _=>0⟩
abbrev L_possible:List (FuncId × Con):=[(133,c_tsWith),(139,c_isFilled),(156,c_tsHas),(158,c_factHolds)]
abbrev P_possible:List (FuncId × PT):=[]
def an_possible (c:List Int) (a:GAsn) (last:Int):Nat->St->Option Ann
 | 2,se=>some { α:=Nat,ok:=fun i=>i<=a.facts.length/\possF c last (a.facts.take i)=true,mu:=fun i=>a.facts.length - i,i0:=fun _=>0,nx:=fun a _=>(fun i=>i+1) a,live:=[0,2,4,13,14],sets:=fun i=>[(15,sv (.int .i64 i))],mids:=[79],blks:=fun i=>[],owns:=fun i=>[],rd:=fun r _=>r,base:=100000 }
 | 9,se=>some { α:=Nat,ok:=fun i=>i<=a.atoms.length/\possF c last a.facts=true/\okS [] (sts c last (a.atoms.take i))=true,mu:=fun i=>a.atoms.length - i,i0:=fun _=>0,nx:=fun a _=>(fun i=>i+1) a,live:=[0,2,37,38],sets:=fun i=>[(39,sv (.int .i64 i)),(9,sv (.int .u16 (maskS (sts c last (a.atoms.take i)))))],mids:=[],blks:=fun i=>[],owns:=fun i=>[],rd:=fun r _=>r,base:=200000 }
 | _,_=>none
def VC_possible_1 (c:List Int) (last:Int) (a:GAsn):Prop:=RL [.s (.c (.rv .int c)),.s (.c (.d (.val (.int .i64 last)))),.s (.c (.ptr 79 0)),.s (.c (.d (.arr .fact a.facts))),.s (.c (.d (.val (.int .i64 ((a.facts.length:Nat):Int)))))]
def VC_possible_2 (a:GAsn):Prop:=(RM [some (.blk [.d (.arr .fact a.facts),.d (.arr .atom a.atoms)])])/\(RM [])/\True/\TT
def VC_possible_3 (a:GAsn) (c:List Int) (last:Int):Prop:=True/\(((false,()):Bool × Unit)=(possI a c last,()))/\True/\True/\True/\True/\TF
def VC_possible_4 (i1:Nat) (a:GAsn) (c:List Int) (last:Int):Prop:=(inK .i64 (((i1:Nat):Int)+(1:Int)))/\True/\((i1+1)<=a.facts.length/\possF c last (a.facts.take (i1+1))=true)/\(a.facts.length - (i1+1) < a.facts.length - i1)/\TT/\(VC_possible_1 c last a)/\(([.s (.c (.d (.val (.int .i64 (((i1:Nat):Int)+(1:Int))))))]:List S)=[.s (.c (.d (.val (.int .i64 (((i1+1):Nat):Int)))))])/\(VC_possible_2 a)
def VC_possible_5 (i1:Nat) (a:GAsn) (c:List Int) (last:Int):Prop:=True/\(VC_possible_4 i1 a c last)
def VC_possible_6 (c:List Int) (last:Int) (a:GAsn):Prop:=RL [.s (.c (.rv .int c)),.s (.c (.d (.val (.int .i64 last)))),.s (.c (.d (.arr .atom a.atoms))),.s (.c (.d (.val (.int .i64 ((a.atoms.length:Nat):Int)))))]
def VC_possible_7 (i2:Nat) (a:GAsn) (c:List Int) (last:Int):Prop:=(i2+1)<=a.atoms.length/\possF c last a.facts=true/\okS [] (sts c last (a.atoms.take (i2+1)))=true
def VC_possible_8 (i2:Nat) (a:GAsn) (c:List Int) (last:Int):Prop:=(inK .i64 (((i2:Nat):Int)+(1:Int)))/\True/\(VC_possible_7 i2 a c last)/\(a.atoms.length - (i2+1) < a.atoms.length - i2)/\TT/\(VC_possible_6 c last a)/\(([.s (.c (.d (.val (.int .i64 (((i2:Nat):Int)+(1:Int)))))),.s (.c (.d (.val (.int .u16 (maskS (sts c last (a.atoms.take i2)):Int)))))]:List S)=[.s (.c (.d (.val (.int .i64 (((i2+1):Nat):Int))))),.s (.c (.d (.val (.int .u16 (maskS (sts c last (a.atoms.take (i2+1))):Int)))))])/\(RM [])/\(RM [])/\True/\TT
def VC_possible_9 (i2:Nat) (a:GAsn) (c:List Int) (last:Int):Prop:=True/\(VC_possible_8 i2 a c last)
def VC_possible_10 (a:GAsn) (i2:Nat) (c:List Int):Prop:=0<=((a.atoms.getD i2 (⟨0,0,0⟩:GAtom)).a)/\((a.atoms.getD i2 (⟨0,0,0⟩:GAtom)).a) < ((9:Nat):Int)/\c.length=9
def VC_possible_11 (c:List Int) (last:Int) (a:GAsn) (i2:Nat):Prop:=(0<=(maskS (sts c last (a.atoms.take i2)):Int)/\(maskS (sts c last (a.atoms.take i2)):Int) < 512)/\True/\True
def VC_possible_12 (i1:Nat) (a:GAsn) (last:Int) (c:List Int):Prop:=(True/\(vcIf (decide (((i1:Nat):Int) < ((a.facts.length:Nat):Int))) ((0<=((i1:Nat):Int)/\((i1:Nat):Int) < ((a.facts.length:Nat):Int))/\True/\(TN/\True)/\(TF/\TF)/\True/\True/\True/\True/\True/\(vcIf (decide (((a.facts.getD i1 (⟨false,0,0⟩:GFact)).a)<=last)) (True/\True/\True/\True/\True/\True/\(vcIf (decide (((a.facts.getD i1 (⟨false,0,0⟩:GFact)).b)<=last)) (True/\True/\((c.length=9/\fV (a.facts.getD i1 (⟨false,0,0⟩:GFact))=true)/\True/\True)/\True/\True/\(vcIf (!(fh c (a.facts.getD i1 (⟨false,0,0⟩:GFact)))) (VC_possible_3 a c last) (VC_possible_4 i1 a c last))) (VC_possible_5 i1 a c last))) (True/\True/\(VC_possible_5 i1 a c last)))) (True/\True/\True/\True/\True/\((0<=a.atoms.length/\possF c last a.facts=true/\okS [] (sts c last (a.atoms.take 0))=true)/\TT/\(VC_possible_6 c last a)/\(([.s (.c (.d (.val (.int .i64 (0:Int))))),.s (.c (.d (.val (.int .u16 (0:Int)))))]:List S)=[.s (.c (.d (.val (.int .i64 ((0:Nat):Int))))),.s (.c (.d (.val (.int .u16 (maskS (sts c last (a.atoms.take 0)):Int)))))])/\(RM [])/\(RM [])/\True/\TT)/\(∀ i2:Nat,(i2<=a.atoms.length/\possF c last a.facts=true/\okS [] (sts c last (a.atoms.take i2))=true)->True/\(vcIf (decide (((i2:Nat):Int) < ((a.atoms.length:Nat):Int))) ((0<=((i2:Nat):Int)/\((i2:Nat):Int) < ((a.atoms.length:Nat):Int))/\True/\(TN/\True)/\(TF/\TF)/\True/\True/\True/\True/\True/\(vcIf (decide (last < ((a.atoms.getD i2 (⟨0,0,0⟩:GAtom)).a))) (True/\True/\(VC_possible_9 i2 a c last)) (True/\True/\True/\True/\True/\True/\(vcIf (decide (last < ((a.atoms.getD i2 (⟨0,0,0⟩:GAtom)).b))) (VC_possible_9 i2 a c last) (True/\True/\((c.length=9/\atV (a.atoms.getD i2 (⟨0,0,0⟩:GAtom))=true)/\True/\True)/\True/\True/\(vcIf (!(filB c (a.atoms.getD i2 (⟨0,0,0⟩:GAtom)))) (VC_possible_8 i2 a c last) (True/\True/\True/\True/\(VC_possible_10 a i2 c)/\True/\True/\True/\(vcIf ((c.getD ((a.atoms.getD i2 (⟨0,0,0⟩:GAtom)).a).toNat (0:Int)) == (0:Int)) (True/\(VC_possible_3 a c last)) (True/\True/\True/\True/\True/\(VC_possible_10 a i2 c)/\True/\(VC_possible_11 c last a i2)/\True/\(vcIf (tsHas (maskS (sts c last (a.atoms.take i2)):Int) (c.getD ((a.atoms.getD i2 (⟨0,0,0⟩:GAtom)).a).toNat (0:Int))) (VC_possible_3 a c last) (True/\True/\True/\True/\True/\(VC_possible_10 a i2 c)/\True/\(VC_possible_11 c last a i2)/\True/\(inK .i64 (((i2:Nat):Int)+(1:Int)))/\True/\(VC_possible_7 i2 a c last)/\(a.atoms.length - (i2+1) < a.atoms.length - i2)/\TT/\(VC_possible_6 c last a)/\(([.s (.c (.d (.val (.int .i64 (((i2:Nat):Int)+(1:Int)))))),.s (.c (.d (.val (.int .u16 (tsWith (maskS (sts c last (a.atoms.take i2)):Int) (c.getD ((a.atoms.getD i2 (⟨0,0,0⟩:GAtom)).a).toNat (0:Int)))))))]:List S)=[.s (.c (.d (.val (.int .i64 (((i2+1):Nat):Int))))),.s (.c (.d (.val (.int .u16 (maskS (sts c last (a.atoms.take (i2+1))):Int)))))])/\(RM [])/\(RM [])/\True/\TT))))))))))) (True/\(((true,()):Bool × Unit)=(possI a c last,()))/\True/\True/\True/\True/\TF))))))
def VC_possible (c:List Int) (a:GAsn) (last:Int) (k:Nat):Prop:=TN/\True/\True/\True/\True/\True/\((0<=a.facts.length/\possF c last (a.facts.take 0)=true)/\TT/\(VC_possible_1 c last a)/\(([.s (.c (.d (.val (.int .i64 (0:Int)))))]:List S)=[.s (.c (.d (.val (.int .i64 ((0:Nat):Int)))))])/\(VC_possible_2 a))/\(∀ i1:Nat,(i1<=a.facts.length/\possF c last (a.facts.take i1)=true)->(VC_possible_12 i1 a last c))
theorem vcn_possible (c:List Int) (a:GAsn) (last:Int) (k:Nat) (hp:c.length=9/\asV a=true/\0<=last/\last<=8):VC_possible c a last k:=by
 unfold VC_possible VC_possible_12 VC_possible_11 VC_possible_10 VC_possible_9 VC_possible_8 VC_possible_7 VC_possible_6 VC_possible_5 VC_possible_4 VC_possible_3 VC_possible_2 VC_possible_1
 simp only [cln,Nat.reduceEqDiff,Nat.reduceLeDiff,Nat.reduceAdd]
 have hF:=asV_facts hp.2.1
 have hX:=fun i (h:i < a.atoms.length)=>isT_iff.1 (asV_atom (d:=⟨0,0,0⟩) hp.2.1 h).1
 have hM:=fun i=>maskS_bd (sts c last (a.atoms.take i))
 all_goals (try simp only [opn])
 all_goals (repeat' (first | apply And.intro | intro _))
 all_goals (repeat (cases ‹_/\_›))
 all_goals (first | omega | rfl | assumption | (simp_all;done) | (exact (hX _ ‹_›).1) | (exact (hM _).1) | (exact (hM _).2) | (symm;exact possI_noF ‹_› ‹_› ‹_› ‹_›) | (rw [possF_step (d:=⟨false,0,0⟩) ‹_›];simp_all;done) | (rw [possF_step (d:=⟨false,0,0⟩) ‹_›];simp_all;omega) | (rw [← take_full (l:=a.facts) ‹_›];assumption) | (rw [sts_skip (c:=c) (last:=last) (l:=a.atoms) (d:=⟨0,0,0⟩) ‹_› (by simp only [stB,Bool.and_eq_false_iff,decide_eq_false_iff_not];first | (left;left;omega) | (left;right;omega) | (right;assumption))];done) | (rw [sts_skip (c:=c) (last:=last) (l:=a.atoms) (d:=⟨0,0,0⟩) ‹_› (by simp only [stB,Bool.and_eq_false_iff,decide_eq_false_iff_not];first | (left;left;omega) | (left;right;omega) | (right;assumption))];assumption) | (rw [take_full (l:=a.atoms) ‹_›] at *;simp_all [possI];done) | skip)
 all_goals (have hS:=fun (j:Nat) (h1:¬ last < (a.atoms.getD j ⟨0,0,0⟩).a) (h2:¬ last < (a.atoms.getD j ⟨0,0,0⟩).b) (h3:filB c (a.atoms.getD j ⟨0,0,0⟩)=true)=>show stB c last (a.atoms.getD j ⟨0,0,0⟩)=true by (simp only [stB,Bool.and_eq_true,decide_eq_true_eq];exact ⟨⟨by omega,by omega⟩,by assumption⟩))
 all_goals (first | (symm;exact possI_noA ‹_› (hS _ ‹_› ‹_› ‹_›) (.inl ‹_›)) | (symm;exact possI_noA ‹_› (hS _ ‹_› ‹_› ‹_›) (.inr ‹_›)) | (exact (okS_step ‹_› ‹_› (hS _ ‹_› ‹_› ‹_›) ‹_› ‹_›).1) | (exact (okS_step ‹_› ‹_› (hS _ ‹_› ‹_› ‹_›) ‹_› ‹_›).2.symm) | skip)
theorem ok_possible:FnOk Try.prog E 157 c_possible :=
 fn_okQ (l:=L_possible) (lp:=P_possible) (hp:=fun _=>false) (gcs:=fun _=>none) (perm:=fun _=>[]) tabOk mix ⟨ok_tsWith,ok_isFilled,ok_tsHas,ok_factHolds,trivial⟩ trivial Try.func157 rfl (by kernel_rfl) (by decide) (by kernel_rfl) (anns:=fun x _=>an_possible x.1 x.2.1 x.2.2.1) (fun ⟨c,a,last,_⟩ k hp _=>Eq.mp (by kernel_rfl) (vcn_possible c a last k hp)) tot_fn
abbrev L_ext:List (FuncId × Con):=[(156,c_tsHas),(157,c_possible)]
def an_ext (a:GAsn) (tm:Int) (go:List Int->Bool) (T:CG) (l:Nat) (t t':Int) (en en':List Int->CG) (c:List Int) (γ:CG):Nat->St->CG->Option (AnnY CG)
 | 7,st0,GM=>some ⟨{ α:=Nat × List Int,ok:=fun p=>p.1<=t.toNat+1/\p.2.length=9/\(∀ x:Int,p.2.set t.toNat x=c.set t.toNat x)/\((List.range p.1).flatMap (brC (poss a) en t.toNat c)).all go=true,mu:=fun p=>t.toNat+1 - p.1,i0:=fun _=>(0,c),nx:=fun p st=>(p.1+1,vecAt st 95),live:=[1,3,4,5,7],sets:=fun p=>[(11,sv (.int .i64 p.1))],mids:=[127],blks:=fun p=>[(95,.vec .int p.2)],owns:=fun p=>[],rd:=fun r _=>r,base:=100000 },fun p=>GM ++ (List.range p.1).flatMap (brC (poss a) en t.toNat c)⟩
 | _,_,_=>none
def hp_ext:Nat->Bool
 | 2=>true
 | 5=>true
 | 11=>true
 | _=>false
def VC_ext_1 (t:Int) (tm:Int) (l:Nat):Prop:=RL [.s (.c (.d (.val (.int .i64 t)))),.s (.c (.d (.val (.int .u16 tm)))),.s (.c (.d (.val (yV l)))),.s (.c (.ptr 95 0)),.s (.c (.ptr 127 0))]
def VC_ext_2 (p1:Nat × List Int) (t:Int) (c:List Int) (a:GAsn) (en:List Int->CG) (go:List Int->Bool):Prop:=(p1.1+1,(p1.2.set t.toNat (p1.1:Int))).1<=t.toNat+1/\(p1.1+1,(p1.2.set t.toNat (p1.1:Int))).2.length=9/\(∀ x:Int,(p1.1+1,(p1.2.set t.toNat (p1.1:Int))).2.set t.toNat x=c.set t.toNat x)/\((List.range (p1.1+1,(p1.2.set t.toNat (p1.1:Int))).1).flatMap (brC (poss a) en t.toNat c)).all go=true
def VC_ext_3 (t:Int) (p1:Nat × List Int) (tm:Int) (l:Nat) (a:GAsn):Prop:=(t.toNat+1 - (p1.1+1,(p1.2.set t.toNat (p1.1:Int))).1 < t.toNat+1 - p1.1)/\TT/\(VC_ext_1 t tm l)/\(([.s (.c (.d (.val (.int .i64 ((p1.1:Int)+(1:Int))))))]:List S)=[.s (.c (.d (.val (.int .i64 ((p1.1+1,(p1.2.set t.toNat (p1.1:Int))).1:Int)))))])/\(RM [some (.blk [.d (.arr .fact a.facts),.d (.arr .atom a.atoms)])])/\(([some (.vec .int (p1.2.set t.toNat (p1.1:Int)))]:List (Option Res))=[some (.vec .int ((p1.1+1,(p1.2.set t.toNat (p1.1:Int))).2))])/\True/\TT
def VC_ext_4 (t:Int) (p1:Nat × List Int) (a:GAsn) (t':Int) (tm:Int) (l:Nat) (γ:CG) (en:List Int->CG) (c:List Int) (go:List Int->Bool) (T:CG) (en':List Int->CG):Prop:=TT/\True/\True/\(0<=t/\t < ((9:Nat):Int)/\p1.2.length=9)/\(TF/\TF/\True)/\TT/\True/\True/\(((p1.2.set t.toNat (p1.1:Int)).length=9/\asV a=true/\0<=t/\t<=8)/\True/\True)/\True/\(vcIf (possI a (p1.2.set t.toNat (p1.1:Int)) t) ((9=(p1.2.set t.toNat (p1.1:Int)).length * 1)/\True/\(inK .i64 (t+(1:Int)))/\True/\True/\True/\(((none:Option Nat)=none)/\((p1.2.set t.toNat (p1.1:Int)).length=9)/\((t+(1:Int))=t')/\(a.facts=a.facts)/\(a.atoms=a.atoms)/\(tm=tm)/\((yV l:Value)=yV l)/\((γ ++ (List.range p1.1).flatMap (brC (poss a) en t.toNat c)).all go=true)/\(((γ ++ (List.range p1.1).flatMap (brC (poss a) en t.toNat c)) ++ en (p1.2.set t.toNat (p1.1:Int))) <+: T))/\True/\True/\(vcIf (!((en (p1.2.set t.toNat (p1.1:Int))).all go)) (TT/\True/\((none:Option Nat)=none)/\(false=(en' c).all go)/\((γ ++ (List.range p1.1).flatMap (brC (poss a) en t.toNat c) ++ upTo go (en (p1.2.set t.toNat (p1.1:Int))):CG)=γ ++ upTo go (en' c))) (TT/\True/\(inK .i64 ((p1.1:Int)+(1:Int)))/\True/\(VC_ext_2 p1 t c a en go)/\((γ ++ (List.range (p1.1+1,(p1.2.set t.toNat (p1.1:Int))).1).flatMap (brC (poss a) en t.toNat c):CG)=γ ++ (List.range p1.1).flatMap (brC (poss a) en t.toNat c) ++ upTo go (en (p1.2.set t.toNat (p1.1:Int))))/\(VC_ext_3 t p1 tm l a)))) (True/\TT/\True/\(inK .i64 ((p1.1:Int)+(1:Int)))/\True/\(VC_ext_2 p1 t c a en go)/\((γ ++ (List.range (p1.1+1,(p1.2.set t.toNat (p1.1:Int))).1).flatMap (brC (poss a) en t.toNat c):CG)=γ ++ (List.range p1.1).flatMap (brC (poss a) en t.toNat c))/\(VC_ext_3 t p1 tm l a)))
def VC_ext_5 (t:Int) (c:List Int) (l:Nat) (γ:CG) (go:List Int->Bool) (T:CG) (en':List Int->CG) (tm:Int) (t':Int) (a:GAsn) (en:List Int->CG):Prop:=(True/\(vcIf (decide ((8:Int) < t)) (TT/\True/\(9=c.length * 1)/\(((none:Option Nat)=none)/\((.s (.c (.d (.val (yV l)))):S)=.s (.c (.d (.val (yV l)))))/\(γ.all go=true)/\((γ ++ [c]) <+: T))/\True/\((none:Option Nat)=none)/\((go c)=(en' c).all go)/\((γ ++ [c]:CG)=γ ++ upTo go (en' c))) (TT/\True/\True/\((0<=tm/\tm < 512)/\True/\True)/\True/\(vcIf (!(tsHas tm t)) (TT/\True/\(0<=t/\t < ((9:Nat):Int)/\c.length=9)/\(TF/\TF/\True)/\TT/\(9=(c.set t.toNat (-1:Int)).length * 1)/\True/\(inK .i64 (t+(1:Int)))/\True/\True/\True/\(((none:Option Nat)=none)/\((c.set t.toNat (-1:Int)).length=9)/\((t+(1:Int))=t')/\(a.facts=a.facts)/\(a.atoms=a.atoms)/\(tm=tm)/\((yV l:Value)=yV l)/\(γ.all go=true)/\((γ ++ en (c.set t.toNat (-1:Int))) <+: T))/\True/\((none:Option Nat)=none)/\(((en (c.set t.toNat (-1:Int))).all go)=(en' c).all go)/\((γ ++ upTo go (en (c.set t.toNat (-1:Int))):CG)=γ ++ upTo go (en' c))) (TT/\True/\(((0,c).1<=t.toNat+1/\(0,c).2.length=9/\(∀ x:Int,(0,c).2.set t.toNat x=c.set t.toNat x)/\((List.range (0,c).1).flatMap (brC (poss a) en t.toNat c)).all go=true)/\((γ ++ (List.range (0,c).1).flatMap (brC (poss a) en t.toNat c):CG)=γ)/\TT/\(VC_ext_1 t tm l)/\(([.s (.c (.d (.val (.int .i64 (0:Int)))))]:List S)=[.s (.c (.d (.val (.int .i64 ((0,c).1:Int)))))])/\(RM [some (.blk [.d (.arr .fact a.facts),.d (.arr .atom a.atoms)])])/\(([some (.vec .int c)]:List (Option Res))=[some (.vec .int ((0,c).2))])/\True/\TT)/\(∀ p1:Nat × List Int,(p1.1<=t.toNat+1/\p1.2.length=9/\(∀ x:Int,p1.2.set t.toNat x=c.set t.toNat x)/\((List.range p1.1).flatMap (brC (poss a) en t.toNat c)).all go=true)->TT/\True/\True/\True/\(vcIf (decide ((p1.1:Int)<=t)) (TT/\True/\True/\True/\True/\(vcIf (decide ((p1.1:Int) < t)) (True/\(0<=(p1.1:Int)/\(p1.1:Int) < ((9:Nat):Int)/\p1.2.length=9)/\True/\True/\True/\True/\(vcIf ((p1.2.getD (p1.1:Int).toNat (0:Int)) != (p1.1:Int)) (TT/\True/\(inK .i64 ((p1.1:Int)+(1:Int)))/\True/\((p1.1+1,p1.2).1<=t.toNat+1/\(p1.1+1,p1.2).2.length=9/\(∀ x:Int,(p1.1+1,p1.2).2.set t.toNat x=c.set t.toNat x)/\((List.range (p1.1+1,p1.2).1).flatMap (brC (poss a) en t.toNat c)).all go=true)/\((γ ++ (List.range (p1.1+1,p1.2).1).flatMap (brC (poss a) en t.toNat c):CG)=γ ++ (List.range p1.1).flatMap (brC (poss a) en t.toNat c))/\(t.toNat+1 - (p1.1+1,p1.2).1 < t.toNat+1 - p1.1)/\TT/\(VC_ext_1 t tm l)/\(([.s (.c (.d (.val (.int .i64 ((p1.1:Int)+(1:Int))))))]:List S)=[.s (.c (.d (.val (.int .i64 ((p1.1+1,p1.2).1:Int)))))])/\(RM [some (.blk [.d (.arr .fact a.facts),.d (.arr .atom a.atoms)])])/\(([some (.vec .int p1.2)]:List (Option Res))=[some (.vec .int ((p1.1+1,p1.2).2))])/\True/\TT) (VC_ext_4 t p1 a t' tm l γ en c go T en'))) (True/\(VC_ext_4 t p1 a t' tm l γ en c go T en')))) (TT/\True/\((none:Option Nat)=none)/\(true=(en' c).all go)/\((γ ++ (List.range p1.1).flatMap (brC (poss a) en t.toNat c):CG)=γ ++ upTo go (en' c))))))))))
def VC_ext (a:GAsn) (tm:Int) (go:List Int->Bool) (T:CG) (l:Nat) (t t':Int) (en en':List Int->CG) (c:List Int) (γ:CG):Prop:=TT/\TN/\TN/\True/\TT/\True/\(VC_ext_5 t c l γ go T en' tm t' a en)
theorem vcn_ext (a:GAsn) (tm:Int) (go:List Int->Bool) (T:CG) (l:Nat) (t t':Int) (en en':List Int->CG) (c:List Int) (γ:CG) (hp:asV a=true/\0<=tm/\tm < 512) (ht:0<=t/\t<=9) (ht':t'=t+1) (hc:c.length=9) (hgo:γ.all go=true) (hT:(γ ++ en' c) <+: T) (h9:8 < t->en' c=[c]) (h8:¬ 8 < t->en' c=cond (tsHas tm t) ((List.range (t.toNat+1)).flatMap (brC (poss a) en t.toNat c)) (en (c.set t.toNat (-1)))):VC_ext a tm go T l t t' en en' c γ:=by
 unfold VC_ext VC_ext_5 VC_ext_4 VC_ext_3 VC_ext_2 VC_ext_1
 simp only [cln,Nat.reduceEqDiff,Nat.reduceLeDiff,Nat.reduceAdd]
 obtain ⟨n,rfl⟩:∃ n:Nat,t=(n:Int):=⟨t.toNat,by omega⟩
 simp only [Int.toNat_natCast] at h8 ⊢
 all_goals (try simp only [vcIf_iff,decide_eq_true_eq,decide_eq_false_iff_not,bne_iff_ne,ne_eq,beq_iff_eq,beq_eq_false_iff_ne,bne_eq_false_iff_eq,Bool.not_eq_true',Bool.not_eq_false',Int.ofNat_lt,Int.natCast_inj])
 all_goals (repeat' (first | apply And.intro | intro _))
 all_goals (first | omega | assumption | rfl | (simp_all;done) | skip)
 ·rw [h9 ‹_›];simp only [upTo];cases go c <;> rfl
 all_goals (have hL:=h8 ‹_›;rw [(by assumption:tsHas tm (n:Int)=true),cond_true] at hL)
 all_goals (have hok:=(by assumption:_/\_/\(∀ x:Int,_)/\_);obtain ⟨k1,k2,k3,k4⟩:=hok)
 all_goals (first
  | (have e:=fl_skip (a:=a) (en:=en) k3 (by omega) ‹_›;unfold flC at e;rw [e];assumption) | (have e:=fl_skip (a:=a) (en:=en) k3 (by omega) ‹_›;unfold flC at e;rw [e];done)
  | (rw [List.all_append,hgo,k4];rfl)
  | (exact fl_pre hL k3 (.inr ‹_›) ‹_› ‹_› hT) | (exact fl_pre hL k3 (.inl (by omega)) ‹_› ‹_› hT)
  | (exact (fl_all (γ:=γ) hL k3 (.inr ‹_›) ‹_› ‹_› ‹_› k4).1) | (exact (fl_all (γ:=γ) hL k3 (.inl (by omega)) ‹_› ‹_› ‹_› k4).1)
  | (exact (fl_all hL k3 (.inr ‹_›) ‹_› ‹_› ‹_› k4).2) | (exact (fl_all hL k3 (.inl (by omega)) ‹_› ‹_› ‹_› k4).2)
  | (exact (fl_end (γ:=γ) hL k1 ‹_› k4).1) | (exact (fl_end hL k1 ‹_› k4).2)
  | (have e:=fl_no (en:=en) k3 ‹_›;unfold flC at e;rw [e];assumption) | (have e:=fl_no (en:=en) k3 ‹_›;unfold flC at e;rw [e];done)
  | (have e:=fl_yes (en:=en) k3 (.inr ‹_›) ‹_› ‹_›;unfold flC at e;rw [e,List.all_append,k4,(by assumption:List.all (en _) go=true)];rfl)
  | (have e:=fl_yes (en:=en) k3 (.inl (by omega)) ‹_› ‹_›;unfold flC at e;rw [e,List.all_append,k4,(by assumption:List.all (en _) go=true)];rfl)
  | (have e:=fl_yes (en:=en) k3 (.inr ‹_›) ‹_› ‹_›;unfold flC at e;rw [e,upTo_all ‹_›,List.append_assoc];done)
  | (have e:=fl_yes (en:=en) k3 (.inl (by omega)) ‹_› ‹_›;unfold flC at e;rw [e,upTo_all ‹_›,List.append_assoc];done)
  | skip)
def hp_pc:Nat->Bool
 | 1=>true
 | _=>false
def VC_pc (a:GAsn) (tm:Int) (go:List Int->Bool) (T:CG) (l:Nat) (en:List Int->CG) (γ1:CG):Prop:=TT/\(TN/\True)/\TT/\(9=(List.replicate 9 (0:Int)).length * 1)/\True/\True/\True/\(((none:Option Nat)=none)/\((List.replicate 9 (0:Int)).length=9)/\((0:Int)=0)/\(a.facts=a.facts)/\(a.atoms=a.atoms)/\(tm=tm)/\((yV l:Value)=yV l)/\([].all go=true)/\(([] ++ en (List.replicate 9 (0:Int))) <+: T))/\((none:Option Nat)=none)/\(([] ++ upTo go (en (List.replicate 9 (0:Int))):CG)=γ1)
theorem vcn_pc (a:GAsn) (tm:Int) (go:List Int->Bool) (T:CG) (l:Nat) (en:List Int->CG) (γ1:CG) (hT:en (List.replicate 9 0)=T) (h1:γ1=upTo go T):VC_pc a tm go T l en γ1:=by
 unfold VC_pc
 simp only [cln,Nat.reduceEqDiff,Nat.reduceLeDiff,Nat.reduceAdd]
 subst h1 hT
 simp
theorem vce_pc (a:GAsn) (tm:Int) (go:List Int->Bool) (T:CG) (l:Nat) (en:List Int->CG) (γ1:CG):VC_pc a tm go T l en γ1=vcY tab (lookF []) (lookP []) (spE 135 l go T a tm 0 en) noSpc (fun _=>false) hp_pc (fun _=>none) (fun _ _ _=>none) (fun _=>[]) (bodyOf Try.f134) (pcSt a tm l) [] (retP0 tab Try.f134.results.toList γ1):=by kernel_rfl
theorem ext_step {J:JJ CG} {a:GAsn} {tm:Int} {go:List Int->Bool} {T:CG} {l:Nat} {t t':Int} {en en':List Int->CG} (hp:asV a=true/\0<=tm/\tm < 512) (ht:0<=t/\t<=9) (ht':t'=t+1) (h9:∀ c,8 < t->en' c=[c]) (h8:∀ c,¬ 8 < t->en' c=cond (tsHas tm t) ((List.range (t.toNat+1)).flatMap (brC (poss a) en t.toNat c)) (en (c.set t.toNat (-1))))
  (hx:ExtOk Try.prog J 135 l go T a tm t' en) (hy:YOk Try.prog J l go T):ExtOk Try.prog J 135 l go T a tm t en' :=
 ext_sound (hp:=hp_ext) (gcs:=fun _=>none) (perm:=fun _=>[]) (pts:=lookP []) tabOk (kall_of (l:=L_ext) ⟨ok_tsHas,ok_possible,trivial⟩) (pall_of (l:=[]) trivial) mix Try.func135 rfl (by kernel_rfl) (by decide) (by kernel_rfl) hx hy (anns:=fun c γ=>an_ext a tm go T l t t' en en' c γ)
  fun c γ hc hgo hT=>Eq.mp (by kernel_rfl) (vcn_ext a tm go T l t t' en en' c γ hp ht ht' hc hgo hT (h9 c) (h8 c))
theorem ext_all {J:JJ CG} {a:GAsn} {tm:Int} {go:List Int->Bool} {T:CG} {l:Nat} (hp:asV a=true/\0<=tm/\tm < 512) (hy:YOk Try.prog J l go T):∀ (f t:Nat),f+t=9->ExtOk Try.prog J 135 l go T a tm (t:Int) (enumC (poss a) (hasN tm) f t):=by
 intro f
 induction f with
 | zero =>
  intro t ht
  have:t=9:=by omega
  subst this
  exact ext_step (t':=10) hp (by decide) (by decide) (fun c _=>rfl) (fun c h=>absurd h (by decide)) ext_none hy
 | succ f ih =>
  intro t ht
  refine ext_step (t':=((t+1:Nat):Int)) (en:=enumC (poss a) (hasN tm) f (t+1)) hp (by omega) (by omega) (fun c h=>by omega) (fun c _=>?_) (ih (t+1) (by omega)) hy
  simp only [Int.toNat_natCast]
  rfl
theorem it_ok:ItOk Try.prog 134 itPre itEn:=by
 intro J l go a tm hpre hy w p ro0 ρ b1 b2 vs1 ty1 ty2 hin hro h1 hc1 h2 hne hp1 hp2 hr1 hr2 hJ
 exact pc_ok (fid:=135) (T:=itEn a tm) (en:=enumC (poss a) (hasN tm) 9 0) (t:=0) (hp:=hp_pc) (gcs:=fun _=>none) (perm:=fun _=>[]) (K:=lookF []) (pts:=lookP []) (anns:=fun _ _ _=>none) tabOk (kall_of (l:=[]) trivial) (pall_of (l:=[]) trivial) mix Try.func134 rfl (by decide) Try.func135 rfl (by kernel_rfl) (by kernel_rfl) (ext_all hpre hy 9 0 rfl) hy
  ((vce_pc a tm go (itEn a tm) l (enumC (poss a) (hasN tm) 9 0) (upTo go (itEn a tm))).mp (vcn_pc a tm go (itEn a tm) l (enumC (poss a) (hasN tm) 9 0) (upTo go (itEn a tm)) rfl rfl)) hin hro h1 hc1 h2 hne hp1 hp2 hr1 hr2 hJ
theorem it_run:∀ args w,(callFunc 134 args).run Try.prog w=.ok (.enter 134 args) w:=run_callFunc Try.func134 (by kernel_rfl) rfl
abbrev L_possibleCases:List (FuncId × Con):=[(99,c_termsIn),(133,c_tsWith)]
abbrev P_possibleCases:List (FuncId × PT):=[]
abbrev pt_possibleCases:PT:=inl tab (lookF L_possibleCases) (lookP P_possibleCases) (fun _=>false) (fun _ _=>none) (fun _ _ _ _=>none) (fun _=>[]) Try.f98.ntmps (bodyOf Try.f98) Try.f98.results.toList
theorem ptok_possibleCases:PTOk Try.prog E 98 pt_possibleCases :=
 pt_ok (l:=L_possibleCases) (lp:=P_possibleCases) tabOk mix ⟨ok_termsIn,ok_tsWith,trivial⟩ trivial Try.func98 rfl (by kernel_rfl) (by kernel_rfl)
abbrev c_iFilled:Con:=⟨[.pkase,.sl .atom],[.sl .atom],fun (c,l,_)=>l.length<=1048576/\l.all atV=true/\c.length=9,.inl fun (c,l,_)=>(fL c l,()),fun _=>0⟩
abbrev L_iFilled:List (FuncId × Con):=[(139,c_isFilled)]
abbrev P_iFilled:List (FuncId × PT):=[]
def an_iFilled (c:List Int) (l:List GAtom):Nat->St->Option Ann
 | 3,se=>some { α:=Nat,ok:=fun i=>i<=l.length,mu:=fun i=>l.length - i,i0:=fun _=>0,nx:=fun a _=>(fun i=>i+1) a,live:=[0,4,8,9],sets:=fun i=>[(10,sv (.int .i64 i))],mids:=[64],blks:=fun i=>[],owns:=fun i=>[⟨7,.slot 5,.atom,fL c (l.take i)⟩],rd:=fun r _=>r,base:=100000 }
 | _,_=>none
def VC_iFilled_1 (c:List Int) (l:List GAtom):Prop:=RL [.s (.c (.rv .int c)),.s (.c (.own 64)),.s (.c (.d (.arr .atom l))),.s (.c (.d (.val (.int .i64 ((l.length:Nat):Int)))))]
def VC_iFilled_2 (i1:Nat):Prop:=([.s (.c (.d (.val (.int .i64 (((i1:Nat):Int)+(1:Int))))))]:List S)=[.s (.c (.d (.val (.int .i64 (((i1+1):Nat):Int)))))]
def VC_iFilled (c:List Int) (l:List GAtom) (k:Nat):Prop:=TN/\TN/\True/\True/\True/\((0<=l.length)/\TT/\(VC_iFilled_1 c l)/\(([.s (.c (.d (.val (.int .i64 (0:Int)))))]:List S)=[.s (.c (.d (.val (.int .i64 ((0:Nat):Int)))))])/\(RM [some (.sl 64 .atom ([]:List GAtom))])/\(RM [])/\(((some ([]:List GAtom):Option (List GAtom))=some (fL c (l.take 0)))/\True)/\TT)/\(∀ i1:Nat,(i1<=l.length)->True/\(vcIf (decide (((i1:Nat):Int) < ((l.length:Nat):Int))) ((0<=((i1:Nat):Int)/\((i1:Nat):Int) < ((l.length:Nat):Int))/\True/\(TN/\True)/\(TF/\TF)/\True/\True/\((c.length=9/\atV (l.getD i1 (⟨0,0,0⟩:GAtom))=true)/\True/\True)/\(vcIf (filB c (l.getD i1 (⟨0,0,0⟩:GAtom))) (True/\True/\True/\True/\True/\True/\True/\(0<=((l.getD i1 (⟨0,0,0⟩:GAtom)).a)/\((l.getD i1 (⟨0,0,0⟩:GAtom)).a) < ((9:Nat):Int)/\c.length=9)/\True/\True/\True/\True/\True/\(0<=((l.getD i1 (⟨0,0,0⟩:GAtom)).b)/\((l.getD i1 (⟨0,0,0⟩:GAtom)).b) < ((9:Nat):Int)/\c.length=9)/\True/\True/\(TN/\True)/\(TN/\TF/\TF/\((fL c (l.take i1)).length+([(⟨(l.getD i1 (⟨0,0,0⟩:GAtom)).kind,(c.getD ((l.getD i1 (⟨0,0,0⟩:GAtom)).a).toNat (0:Int)),(c.getD ((l.getD i1 (⟨0,0,0⟩:GAtom)).b).toNat (0:Int))⟩:GAtom)]:List GAtom).length<=4294967296))/\True/\(inK .i64 (((i1:Nat):Int)+(1:Int)))/\True/\((i1+1)<=l.length)/\(l.length - (i1+1) < l.length - i1)/\TT/\(VC_iFilled_1 c l)/\(VC_iFilled_2 i1)/\(RM [some (.sl 64 .atom ([]:List GAtom))])/\(RM [])/\(((some ((fL c (l.take i1)) ++ ([(⟨(l.getD i1 (⟨0,0,0⟩:GAtom)).kind,(c.getD ((l.getD i1 (⟨0,0,0⟩:GAtom)).a).toNat (0:Int)),(c.getD ((l.getD i1 (⟨0,0,0⟩:GAtom)).b).toNat (0:Int))⟩:GAtom)]:List GAtom)):Option (List GAtom))=some (fL c (l.take (i1+1))))/\True)/\TT) ((inK .i64 (((i1:Nat):Int)+(1:Int)))/\True/\((i1+1)<=l.length)/\(l.length - (i1+1) < l.length - i1)/\TT/\(VC_iFilled_1 c l)/\(VC_iFilled_2 i1)/\(RM [some (.sl 64 .atom ([]:List GAtom))])/\(RM [])/\(((some (fL c (l.take i1)):Option (List GAtom))=some (fL c (l.take (i1+1))))/\True)/\TT))) (True/\True/\(((fL c (l.take i1),()):(List GAtom) × Unit)=(fL c l,()))/\(True/\True)/\((TF/\TF)/\True)/\True/\(True/\True)/\TF)))
theorem vcn_iFilled (c:List Int) (l:List GAtom) (k:Nat) (hp:l.length<=1048576/\l.all atV=true/\c.length=9):VC_iFilled c l k:=by
 unfold VC_iFilled VC_iFilled_2 VC_iFilled_1
 simp only [cln,Nat.reduceEqDiff,Nat.reduceLeDiff,Nat.reduceAdd]
 have hV:=hp.2.1
 have hL:∀ i,(fL c (l.take i)).length<=1048576:=fun i=>Nat.le_trans (fL_len _ _) (by simp;omega)
 all_goals (try simp only [opn])
 all_goals (repeat' (first | apply And.intro | intro _))
 all_goals (repeat (cases ‹_/\_›))
 all_goals (first | omega | rfl | assumption | (simp_all;done) | skip)
 all_goals (first
  | (have h1:=atom_idx (l:=l) hV ‹_›;omega)
  | exact Nat.le_trans (hL _) (by decide)
  | (rw [fL_step (d:=⟨0,0,0⟩) ‹_›,(by assumption:filB c _=true)];rfl)
  | (rw [fL_step (d:=⟨0,0,0⟩) ‹_›,(by assumption:filB c _=false)];rfl)
  | (rw [take_full (l:=l) ‹_›];done) | skip)
theorem ok_iFilled:FnOk Try.prog E 102 c_iFilled :=
 fn_okQ (l:=L_iFilled) (lp:=P_iFilled) (hp:=fun _=>false) (gcs:=fun _=>none) (perm:=fun _=>[]) tabOk mix ⟨ok_isFilled,trivial⟩ trivial Try.func102 rfl (by kernel_rfl) (by decide) (by kernel_rfl) (anns:=fun x _=>an_iFilled x.1 x.2.1) (fun ⟨c,l,_⟩ k hp _=>Eq.mp (by kernel_rfl) (vcn_iFilled c l k hp)) tot_fn
abbrev c_factsHold:Con:=⟨[.pkase,.sl .fact],[.bool],fun (c,l,_)=>c.length=9/\l.all fV=true/\l.length<=1048576,.inl fun (c,l,_)=>(l.all (fh c),()),fun _=>0⟩
abbrev L_factsHold:List (FuncId × Con):=[(158,c_factHolds)]
abbrev P_factsHold:List (FuncId × PT):=[]
def an_factsHold (c:List Int) (l:List GFact):Nat->St->Option Ann
 | 2,se=>some { α:=Nat,ok:=fun i=>i<=l.length/\(l.take i).all (fh c)=true,mu:=fun i=>l.length - i,i0:=fun _=>0,nx:=fun a _=>(fun i=>i+1) a,live:=[0,7,8],sets:=fun i=>[(9,sv (.int .i64 i))],mids:=[],blks:=fun i=>[],owns:=fun i=>[],rd:=fun r _=>r,base:=100000 }
 | _,_=>none
def VC_factsHold_1 (c:List Int) (l:List GFact):Prop:=RL [.s (.c (.rv .int c)),.s (.c (.d (.arr .fact l))),.s (.c (.d (.val (.int .i64 ((l.length:Nat):Int)))))]
def VC_factsHold (c:List Int) (l:List GFact) (k:Nat):Prop:=True/\True/\True/\True/\((0<=l.length/\(l.take 0).all (fh c)=true)/\TT/\(VC_factsHold_1 c l)/\(([.s (.c (.d (.val (.int .i64 (0:Int)))))]:List S)=[.s (.c (.d (.val (.int .i64 ((0:Nat):Int)))))])/\(RM [])/\(RM [])/\True/\TT)/\(∀ i1:Nat,(i1<=l.length/\(l.take i1).all (fh c)=true)->True/\(vcIf (decide (((i1:Nat):Int) < ((l.length:Nat):Int))) ((0<=((i1:Nat):Int)/\((i1:Nat):Int) < ((l.length:Nat):Int))/\True/\(TN/\True)/\(TF/\TF)/\True/\True/\((c.length=9/\fV (l.getD i1 (⟨false,0,0⟩:GFact))=true)/\True/\True)/\True/\(vcIf (!(fh c (l.getD i1 (⟨false,0,0⟩:GFact)))) (True/\(((false,()):Bool × Unit)=(l.all (fh c),()))/\True/\True/\True/\True/\TF) ((inK .i64 (((i1:Nat):Int)+(1:Int)))/\True/\((i1+1)<=l.length/\(l.take (i1+1)).all (fh c)=true)/\(l.length - (i1+1) < l.length - i1)/\TT/\(VC_factsHold_1 c l)/\(([.s (.c (.d (.val (.int .i64 (((i1:Nat):Int)+(1:Int))))))]:List S)=[.s (.c (.d (.val (.int .i64 (((i1+1):Nat):Int)))))])/\(RM [])/\(RM [])/\True/\TT))) (True/\(((true,()):Bool × Unit)=(l.all (fh c),()))/\True/\True/\True/\True/\TF)))
theorem vcn_factsHold (c:List Int) (l:List GFact) (k:Nat) (hp:c.length=9/\l.all fV=true/\l.length<=1048576):VC_factsHold c l k:=by
 unfold VC_factsHold VC_factsHold_1
 simp only [cln,Nat.reduceEqDiff,Nat.reduceLeDiff,Nat.reduceAdd]
 have hV:=hp.2.1
 all_goals (try simp only [opn])
 all_goals (repeat' (first | apply And.intro | intro _))
 all_goals (repeat (cases ‹_/\_›))
 all_goals (first | omega | rfl | assumption | (simp_all;done) | grind [take_all,all_take,take_full,Ty.zero])
theorem ok_factsHold:FnOk Try.prog E 136 c_factsHold :=
 fn_okQ (l:=L_factsHold) (lp:=P_factsHold) (hp:=fun _=>false) (gcs:=fun _=>none) (perm:=fun _=>[]) tabOk mix ⟨ok_factHolds,trivial⟩ trivial Try.func136 rfl (by kernel_rfl) (by decide) (by kernel_rfl) (anns:=fun x _=>an_factsHold x.1 x.2.1) (fun ⟨c,l,_⟩ k hp _=>Eq.mp (by kernel_rfl) (vcn_factsHold c l k hp)) tot_fn
end Go.Proofs.Ytopjgjelkpkmmaa
