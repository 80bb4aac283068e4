/-
  Contracts of single functions of the program, each shown by the engine: what a call returns for arguments within the contract's bounds.
-/
import Derived.Test.YtopjgjelkpkmmaaProg
import Derived.KernelRfl
import Derived.Test.YtopjgjelkpkmmaaEc
import Derived.Test.YtopjgjelkpkmmaaEd
set_option linter.unusedSimpArgs false
set_option linter.unusedVariables false
set_option linter.unusedSectionVars false

namespace Go.Proofs.Ytopjgjelkpkmmaa
open Go.SE Go.RowKit
def E:Ty->TypeId
 | .int=>3
 | .bool=>4
 | .u8=>5
 | .fact=>94
 | .atom=>66
 | .cmd=>0
 | .ints=>29
 | .asn=>0
def tabL:List (TypeId × TI):=[
 (2,⟨1,8,.sc (.int .i64 0)⟩),
 (3,⟨1,8,.sc (.int .i64 0)⟩),
 (4,⟨1,1,.sc (.bool false)⟩),
 (5,⟨1,1,.sc (.int .u8 0)⟩),
 (7,⟨4,24,.st [.sc (.int .i64 0),.sc (.int .i64 0),.sc (.bool false),.sc (.int .u8 0)] [(0,1,false),(1,1,false),(2,1,false),(3,1,false)]⟩),
 (9,⟨1,16,.sc (.string ⟨#[]⟩)⟩),
 (12,⟨1,8,.sc (.int .u64 0)⟩),
 (13,⟨2,24,.st [.sc (.string ⟨#[]⟩),.sc (.int .u64 0)] [(0,1,false),(1,1,false)]⟩),
 (21,⟨1,4,.sc (.int .i32 0)⟩),
 (22,⟨1,24,.sl true 5 .u8⟩),
 (23,⟨1,24,.sl true 94 .fact⟩),
 (24,⟨1,24,.sl true 66 .atom⟩),
 (25,⟨2,48,.st [.sl .fact,.sl .atom] [(0,1,false),(1,1,false)]⟩),
 (26,⟨2,48,.st [.sl .fact,.sl .atom] [(0,1,false),(1,1,false)]⟩),
 (29,⟨1,24,.sl true 3 .int⟩),
 (30,⟨2,48,.st [.sl .int,.sl .int] [(0,1,false),(1,1,false)]⟩),
 (31,⟨2,48,.st [.sl .int,.sl .int] [(0,1,false),(1,1,false)]⟩),
 (38,⟨1,24,.sl false 139 .fact⟩),
 (39,⟨1,24,.sl false 141 .atom⟩),
 (40,⟨2,48,.st [.sl .fact,.sl .atom] [(0,1,false),(1,1,false)]⟩),
 (41,⟨2,48,.st [.sl .fact,.sl .atom] [(0,1,false),(1,1,false)]⟩),
 (65,⟨3,24,.st [.sc (.int .i64 0),.sc (.int .i64 0),.sc (.int .i64 0)] [(0,1,false),(1,1,false),(2,1,false)]⟩),
 (66,⟨3,24,.st [.sc (.int .i64 0),.sc (.int .i64 0),.sc (.int .i64 0)] [(0,1,false),(1,1,false),(2,1,false)]⟩),
 (67,⟨9,72,.ar 9 3 .int⟩),
 (68,⟨9,72,.ar 9 3 .int⟩),
 (71,⟨2,2,.ar 2 4 .bool⟩),
 (77,⟨1,2,.sc (.int .u16 0)⟩),
 (78,⟨1,2,.sc (.int .u16 0)⟩),
 (93,⟨3,24,.st [.sc (.bool false),.sc (.int .i64 0),.sc (.int .i64 0)] [(0,1,false),(1,1,false),(2,1,false)]⟩),
 (94,⟨3,24,.st [.sc (.bool false),.sc (.int .i64 0),.sc (.int .i64 0)] [(0,1,false),(1,1,false),(2,1,false)]⟩),
 (104,⟨4,96,.st [.sl .fact,.sl .atom,.sl .fact,.sl .atom] [(0,2,true),(2,2,true)]⟩),
 (105,⟨4,96,.st [.sl .fact,.sl .atom,.sl .fact,.sl .atom] [(0,2,true),(2,2,true)]⟩),
 (110,⟨1,8,.sc (.int .u64 0)⟩),
 (111,⟨2,32,.st [.sl .u8,.sc (.int .i64 0)] [(0,1,false),(1,1,false)]⟩),
 (112,⟨2,32,.st [.sl .u8,.sc (.int .i64 0)] [(0,1,false),(1,1,false)]⟩),
 (119,⟨1,2,.sc (.int .u16 0)⟩),
 (121,⟨1,24,.sl true 29 .ints⟩),
 (130,⟨1,24,.sl true 4 .bool⟩),
 (139,⟨3,24,.st [.sc (.bool false),.sc (.int .i64 0),.sc (.int .i64 0)] [(0,1,false),(1,1,false),(2,1,false)]⟩),
 (141,⟨3,24,.st [.sc (.int .i64 0),.sc (.int .i64 0),.sc (.int .i64 0)] [(0,1,false),(1,1,false),(2,1,false)]⟩),
 (149,⟨1,4,.sc (.int .u32 0)⟩),
 (151,⟨1,8,.sc (.int .u64 0)⟩),
 (156,⟨6,6,.ar 6 4 .bool⟩),
 (157,⟨8,40,.st [.sl .atom,.sc (.bool false),.sc (.bool false),.sc (.bool false),.sc (.bool false),.sc (.bool false),.sc (.bool false),.sc (.int .i64 0)] [(0,1,false),(1,6,true),(7,1,false)]⟩),
 (158,⟨8,40,.st [.sl .atom,.sc (.bool false),.sc (.bool false),.sc (.bool false),.sc (.bool false),.sc (.bool false),.sc (.bool false),.sc (.int .i64 0)] [(0,1,false),(1,6,true),(7,1,false)]⟩)]
def tab:TypeId->Option TI:=lookT tabL
theorem tab2:tab 2=some ⟨1,8,.sc (.int .i64 0)⟩:=rfl
theorem tab3:tab 3=some ⟨1,8,.sc (.int .i64 0)⟩:=rfl
theorem tab4:tab 4=some ⟨1,1,.sc (.bool false)⟩:=rfl
theorem tab5:tab 5=some ⟨1,1,.sc (.int .u8 0)⟩:=rfl
theorem tab7:tab 7=some ⟨4,24,.st [.sc (.int .i64 0),.sc (.int .i64 0),.sc (.bool false),.sc (.int .u8 0)] [(0,1,false),(1,1,false),(2,1,false),(3,1,false)]⟩:=rfl
theorem tab9:tab 9=some ⟨1,16,.sc (.string ⟨#[]⟩)⟩:=rfl
theorem tab12:tab 12=some ⟨1,8,.sc (.int .u64 0)⟩:=rfl
theorem tab13:tab 13=some ⟨2,24,.st [.sc (.string ⟨#[]⟩),.sc (.int .u64 0)] [(0,1,false),(1,1,false)]⟩:=rfl
theorem tab21:tab 21=some ⟨1,4,.sc (.int .i32 0)⟩:=rfl
theorem tab22:tab 22=some ⟨1,24,.sl true 5 .u8⟩:=rfl
theorem tab23:tab 23=some ⟨1,24,.sl true 94 .fact⟩:=rfl
theorem tab24:tab 24=some ⟨1,24,.sl true 66 .atom⟩:=rfl
theorem tab25:tab 25=some ⟨2,48,.st [.sl .fact,.sl .atom] [(0,1,false),(1,1,false)]⟩:=rfl
theorem tab26:tab 26=some ⟨2,48,.st [.sl .fact,.sl .atom] [(0,1,false),(1,1,false)]⟩:=rfl
theorem tab29:tab 29=some ⟨1,24,.sl true 3 .int⟩:=rfl
theorem tab30:tab 30=some ⟨2,48,.st [.sl .int,.sl .int] [(0,1,false),(1,1,false)]⟩:=rfl
theorem tab31:tab 31=some ⟨2,48,.st [.sl .int,.sl .int] [(0,1,false),(1,1,false)]⟩:=rfl
theorem tab38:tab 38=some ⟨1,24,.sl false 139 .fact⟩:=rfl
theorem tab39:tab 39=some ⟨1,24,.sl false 141 .atom⟩:=rfl
theorem tab40:tab 40=some ⟨2,48,.st [.sl .fact,.sl .atom] [(0,1,false),(1,1,false)]⟩:=rfl
theorem tab41:tab 41=some ⟨2,48,.st [.sl .fact,.sl .atom] [(0,1,false),(1,1,false)]⟩:=rfl
theorem tab65:tab 65=some ⟨3,24,.st [.sc (.int .i64 0),.sc (.int .i64 0),.sc (.int .i64 0)] [(0,1,false),(1,1,false),(2,1,false)]⟩:=rfl
theorem tab66:tab 66=some ⟨3,24,.st [.sc (.int .i64 0),.sc (.int .i64 0),.sc (.int .i64 0)] [(0,1,false),(1,1,false),(2,1,false)]⟩:=rfl
theorem tab67:tab 67=some ⟨9,72,.ar 9 3 .int⟩:=rfl
theorem tab68:tab 68=some ⟨9,72,.ar 9 3 .int⟩:=rfl
theorem tab71:tab 71=some ⟨2,2,.ar 2 4 .bool⟩:=rfl
theorem tab77:tab 77=some ⟨1,2,.sc (.int .u16 0)⟩:=rfl
theorem tab78:tab 78=some ⟨1,2,.sc (.int .u16 0)⟩:=rfl
theorem tab93:tab 93=some ⟨3,24,.st [.sc (.bool false),.sc (.int .i64 0),.sc (.int .i64 0)] [(0,1,false),(1,1,false),(2,1,false)]⟩:=rfl
theorem tab94:tab 94=some ⟨3,24,.st [.sc (.bool false),.sc (.int .i64 0),.sc (.int .i64 0)] [(0,1,false),(1,1,false),(2,1,false)]⟩:=rfl
theorem tab104:tab 104=some ⟨4,96,.st [.sl .fact,.sl .atom,.sl .fact,.sl .atom] [(0,2,true),(2,2,true)]⟩:=rfl
theorem tab105:tab 105=some ⟨4,96,.st [.sl .fact,.sl .atom,.sl .fact,.sl .atom] [(0,2,true),(2,2,true)]⟩:=rfl
theorem tab110:tab 110=some ⟨1,8,.sc (.int .u64 0)⟩:=rfl
theorem tab111:tab 111=some ⟨2,32,.st [.sl .u8,.sc (.int .i64 0)] [(0,1,false),(1,1,false)]⟩:=rfl
theorem tab112:tab 112=some ⟨2,32,.st [.sl .u8,.sc (.int .i64 0)] [(0,1,false),(1,1,false)]⟩:=rfl
theorem tab119:tab 119=some ⟨1,2,.sc (.int .u16 0)⟩:=rfl
theorem tab121:tab 121=some ⟨1,24,.sl true 29 .ints⟩:=rfl
theorem tab130:tab 130=some ⟨1,24,.sl true 4 .bool⟩:=rfl
theorem tab139:tab 139=some ⟨3,24,.st [.sc (.bool false),.sc (.int .i64 0),.sc (.int .i64 0)] [(0,1,false),(1,1,false),(2,1,false)]⟩:=rfl
theorem tab141:tab 141=some ⟨3,24,.st [.sc (.int .i64 0),.sc (.int .i64 0),.sc (.int .i64 0)] [(0,1,false),(1,1,false),(2,1,false)]⟩:=rfl
theorem tab149:tab 149=some ⟨1,4,.sc (.int .u32 0)⟩:=rfl
theorem tab151:tab 151=some ⟨1,8,.sc (.int .u64 0)⟩:=rfl
theorem tab156:tab 156=some ⟨6,6,.ar 6 4 .bool⟩:=rfl
theorem tab157:tab 157=some ⟨8,40,.st [.sl .atom,.sc (.bool false),.sc (.bool false),.sc (.bool false),.sc (.bool false),.sc (.bool false),.sc (.bool false),.sc (.int .i64 0)] [(0,1,false),(1,6,true),(7,1,false)]⟩:=rfl
theorem tab158:tab 158=some ⟨8,40,.st [.sl .atom,.sc (.bool false),.sc (.bool false),.sc (.bool false),.sc (.bool false),.sc (.bool false),.sc (.bool false),.sc (.int .i64 0)] [(0,1,false),(1,6,true),(7,1,false)]⟩:=rfl
theorem tabOk:TabOk Try.prog E tab:=tab_ok (by kernel_rfl)
theorem mix:Try.prog.follows .mixedOrders=true:=by kernel_rfl
end Go.Proofs.Ytopjgjelkpkmmaa

namespace Go.Proofs.Ytopjgjelkpkmmaa
open Go.SE Go.RowKit
set_option linter.unusedSimpArgs false
set_option linter.unusedVariables false
set_option maxHeartbeats 1000000
set_option maxRecDepth 100000
abbrev c_szFactS:Con:=⟨[.sl .fact,.int],[.int],fun (l,left,_)=>l.length<=281474976710656/\0<=left/\left<=1048576,.inl fun (l,left,_)=>(sz1 left l.length,()),fun _=>0⟩
abbrev L_szFactS:List (FuncId × Con):=[]
abbrev P_szFactS:List (FuncId × PT):=[]
def VC_szFactS (l:List GFact) (left:Int) (k:Nat):Prop:=True/\True/\True/\True/\(inK .i64 (left - ((l.length:Nat):Int)))/\True/\True/\True/\(vcIf (decide ((left - ((l.length:Nat):Int)) < (0:Int))) (True/\((((-1:Int),()):Int × Unit)=(sz1 left l.length,()))/\True/\True/\True/\True/\TF) (True/\True/\(((left - ((l.length:Nat):Int),()):Int × Unit)=(sz1 left l.length,()))/\True/\True/\True/\True/\TF))
theorem vcn_szFactS (l:List GFact) (left:Int) (k:Nat) (hp:l.length<=281474976710656/\0<=left/\left<=1048576):VC_szFactS l left k:=by
 unfold VC_szFactS
 simp only [cln,Nat.reduceEqDiff,Nat.reduceLeDiff,Nat.reduceAdd]
 unfold sz1
 by_cases h:left - l.length < 0 <;> simp [vcIf,h] <;> omega
theorem ok_szFactS:FnOk Try.prog E 61 c_szFactS :=
 fn_okQ (l:=L_szFactS) (lp:=P_szFactS) (hp:=fun _=>false) (gcs:=fun _=>none) (perm:=fun _=>[]) tabOk mix trivial trivial Try.func61 rfl (by kernel_rfl) (by decide) (by kernel_rfl) (anns:=fun x _=>fun _ _=>none) (fun ⟨l,left,_⟩ k hp _=>Eq.mp (by kernel_rfl) (vcn_szFactS l left k hp)) tot_fn
abbrev c_szAtomS:Con:=⟨[.sl .atom,.int],[.int],fun (l,left,_)=>l.length<=281474976710656/\0<=left/\left<=1048576,.inl fun (l,left,_)=>(sz1 left l.length,()),fun _=>0⟩
abbrev L_szAtomS:List (FuncId × Con):=[]
abbrev P_szAtomS:List (FuncId × PT):=[]
def VC_szAtomS (l:List GAtom) (left:Int) (k:Nat):Prop:=True/\True/\True/\True/\(inK .i64 (left - ((l.length:Nat):Int)))/\True/\True/\True/\(vcIf (decide ((left - ((l.length:Nat):Int)) < (0:Int))) (True/\((((-1:Int),()):Int × Unit)=(sz1 left l.length,()))/\True/\True/\True/\True/\TF) (True/\True/\(((left - ((l.length:Nat):Int),()):Int × Unit)=(sz1 left l.length,()))/\True/\True/\True/\True/\TF))
theorem vcn_szAtomS (l:List GAtom) (left:Int) (k:Nat) (hp:l.length<=281474976710656/\0<=left/\left<=1048576):VC_szAtomS l left k:=by
 unfold VC_szAtomS
 simp only [cln,Nat.reduceEqDiff,Nat.reduceLeDiff,Nat.reduceAdd]
 unfold sz1
 by_cases h:left - l.length < 0 <;> simp [vcIf,h] <;> omega
theorem ok_szAtomS:FnOk Try.prog E 62 c_szAtomS :=
 fn_okQ (l:=L_szAtomS) (lp:=P_szAtomS) (hp:=fun _=>false) (gcs:=fun _=>none) (perm:=fun _=>[]) tabOk mix trivial trivial Try.func62 rfl (by kernel_rfl) (by decide) (by kernel_rfl) (anns:=fun x _=>fun _ _=>none) (fun ⟨l,left,_⟩ k hp _=>Eq.mp (by kernel_rfl) (vcn_szAtomS l left k hp)) tot_fn
abbrev c_szAssertion:Con:=⟨[.asn,.int],[.int],fun (a,left,_)=>a.facts.length<=281474976710656/\a.atoms.length<=281474976710656/\0<=left/\left<=1048576,.inl fun (a,left,_)=>(szA a left,()),fun _=>0⟩
abbrev L_szAssertion:List (FuncId × Con):=[(61,c_szFactS),(62,c_szAtomS)]
abbrev P_szAssertion:List (FuncId × PT):=[]
def VC_szAssertion_1 (a:GAsn) (left:Int):Prop:=True/\((((-1:Int),()):Int × Unit)=(szA a left,()))/\True/\True/\True/\True/\TF
def VC_szAssertion (a:GAsn) (left:Int) (k:Nat):Prop:=TN/\True/\True/\True/\True/\((a.facts.length<=281474976710656/\0<=left/\left<=1048576)/\True/\True)/\True/\True/\True/\(vcIf (decide ((sz1 left a.facts.length) < (0:Int))) (VC_szAssertion_1 a left) (True/\True/\True/\((a.atoms.length<=281474976710656/\0<=(sz1 left a.facts.length)/\(sz1 left a.facts.length)<=1048576)/\True/\True)/\True/\True/\True/\(vcIf (decide ((sz1 (sz1 left a.facts.length) a.atoms.length) < (0:Int))) (VC_szAssertion_1 a left) (True/\True/\((((sz1 (sz1 left a.facts.length) a.atoms.length),()):Int × Unit)=(szA a left,()))/\True/\True/\True/\True/\TF))))
theorem vcn_szAssertion (a:GAsn) (left:Int) (k:Nat) (hp:a.facts.length<=281474976710656/\a.atoms.length<=281474976710656/\0<=left/\left<=1048576):VC_szAssertion a left k:=by
 unfold VC_szAssertion VC_szAssertion_1
 simp only [cln,Nat.reduceEqDiff,Nat.reduceLeDiff,Nat.reduceAdd]
 all_goals (try simp only [opn])
 all_goals (repeat' (first | apply And.intro | intro _))
 all_goals (first | omega | (simp_all;done) | grind [szA,sz1])
theorem ok_szAssertion:FnOk Try.prog E 21 c_szAssertion :=
 fn_okQ (l:=L_szAssertion) (lp:=P_szAssertion) (hp:=fun _=>false) (gcs:=fun _=>none) (perm:=fun _=>[]) tabOk mix ⟨ok_szFactS,ok_szAtomS,trivial⟩ trivial Try.func21 rfl (by kernel_rfl) (by decide) (by kernel_rfl) (anns:=fun x _=>fun _ _=>none) (fun ⟨a,left,_⟩ k hp _=>Eq.mp (by kernel_rfl) (vcn_szAssertion a left k hp)) tot_fn
abbrev c_toFact:Con:=⟨[.fact],[.fact],fun _=>True,.inl fun (f,_)=>(f,()),fun _=>0⟩
abbrev L_toFact:List (FuncId × Con):=[]
abbrev P_toFact:List (FuncId × PT):=[]
def VC_toFact (f:GFact) (k:Nat):Prop:=TN/\(TN/\True)/\(TN/\True)/\True/\True/\True/\(TF/\TF)/\True/\True/\True/\(TF/\TF)/\True/\True/\True/\(TF/\TF)/\True/\(TF/\TF)/\(((f,()):GFact × Unit)=(f,()))/\True/\True/\True/\True/\TF
theorem vcn_toFact (f:GFact) (k:Nat):VC_toFact f k:=by
 unfold VC_toFact
 simp only [cln,Nat.reduceEqDiff,Nat.reduceLeDiff,Nat.reduceAdd]
 all_goals (try simp only [opn])
 all_goals (repeat' (first | apply And.intro | intro _))
 all_goals (first | omega | (simp_all;done) | grind [])
theorem ok_toFact:FnOk Try.prog E 118 c_toFact :=
 fn_okQ (l:=L_toFact) (lp:=P_toFact) (hp:=fun _=>false) (gcs:=fun _=>none) (perm:=fun _=>[]) tabOk mix trivial trivial Try.func118 rfl (by kernel_rfl) (by decide) (by kernel_rfl) (anns:=fun x _=>fun _ _=>none) (fun ⟨f,_⟩ k _ _=>Eq.mp (by kernel_rfl) (vcn_toFact f k)) tot_fn
abbrev c_toFactS:Con:=⟨[.sl .fact],[.sl .fact],fun (l,_)=>l.length<=1048576,.inl fun (l,_)=>(l,()),fun _=>0⟩
abbrev L_toFactS:List (FuncId × Con):=[(118,c_toFact)]
abbrev P_toFactS:List (FuncId × PT):=[]
def an_toFactS (l:List GFact):Nat->St->Option Ann
 | 3,se=>some { α:=Nat,ok:=fun i=>i<=l.length,mu:=fun i=>l.length - i,i0:=fun _=>0,nx:=fun a _=>(fun i=>i+1) a,live:=[0,2],sets:=fun i=>[(4,sv (.int .i64 i))],mids:=[32],blks:=fun i=>[],owns:=fun i=>[⟨7,.slot 3,.fact,l.take i ++ List.replicate (l.length - i) (⟨false,0,0⟩:GFact)⟩],rd:=fun r _=>r,base:=100000 }
 | _,_=>none
def VC_toFactS (l:List GFact) (k:Nat):Prop:=TN/\True/\True/\(TN/\(0<=((l.length:Nat):Int)/\((l.length:Nat):Int)<=((l.length:Nat):Int)/\((l.length:Nat):Int)<=4294967296))/\True/\True/\((0<=l.length)/\TT/\(RL [.s (.c (.d (.arr .fact l))),.s (.c (.own 32))])/\(([.s (.c (.d (.val (.int .i64 (0:Int)))))]:List S)=[.s (.c (.d (.val (.int .i64 ((0:Nat):Int)))))])/\(RM [some (.sl 32 .fact ([]:List GFact))])/\(RM [])/\(((some (List.replicate l.length (⟨false,0,0⟩:GFact)):Option (List GFact))=some (l.take 0 ++ List.replicate (l.length - 0) (⟨false,0,0⟩:GFact)))/\True)/\TT)/\(∀ i1:Nat,(i1<=l.length)->True/\True/\True/\True/\(vcIf (decide (((i1:Nat):Int) < ((l.length:Nat):Int))) (True/\True/\True/\True/\(0<=((i1:Nat):Int)/\((i1:Nat):Int) < ((l.length:Nat):Int))/\True/\(True/\True/\True)/\(0<=((i1:Nat):Int)/\((i1:Nat):Int) < (((l.take i1 ++ List.replicate (l.length - i1) (⟨false,0,0⟩:GFact)).length:Nat):Int))/\(TF/\TF/\True/\((7:Nat) ∉ ([]:List Nat)))/\True/\(inK .i64 (((i1:Nat):Int)+(1:Int)))/\True/\((i1+1)<=l.length)/\(l.length - (i1+1) < l.length - i1)/\TT/\(RL [.s (.c (.d (.arr .fact l))),.s (.c (.own 32))])/\(([.s (.c (.d (.val (.int .i64 (((i1:Nat):Int)+(1:Int))))))]:List S)=[.s (.c (.d (.val (.int .i64 (((i1+1):Nat):Int)))))])/\(RM [some (.sl 32 .fact ([]:List GFact))])/\(RM [])/\(((some ((l.take i1 ++ List.replicate (l.length - i1) (⟨false,0,0⟩:GFact)).set i1 (l.getD i1 (⟨false,0,0⟩:GFact))):Option (List GFact))=some (l.take (i1+1) ++ List.replicate (l.length - (i1+1)) (⟨false,0,0⟩:GFact)))/\True)/\TT) (True/\True/\(((l.take i1 ++ List.replicate (l.length - i1) (⟨false,0,0⟩:GFact),()):(List GFact) × Unit)=(l,()))/\(True/\True)/\((TF/\TF)/\True)/\True/\(True/\True)/\TF)))
theorem vcn_toFactS (l:List GFact) (k:Nat) (hp:l.length<=1048576):VC_toFactS l k:=by
 unfold VC_toFactS
 simp only [cln,Nat.reduceEqDiff,Nat.reduceLeDiff,Nat.reduceAdd]
 all_goals (try simp only [opn])
 all_goals (repeat' (first | apply And.intro | intro _))
 all_goals (first | omega | (simp_all;done) | grind [copy_step,take_full])
theorem ok_toFactS:FnOk Try.prog E 63 c_toFactS :=
 fn_okQ (l:=L_toFactS) (lp:=P_toFactS) (hp:=fun _=>false) (gcs:=fun _=>none) (perm:=fun _=>[]) tabOk mix ⟨ok_toFact,trivial⟩ trivial Try.func63 rfl (by kernel_rfl) (by decide) (by kernel_rfl) (anns:=fun x _=>an_toFactS x.1) (fun ⟨l,_⟩ k hp _=>Eq.mp (by kernel_rfl) (vcn_toFactS l k hp)) tot_fn
abbrev c_toAtom:Con:=⟨[.atom],[.atom],fun _=>True,.inl fun (f,_)=>(f,()),fun _=>0⟩
abbrev L_toAtom:List (FuncId × Con):=[]
abbrev P_toAtom:List (FuncId × PT):=[]
def VC_toAtom (f:GAtom) (k:Nat):Prop:=TN/\(TN/\True)/\(TN/\True)/\True/\True/\True/\(TF/\TF)/\True/\True/\True/\(TF/\TF)/\True/\True/\True/\(TF/\TF)/\True/\(TF/\TF)/\(((f,()):GAtom × Unit)=(f,()))/\True/\True/\True/\True/\TF
theorem vcn_toAtom (f:GAtom) (k:Nat):VC_toAtom f k:=by
 unfold VC_toAtom
 simp only [cln,Nat.reduceEqDiff,Nat.reduceLeDiff,Nat.reduceAdd]
 all_goals (try simp only [opn])
 all_goals (repeat' (first | apply And.intro | intro _))
 all_goals (first | omega | (simp_all;done) | grind [])
theorem ok_toAtom:FnOk Try.prog E 119 c_toAtom :=
 fn_okQ (l:=L_toAtom) (lp:=P_toAtom) (hp:=fun _=>false) (gcs:=fun _=>none) (perm:=fun _=>[]) tabOk mix trivial trivial Try.func119 rfl (by kernel_rfl) (by decide) (by kernel_rfl) (anns:=fun x _=>fun _ _=>none) (fun ⟨f,_⟩ k _ _=>Eq.mp (by kernel_rfl) (vcn_toAtom f k)) tot_fn
abbrev c_toAtomS:Con:=⟨[.sl .atom],[.sl .atom],fun (l,_)=>l.length<=1048576,.inl fun (l,_)=>(l,()),fun _=>0⟩
abbrev L_toAtomS:List (FuncId × Con):=[(119,c_toAtom)]
abbrev P_toAtomS:List (FuncId × PT):=[]
def an_toAtomS (l:List GAtom):Nat->St->Option Ann
 | 3,se=>some { α:=Nat,ok:=fun i=>i<=l.length,mu:=fun i=>l.length - i,i0:=fun _=>0,nx:=fun a _=>(fun i=>i+1) a,live:=[0,2],sets:=fun i=>[(4,sv (.int .i64 i))],mids:=[32],blks:=fun i=>[],owns:=fun i=>[⟨7,.slot 3,.atom,l.take i ++ List.replicate (l.length - i) (⟨0,0,0⟩:GAtom)⟩],rd:=fun r _=>r,base:=100000 }
 | _,_=>none
def VC_toAtomS (l:List GAtom) (k:Nat):Prop:=TN/\True/\True/\(TN/\(0<=((l.length:Nat):Int)/\((l.length:Nat):Int)<=((l.length:Nat):Int)/\((l.length:Nat):Int)<=4294967296))/\True/\True/\((0<=l.length)/\TT/\(RL [.s (.c (.d (.arr .atom l))),.s (.c (.own 32))])/\(([.s (.c (.d (.val (.int .i64 (0:Int)))))]:List S)=[.s (.c (.d (.val (.int .i64 ((0:Nat):Int)))))])/\(RM [some (.sl 32 .atom ([]:List GAtom))])/\(RM [])/\(((some (List.replicate l.length (⟨0,0,0⟩:GAtom)):Option (List GAtom))=some (l.take 0 ++ List.replicate (l.length - 0) (⟨0,0,0⟩:GAtom)))/\True)/\TT)/\(∀ i1:Nat,(i1<=l.length)->True/\True/\True/\True/\(vcIf (decide (((i1:Nat):Int) < ((l.length:Nat):Int))) (True/\True/\True/\True/\(0<=((i1:Nat):Int)/\((i1:Nat):Int) < ((l.length:Nat):Int))/\True/\(True/\True/\True)/\(0<=((i1:Nat):Int)/\((i1:Nat):Int) < (((l.take i1 ++ List.replicate (l.length - i1) (⟨0,0,0⟩:GAtom)).length:Nat):Int))/\(TF/\TF/\True/\((7:Nat) ∉ ([]:List Nat)))/\True/\(inK .i64 (((i1:Nat):Int)+(1:Int)))/\True/\((i1+1)<=l.length)/\(l.length - (i1+1) < l.length - i1)/\TT/\(RL [.s (.c (.d (.arr .atom l))),.s (.c (.own 32))])/\(([.s (.c (.d (.val (.int .i64 (((i1:Nat):Int)+(1:Int))))))]:List S)=[.s (.c (.d (.val (.int .i64 (((i1+1):Nat):Int)))))])/\(RM [some (.sl 32 .atom ([]:List GAtom))])/\(RM [])/\(((some ((l.take i1 ++ List.replicate (l.length - i1) (⟨0,0,0⟩:GAtom)).set i1 (l.getD i1 (⟨0,0,0⟩:GAtom))):Option (List GAtom))=some (l.take (i1+1) ++ List.replicate (l.length - (i1+1)) (⟨0,0,0⟩:GAtom)))/\True)/\TT) (True/\True/\(((l.take i1 ++ List.replicate (l.length - i1) (⟨0,0,0⟩:GAtom),()):(List GAtom) × Unit)=(l,()))/\(True/\True)/\((TF/\TF)/\True)/\True/\(True/\True)/\TF)))
theorem vcn_toAtomS (l:List GAtom) (k:Nat) (hp:l.length<=1048576):VC_toAtomS l k:=by
 unfold VC_toAtomS
 simp only [cln,Nat.reduceEqDiff,Nat.reduceLeDiff,Nat.reduceAdd]
 all_goals (try simp only [opn])
 all_goals (repeat' (first | apply And.intro | intro _))
 all_goals (first | omega | (simp_all;done) | grind [copy_step,take_full])
theorem ok_toAtomS:FnOk Try.prog E 64 c_toAtomS :=
 fn_okQ (l:=L_toAtomS) (lp:=P_toAtomS) (hp:=fun _=>false) (gcs:=fun _=>none) (perm:=fun _=>[]) tabOk mix ⟨ok_toAtom,trivial⟩ trivial Try.func64 rfl (by kernel_rfl) (by decide) (by kernel_rfl) (anns:=fun x _=>an_toAtomS x.1) (fun ⟨l,_⟩ k hp _=>Eq.mp (by kernel_rfl) (vcn_toAtomS l k hp)) tot_fn
abbrev c_toAssertion:Con:=⟨[.asn],[.asn],fun (a,_)=>a.facts.length<=1048576/\a.atoms.length<=1048576,.inl fun (a,_)=>(a,()),fun _=>0⟩
abbrev L_toAssertion:List (FuncId × Con):=[(63,c_toFactS),(64,c_toAtomS)]
abbrev P_toAssertion:List (FuncId × PT):=[]
def VC_toAssertion (a:GAsn) (k:Nat):Prop:=TN/\(TN/\TN/\TN/\True)/\(TN/\TN/\TN/\True)/\True/\True/\((a.facts.length<=1048576)/\True/\TN/\True)/\True/\(TF/\TF)/\True/\True/\((a.atoms.length<=1048576)/\True/\TN/\True)/\True/\(TF/\TF)/\True/\(TF/\TF)/\(((a,()):GAsn × Unit)=(a,()))/\((((96:Nat) ≠ 160)/\True)/\True/\True)/\((TF/\TF)/\(TF/\TF)/\True)/\True/\(True/\True/\True)/\TF
theorem vcn_toAssertion (a:GAsn) (k:Nat) (hp:a.facts.length<=1048576/\a.atoms.length<=1048576):VC_toAssertion a k:=by
 unfold VC_toAssertion
 simp only [cln,Nat.reduceEqDiff,Nat.reduceLeDiff,Nat.reduceAdd]
 all_goals (try simp only [opn])
 all_goals (repeat' (first | apply And.intro | intro _))
 all_goals (first | omega | (simp_all;done) | grind [])
theorem ok_toAssertion:FnOk Try.prog E 22 c_toAssertion :=
 fn_okQ (l:=L_toAssertion) (lp:=P_toAssertion) (hp:=fun _=>false) (gcs:=fun _=>none) (perm:=fun _=>[]) tabOk mix ⟨ok_toFactS,ok_toAtomS,trivial⟩ trivial Try.func22 rfl (by kernel_rfl) (by decide) (by kernel_rfl) (anns:=fun x _=>fun _ _=>none) (fun ⟨a,_⟩ k hp _=>Eq.mp (by kernel_rfl) (vcn_toAssertion a k hp)) tot_fn
abbrev c_eqFact:Con:=⟨[.fact,.fact],[.bool],fun _=>True,.inl fun (f,g,_)=>(decide (f=g),()),fun _=>0⟩
abbrev L_eqFact:List (FuncId × Con):=[]
abbrev P_eqFact:List (FuncId × PT):=[]
def VC_eqFact_1 (f:GFact) (g:GFact):Prop:=True/\(((false,()):Bool × Unit)=(decide (f=g),()))/\True/\True/\True/\True/\TF
def VC_eqFact (f:GFact) (g:GFact) (k:Nat):Prop:=TN/\TN/\True/\True/\True/\True/\True/\True/\(vcIf (f.eq != g.eq) (VC_eqFact_1 f g) (True/\True/\True/\True/\True/\(vcIf (f.a != g.a) (VC_eqFact_1 f g) (True/\True/\True/\True/\True/\(vcIf (f.b != g.b) (VC_eqFact_1 f g) (True/\(((true,()):Bool × Unit)=(decide (f=g),()))/\True/\True/\True/\True/\TF))))))
theorem vcn_eqFact (f:GFact) (g:GFact) (k:Nat):VC_eqFact f g k:=by
 unfold VC_eqFact VC_eqFact_1
 simp only [cln,Nat.reduceEqDiff,Nat.reduceLeDiff,Nat.reduceAdd]
 obtain ⟨f1,f2,f3⟩:=f;obtain ⟨g1,g2,g3⟩:=g
 all_goals (try simp only [opn])
 all_goals (repeat' (first | apply And.intro | intro _))
 all_goals (first | omega | (simp_all;done) | grind [])
theorem ok_eqFact:FnOk Try.prog E 120 c_eqFact :=
 fn_okQ (l:=L_eqFact) (lp:=P_eqFact) (hp:=fun _=>false) (gcs:=fun _=>none) (perm:=fun _=>[]) tabOk mix trivial trivial Try.func120 rfl (by kernel_rfl) (by decide) (by kernel_rfl) (anns:=fun x _=>fun _ _=>none) (fun ⟨f,g,_⟩ k _ _=>Eq.mp (by kernel_rfl) (vcn_eqFact f g k)) tot_fn
abbrev c_eqFactS:Con:=⟨[.sl .fact,.sl .fact],[.bool],fun (a,b,_)=>a.length<=281474976710656/\b.length<=281474976710656,.inl fun (a,b,_)=>(decide (a=b),()),fun _=>0⟩
abbrev L_eqFactS:List (FuncId × Con):=[(120,c_eqFact)]
abbrev P_eqFactS:List (FuncId × PT):=[]
def an_eqFactS (a:List GFact) (b:List GFact):Nat->St->Option Ann
 | 4,se=>some { α:=Nat,ok:=fun i=>i<=a.length/\a.length=b.length/\a.take i=b.take i,mu:=fun i=>a.length - i,i0:=fun _=>0,nx:=fun a _=>(fun i=>i+1) a,live:=[0,1],sets:=fun i=>[(5,sv (.int .i64 i))],mids:=[],blks:=fun i=>[],owns:=fun i=>[],rd:=fun r _=>r,base:=100000 }
 | _,_=>none
def VC_eqFactS_1 (a:List GFact) (b:List GFact):Prop:=True/\(((false,()):Bool × Unit)=(decide (a=b),()))/\True/\True/\True/\True/\TF
def VC_eqFactS (a:List GFact) (b:List GFact) (k:Nat):Prop:=True/\True/\True/\True/\True/\True/\(vcIf (((a.length:Nat):Int) != ((b.length:Nat):Int)) (VC_eqFactS_1 a b) (True/\((0<=a.length/\a.length=b.length/\a.take 0=b.take 0)/\TT/\(RL [.s (.c (.d (.arr .fact a))),.s (.c (.d (.arr .fact b)))])/\(([.s (.c (.d (.val (.int .i64 (0:Int)))))]:List S)=[.s (.c (.d (.val (.int .i64 ((0:Nat):Int)))))])/\(RM [])/\(RM [])/\True/\TT)/\(∀ i1:Nat,(i1<=a.length/\a.length=b.length/\a.take i1=b.take i1)->True/\True/\True/\True/\(vcIf (decide (((i1:Nat):Int) < ((a.length:Nat):Int))) (True/\True/\(0<=((i1:Nat):Int)/\((i1:Nat):Int) < ((a.length:Nat):Int))/\True/\True/\True/\(0<=((i1:Nat):Int)/\((i1:Nat):Int) < ((b.length:Nat):Int))/\True/\(True/\True/\True)/\True/\(vcIf (!(decide ((a.getD i1 (⟨false,0,0⟩:GFact))=(b.getD i1 (⟨false,0,0⟩:GFact))))) (VC_eqFactS_1 a b) (True/\(inK .i64 (((i1:Nat):Int)+(1:Int)))/\True/\((i1+1)<=a.length/\a.length=b.length/\a.take (i1+1)=b.take (i1+1))/\(a.length - (i1+1) < a.length - i1)/\TT/\(RL [.s (.c (.d (.arr .fact a))),.s (.c (.d (.arr .fact b)))])/\(([.s (.c (.d (.val (.int .i64 (((i1:Nat):Int)+(1:Int))))))]:List S)=[.s (.c (.d (.val (.int .i64 (((i1+1):Nat):Int)))))])/\(RM [])/\(RM [])/\True/\TT))) (True/\(((true,()):Bool × Unit)=(decide (a=b),()))/\True/\True/\True/\True/\TF)))))
theorem vcn_eqFactS (a:List GFact) (b:List GFact) (k:Nat) (hp:a.length<=281474976710656/\b.length<=281474976710656):VC_eqFactS a b k:=by
 unfold VC_eqFactS VC_eqFactS_1
 simp only [cln,Nat.reduceEqDiff,Nat.reduceLeDiff,Nat.reduceAdd]
 all_goals (try simp only [opn])
 all_goals (repeat' (first | apply And.intro | intro _))
 all_goals (first | omega | (simp_all;done) | grind [same_step,same_not,take_full])
theorem ok_eqFactS:FnOk Try.prog E 66 c_eqFactS :=
 fn_okQ (l:=L_eqFactS) (lp:=P_eqFactS) (hp:=fun _=>false) (gcs:=fun _=>none) (perm:=fun _=>[]) tabOk mix ⟨ok_eqFact,trivial⟩ trivial Try.func66 rfl (by kernel_rfl) (by decide) (by kernel_rfl) (anns:=fun x _=>an_eqFactS x.1 x.2.1) (fun ⟨a,b,_⟩ k hp _=>Eq.mp (by kernel_rfl) (vcn_eqFactS a b k hp)) tot_fn
abbrev c_eqAtom:Con:=⟨[.atom,.atom],[.bool],fun _=>True,.inl fun (f,g,_)=>(decide (f=g),()),fun _=>0⟩
abbrev L_eqAtom:List (FuncId × Con):=[]
abbrev P_eqAtom:List (FuncId × PT):=[]
def VC_eqAtom_1 (f:GAtom) (g:GAtom):Prop:=True/\(((false,()):Bool × Unit)=(decide (f=g),()))/\True/\True/\True/\True/\TF
def VC_eqAtom (f:GAtom) (g:GAtom) (k:Nat):Prop:=TN/\TN/\True/\True/\True/\True/\True/\True/\(vcIf (f.kind != g.kind) (VC_eqAtom_1 f g) (True/\True/\True/\True/\True/\(vcIf (f.a != g.a) (VC_eqAtom_1 f g) (True/\True/\True/\True/\True/\(vcIf (f.b != g.b) (VC_eqAtom_1 f g) (True/\(((true,()):Bool × Unit)=(decide (f=g),()))/\True/\True/\True/\True/\TF))))))
theorem vcn_eqAtom (f:GAtom) (g:GAtom) (k:Nat):VC_eqAtom f g k:=by
 unfold VC_eqAtom VC_eqAtom_1
 simp only [cln,Nat.reduceEqDiff,Nat.reduceLeDiff,Nat.reduceAdd]
 obtain ⟨f1,f2,f3⟩:=f;obtain ⟨g1,g2,g3⟩:=g
 all_goals (try simp only [opn])
 all_goals (repeat' (first | apply And.intro | intro _))
 all_goals (first | omega | (simp_all;done) | grind [])
theorem ok_eqAtom:FnOk Try.prog E 121 c_eqAtom :=
 fn_okQ (l:=L_eqAtom) (lp:=P_eqAtom) (hp:=fun _=>false) (gcs:=fun _=>none) (perm:=fun _=>[]) tabOk mix trivial trivial Try.func121 rfl (by kernel_rfl) (by decide) (by kernel_rfl) (anns:=fun x _=>fun _ _=>none) (fun ⟨f,g,_⟩ k _ _=>Eq.mp (by kernel_rfl) (vcn_eqAtom f g k)) tot_fn
abbrev c_eqAtomS:Con:=⟨[.sl .atom,.sl .atom],[.bool],fun (a,b,_)=>a.length<=281474976710656/\b.length<=281474976710656,.inl fun (a,b,_)=>(decide (a=b),()),fun _=>0⟩
abbrev L_eqAtomS:List (FuncId × Con):=[(121,c_eqAtom)]
abbrev P_eqAtomS:List (FuncId × PT):=[]
def an_eqAtomS (a:List GAtom) (b:List GAtom):Nat->St->Option Ann
 | 4,se=>some { α:=Nat,ok:=fun i=>i<=a.length/\a.length=b.length/\a.take i=b.take i,mu:=fun i=>a.length - i,i0:=fun _=>0,nx:=fun a _=>(fun i=>i+1) a,live:=[0,1],sets:=fun i=>[(5,sv (.int .i64 i))],mids:=[],blks:=fun i=>[],owns:=fun i=>[],rd:=fun r _=>r,base:=100000 }
 | _,_=>none
def VC_eqAtomS_1 (a:List GAtom) (b:List GAtom):Prop:=True/\(((false,()):Bool × Unit)=(decide (a=b),()))/\True/\True/\True/\True/\TF
def VC_eqAtomS (a:List GAtom) (b:List GAtom) (k:Nat):Prop:=True/\True/\True/\True/\True/\True/\(vcIf (((a.length:Nat):Int) != ((b.length:Nat):Int)) (VC_eqAtomS_1 a b) (True/\((0<=a.length/\a.length=b.length/\a.take 0=b.take 0)/\TT/\(RL [.s (.c (.d (.arr .atom a))),.s (.c (.d (.arr .atom b)))])/\(([.s (.c (.d (.val (.int .i64 (0:Int)))))]:List S)=[.s (.c (.d (.val (.int .i64 ((0:Nat):Int)))))])/\(RM [])/\(RM [])/\True/\TT)/\(∀ i1:Nat,(i1<=a.length/\a.length=b.length/\a.take i1=b.take i1)->True/\True/\True/\True/\(vcIf (decide (((i1:Nat):Int) < ((a.length:Nat):Int))) (True/\True/\(0<=((i1:Nat):Int)/\((i1:Nat):Int) < ((a.length:Nat):Int))/\True/\True/\True/\(0<=((i1:Nat):Int)/\((i1:Nat):Int) < ((b.length:Nat):Int))/\True/\(True/\True/\True)/\True/\(vcIf (!(decide ((a.getD i1 (⟨0,0,0⟩:GAtom))=(b.getD i1 (⟨0,0,0⟩:GAtom))))) (VC_eqAtomS_1 a b) (True/\(inK .i64 (((i1:Nat):Int)+(1:Int)))/\True/\((i1+1)<=a.length/\a.length=b.length/\a.take (i1+1)=b.take (i1+1))/\(a.length - (i1+1) < a.length - i1)/\TT/\(RL [.s (.c (.d (.arr .atom a))),.s (.c (.d (.arr .atom b)))])/\(([.s (.c (.d (.val (.int .i64 (((i1:Nat):Int)+(1:Int))))))]:List S)=[.s (.c (.d (.val (.int .i64 (((i1+1):Nat):Int)))))])/\(RM [])/\(RM [])/\True/\TT))) (True/\(((true,()):Bool × Unit)=(decide (a=b),()))/\True/\True/\True/\True/\TF)))))
theorem vcn_eqAtomS (a:List GAtom) (b:List GAtom) (k:Nat) (hp:a.length<=281474976710656/\b.length<=281474976710656):VC_eqAtomS a b k:=by
 unfold VC_eqAtomS VC_eqAtomS_1
 simp only [cln,Nat.reduceEqDiff,Nat.reduceLeDiff,Nat.reduceAdd]
 all_goals (try simp only [opn])
 all_goals (repeat' (first | apply And.intro | intro _))
 all_goals (first | omega | (simp_all;done) | grind [same_step,same_not,take_full])
theorem ok_eqAtomS:FnOk Try.prog E 67 c_eqAtomS :=
 fn_okQ (l:=L_eqAtomS) (lp:=P_eqAtomS) (hp:=fun _=>false) (gcs:=fun _=>none) (perm:=fun _=>[]) tabOk mix ⟨ok_eqAtom,trivial⟩ trivial Try.func67 rfl (by kernel_rfl) (by decide) (by kernel_rfl) (anns:=fun x _=>an_eqAtomS x.1 x.2.1) (fun ⟨a,b,_⟩ k hp _=>Eq.mp (by kernel_rfl) (vcn_eqAtomS a b k hp)) tot_fn
abbrev c_eqAssertion:Con:=⟨[.asn,.asn],[.bool],fun (a,b,_)=>a.facts.length<=281474976710656/\a.atoms.length<=281474976710656/\b.facts.length<=281474976710656/\b.atoms.length<=281474976710656,.inl fun (a,b,_)=>(decide (a=b),()),fun _=>0⟩
abbrev L_eqAssertion:List (FuncId × Con):=[(66,c_eqFactS),(67,c_eqAtomS)]
abbrev P_eqAssertion:List (FuncId × PT):=[]
def VC_eqAssertion_1 (a:GAsn) (b:GAsn):Prop:=True/\(((false,()):Bool × Unit)=(decide (a=b),()))/\True/\True/\True/\True/\TF
def VC_eqAssertion (a:GAsn) (b:GAsn) (k:Nat):Prop:=TN/\TN/\True/\True/\True/\True/\True/\((a.facts.length<=281474976710656/\b.facts.length<=281474976710656)/\True/\True)/\True/\(vcIf (!(decide (a.facts=b.facts))) (VC_eqAssertion_1 a b) (True/\True/\True/\True/\((a.atoms.length<=281474976710656/\b.atoms.length<=281474976710656)/\True/\True)/\True/\(vcIf (!(decide (a.atoms=b.atoms))) (VC_eqAssertion_1 a b) (True/\(((true,()):Bool × Unit)=(decide (a=b),()))/\True/\True/\True/\True/\TF))))
theorem vcn_eqAssertion (a:GAsn) (b:GAsn) (k:Nat) (hp:a.facts.length<=281474976710656/\a.atoms.length<=281474976710656/\b.facts.length<=281474976710656/\b.atoms.length<=281474976710656):VC_eqAssertion a b k:=by
 unfold VC_eqAssertion VC_eqAssertion_1
 simp only [cln,Nat.reduceEqDiff,Nat.reduceLeDiff,Nat.reduceAdd]
 obtain ⟨a1,a2⟩:=a;obtain ⟨b1,b2⟩:=b
 all_goals (try simp only [opn])
 all_goals (repeat' (first | apply And.intro | intro _))
 all_goals (first | omega | (simp_all;done) | grind [])
theorem ok_eqAssertion:FnOk Try.prog E 24 c_eqAssertion :=
 fn_okQ (l:=L_eqAssertion) (lp:=P_eqAssertion) (hp:=fun _=>false) (gcs:=fun _=>none) (perm:=fun _=>[]) tabOk mix ⟨ok_eqFactS,ok_eqAtomS,trivial⟩ trivial Try.func24 rfl (by kernel_rfl) (by decide) (by kernel_rfl) (anns:=fun x _=>fun _ _=>none) (fun ⟨a,b,_⟩ k hp _=>Eq.mp (by kernel_rfl) (vcn_eqAssertion a b k hp)) tot_fn
abbrev m_markFactS:MCon:=⟨[],.fact,[.int],fun _ l (n,_)=>0<=n/\n<=4611686018427387904/\l.length<=281474976710656,fun _ l (n,_)=>.int .i64 (n+3 * (l.length:Int)),fun _ l (n,_)=>mkF l n⟩
abbrev pt_markFactS:PT:=ptM m_markFactS
abbrev L_markFactS:List (FuncId × Con):=[]
abbrev P_markFactS:List (FuncId × PT):=[]
def an_markFactS (l:List GFact) (n:Int):Nat->St->Option Ann
 | 2,se=>some { α:=Nat,ok:=fun i=>i<=l.length,mu:=fun i=>l.length - i,i0:=fun _=>0,nx:=fun a _=>(fun i=>i+1) a,live:=[4],sets:=fun i=>[(5,sv (.int .i64 i)),(1,sv (.int .i64 (n+3 * (i:Int))))],mids:=[],blks:=fun i=>[],owns:=fun i=>[⟨7,.slot 0,.fact,mkU (fF n) l i⟩],rd:=fun r _=>r,base:=100000 }
 | _,_=>none
def VC_markFactS_1 (i1:Nat) (l:List GFact) (n:Int):Prop:=((inK .i64 (((i1:Nat):Int)+(1:Int)))/\True/\((i1+1)<=l.length)/\(l.length - (i1+1) < l.length - i1)/\TT/\(RL [.s (.c (.d (.val (.int .i64 (0:Int)))))])/\(([.s (.c (.d (.val (.int .i64 (((i1:Nat):Int)+(1:Int)))))),.s (.c (.d (.val (.int .i64 ((((n+3 * (i1:Int):Int)+(1:Int))+(1:Int))+(1:Int))))))]:List S)=[.s (.c (.d (.val (.int .i64 (((i1+1):Nat):Int))))),.s (.c (.d (.val (.int .i64 (n+3 * ((i1+1):Int):Int)))))])/\(RM [])/\(RM [])/\(((some ((((mkU (fF n) l i1).set i1 (⟨(Int.tmod (n+3 * (i1:Int):Int) (3:Int)) == (0:Int),((mkU (fF n) l i1).getD i1 (⟨false,0,0⟩:GFact)).a,((mkU (fF n) l i1).getD i1 (⟨false,0,0⟩:GFact)).b⟩:GFact)).set i1 (⟨(((mkU (fF n) l i1).set i1 (⟨(Int.tmod (n+3 * (i1:Int):Int) (3:Int)) == (0:Int),((mkU (fF n) l i1).getD i1 (⟨false,0,0⟩:GFact)).a,((mkU (fF n) l i1).getD i1 (⟨false,0,0⟩:GFact)).b⟩:GFact)).getD i1 (⟨false,0,0⟩:GFact)).eq,(n+3 * (i1:Int):Int)+(1:Int),(((mkU (fF n) l i1).set i1 (⟨(Int.tmod (n+3 * (i1:Int):Int) (3:Int)) == (0:Int),((mkU (fF n) l i1).getD i1 (⟨false,0,0⟩:GFact)).a,((mkU (fF n) l i1).getD i1 (⟨false,0,0⟩:GFact)).b⟩:GFact)).getD i1 (⟨false,0,0⟩:GFact)).b⟩:GFact)).set i1 (⟨((((mkU (fF n) l i1).set i1 (⟨(Int.tmod (n+3 * (i1:Int):Int) (3:Int)) == (0:Int),((mkU (fF n) l i1).getD i1 (⟨false,0,0⟩:GFact)).a,((mkU (fF n) l i1).getD i1 (⟨false,0,0⟩:GFact)).b⟩:GFact)).set i1 (⟨(((mkU (fF n) l i1).set i1 (⟨(Int.tmod (n+3 * (i1:Int):Int) (3:Int)) == (0:Int),((mkU (fF n) l i1).getD i1 (⟨false,0,0⟩:GFact)).a,((mkU (fF n) l i1).getD i1 (⟨false,0,0⟩:GFact)).b⟩:GFact)).getD i1 (⟨false,0,0⟩:GFact)).eq,(n+3 * (i1:Int):Int)+(1:Int),(((mkU (fF n) l i1).set i1 (⟨(Int.tmod (n+3 * (i1:Int):Int) (3:Int)) == (0:Int),((mkU (fF n) l i1).getD i1 (⟨false,0,0⟩:GFact)).a,((mkU (fF n) l i1).getD i1 (⟨false,0,0⟩:GFact)).b⟩:GFact)).getD i1 (⟨false,0,0⟩:GFact)).b⟩:GFact)).getD i1 (⟨false,0,0⟩:GFact)).eq,((((mkU (fF n) l i1).set i1 (⟨(Int.tmod (n+3 * (i1:Int):Int) (3:Int)) == (0:Int),((mkU (fF n) l i1).getD i1 (⟨false,0,0⟩:GFact)).a,((mkU (fF n) l i1).getD i1 (⟨false,0,0⟩:GFact)).b⟩:GFact)).set i1 (⟨(((mkU (fF n) l i1).set i1 (⟨(Int.tmod (n+3 * (i1:Int):Int) (3:Int)) == (0:Int),((mkU (fF n) l i1).getD i1 (⟨false,0,0⟩:GFact)).a,((mkU (fF n) l i1).getD i1 (⟨false,0,0⟩:GFact)).b⟩:GFact)).getD i1 (⟨false,0,0⟩:GFact)).eq,(n+3 * (i1:Int):Int)+(1:Int),(((mkU (fF n) l i1).set i1 (⟨(Int.tmod (n+3 * (i1:Int):Int) (3:Int)) == (0:Int),((mkU (fF n) l i1).getD i1 (⟨false,0,0⟩:GFact)).a,((mkU (fF n) l i1).getD i1 (⟨false,0,0⟩:GFact)).b⟩:GFact)).getD i1 (⟨false,0,0⟩:GFact)).b⟩:GFact)).getD i1 (⟨false,0,0⟩:GFact)).a,((n+3 * (i1:Int):Int)+(1:Int))+(1:Int)⟩:GFact)):Option (List GFact))=some (mkU (fF n) l (i1+1)))/\True)/\TT)
def VC_markFactS (l:List GFact) (n:Int) (k:Nat):Prop:=True/\True/\((0<=l.length)/\TT/\(RL [.s (.c (.d (.val (.int .i64 (0:Int)))))])/\(([.s (.c (.d (.val (.int .i64 (0:Int))))),.s (.c (.d (.val (.int .i64 n))))]:List S)=[.s (.c (.d (.val (.int .i64 ((0:Nat):Int))))),.s (.c (.d (.val (.int .i64 (n+3 * (0:Int):Int)))))])/\(RM [])/\(RM [])/\(((some l:Option (List GFact))=some (mkU (fF n) l 0))/\True)/\TT)/\(∀ i1:Nat,(i1<=l.length)->True/\True/\True/\True/\(vcIf (decide (((i1:Nat):Int) < (((mkU (fF n) l i1).length:Nat):Int))) (True/\True/\True/\((3:Int) ≠ 0)/\True/\(0<=((i1:Nat):Int)/\((i1:Nat):Int) < (((mkU (fF n) l i1).length:Nat):Int))/\True/\(TF/\TF/\True/\((7:Nat) ∉ ([]:List Nat)))/\True/\(inK .i64 ((n+3 * (i1:Int):Int)+(1:Int)))/\True/\True/\True/\True/\(0<=((i1:Nat):Int)/\((i1:Nat):Int) < ((((mkU (fF n) l i1).set i1 (⟨(Int.tmod (n+3 * (i1:Int):Int) (3:Int)) == (0:Int),((mkU (fF n) l i1).getD i1 (⟨false,0,0⟩:GFact)).a,((mkU (fF n) l i1).getD i1 (⟨false,0,0⟩:GFact)).b⟩:GFact)).length:Nat):Int))/\True/\(TF/\TF/\True/\((7:Nat) ∉ ([]:List Nat)))/\True/\(inK .i64 (((n+3 * (i1:Int):Int)+(1:Int))+(1:Int)))/\True/\True/\True/\True/\(0<=((i1:Nat):Int)/\((i1:Nat):Int) < (((((mkU (fF n) l i1).set i1 (⟨(Int.tmod (n+3 * (i1:Int):Int) (3:Int)) == (0:Int),((mkU (fF n) l i1).getD i1 (⟨false,0,0⟩:GFact)).a,((mkU (fF n) l i1).getD i1 (⟨false,0,0⟩:GFact)).b⟩:GFact)).set i1 (⟨(((mkU (fF n) l i1).set i1 (⟨(Int.tmod (n+3 * (i1:Int):Int) (3:Int)) == (0:Int),((mkU (fF n) l i1).getD i1 (⟨false,0,0⟩:GFact)).a,((mkU (fF n) l i1).getD i1 (⟨false,0,0⟩:GFact)).b⟩:GFact)).getD i1 (⟨false,0,0⟩:GFact)).eq,(n+3 * (i1:Int):Int)+(1:Int),(((mkU (fF n) l i1).set i1 (⟨(Int.tmod (n+3 * (i1:Int):Int) (3:Int)) == (0:Int),((mkU (fF n) l i1).getD i1 (⟨false,0,0⟩:GFact)).a,((mkU (fF n) l i1).getD i1 (⟨false,0,0⟩:GFact)).b⟩:GFact)).getD i1 (⟨false,0,0⟩:GFact)).b⟩:GFact)).length:Nat):Int))/\True/\(TF/\TF/\True/\((7:Nat) ∉ ([]:List Nat)))/\True/\(inK .i64 ((((n+3 * (i1:Int):Int)+(1:Int))+(1:Int))+(1:Int)))/\True/\True/\(VC_markFactS_1 i1 l n)) (True/\True/\((some [.c (.d (.val (.int .i64 (n+3 * (i1:Int):Int))))]:Option (List S0))=some [.c (.d (.val (.int .i64 (n+3 * (l.length:Int)))))])/\((some (mkU (fF n) l i1):Option (List GFact))=some (mkF l n)))))
theorem vcn_markFactS (l:List GFact) (n:Int) (k:Nat) (hp:0<=n/\n<=4611686018427387904/\l.length<=281474976710656):VC_markFactS l n k:=by
 unfold VC_markFactS VC_markFactS_1
 simp only [cln,Nat.reduceEqDiff,Nat.reduceLeDiff,Nat.reduceAdd]
 all_goals (try simp only [opn])
 all_goals (repeat' (first | apply And.intro | intro _))
 all_goals (try simp (disch:=assumption) only [set3_len,mkU_sl,mkU_len] at *)
 all_goals (first | omega | (simp_all;done) | exact mkU_zero.symm | exact mkU_full ‹_› ‹_› | (rw [← mkU_set ‹_›];(try simp (disch:=assumption) only [set_twice,mkU_gs,fF]);first | done | rfl | (congr 2 <;> omega) | (congr 3 <;> omega)) | grind [mkU_zero,mkU_full])
theorem ptok_markFactS:PTOk Try.prog E 68 pt_markFactS :=
 mut_ok (l:=L_markFactS) (lp:=P_markFactS) (hp:=fun _=>false) (perm:=fun _=>[]) tabOk mix trivial trivial Try.func68 rfl (by kernel_rfl) rfl (by decide) (by kernel_rfl) (anns:=fun x l y=>an_markFactS l y.1) (fun _ l ⟨n,_⟩ hp=>Eq.mp (by kernel_rfl) (vcn_markFactS l n 0 hp))
abbrev m_markAtomS:MCon:=⟨[],.atom,[.int],fun _ l (n,_)=>0<=n/\n<=4611686018427387904/\l.length<=281474976710656,fun _ l (n,_)=>.int .i64 (n+3 * (l.length:Int)),fun _ l (n,_)=>mkG l n⟩
abbrev pt_markAtomS:PT:=ptM m_markAtomS
abbrev L_markAtomS:List (FuncId × Con):=[]
abbrev P_markAtomS:List (FuncId × PT):=[]
def an_markAtomS (l:List GAtom) (n:Int):Nat->St->Option Ann
 | 2,se=>some { α:=Nat,ok:=fun i=>i<=l.length,mu:=fun i=>l.length - i,i0:=fun _=>0,nx:=fun a _=>(fun i=>i+1) a,live:=[4],sets:=fun i=>[(5,sv (.int .i64 i)),(1,sv (.int .i64 (n+3 * (i:Int))))],mids:=[],blks:=fun i=>[],owns:=fun i=>[⟨7,.slot 0,.atom,mkU (fG n) l i⟩],rd:=fun r _=>r,base:=100000 }
 | _,_=>none
def VC_markAtomS_1 (i1:Nat) (n:Int) (l:List GAtom):Prop:=((0<=((i1:Nat):Int)/\((i1:Nat):Int) < (((((mkU (fG n) l i1).set i1 (⟨(n+3 * (i1:Int):Int),((mkU (fG n) l i1).getD i1 (⟨0,0,0⟩:GAtom)).a,((mkU (fG n) l i1).getD i1 (⟨0,0,0⟩:GAtom)).b⟩:GAtom)).set i1 (⟨(((mkU (fG n) l i1).set i1 (⟨(n+3 * (i1:Int):Int),((mkU (fG n) l i1).getD i1 (⟨0,0,0⟩:GAtom)).a,((mkU (fG n) l i1).getD i1 (⟨0,0,0⟩:GAtom)).b⟩:GAtom)).getD i1 (⟨0,0,0⟩:GAtom)).kind,(n+3 * (i1:Int):Int)+(1:Int),(((mkU (fG n) l i1).set i1 (⟨(n+3 * (i1:Int):Int),((mkU (fG n) l i1).getD i1 (⟨0,0,0⟩:GAtom)).a,((mkU (fG n) l i1).getD i1 (⟨0,0,0⟩:GAtom)).b⟩:GAtom)).getD i1 (⟨0,0,0⟩:GAtom)).b⟩:GAtom)).length:Nat):Int))/\True/\(TF/\TF/\True/\((7:Nat) ∉ ([]:List Nat)))/\True/\(inK .i64 ((((n+3 * (i1:Int):Int)+(1:Int))+(1:Int))+(1:Int)))/\True/\True/\(inK .i64 (((i1:Nat):Int)+(1:Int)))/\True/\((i1+1)<=l.length)/\(l.length - (i1+1) < l.length - i1)/\TT/\(RL [.s (.c (.d (.val (.int .i64 (0:Int)))))])/\(([.s (.c (.d (.val (.int .i64 (((i1:Nat):Int)+(1:Int)))))),.s (.c (.d (.val (.int .i64 ((((n+3 * (i1:Int):Int)+(1:Int))+(1:Int))+(1:Int))))))]:List S)=[.s (.c (.d (.val (.int .i64 (((i1+1):Nat):Int))))),.s (.c (.d (.val (.int .i64 (n+3 * ((i1+1):Int):Int)))))])/\(RM [])/\(RM [])/\(((some ((((mkU (fG n) l i1).set i1 (⟨(n+3 * (i1:Int):Int),((mkU (fG n) l i1).getD i1 (⟨0,0,0⟩:GAtom)).a,((mkU (fG n) l i1).getD i1 (⟨0,0,0⟩:GAtom)).b⟩:GAtom)).set i1 (⟨(((mkU (fG n) l i1).set i1 (⟨(n+3 * (i1:Int):Int),((mkU (fG n) l i1).getD i1 (⟨0,0,0⟩:GAtom)).a,((mkU (fG n) l i1).getD i1 (⟨0,0,0⟩:GAtom)).b⟩:GAtom)).getD i1 (⟨0,0,0⟩:GAtom)).kind,(n+3 * (i1:Int):Int)+(1:Int),(((mkU (fG n) l i1).set i1 (⟨(n+3 * (i1:Int):Int),((mkU (fG n) l i1).getD i1 (⟨0,0,0⟩:GAtom)).a,((mkU (fG n) l i1).getD i1 (⟨0,0,0⟩:GAtom)).b⟩:GAtom)).getD i1 (⟨0,0,0⟩:GAtom)).b⟩:GAtom)).set i1 (⟨((((mkU (fG n) l i1).set i1 (⟨(n+3 * (i1:Int):Int),((mkU (fG n) l i1).getD i1 (⟨0,0,0⟩:GAtom)).a,((mkU (fG n) l i1).getD i1 (⟨0,0,0⟩:GAtom)).b⟩:GAtom)).set i1 (⟨(((mkU (fG n) l i1).set i1 (⟨(n+3 * (i1:Int):Int),((mkU (fG n) l i1).getD i1 (⟨0,0,0⟩:GAtom)).a,((mkU (fG n) l i1).getD i1 (⟨0,0,0⟩:GAtom)).b⟩:GAtom)).getD i1 (⟨0,0,0⟩:GAtom)).kind,(n+3 * (i1:Int):Int)+(1:Int),(((mkU (fG n) l i1).set i1 (⟨(n+3 * (i1:Int):Int),((mkU (fG n) l i1).getD i1 (⟨0,0,0⟩:GAtom)).a,((mkU (fG n) l i1).getD i1 (⟨0,0,0⟩:GAtom)).b⟩:GAtom)).getD i1 (⟨0,0,0⟩:GAtom)).b⟩:GAtom)).getD i1 (⟨0,0,0⟩:GAtom)).kind,((((mkU (fG n) l i1).set i1 (⟨(n+3 * (i1:Int):Int),((mkU (fG n) l i1).getD i1 (⟨0,0,0⟩:GAtom)).a,((mkU (fG n) l i1).getD i1 (⟨0,0,0⟩:GAtom)).b⟩:GAtom)).set i1 (⟨(((mkU (fG n) l i1).set i1 (⟨(n+3 * (i1:Int):Int),((mkU (fG n) l i1).getD i1 (⟨0,0,0⟩:GAtom)).a,((mkU (fG n) l i1).getD i1 (⟨0,0,0⟩:GAtom)).b⟩:GAtom)).getD i1 (⟨0,0,0⟩:GAtom)).kind,(n+3 * (i1:Int):Int)+(1:Int),(((mkU (fG n) l i1).set i1 (⟨(n+3 * (i1:Int):Int),((mkU (fG n) l i1).getD i1 (⟨0,0,0⟩:GAtom)).a,((mkU (fG n) l i1).getD i1 (⟨0,0,0⟩:GAtom)).b⟩:GAtom)).getD i1 (⟨0,0,0⟩:GAtom)).b⟩:GAtom)).getD i1 (⟨0,0,0⟩:GAtom)).a,((n+3 * (i1:Int):Int)+(1:Int))+(1:Int)⟩:GAtom)):Option (List GAtom))=some (mkU (fG n) l (i1+1)))/\True)/\TT)
def VC_markAtomS (l:List GAtom) (n:Int) (k:Nat):Prop:=True/\True/\((0<=l.length)/\TT/\(RL [.s (.c (.d (.val (.int .i64 (0:Int)))))])/\(([.s (.c (.d (.val (.int .i64 (0:Int))))),.s (.c (.d (.val (.int .i64 n))))]:List S)=[.s (.c (.d (.val (.int .i64 ((0:Nat):Int))))),.s (.c (.d (.val (.int .i64 (n+3 * (0:Int):Int)))))])/\(RM [])/\(RM [])/\(((some l:Option (List GAtom))=some (mkU (fG n) l 0))/\True)/\TT)/\(∀ i1:Nat,(i1<=l.length)->True/\True/\True/\True/\(vcIf (decide (((i1:Nat):Int) < (((mkU (fG n) l i1).length:Nat):Int))) (True/\True/\True/\(0<=((i1:Nat):Int)/\((i1:Nat):Int) < (((mkU (fG n) l i1).length:Nat):Int))/\True/\(TF/\TF/\True/\((7:Nat) ∉ ([]:List Nat)))/\True/\(inK .i64 ((n+3 * (i1:Int):Int)+(1:Int)))/\True/\True/\True/\True/\(0<=((i1:Nat):Int)/\((i1:Nat):Int) < ((((mkU (fG n) l i1).set i1 (⟨(n+3 * (i1:Int):Int),((mkU (fG n) l i1).getD i1 (⟨0,0,0⟩:GAtom)).a,((mkU (fG n) l i1).getD i1 (⟨0,0,0⟩:GAtom)).b⟩:GAtom)).length:Nat):Int))/\True/\(TF/\TF/\True/\((7:Nat) ∉ ([]:List Nat)))/\True/\(inK .i64 (((n+3 * (i1:Int):Int)+(1:Int))+(1:Int)))/\True/\True/\True/\True/\(VC_markAtomS_1 i1 n l)) (True/\True/\((some [.c (.d (.val (.int .i64 (n+3 * (i1:Int):Int))))]:Option (List S0))=some [.c (.d (.val (.int .i64 (n+3 * (l.length:Int)))))])/\((some (mkU (fG n) l i1):Option (List GAtom))=some (mkG l n)))))
theorem vcn_markAtomS (l:List GAtom) (n:Int) (k:Nat) (hp:0<=n/\n<=4611686018427387904/\l.length<=281474976710656):VC_markAtomS l n k:=by
 unfold VC_markAtomS VC_markAtomS_1
 simp only [cln,Nat.reduceEqDiff,Nat.reduceLeDiff,Nat.reduceAdd]
 all_goals (try simp only [opn])
 all_goals (repeat' (first | apply And.intro | intro _))
 all_goals (try simp (disch:=assumption) only [set3_len,mkU_sl,mkU_len] at *)
 all_goals (first | omega | (simp_all;done) | exact mkU_zero.symm | exact mkU_full ‹_› ‹_› | (rw [← mkU_set ‹_›];(try simp (disch:=assumption) only [set_twice,mkU_gs,fG]);first | done | rfl | (congr 2 <;> omega) | (congr 3 <;> omega)) | grind [mkU_zero,mkU_full])
theorem ptok_markAtomS:PTOk Try.prog E 69 pt_markAtomS :=
 mut_ok (l:=L_markAtomS) (lp:=P_markAtomS) (hp:=fun _=>false) (perm:=fun _=>[]) tabOk mix trivial trivial Try.func69 rfl (by kernel_rfl) rfl (by decide) (by kernel_rfl) (anns:=fun x l y=>an_markAtomS l y.1) (fun _ l ⟨n,_⟩ hp=>Eq.mp (by kernel_rfl) (vcn_markAtomS l n 0 hp))
abbrev L_markAssertion:List (FuncId × Con):=[]
abbrev P_markAssertion:List (FuncId × PT):=[(68,pt_markFactS),(69,pt_markAtomS)]
def hp_markAssertion:Nat->Bool
 | 1=>true
 | 2=>true
 | _=>false
abbrev pt_markAssertion:PT:=inl tab (lookF L_markAssertion) (lookP P_markAssertion) (hp_markAssertion) (fun _ _=>none) (fun _ _ _ _=>none) (fun _=>[]) Try.f25.ntmps (bodyOf Try.f25) Try.f25.results.toList
theorem ptok_markAssertion:PTOk Try.prog E 25 pt_markAssertion :=
 pt_ok (l:=L_markAssertion) (lp:=P_markAssertion) tabOk mix trivial ⟨ptok_markFactS,ptok_markAtomS,trivial⟩ Try.func25 rfl (by kernel_rfl) (by kernel_rfl)
abbrev c_isTerm:Con:=⟨[.int],[.bool],fun _=>True,.inl fun (t,_)=>(isT t,()),fun _=>0⟩
abbrev L_isTerm:List (FuncId × Con):=[]
abbrev P_isTerm:List (FuncId × PT):=[]
def VC_isTerm (t:Int) (k:Nat):Prop:=True/\True/\True/\True/\(vcIf (decide ((0:Int)<=t)) (True/\True/\True/\True/\(((decide (t<=(8:Int)),()):Bool × Unit)=(isT t,()))/\True/\True/\True/\True/\TF) (True/\True/\(((false,()):Bool × Unit)=(isT t,()))/\True/\True/\True/\True/\TF))
theorem vcn_isTerm (t:Int) (k:Nat):VC_isTerm t k:=by
 unfold VC_isTerm
 simp only [cln,Nat.reduceEqDiff,Nat.reduceLeDiff,Nat.reduceAdd]
 cases h:decide (0<=t) <;> simp [vcIf,isT,h]
theorem ok_isTerm:FnOk Try.prog E 126 c_isTerm :=
 fn_okQ (l:=L_isTerm) (lp:=P_isTerm) (hp:=fun _=>false) (gcs:=fun _=>none) (perm:=fun _=>[]) tabOk mix trivial trivial Try.func126 rfl (by kernel_rfl) (by decide) (by kernel_rfl) (anns:=fun x _=>fun _ _=>none) (fun ⟨t,_⟩ k _ _=>Eq.mp (by kernel_rfl) (vcn_isTerm t k)) tot_fn
abbrev c_iFactValid:Con:=⟨[.fact],[.bool],fun _=>True,.inl fun (f,_)=>(fV f,()),fun _=>0⟩
abbrev L_iFactValid:List (FuncId × Con):=[(126,c_isTerm)]
abbrev P_iFactValid:List (FuncId × PT):=[]
def VC_iFactValid (f:GFact) (k:Nat):Prop:=TN/\True/\True/\True/\(True/\True/\True)/\True/\(vcIf (isT f.a) (True/\True/\(True/\True/\True)/\True/\True/\((((isT f.b),()):Bool × Unit)=(fV f,()))/\True/\True/\True/\True/\TF) (True/\True/\(((false,()):Bool × Unit)=(fV f,()))/\True/\True/\True/\True/\TF))
theorem vcn_iFactValid (f:GFact) (k:Nat):VC_iFactValid f k:=by
 unfold VC_iFactValid
 simp only [cln,Nat.reduceEqDiff,Nat.reduceLeDiff,Nat.reduceAdd]
 cases h:isT f.a <;> simp [vcIf,fV,h]
theorem ok_iFactValid:FnOk Try.prog E 125 c_iFactValid :=
 fn_okQ (l:=L_iFactValid) (lp:=P_iFactValid) (hp:=fun _=>false) (gcs:=fun _=>none) (perm:=fun _=>[]) tabOk mix ⟨ok_isTerm,trivial⟩ trivial Try.func125 rfl (by kernel_rfl) (by decide) (by kernel_rfl) (anns:=fun x _=>fun _ _=>none) (fun ⟨f,_⟩ k _ _=>Eq.mp (by kernel_rfl) (vcn_iFactValid f k)) tot_fn
abbrev c_iFactsValid:Con:=⟨[.sl .fact],[.bool],fun (l,_)=>l.length<=281474976710656,.inl fun (l,_)=>(fsV l,()),fun _=>0⟩
abbrev L_iFactsValid:List (FuncId × Con):=[(125,c_iFactValid)]
abbrev P_iFactsValid:List (FuncId × PT):=[]
def an_iFactsValid (l:List GFact):Nat->St->Option Ann
 | 4,se=>some { α:=Nat,ok:=fun i=>i<=l.length/\l.length<=12/\(l.take i).all fV=true,mu:=fun i=>l.length - i,i0:=fun _=>0,nx:=fun a _=>(fun i=>i+1) a,live:=[8,9],sets:=fun i=>[(10,sv (.int .i64 i))],mids:=[],blks:=fun i=>[],owns:=fun i=>[],rd:=fun r _=>r,base:=100000 }
 | _,_=>none
def VC_iFactsValid_1 (l:List GFact):Prop:=True/\(((false,()):Bool × Unit)=(fsV l,()))/\True/\True/\True/\True/\TF
def VC_iFactsValid_2 (l:List GFact):Prop:=RL [.s (.c (.d (.arr .fact l))),.s (.c (.d (.val (.int .i64 ((l.length:Nat):Int)))))]
def VC_iFactsValid (l:List GFact) (k:Nat):Prop:=True/\True/\True/\True/\(vcIf (decide ((12:Int) < ((l.length:Nat):Int))) (VC_iFactsValid_1 l) (True/\True/\True/\((0<=l.length/\l.length<=12/\(l.take 0).all fV=true)/\TT/\(VC_iFactsValid_2 l)/\(([.s (.c (.d (.val (.int .i64 (0:Int)))))]:List S)=[.s (.c (.d (.val (.int .i64 ((0:Nat):Int)))))])/\(RM [])/\(RM [])/\True/\TT)/\(∀ i1:Nat,(i1<=l.length/\l.length<=12/\(l.take i1).all fV=true)->True/\(vcIf (decide (((i1:Nat):Int) < ((l.length:Nat):Int))) ((0<=((i1:Nat):Int)/\((i1:Nat):Int) < ((l.length:Nat):Int))/\True/\(TN/\True)/\(TF/\TF)/\True/\(True/\True/\True)/\True/\(vcIf (!(fV (l.getD i1 (⟨false,0,0⟩:GFact)))) (VC_iFactsValid_1 l) ((inK .i64 (((i1:Nat):Int)+(1:Int)))/\True/\((i1+1)<=l.length/\l.length<=12/\(l.take (i1+1)).all fV=true)/\(l.length - (i1+1) < l.length - i1)/\TT/\(VC_iFactsValid_2 l)/\(([.s (.c (.d (.val (.int .i64 (((i1:Nat):Int)+(1:Int))))))]:List S)=[.s (.c (.d (.val (.int .i64 (((i1+1):Nat):Int)))))])/\(RM [])/\(RM [])/\True/\TT))) (True/\(((true,()):Bool × Unit)=(fsV l,()))/\True/\True/\True/\True/\TF)))))
theorem vcn_iFactsValid (l:List GFact) (k:Nat) (hp:l.length<=281474976710656):VC_iFactsValid l k:=by
 unfold VC_iFactsValid VC_iFactsValid_2 VC_iFactsValid_1
 simp only [cln,Nat.reduceEqDiff,Nat.reduceLeDiff,Nat.reduceAdd]
 all_goals (try simp only [opn])
 all_goals (repeat' (first | apply And.intro | intro _))
 all_goals (first | omega | (simp_all;done) | grind [fsV,take_all,all_take,take_full,Ty.zero])
theorem ok_iFactsValid:FnOk Try.prog E 84 c_iFactsValid :=
 fn_okQ (l:=L_iFactsValid) (lp:=P_iFactsValid) (hp:=fun _=>false) (gcs:=fun _=>none) (perm:=fun _=>[]) tabOk mix ⟨ok_iFactValid,trivial⟩ trivial Try.func84 rfl (by kernel_rfl) (by decide) (by kernel_rfl) (anns:=fun x _=>an_iFactsValid x.1) (fun ⟨l,_⟩ k hp _=>Eq.mp (by kernel_rfl) (vcn_iFactsValid l k hp)) tot_fn
abbrev c_iAtomValid:Con:=⟨[.atom],[.bool],fun _=>True,.inl fun (x,_)=>(atV x,()),fun _=>0⟩
abbrev L_iAtomValid:List (FuncId × Con):=[(126,c_isTerm)]
abbrev P_iAtomValid:List (FuncId × PT):=[]
def VC_iAtomValid_1 (x:GAtom):Prop:=True/\True/\(((false,()):Bool × Unit)=(atV x,()))/\True/\True/\True/\True/\TF
def VC_iAtomValid_2 (x:GAtom):Prop:=True/\True/\(True/\True/\True)/\True/\True/\(vcIf (isT x.a) (True/\True/\(True/\True/\True)/\True/\True/\((((isT x.b),()):Bool × Unit)=(atV x,()))/\True/\True/\True/\True/\TF) (VC_iAtomValid_1 x))
def VC_iAtomValid (x:GAtom) (k:Nat):Prop:=TN/\True/\True/\True/\True/\True/\(vcIf (x.kind == (1:Int)) (True/\True/\(VC_iAtomValid_2 x)) (True/\True/\True/\True/\True/\(vcIf (x.kind == (2:Int)) (VC_iAtomValid_2 x) (True/\True/\(VC_iAtomValid_1 x)))))
theorem vcn_iAtomValid (x:GAtom) (k:Nat):VC_iAtomValid x k:=by
 unfold VC_iAtomValid VC_iAtomValid_2 VC_iAtomValid_1
 simp only [cln,Nat.reduceEqDiff,Nat.reduceLeDiff,Nat.reduceAdd]
 all_goals (try simp only [opn])
 all_goals (repeat' (first | apply And.intro | intro _))
 all_goals (first | omega | (simp_all;done) | grind [atV])
theorem ok_iAtomValid:FnOk Try.prog E 85 c_iAtomValid :=
 fn_okQ (l:=L_iAtomValid) (lp:=P_iAtomValid) (hp:=fun _=>false) (gcs:=fun _=>none) (perm:=fun _=>[]) tabOk mix ⟨ok_isTerm,trivial⟩ trivial Try.func85 rfl (by kernel_rfl) (by decide) (by kernel_rfl) (anns:=fun x _=>fun _ _=>none) (fun ⟨x,_⟩ k _ _=>Eq.mp (by kernel_rfl) (vcn_iAtomValid x k)) tot_fn
abbrev c_iAssertionValid:Con:=⟨[.asn],[.bool],fun (a,_)=>a.facts.length<=281474976710656/\a.atoms.length<=281474976710656,.inl fun (a,_)=>(asV a,()),fun _=>0⟩
abbrev L_iAssertionValid:List (FuncId × Con):=[(84,c_iFactsValid),(85,c_iAtomValid)]
abbrev P_iAssertionValid:List (FuncId × PT):=[]
def an_iAssertionValid (a:GAsn):Nat->St->Option Ann
 | 4,se=>some { α:=Nat,ok:=fun i=>i<=a.atoms.length/\a.atoms.length<=6/\fsV a.facts=true/\(a.atoms.take i).all atV=true,mu:=fun i=>a.atoms.length - i,i0:=fun _=>0,nx:=fun a _=>(fun i=>i+1) a,live:=[16,17],sets:=fun i=>[(18,sv (.int .i64 i))],mids:=[],blks:=fun i=>[],owns:=fun i=>[],rd:=fun r _=>r,base:=100000 }
 | _,_=>none
def VC_iAssertionValid_1 (a:GAsn):Prop:=True/\(((false,()):Bool × Unit)=(asV a,()))/\True/\True/\True/\True/\TF
def VC_iAssertionValid_2 (a:GAsn):Prop:=RL [.s (.c (.d (.arr .atom a.atoms))),.s (.c (.d (.val (.int .i64 ((a.atoms.length:Nat):Int)))))]
def VC_iAssertionValid (a:GAsn) (k:Nat):Prop:=TN/\True/\True/\True/\((a.facts.length<=281474976710656)/\True/\True)/\True/\True/\(vcIf (!(fsV a.facts)) (True/\(VC_iAssertionValid_1 a)) (True/\True/\True/\True/\True/\(vcIf (decide ((6:Int) < ((a.atoms.length:Nat):Int))) (VC_iAssertionValid_1 a) (True/\True/\True/\True/\((0<=a.atoms.length/\a.atoms.length<=6/\fsV a.facts=true/\(a.atoms.take 0).all atV=true)/\TT/\(VC_iAssertionValid_2 a)/\(([.s (.c (.d (.val (.int .i64 (0:Int)))))]:List S)=[.s (.c (.d (.val (.int .i64 ((0:Nat):Int)))))])/\(RM [])/\(RM [])/\True/\TT)/\(∀ i1:Nat,(i1<=a.atoms.length/\a.atoms.length<=6/\fsV a.facts=true/\(a.atoms.take i1).all atV=true)->True/\(vcIf (decide (((i1:Nat):Int) < ((a.atoms.length:Nat):Int))) ((0<=((i1:Nat):Int)/\((i1:Nat):Int) < ((a.atoms.length:Nat):Int))/\True/\(TN/\True)/\(TF/\TF)/\True/\(True/\True/\True)/\True/\(vcIf (!(atV (a.atoms.getD i1 (⟨0,0,0⟩:GAtom)))) (VC_iAssertionValid_1 a) ((inK .i64 (((i1:Nat):Int)+(1:Int)))/\True/\((i1+1)<=a.atoms.length/\a.atoms.length<=6/\fsV a.facts=true/\(a.atoms.take (i1+1)).all atV=true)/\(a.atoms.length - (i1+1) < a.atoms.length - i1)/\TT/\(VC_iAssertionValid_2 a)/\(([.s (.c (.d (.val (.int .i64 (((i1:Nat):Int)+(1:Int))))))]:List S)=[.s (.c (.d (.val (.int .i64 (((i1+1):Nat):Int)))))])/\(RM [])/\(RM [])/\True/\TT))) (True/\(((true,()):Bool × Unit)=(asV a,()))/\True/\True/\True/\True/\TF)))))))
theorem vcn_iAssertionValid (a:GAsn) (k:Nat) (hp:a.facts.length<=281474976710656/\a.atoms.length<=281474976710656):VC_iAssertionValid a k:=by
 unfold VC_iAssertionValid VC_iAssertionValid_2 VC_iAssertionValid_1
 simp only [cln,Nat.reduceEqDiff,Nat.reduceLeDiff,Nat.reduceAdd]
 all_goals (try simp only [opn])
 all_goals (repeat' (first | apply And.intro | intro _))
 all_goals (first | omega | (simp_all;done) | grind [asV,take_all,all_take,take_full,Ty.zero])
theorem ok_iAssertionValid:FnOk Try.prog E 37 c_iAssertionValid :=
 fn_okQ (l:=L_iAssertionValid) (lp:=P_iAssertionValid) (hp:=fun _=>false) (gcs:=fun _=>none) (perm:=fun _=>[]) tabOk mix ⟨ok_iFactsValid,ok_iAtomValid,trivial⟩ trivial Try.func37 rfl (by kernel_rfl) (by decide) (by kernel_rfl) (anns:=fun x _=>an_iAssertionValid x.1) (fun ⟨a,_⟩ k hp _=>Eq.mp (by kernel_rfl) (vcn_iAssertionValid a k hp)) tot_fn
end Go.Proofs.Ytopjgjelkpkmmaa
